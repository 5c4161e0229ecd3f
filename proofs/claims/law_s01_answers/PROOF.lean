import PyProof.Rows.All
import Wide.All
import OpenK.AllK
import Wide.FinOn
import KE.KStateDown
import KE.OsHead
import KE.OsGo
import Open.SpecLaws
import HandS.ForSpec
import HandS.Defaults
import HandS.Head0
import HandS.Head1
import HandS.Head2
import HandS.Head3
import HandS.Head4
import HandS.HeadEnd
import HandS.HeadHook1
import HandS.HeadHook2
import HandS.List
import HandS.Comp
import HandS.Dict
import HandS.Iter
import HandS.Walk
import HandS.Text
import HandS.Conv
import HandS.NoneIn
import HandS.WideBits
import HandS.FStr
import HandS.SortInts
import HandS.SortRule
import HandS.Evl
import KE.OsArith
import PyZr37
import PySem.Challenge.RW_cutmapsworks_s01_answers
section PartCmDefs
set_option Elab.async false
set_option linter.all false
set_option maxRecDepth 100000
set_option maxHeartbeats 0
namespace Cm
open PySem PySem.Spec PySem.W PySem.Calls PyProof.Rows L2
def top (i : Nat) : PySem.Stmt := PySem.Challenge.pw_cutmapsworks_s01_answers.main.body.getD i (.Pass ⟨0, 0, 0, 0⟩)

abbrev s_nothing : Stmt := top 10
def d_nothing : He.DefD := ⟨("nothing", none), "nothing", "nothing", defArgs s_nothing, defBody s_nothing, defScope s_nothing, [], []⟩
abbrev s_truth : Stmt := top 11
def d_truth : He.DefD := ⟨("truth", none), "truth", "truth", defArgs s_truth, defBody s_truth, defScope s_truth, [], []⟩
abbrev s_integer : Stmt := top 12
def d_integer : He.DefD := ⟨("integer", none), "integer", "integer", defArgs s_integer, defBody s_integer, defScope s_integer, [], []⟩
abbrev s_integer_or_null : Stmt := top 13
def d_integer_or_null : He.DefD := ⟨("integer_or_null", none), "integer_or_null", "integer_or_null", defArgs s_integer_or_null, defBody s_integer_or_null, defScope s_integer_or_null, [], []⟩
abbrev s_great : Stmt := top 14
def d_great : He.DefD := ⟨("great", none), "great", "great", defArgs s_great, defBody s_great, defScope s_great, [], []⟩
abbrev s_great_or_null : Stmt := top 15
def d_great_or_null : He.DefD := ⟨("great_or_null", none), "great_or_null", "great_or_null", defArgs s_great_or_null, defBody s_great_or_null, defScope s_great_or_null, [], []⟩
abbrev s_integers : Stmt := top 16
def d_integers : He.DefD := ⟨("integers", none), "integers", "integers", defArgs s_integers, defBody s_integers, defScope s_integers, [], []⟩
abbrev s_greats : Stmt := top 17
def d_greats : He.DefD := ⟨("greats", none), "greats", "greats", defArgs s_greats, defBody s_greats, defScope s_greats, [], []⟩
abbrev s_listed : Stmt := top 18
def d_listed : He.DefD := ⟨("listed", none), "listed", "listed", defArgs s_listed, defBody s_listed, defScope s_listed, [], []⟩
abbrev s_record : Stmt := top 19
def d_record : He.DefD := ⟨("record", none), "record", "record", defArgs s_record, defBody s_record, defScope s_record, [], []⟩
abbrev s_is_whole : Stmt := top 27
def d_is_whole : He.DefD := ⟨("is_whole", none), "is_whole", "is_whole", defArgs s_is_whole, defBody s_is_whole, defScope s_is_whole, [], []⟩
abbrev s_are_below : Stmt := top 28
def d_are_below : He.DefD := ⟨("are_below", none), "are_below", "are_below", defArgs s_are_below, defBody s_are_below, defScope s_are_below, [], []⟩
abbrev s_is_set : Stmt := top 29
def d_is_set : He.DefD := ⟨("is_set", none), "is_set", "is_set", defArgs s_is_set, defBody s_is_set, defScope s_is_set, [], []⟩
abbrev s_set_of : Stmt := top 30
def d_set_of : He.DefD := ⟨("set_of", none), "set_of", "set_of", defArgs s_set_of, defBody s_set_of, defScope s_set_of, [], []⟩
abbrev s_is_pair : Stmt := top 31
def d_is_pair : He.DefD := ⟨("is_pair", none), "is_pair", "is_pair", defArgs s_is_pair, defBody s_is_pair, defScope s_is_pair, [], []⟩
abbrev s_is_pairs : Stmt := top 32
def d_is_pairs : He.DefD := ⟨("is_pairs", none), "is_pairs", "is_pairs", defArgs s_is_pairs, defBody s_is_pairs, defScope s_is_pairs, [], []⟩
abbrev s_is_images : Stmt := top 33
def d_is_images : He.DefD := ⟨("is_images", none), "is_images", "is_images", defArgs s_is_images, defBody s_is_images, defScope s_is_images, [], []⟩
abbrev s_is_line : Stmt := top 34
def d_is_line : He.DefD := ⟨("is_line", none), "is_line", "is_line", defArgs s_is_line, defBody s_is_line, defScope s_is_line, [], []⟩
abbrev s_is_lines : Stmt := top 35
def d_is_lines : He.DefD := ⟨("is_lines", none), "is_lines", "is_lines", defArgs s_is_lines, defBody s_is_lines, defScope s_is_lines, [], []⟩
abbrev s_is_cuts : Stmt := top 36
def d_is_cuts : He.DefD := ⟨("is_cuts", none), "is_cuts", "is_cuts", defArgs s_is_cuts, defBody s_is_cuts, defScope s_is_cuts, [], []⟩
abbrev s_numbers_of : Stmt := top 37
def d_numbers_of : He.DefD := ⟨("numbers_of", none), "numbers_of", "numbers_of", defArgs s_numbers_of, defBody s_numbers_of, defScope s_numbers_of, [], []⟩
abbrev s_rows_of : Stmt := top 38
def d_rows_of : He.DefD := ⟨("rows_of", none), "rows_of", "rows_of", defArgs s_rows_of, defBody s_rows_of, defScope s_rows_of, [], []⟩
abbrev s_Order_init : Stmt := inClass (top 40) 0
def d_Order_init : He.DefD := ⟨("Order", some "__init__"), "__init__", "Order.__init__", defArgs s_Order_init, defBody s_Order_init, defScope s_Order_init, [], []⟩
abbrev s_has : Stmt := top 41
def d_has : He.DefD := ⟨("has", none), "has", "has", defArgs s_has, defBody s_has, defScope s_has, [], []⟩
abbrev s_inside : Stmt := top 42
def d_inside : He.DefD := ⟨("inside", none), "inside", "inside", defArgs s_inside, defBody s_inside, defScope s_inside, [], []⟩
abbrev s_mask_of : Stmt := top 43
def d_mask_of : He.DefD := ⟨("mask_of", none), "mask_of", "mask_of", defArgs s_mask_of, defBody s_mask_of, defScope s_mask_of, [], []⟩
abbrev s_members : Stmt := top 44
def d_members : He.DefD := ⟨("members", none), "members", "members", defArgs s_members, defBody s_members, defScope s_members, [], []⟩
abbrev s_reached : Stmt := top 45
def d_reached : He.DefD := ⟨("reached", none), "reached", "reached", defArgs s_reached, defBody s_reached, defScope s_reached, [], []⟩
abbrev s_mutual_pair : Stmt := top 46
def d_mutual_pair : He.DefD := ⟨("mutual_pair", none), "mutual_pair", "mutual_pair", defArgs s_mutual_pair, defBody s_mutual_pair, defScope s_mutual_pair, [], []⟩
abbrev s_order_of : Stmt := top 47
def d_order_of : He.DefD := ⟨("order_of", none), "order_of", "order_of", defArgs s_order_of, defBody s_order_of, defScope s_order_of, [], []⟩
abbrev s_restricted : Stmt := top 48
def d_restricted : He.DefD := ⟨("restricted", none), "restricted", "restricted", defArgs s_restricted, defBody s_restricted, defScope s_restricted, [], []⟩
abbrev s_at_most : Stmt := top 49
def d_at_most : He.DefD := ⟨("at_most", none), "at_most", "at_most", defArgs s_at_most, defBody s_at_most, defScope s_at_most, [], []⟩
abbrev s_upper_bounds : Stmt := top 50
def d_upper_bounds : He.DefD := ⟨("upper_bounds", none), "upper_bounds", "upper_bounds", defArgs s_upper_bounds, defBody s_upper_bounds, defScope s_upper_bounds, [], []⟩
abbrev s_lower_bounds : Stmt := top 51
def d_lower_bounds : He.DefD := ⟨("lower_bounds", none), "lower_bounds", "lower_bounds", defArgs s_lower_bounds, defBody s_lower_bounds, defScope s_lower_bounds, [], []⟩
abbrev s_closure : Stmt := top 52
def d_closure : He.DefD := ⟨("closure", none), "closure", "closure", defArgs s_closure, defBody s_closure, defScope s_closure, [], []⟩
abbrev s_upper_closure : Stmt := top 53
def d_upper_closure : He.DefD := ⟨("upper_closure", none), "upper_closure", "upper_closure", defArgs s_upper_closure, defBody s_upper_closure, defScope s_upper_closure, [], []⟩
abbrev s_supremum : Stmt := top 54
def d_supremum : He.DefD := ⟨("supremum", none), "supremum", "supremum", defArgs s_supremum, defBody s_supremum, defScope s_supremum, [], []⟩
abbrev s_infimum : Stmt := top 55
def d_infimum : He.DefD := ⟨("infimum", none), "infimum", "infimum", defArgs s_infimum, defBody s_infimum, defScope s_infimum, [], []⟩
abbrev s_join_irreducibles : Stmt := top 56
def d_join_irreducibles : He.DefD := ⟨("join_irreducibles", none), "join_irreducibles", "join_irreducibles", defArgs s_join_irreducibles, defBody s_join_irreducibles, defScope s_join_irreducibles, [], []⟩
abbrev s_meet_irreducibles : Stmt := top 57
def d_meet_irreducibles : He.DefD := ⟨("meet_irreducibles", none), "meet_irreducibles", "meet_irreducibles", defArgs s_meet_irreducibles, defBody s_meet_irreducibles, defScope s_meet_irreducibles, [], []⟩
abbrev s_image : Stmt := top 59
def d_image : He.DefD := ⟨("image", none), "image", "image", defArgs s_image, defBody s_image, defScope s_image, [], []⟩
abbrev s_adjoint_at : Stmt := top 60
def d_adjoint_at : He.DefD := ⟨("adjoint_at", none), "adjoint_at", "adjoint_at", defArgs s_adjoint_at, defBody s_adjoint_at, defScope s_adjoint_at, [], []⟩
abbrev s_broken_pair : Stmt := top 61
def d_broken_pair : He.DefD := ⟨("broken_pair", none), "broken_pair", "broken_pair", defArgs s_broken_pair, defBody s_broken_pair, defScope s_broken_pair, [], []⟩
abbrev s_embeds : Stmt := top 62
def d_embeds : He.DefD := ⟨("embeds", none), "embeds", "embeds", defArgs s_embeds, defBody s_embeds, defScope s_embeds, [], []⟩
abbrev s_joins_witness : Stmt := top 63
def d_joins_witness : He.DefD := ⟨("joins_witness", none), "joins_witness", "joins_witness", defArgs s_joins_witness, defBody s_joins_witness, defScope s_joins_witness, [], []⟩
abbrev s_meets_witness : Stmt := top 64
def d_meets_witness : He.DefD := ⟨("meets_witness", none), "meets_witness", "meets_witness", defArgs s_meets_witness, defBody s_meets_witness, defScope s_meets_witness, [], []⟩
abbrev s_Completion_init : Stmt := inClass (top 66) 0
def d_Completion_init : He.DefD := ⟨("Completion", some "__init__"), "__init__", "Completion.__init__", defArgs s_Completion_init, defBody s_Completion_init, defScope s_Completion_init, [], []⟩
abbrev s_completed : Stmt := top 67
def d_completed : He.DefD := ⟨("completed", none), "completed", "completed", defArgs s_completed, defBody s_completed, defScope s_completed, [], []⟩
abbrev s_cut_number : Stmt := top 68
def d_cut_number : He.DefD := ⟨("cut_number", none), "cut_number", "cut_number", defArgs s_cut_number, defBody s_cut_number, defScope s_cut_number, [], []⟩
abbrev s_join_of : Stmt := top 69
def d_join_of : He.DefD := ⟨("join_of", none), "join_of", "join_of", defArgs s_join_of, defBody s_join_of, defScope s_join_of, [], []⟩
abbrev s_meet_of : Stmt := top 70
def d_meet_of : He.DefD := ⟨("meet_of", none), "meet_of", "meet_of", defArgs s_meet_of, defBody s_meet_of, defScope s_meet_of, [], []⟩
abbrev s_least_extension : Stmt := top 71
def d_least_extension : He.DefD := ⟨("least_extension", none), "least_extension", "least_extension", defArgs s_least_extension, defBody s_least_extension, defScope s_least_extension, [], []⟩
abbrev s_greatest_extension : Stmt := top 72
def d_greatest_extension : He.DefD := ⟨("greatest_extension", none), "greatest_extension", "greatest_extension", defArgs s_greatest_extension, defBody s_greatest_extension, defScope s_greatest_extension, [], []⟩
abbrev s_first_gap : Stmt := top 73
def d_first_gap : He.DefD := ⟨("first_gap", none), "first_gap", "first_gap", defArgs s_first_gap, defBody s_first_gap, defScope s_first_gap, [], []⟩
abbrev s_places_of : Stmt := top 75
def d_places_of : He.DefD := ⟨("places_of", none), "places_of", "places_of", defArgs s_places_of, defBody s_places_of, defScope s_places_of, [], []⟩
abbrev s_before_in_all : Stmt := top 76
def d_before_in_all : He.DefD := ⟨("before_in_all", none), "before_in_all", "before_in_all", defArgs s_before_in_all, defBody s_before_in_all, defScope s_before_in_all, [], []⟩
abbrev s_conflict : Stmt := top 77
def d_conflict : He.DefD := ⟨("conflict", none), "conflict", "conflict", defArgs s_conflict, defBody s_conflict, defScope s_conflict, [], []⟩
abbrev s_height : Stmt := top 78
def d_height : He.DefD := ⟨("height", none), "height", "height", defArgs s_height, defBody s_height, defScope s_height, [], []⟩
abbrev s_line_of_cuts : Stmt := top 79
def d_line_of_cuts : He.DefD := ⟨("line_of_cuts", none), "line_of_cuts", "line_of_cuts", defArgs s_line_of_cuts, defBody s_line_of_cuts, defScope s_line_of_cuts, [], []⟩
abbrev s_put_number : Stmt := top 83
def d_put_number : He.DefD := ⟨("put_number", none), "put_number", "put_number", defArgs s_put_number, defBody s_put_number, defScope s_put_number, [], []⟩
abbrev s_put_text : Stmt := top 84
def d_put_text : He.DefD := ⟨("put_text", none), "put_text", "put_text", defArgs s_put_text, defBody s_put_text, defScope s_put_text, [], []⟩
abbrev s_put_great : Stmt := top 85
def d_put_great : He.DefD := ⟨("put_great", none), "put_great", "put_great", defArgs s_put_great, defBody s_put_great, defScope s_put_great, [], []⟩
abbrev s_put_value : Stmt := top 86
def d_put_value : He.DefD := ⟨("put_value", none), "put_value", "put_value", defArgs s_put_value, defBody s_put_value, defScope s_put_value, [], []⟩
abbrev s_returned : Stmt := top 87
def d_returned : He.DefD := ⟨("returned", none), "returned", "returned", defArgs s_returned, defBody s_returned, defScope s_returned, [], []⟩
abbrev s_refused : Stmt := top 88
def d_refused : He.DefD := ⟨("refused", none), "refused", "refused", defArgs s_refused, defBody s_refused, defScope s_refused, [], []⟩
abbrev s_wrong_kind : Stmt := top 89
def d_wrong_kind : He.DefD := ⟨("wrong_kind", none), "wrong_kind", "wrong_kind", defArgs s_wrong_kind, defBody s_wrong_kind, defScope s_wrong_kind, [], []⟩
abbrev s_out_of_range : Stmt := top 90
def d_out_of_range : He.DefD := ⟨("out_of_range", none), "out_of_range", "out_of_range", defArgs s_out_of_range, defBody s_out_of_range, defScope s_out_of_range, [], []⟩
abbrev s_completion_new : Stmt := top 93
def d_completion_new : He.DefD := ⟨("completion_new", none), "completion_new", "completion_new", defArgs s_completion_new, defBody s_completion_new, defScope s_completion_new, [], []⟩
abbrev s_completion_cuts : Stmt := top 94
def d_completion_cuts : He.DefD := ⟨("completion_cuts", none), "completion_cuts", "completion_cuts", defArgs s_completion_cuts, defBody s_completion_cuts, defScope s_completion_cuts, [], []⟩
abbrev s_completion_closure : Stmt := top 95
def d_completion_closure : He.DefD := ⟨("completion_closure", none), "completion_closure", "completion_closure", defArgs s_completion_closure, defBody s_completion_closure, defScope s_completion_closure, [], []⟩
abbrev s_completion_join : Stmt := top 96
def d_completion_join : He.DefD := ⟨("completion_join", none), "completion_join", "completion_join", defArgs s_completion_join, defBody s_completion_join, defScope s_completion_join, [], []⟩
abbrev s_completion_meet : Stmt := top 97
def d_completion_meet : He.DefD := ⟨("completion_meet", none), "completion_meet", "completion_meet", defArgs s_completion_meet, defBody s_completion_meet, defScope s_completion_meet, [], []⟩
abbrev s_extension_record : Stmt := top 98
def d_extension_record : He.DefD := ⟨("extension_record", none), "extension_record", "extension_record", defArgs s_extension_record, defBody s_extension_record, defScope s_extension_record, [], []⟩
abbrev s_completion_extend : Stmt := top 99
def d_completion_extend : He.DefD := ⟨("completion_extend", none), "completion_extend", "completion_extend", defArgs s_completion_extend, defBody s_completion_extend, defScope s_completion_extend, [], []⟩
abbrev s_completion_orders : Stmt := top 100
def d_completion_orders : He.DefD := ⟨("completion_orders", none), "completion_orders", "completion_orders", defArgs s_completion_orders, defBody s_completion_orders, defScope s_completion_orders, [], []⟩
abbrev s_poset_new : Stmt := top 102
def d_poset_new : He.DefD := ⟨("poset_new", none), "poset_new", "poset_new", defArgs s_poset_new, defBody s_poset_new, defScope s_poset_new, [], []⟩
abbrev s_poset_restrict : Stmt := top 103
def d_poset_restrict : He.DefD := ⟨("poset_restrict", none), "poset_restrict", "poset_restrict", defArgs s_poset_restrict, defBody s_poset_restrict, defScope s_poset_restrict, [], []⟩
abbrev s_poset_relation : Stmt := top 104
def d_poset_relation : He.DefD := ⟨("poset_relation", none), "poset_relation", "poset_relation", defArgs s_poset_relation, defBody s_poset_relation, defScope s_poset_relation, [], []⟩
abbrev s_poset_upper : Stmt := top 105
def d_poset_upper : He.DefD := ⟨("poset_upper", none), "poset_upper", "poset_upper", defArgs s_poset_upper, defBody s_poset_upper, defScope s_poset_upper, [], []⟩
abbrev s_poset_lower : Stmt := top 106
def d_poset_lower : He.DefD := ⟨("poset_lower", none), "poset_lower", "poset_lower", defArgs s_poset_lower, defBody s_poset_lower, defScope s_poset_lower, [], []⟩
abbrev s_poset_supremum : Stmt := top 107
def d_poset_supremum : He.DefD := ⟨("poset_supremum", none), "poset_supremum", "poset_supremum", defArgs s_poset_supremum, defBody s_poset_supremum, defScope s_poset_supremum, [], []⟩
abbrev s_poset_infimum : Stmt := top 108
def d_poset_infimum : He.DefD := ⟨("poset_infimum", none), "poset_infimum", "poset_infimum", defArgs s_poset_infimum, defBody s_poset_infimum, defScope s_poset_infimum, [], []⟩
abbrev s_poset_irreducibles : Stmt := top 109
def d_poset_irreducibles : He.DefD := ⟨("poset_irreducibles", none), "poset_irreducibles", "poset_irreducibles", defArgs s_poset_irreducibles, defBody s_poset_irreducibles, defScope s_poset_irreducibles, [], []⟩
abbrev s_poset_adjoint : Stmt := top 110
def d_poset_adjoint : He.DefD := ⟨("poset_adjoint", none), "poset_adjoint", "poset_adjoint", defArgs s_poset_adjoint, defBody s_poset_adjoint, defScope s_poset_adjoint, [], []⟩
abbrev s_poset_conflict : Stmt := top 111
def d_poset_conflict : He.DefD := ⟨("poset_conflict", none), "poset_conflict", "poset_conflict", defArgs s_poset_conflict, defBody s_poset_conflict, defScope s_poset_conflict, [], []⟩
abbrev s_number_at : Stmt := top 114
def d_number_at : He.DefD := ⟨("number_at", none), "number_at", "number_at", defArgs s_number_at, defBody s_number_at, defScope s_number_at, [], []⟩
abbrev s_read_integer : Stmt := top 115
def d_read_integer : He.DefD := ⟨("read_integer", none), "read_integer", "read_integer", defArgs s_read_integer, defBody s_read_integer, defScope s_read_integer, [], []⟩
abbrev s_read_great : Stmt := top 116
def d_read_great : He.DefD := ⟨("read_great", none), "read_great", "read_great", defArgs s_read_great, defBody s_read_great, defScope s_read_great, [], []⟩
abbrev s_read_text : Stmt := top 117
def d_read_text : He.DefD := ⟨("read_text", none), "read_text", "read_text", defArgs s_read_text, defBody s_read_text, defScope s_read_text, [], []⟩
abbrev s_read_list : Stmt := top 118
def d_read_list : He.DefD := ⟨("read_list", none), "read_list", "read_list", defArgs s_read_list, defBody s_read_list, defScope s_read_list, [], []⟩
abbrev s_read_record : Stmt := top 119
def d_read_record : He.DefD := ⟨("read_record", none), "read_record", "read_record", defArgs s_read_record, defBody s_read_record, defScope s_read_record, [], []⟩
abbrev s_read_value : Stmt := top 120
def d_read_value : He.DefD := ⟨("read_value", none), "read_value", "read_value", defArgs s_read_value, defBody s_read_value, defScope s_read_value, [], []⟩
abbrev s_read_request : Stmt := top 121
def d_read_request : He.DefD := ⟨("read_request", none), "read_request", "read_request", defArgs s_read_request, defBody s_read_request, defScope s_read_request, [], []⟩
abbrev s_Slots_init : Stmt := inClass (top 123) 0
def d_Slots_init : He.DefD := ⟨("Slots", some "__init__"), "__init__", "Slots.__init__", defArgs s_Slots_init, defBody s_Slots_init, defScope s_Slots_init, [], []⟩
abbrev s_answer_by_poset : Stmt := top 125
def d_answer_by_poset : He.DefD := ⟨("answer_by_poset", none), "answer_by_poset", "answer_by_poset", defArgs s_answer_by_poset, defBody s_answer_by_poset, defScope s_answer_by_poset, [], []⟩
abbrev s_answer_by_completion : Stmt := top 126
def d_answer_by_completion : He.DefD := ⟨("answer_by_completion", none), "answer_by_completion", "answer_by_completion", defArgs s_answer_by_completion, defBody s_answer_by_completion, defScope s_answer_by_completion, [], []⟩
abbrev s_answer_to : Stmt := top 127
def d_answer_to : He.DefD := ⟨("answer_to", none), "answer_to", "answer_to", defArgs s_answer_to, defBody s_answer_to, defScope s_answer_to, [], []⟩
abbrev s_answers : Stmt := top 128
def d_answers : He.DefD := ⟨("answers", none), "answers", "answers", defArgs s_answers, defBody s_answers, defScope s_answers, [], []⟩
def fn0 : List He.DefD := [d_nothing, d_truth, d_integer, d_integer_or_null, d_great, d_great_or_null, d_integers, d_greats, d_listed, d_record, d_is_whole, d_are_below, d_is_set, d_set_of, d_is_pair, d_is_pairs, d_is_images, d_is_line, d_is_lines, d_is_cuts, d_numbers_of, d_rows_of, d_Order_init, d_has, d_inside, d_mask_of, d_members, d_reached, d_mutual_pair, d_order_of]
def fn1 : List He.DefD := [d_restricted, d_at_most, d_upper_bounds, d_lower_bounds, d_closure, d_upper_closure, d_supremum, d_infimum, d_join_irreducibles, d_meet_irreducibles, d_image, d_adjoint_at, d_broken_pair, d_embeds, d_joins_witness, d_meets_witness, d_Completion_init, d_completed, d_cut_number, d_join_of, d_meet_of, d_least_extension, d_greatest_extension, d_first_gap, d_places_of, d_before_in_all, d_conflict, d_height, d_line_of_cuts, d_put_number]
def fn2 : List He.DefD := [d_put_text, d_put_great, d_put_value, d_returned, d_refused, d_wrong_kind, d_out_of_range, d_completion_new, d_completion_cuts, d_completion_closure, d_completion_join, d_completion_meet, d_extension_record, d_completion_extend, d_completion_orders, d_poset_new, d_poset_restrict, d_poset_relation, d_poset_upper, d_poset_lower, d_poset_supremum, d_poset_infimum, d_poset_irreducibles, d_poset_adjoint, d_poset_conflict, d_number_at, d_read_integer, d_read_great, d_read_text, d_read_list]
def fn3 : List He.DefD := [d_read_record, d_read_value, d_read_request, d_Slots_init, d_answer_by_poset, d_answer_by_completion, d_answer_to, d_answers]
def fn : List He.DefD := fn0 ++ fn1 ++ fn2 ++ fn3
def fa0 : List He.Fa := [.glo "nothing", .glo "truth", .glo "integer", .glo "integer_or_null", .glo "great", .glo "great_or_null", .glo "integers", .glo "greats", .glo "listed", .glo "record", .glo "is_whole", .glo "are_below", .glo "is_set", .glo "set_of", .glo "is_pair", .glo "is_pairs", .glo "is_images", .glo "is_line", .glo "is_lines", .glo "is_cuts", .glo "numbers_of", .glo "rows_of", .glo "has", .glo "inside", .glo "mask_of", .glo "members", .glo "reached", .glo "mutual_pair", .glo "order_of", .glo "restricted"]
def fa1 : List He.Fa := [.glo "at_most", .glo "upper_bounds", .glo "lower_bounds", .glo "closure", .glo "upper_closure", .glo "supremum", .glo "infimum", .glo "join_irreducibles", .glo "meet_irreducibles", .glo "image", .glo "adjoint_at", .glo "broken_pair", .glo "embeds", .glo "joins_witness", .glo "meets_witness", .glo "completed", .glo "cut_number", .glo "join_of", .glo "meet_of", .glo "least_extension", .glo "greatest_extension", .glo "first_gap", .glo "places_of", .glo "before_in_all", .glo "conflict", .glo "height", .glo "line_of_cuts", .glo "put_number", .glo "put_text", .glo "put_great"]
def fa2 : List He.Fa := [.glo "put_value", .glo "returned", .glo "refused", .glo "wrong_kind", .glo "out_of_range", .glo "completion_new", .glo "completion_cuts", .glo "completion_closure", .glo "completion_join", .glo "completion_meet", .glo "extension_record", .glo "completion_extend", .glo "completion_orders", .glo "poset_new", .glo "poset_restrict", .glo "poset_relation", .glo "poset_upper", .glo "poset_lower", .glo "poset_supremum", .glo "poset_infimum", .glo "poset_irreducibles", .glo "poset_adjoint", .glo "poset_conflict", .glo "number_at", .glo "read_integer", .glo "read_great", .glo "read_text", .glo "read_list", .glo "read_record", .glo "read_value"]
def fa3 : List He.Fa := [.glo "read_request", .glo "answer_by_poset", .glo "answer_by_completion", .glo "answer_to", .glo "answers", .glo "Order", .cls "Order", .mkr "Order", .glo "Completion", .cls "Completion", .mkr "Completion", .glo "Slots", .cls "Slots", .mkr "Slots", .noat "Order" "size", .noat "Order" "ups", .noat "Order" "downs", .noat "Completion" "order", .noat "Completion" "lowers", .noat "Slots" "orders", .noat "Slots" "completions", .int "NOTHING" 0, .int "NULL" 1, .int "FALSE" 2, .int "TRUE" 3, .int "INTEGER" 4, .int "GREAT" 5, .int "TEXT" 6, .int "LIST" 7, .int "RECORD" 8]
def fa4 : List He.Fa := [.str "SET_WORDS" "set must be a great integer", .str "IMAGES_WORDS" "images must be a list of one element of the target for each element", .str "ORDERS_WORDS" "orders must be a list of at most 8 lists of all elements", .int "MOST_PAIRS" 100, .int "MOST_ORDERS" 8, .int "MOST_CUTS" 20, .int "WRONG_KIND" 1, .int "OUT_OF_RANGE" 2, .str "CUTS_WORDS" "cuts must be a list of at most 20 numbers of cuts", .int "MOST_ARGUMENTS" 3, .free "range", .free "len", .free "abs", .free "ord", .free "sorted", .free "list", .free "enumerate"]
def fa : List He.Fa := fa0 ++ fa1 ++ fa2 ++ fa3 ++ fa4
def nm0 : List PySem.Str := ["nothing", "truth", "integer", "integer_or_null", "great", "great_or_null", "integers", "greats", "listed", "record", "is_whole", "are_below", "is_set", "set_of", "is_pair", "is_pairs", "is_images", "is_line", "is_lines", "is_cuts", "numbers_of", "rows_of", "has", "inside", "mask_of", "members", "reached", "mutual_pair", "order_of", "restricted"]
def nm1 : List PySem.Str := ["at_most", "upper_bounds", "lower_bounds", "closure", "upper_closure", "supremum", "infimum", "join_irreducibles", "meet_irreducibles", "image", "adjoint_at", "broken_pair", "embeds", "joins_witness", "meets_witness", "completed", "cut_number", "join_of", "meet_of", "least_extension", "greatest_extension", "first_gap", "places_of", "before_in_all", "conflict", "height", "line_of_cuts", "put_number", "put_text", "put_great"]
def nm2 : List PySem.Str := ["put_value", "returned", "refused", "wrong_kind", "out_of_range", "completion_new", "completion_cuts", "completion_closure", "completion_join", "completion_meet", "extension_record", "completion_extend", "completion_orders", "poset_new", "poset_restrict", "poset_relation", "poset_upper", "poset_lower", "poset_supremum", "poset_infimum", "poset_irreducibles", "poset_adjoint", "poset_conflict", "number_at", "read_integer", "read_great", "read_text", "read_list", "read_record", "read_value"]
def nm3 : List PySem.Str := ["read_request", "answer_by_poset", "answer_by_completion", "answer_to", "Order", "Completion", "Slots", "NOTHING", "NULL", "FALSE", "TRUE", "INTEGER", "GREAT", "TEXT", "LIST", "RECORD", "SET_WORDS", "IMAGES_WORDS", "ORDERS_WORDS", "MOST_PAIRS", "MOST_ORDERS", "MOST_CUTS", "WRONG_KIND", "OUT_OF_RANGE", "CUTS_WORDS", "MOST_ARGUMENTS"]
def nms : List PySem.Str := nm0 ++ nm1 ++ nm2 ++ nm3
abbrev R : PySem.W.OpenSpec := _root_.PySem.Challenge.rw_cutmapsworks_s01_answers
end Cm
end PartCmDefs
section PartPu
set_option linter.all false
namespace Pu
open R7245g.Spec
theorem take_more {α : Type} {l : List α} {i : Nat} {x : α} (h : l[i]? = some x) : l.take (i + 1) = l.take i ++ [x] := by
  obtain ⟨hi, e⟩ := List.getElem?_eq_some_iff.mp h
  rw [List.take_succ, h]
  rfl
/-! ### masks -/
theorem bit_mask (f : Nat → Bool) : ∀ (n i : Nat), (maskOf f n).testBit i = (decide (i < n) && f i)
  | 0, i => by simp [maskOf]
  | n + 1, i => by
    unfold maskOf
    have ih := bit_mask f n i
    by_cases c : f n = true
    · rw [if_pos c, Nat.testBit_or, ih, Nat.testBit_two_pow]
      by_cases e : n = i
      · subst e
        simp [c]
      · have q : decide (i < n + 1) = decide (i < n) := by
          by_cases l : i < n
          · simp [l, Nat.lt_succ_of_lt l]
          · simp [l]; omega
        rw [q]
        simp [e]
    · rw [if_neg c, ih]
      by_cases e : n = i
      · subst e
        simp [c]
      · have q : decide (i < n + 1) = decide (i < n) := by
          by_cases l : i < n
          · simp [l, Nat.lt_succ_of_lt l]
          · simp [l]; omega
        rw [q]
theorem mask_lt (f : Nat → Bool) (n : Nat) : maskOf f n < 2 ^ n := by
  apply Nat.lt_pow_two_of_testBit
  intro i hi
  rw [bit_mask]
  simp; omega
theorem mask_congr {f g : Nat → Bool} {n : Nat} (h : ∀ i, i < n → f i = g i) : maskOf f n = maskOf g n := by
  apply Nat.eq_of_testBit_eq
  intro i
  rw [bit_mask, bit_mask]
  by_cases l : i < n
  · simp [l, h i l]
  · simp [l]
theorem mask_full (n : Nat) : maskOf (fun _ => true) n = 2 ^ n - 1 := by
  apply Nat.eq_of_testBit_eq
  intro i
  rw [bit_mask, Nat.testBit_two_pow_sub_one]
  simp
/-- the set of some numbers, as the program adds them up -/
def bitsOf (l : List Nat) : Nat := l.foldl (fun m x => m ||| 2 ^ x) 0
theorem bitsOf_snoc (l : List Nat) (x : Nat) : bitsOf (l ++ [x]) = bitsOf l ||| 2 ^ x := by
  unfold bitsOf
  rw [List.foldl_append]
  rfl
theorem bits_range (f : Nat → Bool) : ∀ n : Nat, bitsOf ((List.range n).filter f) = maskOf f n
  | 0 => rfl
  | n + 1 => by
    rw [List.range_succ, List.filter_append]
    unfold maskOf
    by_cases c : f n = true
    · rw [if_pos c, List.filter_cons, if_pos c, List.filter_nil, bitsOf_snoc, bits_range f n]
    · rw [if_neg c, List.filter_cons, if_neg c, List.filter_nil, List.append_nil, bits_range f n]
/-! ### partial orders -/
structure WF (p : Poset) : Prop where
  len : p.above.length = p.size
  refl : ∀ a, a < p.size → p.le a a = true
  lt : ∀ a, p.above.getD a 0 < 2 ^ p.size
  pos : 0 < p.size
  le10 : p.size ≤ 10
def downs (p : Poset) : List Nat := (List.range p.size).map (downSet p)
theorem downs_len (p : Poset) : (downs p).length = p.size := by simp [downs]
theorem downs_at (p : Poset) {a : Nat} (h : a < p.size) : (downs p).getD a 0 = downSet p a := by
  unfold downs
  rw [List.getD_eq_getElem?_getD, List.getElem?_map, List.getElem?_range h]
  rfl
theorem le_lt {p : Poset} (w : WF p) {a b : Nat} (h : p.le a b = true) : b < p.size := by
  apply Decidable.byContradiction
  intro c
  have q := Nat.testBit_lt_two_pow (Nat.lt_of_lt_of_le (w.lt a) (Nat.pow_le_pow_right (by omega) (show p.size ≤ b by omega)))
  have h2 : (p.above.getD a 0).testBit b = true := h
  rw [q] at h2
  cases h2
theorem le_out {p : Poset} (w : WF p) {a b : Nat} (h : p.le a b = true) : a < p.size := by
  apply Decidable.byContradiction
  intro c
  have h2 : (p.above.getD a 0).testBit b = true := h
  rw [List.getD_eq_getElem?_getD, List.getElem?_eq_none (by rw [w.len]; omega)] at h2
  simp at h2
/-- the bounds behind the first k elements -/
def ubPre (p : Poset) (s k : Nat) : Nat := maskOf (fun y => (List.range k).all fun x => !s.testBit x || p.le x y) p.size
def lbPre (p : Poset) (s k : Nat) : Nat := maskOf (fun x => (List.range k).all fun y => !s.testBit y || p.le x y) p.size
theorem ubPre_zero (p : Poset) (s : Nat) : ubPre p s 0 = 2 ^ p.size - 1 := by
  rw [← mask_full]
  rfl
theorem lbPre_zero (p : Poset) (s : Nat) : lbPre p s 0 = 2 ^ p.size - 1 := by
  rw [← mask_full]
  rfl
theorem ubPre_size (p : Poset) (s : Nat) : ubPre p s p.size = upperBounds p s := rfl
theorem lbPre_size (p : Poset) (s : Nat) : lbPre p s p.size = lowerBounds p s := rfl
theorem ubPre_in {p : Poset} {s k : Nat} (h : s.testBit k = true) : ubPre p s k &&& p.above.getD k 0 = ubPre p s (k + 1) := by
  apply Nat.eq_of_testBit_eq
  intro i
  rw [Nat.testBit_and]
  unfold ubPre
  rw [bit_mask, bit_mask, List.range_succ, List.all_append]
  simp [h, Poset.le, Bool.and_assoc]
theorem ubPre_out {p : Poset} {s k : Nat} (h : s.testBit k = false) : ubPre p s k = ubPre p s (k + 1) := by
  unfold ubPre
  apply mask_congr
  intro i _
  rw [List.range_succ, List.all_append]
  simp [h]
theorem lbPre_in {p : Poset} {s k : Nat} (h : s.testBit k = true) : lbPre p s k &&& downSet p k = lbPre p s (k + 1) := by
  apply Nat.eq_of_testBit_eq
  intro i
  rw [Nat.testBit_and]
  unfold lbPre downSet
  rw [bit_mask, bit_mask, bit_mask, List.range_succ, List.all_append]
  by_cases l : i < p.size <;> simp [h, l]
theorem lbPre_out {p : Poset} {s k : Nat} (h : s.testBit k = false) : lbPre p s k = lbPre p s (k + 1) := by
  unfold lbPre
  apply mask_congr
  intro i _
  rw [List.range_succ, List.all_append]
  simp [h]
/-! ### suprema -/
theorem sub_iff {a b : Nat} : (a &&& b == a) = true ↔ ∀ i, a.testBit i = true → b.testBit i = true := by
  rw [beq_iff_eq]
  constructor
  · intro h i hi
    have q := congrArg (fun z => z.testBit i) h
    simp only [Nat.testBit_and, hi, Bool.true_and] at q
    exact q
  · intro h
    apply Nat.eq_of_testBit_eq
    intro i
    rw [Nat.testBit_and]
    cases c : a.testBit i with
    | false => rfl
    | true => rw [h i c] <;> rfl
theorem lb_iff {p : Poset} {s x : Nat} (hx : x < p.size) : (lowerBounds p s).testBit x = true ↔ ∀ y, y < p.size → s.testBit y = true → p.le x y = true := by
  unfold lowerBounds
  rw [bit_mask]
  simp only [hx, decide_true, Bool.true_and, elements, List.all_eq_true, List.mem_range]
  constructor
  · intro h y hy c
    have := h y hy
    simpa [c] using this
  · intro h y hy
    cases c : s.testBit y with
    | false => rfl
    | true => simp [h y hy c]
theorem ub_iff {p : Poset} {s y : Nat} (hy : y < p.size) : (upperBounds p s).testBit y = true ↔ ∀ x, x < p.size → s.testBit x = true → p.le x y = true := by
  unfold upperBounds
  rw [bit_mask]
  simp only [hy, decide_true, Bool.true_and, elements, List.all_eq_true, List.mem_range]
  constructor
  · intro h x hx c
    have := h x hx
    simpa [c] using this
  · intro h x hx
    cases c : s.testBit x with
    | false => rfl
    | true => simp [h x hx c]
theorem bits_lt {p : Poset} {f : Nat → Bool} {i : Nat} (h : (maskOf f p.size).testBit i = true) : i < p.size := by
  rw [bit_mask] at h
  simp at h
  exact h.1
/-- inside(bounds, ups[y]): y is below all of bounds -/
theorem in_ups {p : Poset} {f : Nat → Bool} {y : Nat} (hy : y < p.size) : (maskOf f p.size &&& p.above.getD y 0 == maskOf f p.size) = (lowerBounds p (maskOf f p.size)).testBit y := by
  apply Bool.eq_iff_iff.mpr
  rw [sub_iff, lb_iff hy]
  constructor
  · intro h z hz c
    exact h z c
  · intro h z c
    exact h z (bits_lt c) c
theorem bit_down {p : Poset} {y z : Nat} : (downSet p y).testBit z = (decide (z < p.size) && p.le z y) := by
  unfold downSet
  rw [bit_mask]
theorem in_downs {p : Poset} {f : Nat → Bool} {y : Nat} (hy : y < p.size) : (maskOf f p.size &&& downSet p y == maskOf f p.size) = (upperBounds p (maskOf f p.size)).testBit y := by
  apply Bool.eq_iff_iff.mpr
  rw [sub_iff, ub_iff hy]
  constructor
  · intro h z hz c
    have q := h z c
    rw [bit_down] at q
    simp at q
    exact q.2
  · intro h z c
    rw [bit_down]
    simp [bits_lt c, h z (bits_lt c) c]
theorem find_filter {α : Type} (f g : α → Bool) : ∀ l : List α, (l.filter f).find? g = l.find? fun x => f x && g x
  | [] => rfl
  | a :: r => by
    rw [List.filter_cons]
    cases c : f a with
    | false => simp [c, find_filter f g r]
    | true =>
      simp only [if_pos, List.find?_cons, c, Bool.true_and]
      cases g a with
      | true => rfl
      | false => exact find_filter f g r
theorem find_congr {α : Type} {f g : α → Bool} : ∀ {l : List α}, (∀ x ∈ l, f x = g x) → l.find? f = l.find? g
  | [], _ => rfl
  | a :: r, h => by
    rw [List.find?_cons, List.find?_cons, h a (List.mem_cons_self ..), find_congr fun x hx => h x (List.mem_cons_of_mem _ hx)]
/-- supremum, as the program looks for it -/
theorem sup_find (p : Poset) (s : Nat) : supremum p s = (members p (upperBounds p s)).find? fun y => upperBounds p s &&& p.above.getD y 0 == upperBounds p s := by
  unfold supremum members
  rw [find_filter]
  apply find_congr
  intro x hx
  have hx' : x < p.size := by simpa [elements] using hx
  have q := in_ups (p := p) (f := fun y => (elements p).all fun x => !s.testBit x || p.le x y) hx'
  show ((upperBounds p s).testBit x && (lowerBounds p (upperBounds p s)).testBit x) = ((upperBounds p s).testBit x && (upperBounds p s &&& p.above.getD x 0 == upperBounds p s))
  rw [show (upperBounds p s &&& p.above.getD x 0 == upperBounds p s) = (lowerBounds p (upperBounds p s)).testBit x from q]
theorem inf_find (p : Poset) (s : Nat) : infimum p s = (members p (lowerBounds p s)).find? fun y => lowerBounds p s &&& downSet p y == lowerBounds p s := by
  unfold infimum members
  rw [find_filter]
  apply find_congr
  intro x hx
  have hx' : x < p.size := by simpa [elements] using hx
  have q := in_downs (p := p) (f := fun z => (elements p).all fun y => !s.testBit y || p.le z y) hx'
  show ((lowerBounds p s).testBit x && (upperBounds p (lowerBounds p s)).testBit x) = ((lowerBounds p s).testBit x && (lowerBounds p s &&& downSet p x == lowerBounds p s))
  rw [show (lowerBounds p s &&& downSet p x == lowerBounds p s) = (upperBounds p (lowerBounds p s)).testBit x from q]
/-- taking the bit a away -/
theorem sub_bit {m a : Nat} (h : m.testBit a = true) : ∀ i, (m - 2 ^ a).testBit i = (m.testBit i && i != a) := by
  intro i
  have hq : (m / 2 ^ a) % 2 = 1 := by
    rw [Nat.testBit_eq_decide_div_mod_eq] at h
    simpa using h
  have em : m = 2 ^ a * (m / 2 ^ a) + m % 2 ^ a := (Nat.div_add_mod m (2 ^ a)).symm
  have hr : m % 2 ^ a < 2 ^ a := Nat.mod_lt _ (Nat.two_pow_pos a)
  generalize m / 2 ^ a = q at hq em
  generalize m % 2 ^ a = r at em hr
  subst em
  obtain ⟨k, rfl⟩ : ∃ k, q = 2 * k + 1 := ⟨q / 2, by omega⟩
  have e2 : 2 ^ a * (2 * k + 1) + r - 2 ^ a = 2 ^ a * (2 * k) + r := by
    rw [Nat.mul_add]
    omega
  rw [e2, Nat.testBit_two_pow_mul_add _ hr, Nat.testBit_two_pow_mul_add _ hr]
  by_cases c : i < a
  · have c2 : (i != a) = true := by simp; omega
    simp [c, c2]
  · rw [if_neg c, if_neg c]
    by_cases e : i = a
    · subst e
      simp
    · have c2 : (i != a) = true := by simp; omega
      obtain ⟨j, hj⟩ : ∃ j, i - a = j + 1 := ⟨i - a - 1, by omega⟩
      rw [c2, hj, Bool.and_true, Nat.testBit_succ, Nat.testBit_succ]
      congr 1
      omega
theorem below_sub {p : Poset} (w : WF p) {a : Nat} (h : a < p.size) : downSet p a - 2 ^ a = strictlyBelow p a := by
  apply Nat.eq_of_testBit_eq
  intro i
  rw [sub_bit (by rw [bit_down]; simp [h, w.refl a h]), bit_down]
  unfold strictlyBelow
  rw [bit_mask, Bool.and_assoc]
theorem above_sub {p : Poset} (w : WF p) {a : Nat} (h : a < p.size) : p.above.getD a 0 - 2 ^ a = strictlyAbove p a := by
  apply Nat.eq_of_testBit_eq
  intro i
  rw [sub_bit (w.refl a h)]
  unfold strictlyAbove
  rw [bit_mask]
  show (p.le a i && i != a) = (decide (i < p.size) && (p.le a i && i != a))
  cases c : p.le a i with
  | false => simp
  | true => simp [le_lt w c]
theorem pow_le_down {p : Poset} (w : WF p) {a : Nat} (h : a < p.size) : 2 ^ a ≤ downSet p a := Nat.ge_two_pow_of_testBit (by rw [bit_down]; simp [h, w.refl a h])
theorem pow_le_up {p : Poset} (w : WF p) {a : Nat} (h : a < p.size) : 2 ^ a ≤ p.above.getD a 0 := Nat.ge_two_pow_of_testBit (w.refl a h)
theorem up_down {p : Poset} (w : WF p) : ∀ b, b < p.size → maskOf (fun a => (p.above.getD a 0).testBit b) p.size = downSet p b := fun _ _ => rfl
end Pu
end PartPu
section PartPu2
set_option linter.all false
namespace Pu
open R7245g.Spec
theorem base_len (n : Nat) (l : List (Nat × Nat)) : (baseRows n l).length = n := by simp [baseRows]
theorem base_at {n : Nat} {l : List (Nat × Nat)} {i : Nat} (h : i < n) : (baseRows n l).getD i 0 = maskOf (fun j => i == j || l.contains (i, j)) n := by
  unfold baseRows
  rw [List.getD_eq_getElem?_getD, List.getElem?_map, List.getElem?_range h]
  rfl
theorem base_nil (n : Nat) : baseRows n [] = (List.range n).map fun a => 2 ^ a := by
  unfold baseRows
  apply List.map_congr_left
  intro i hi
  have hi' : i < n := List.mem_range.mp hi
  apply Nat.eq_of_testBit_eq
  intro j
  rw [bit_mask, Nat.testBit_two_pow]
  by_cases e : i = j
  · subst e
    simp [hi']
  · simp [e]
theorem getD_set {l : List Nat} {i j : Nat} {x : Nat} (h : i < l.length) : (l.set i x).getD j 0 = if i = j then x else l.getD j 0 := by
  rw [List.getD_eq_getElem?_getD, List.getElem?_set, List.getD_eq_getElem?_getD]
  by_cases e : i = j
  · subst e
    simp [h]
  · simp [e]
theorem ext_getD {a b : List Nat} (hl : a.length = b.length) (h : ∀ i, i < a.length → a.getD i 0 = b.getD i 0) : a = b := by
  apply List.ext_getElem? 
  intro i
  by_cases c : i < a.length
  · have q := h i c
    rw [List.getD_eq_getElem?_getD, List.getD_eq_getElem?_getD, List.getElem?_eq_getElem c, List.getElem?_eq_getElem (hl ▸ c)] at q
    rw [List.getElem?_eq_getElem c, List.getElem?_eq_getElem (hl ▸ c)]
    exact congrArg some q
  · rw [List.getElem?_eq_none (by omega), List.getElem?_eq_none (by omega)]
theorem base_snoc {n : Nat} {l : List (Nat × Nat)} {a b : Nat} (ha : a < n) (hb : b < n) : (baseRows n l).set a ((baseRows n l).getD a 0 ||| 2 ^ b) = baseRows n (l ++ [(a, b)]) := by
  apply ext_getD
  · simp [base_len]
  · intro i hi
    have hi' : i < n := by simpa [base_len] using hi
    rw [getD_set (by rw [base_len]; exact ha), base_at hi', base_at ha]
    by_cases e : a = i
    · subst e
      rw [if_pos rfl]
      apply Nat.eq_of_testBit_eq
      intro j
      rw [Nat.testBit_or, bit_mask, base_at ha, bit_mask, Nat.testBit_two_pow]
      by_cases f : b = j
      · subst f
        simp [hb]
      · have f2 : ¬ j = b := fun z => f z.symm
        simp [f, f2]
    · rw [if_neg e, base_at hi']
      apply mask_congr
      intro j _
      have e2 : ¬ i = a := fun z => e z.symm
      simp [e2]
/-- closeStep, as far as the first i rows -/
def closePart (rows : List Nat) (k i : Nat) : List Nat := (closeStep rows k).take i ++ rows.drop i
theorem close_len (rows : List Nat) (k : Nat) : (closeStep rows k).length = rows.length := by simp [closeStep]
theorem part_len (rows : List Nat) (k i : Nat) : (closePart rows k i).length = rows.length := by
  simp [closePart, close_len]
  omega
theorem part_zero (rows : List Nat) (k : Nat) : closePart rows k 0 = rows := by simp [closePart]
theorem part_all (rows : List Nat) (k : Nat) : closePart rows k rows.length = closeStep rows k := by
  unfold closePart
  rw [← close_len rows k, List.take_length, close_len, List.drop_length, List.append_nil]
theorem close_at {rows : List Nat} {k i : Nat} (h : i < rows.length) : (closeStep rows k).getD i 0 = if (rows.getD i 0).testBit k then rows.getD i 0 ||| rows.getD k 0 else rows.getD i 0 := by
  have e : rows.getD i 0 = rows[i] := by rw [List.getD_eq_getElem?_getD, List.getElem?_eq_getElem h]; rfl
  rw [e]
  unfold closeStep
  rw [List.getD_eq_getElem?_getD, List.getElem?_map, List.getElem?_eq_getElem h]
  rfl
theorem part_at {rows : List Nat} {k i j : Nat} (h : i < rows.length) : (closePart rows k j).getD i 0 = if i < j then (closeStep rows k).getD i 0 else rows.getD i 0 := by
  unfold closePart
  rw [List.getD_eq_getElem?_getD]
  by_cases c : i < j
  · rw [if_pos c, List.getElem?_append_left (by rw [List.length_take, close_len]; omega), List.getElem?_take_of_lt c, List.getD_eq_getElem?_getD]
  · rw [if_neg c, List.getElem?_append_right (by rw [List.length_take, close_len]; omega), List.length_take, close_len, List.getElem?_drop, List.getD_eq_getElem?_getD]
    congr 2
    omega
theorem part_self {rows : List Nat} {k j : Nat} (h : k < rows.length) : (closePart rows k j).getD k 0 = rows.getD k 0 := by
  rw [part_at h, close_at h]
  split
  · split
    · exact Nat.or_self _
    · rfl
  · rfl
theorem part_yes {rows : List Nat} {k i : Nat} (h : i < rows.length) (hk : k < rows.length) (c : ((closePart rows k i).getD i 0).testBit k = true) :
    (closePart rows k i).set i ((closePart rows k i).getD i 0 ||| (closePart rows k i).getD k 0) = closePart rows k (i + 1) := by
  have e0 : (closePart rows k i).getD i 0 = rows.getD i 0 := by rw [part_at h, if_neg (by omega)]
  rw [e0] at c
  apply ext_getD
  · simp [part_len]
  · intro j hj
    have hj' : j < rows.length := by simpa [part_len] using hj
    rw [getD_set (by rw [part_len]; exact h), e0, part_self hk, part_at hj', part_at hj']
    by_cases e : i = j
    · subst e
      rw [if_pos rfl, if_pos (by omega), close_at h, if_pos c]
    · rw [if_neg e]
      by_cases l : j < i
      · rw [if_pos l, if_pos (by omega)]
      · rw [if_neg l, if_neg (by omega)]
theorem part_no {rows : List Nat} {k i : Nat} (h : i < rows.length) (c : ((closePart rows k i).getD i 0).testBit k = false) : closePart rows k i = closePart rows k (i + 1) := by
  have e0 : (closePart rows k i).getD i 0 = rows.getD i 0 := by rw [part_at h, if_neg (by omega)]
  rw [e0] at c
  apply ext_getD
  · simp [part_len]
  · intro j hj
    have hj' : j < rows.length := by simpa [part_len] using hj
    rw [part_at hj', part_at hj']
    by_cases e : i = j
    · subst e
      rw [if_neg (by omega), if_pos (by omega), close_at h, if_neg (by rw [c]; decide)]
    · by_cases l : j < i
      · rw [if_pos l, if_pos (by omega)]
      · rw [if_neg l, if_neg (by omega)]
theorem rows_len (n : Nat) (l : List (Nat × Nat)) : ∀ k, ((List.range k).foldl closeStep (baseRows n l)).length = n
  | 0 => base_len n l
  | k + 1 => by
    rw [List.range_succ, List.foldl_append]
    show (closeStep _ k).length = n
    rw [close_len, rows_len n l k]
theorem rows_succ (n : Nat) (l : List (Nat × Nat)) (k : Nat) : (List.range (k + 1)).foldl closeStep (baseRows n l) = closeStep ((List.range k).foldl closeStep (baseRows n l)) k := by
  rw [List.range_succ, List.foldl_append]
  rfl
theorem orderOf_len (n : Nat) (l : List (Nat × Nat)) : (orderOf n l).above.length = n := rows_len n l n
theorem rows_refl {n : Nat} (l : List (Nat × Nat)) {a : Nat} (h : a < n) : ∀ k, (((List.range k).foldl closeStep (baseRows n l)).getD a 0).testBit a = true
  | 0 => by
    show ((baseRows n l).getD a 0).testBit a = true
    rw [base_at h, bit_mask]
    simp [h]
  | k + 1 => by
    rw [rows_succ, close_at (by rw [rows_len]; exact h)]
    have ih := rows_refl l h k
    split
    · rw [Nat.testBit_or, ih]
      rfl
    · exact ih
theorem rows_lt (n : Nat) (l : List (Nat × Nat)) : ∀ k a, ((List.range k).foldl closeStep (baseRows n l)).getD a 0 < 2 ^ n
  | 0, a => by
    show (baseRows n l).getD a 0 < 2 ^ n
    by_cases h : a < n
    · rw [base_at h]
      exact mask_lt _ _
    · rw [List.getD_eq_getElem?_getD, List.getElem?_eq_none (by rw [base_len]; omega)]
      exact Nat.two_pow_pos n
  | k + 1, a => by
    rw [rows_succ]
    by_cases h : a < n
    · rw [close_at (by rw [rows_len]; exact h)]
      split
      · exact Nat.or_lt_two_pow (rows_lt n l k a) (rows_lt n l k k)
      · exact rows_lt n l k a
    · rw [List.getD_eq_getElem?_getD, List.getElem?_eq_none (by rw [close_len, rows_len]; omega)]
      exact Nat.two_pow_pos n
theorem wf_orderOf {n : Nat} (l : List (Nat × Nat)) (h1 : 0 < n) (h2 : n ≤ 10) : WF (orderOf n l) :=
  ⟨rows_len n l n, fun a h => rows_refl l h n, fun a => rows_lt n l n a, h1, h2⟩
/-! ### restriction -/
theorem members_lt {p : Poset} {s x : Nat} (h : x ∈ members p s) : x < p.size := List.mem_range.mp (List.mem_filter.mp h).1
theorem members_len (p : Poset) (s : Nat) : (members p s).length ≤ p.size := by
  have h := List.length_filter_le (fun x => s.testBit x) (elements p)
  simpa [members, elements] using h
theorem members_pos {p : Poset} {s : Nat} (hs : s < 2 ^ p.size) (h0 : s ≠ 0) : 0 < (members p s).length := by
  obtain ⟨i, hi⟩ := Nat.exists_testBit_of_ne_zero h0
  have hl : i < p.size := by
    apply Decidable.byContradiction
    intro c
    rw [Nat.testBit_lt_two_pow (Nat.lt_of_lt_of_le hs (Nat.pow_le_pow_right (by omega) (by omega)))] at hi
    cases hi
  exact List.length_pos_of_mem (List.mem_filter.mpr ⟨List.mem_range.mpr hl, hi⟩)
theorem wf_restrict {p : Poset} (w : WF p) {s : Nat} (hs : s < 2 ^ p.size) (h0 : s ≠ 0) : WF (restrict p s) := by
  refine ⟨by simp [restrict], fun a ha => ?_, fun a => ?_, members_pos hs h0, Nat.le_trans (members_len p s) w.le10⟩
  · have ha' : a < (members p s).length := ha
    show ((restrict p s).above.getD a 0).testBit a = true
    have e : (restrict p s).above.getD a 0 = maskOf (fun j => p.le ((members p s).getD a 0) ((members p s).getD j 0)) (members p s).length := by
      unfold restrict
      rw [List.getD_eq_getElem?_getD, List.getElem?_map, List.getElem?_eq_getElem ha', List.getD_eq_getElem?_getD, List.getElem?_eq_getElem ha']
      rfl
    rw [e, bit_mask]
    have hm : (members p s).getD a 0 < p.size := by
      rw [List.getD_eq_getElem?_getD, List.getElem?_eq_getElem ha']
      exact members_lt (List.getElem_mem ha')
    simp only [ha', decide_true, Bool.true_and]
    exact w.refl _ hm
  · unfold restrict
    rw [List.getD_eq_getElem?_getD, List.getElem?_map]
    cases c : (members p s)[a]? with
    | none => exact Nat.two_pow_pos _
    | some x => exact mask_lt _ _
end Pu
end PartPu2
section PartPu3
set_option linter.all false
namespace Pu
open R7245g.Spec
/-! ### maps -/
structure MapOk (p q : Poset) (f : List Nat) : Prop where
  len : f.length = p.size
  lt : ∀ y ∈ f, y < q.size
theorem MapOk.at_ {p q : Poset} {f : List Nat} (m : MapOk p q f) {x : Nat} (h : x < p.size) : imageOf f x < q.size := by
  unfold imageOf
  have h' : x < f.length := by rw [m.len]; exact h
  rw [List.getD_eq_getElem?_getD, List.getElem?_eq_getElem h']
  exact m.lt _ (List.getElem_mem h')
def imgPre (q : Poset) (f : List Nat) (s k : Nat) : Nat := maskOf (fun y => (List.range k).any fun x => s.testBit x && imageOf f x == y) q.size
theorem imgPre_zero (q : Poset) (f : List Nat) (s : Nat) : imgPre q f s 0 = 0 := by
  apply Nat.eq_of_testBit_eq
  intro i
  unfold imgPre
  rw [bit_mask]
  simp
theorem imgPre_size {p q : Poset} {f : List Nat} (s : Nat) : imgPre q f s p.size = imageSet p q f s := rfl
theorem imgPre_in {q : Poset} {f : List Nat} {s k : Nat} (h : s.testBit k = true) (hl : imageOf f k < q.size) : imgPre q f s k ||| 2 ^ imageOf f k = imgPre q f s (k + 1) := by
  apply Nat.eq_of_testBit_eq
  intro i
  unfold imgPre
  rw [Nat.testBit_or, bit_mask, bit_mask, Nat.testBit_two_pow, List.range_succ, List.any_append]
  by_cases e : imageOf f k = i
  · subst e
    simp [h, hl]
  · have e2 : (imageOf f k == i) = false := by simp [e]
    simp [e, e2]
theorem imgPre_out {q : Poset} {f : List Nat} {s k : Nat} (h : s.testBit k = false) : imgPre q f s k = imgPre q f s (k + 1) := by
  unfold imgPre
  apply mask_congr
  intro i _
  rw [List.range_succ, List.any_append]
  simp [h]
theorem all_find {α : Type} (g : α → Bool) : ∀ l : List α, l.all g = (l.find? fun e => !g e).isNone
  | [] => rfl
  | a :: r => by
    rw [List.all_cons, List.find?_cons, all_find g r]
    cases g a <;> rfl
/-! ### the cuts -/
theorem lb_mono_iff {p : Poset} {s i : Nat} : (lowerBounds p s).testBit i = true ↔ i < p.size ∧ ∀ y, y < p.size → s.testBit y = true → p.le i y = true := by
  by_cases c : i < p.size
  · rw [lb_iff c]
    exact ⟨fun h => ⟨c, h⟩, fun h => h.2⟩
  · constructor
    · intro h
      exact absurd (bits_lt h) c
    · intro h
      exact absurd h.1 c
theorem ub_mono_iff {p : Poset} {s i : Nat} : (upperBounds p s).testBit i = true ↔ i < p.size ∧ ∀ x, x < p.size → s.testBit x = true → p.le x i = true := by
  by_cases c : i < p.size
  · rw [ub_iff c]
    exact ⟨fun h => ⟨c, h⟩, fun h => h.2⟩
  · constructor
    · intro h
      exact absurd (bits_lt h) c
    · intro h
      exact absurd h.1 c
theorem bits_ext {a b : Nat} (h : ∀ i, a.testBit i = true ↔ b.testBit i = true) : a = b := by
  apply Nat.eq_of_testBit_eq
  intro i
  exact Bool.eq_iff_iff.mpr (h i)
theorem clo_lb (p : Poset) (s : Nat) : closure p (lowerBounds p s) = lowerBounds p s := by
  apply bits_ext
  intro i
  unfold closure
  rw [lb_mono_iff, lb_mono_iff]
  constructor
  · rintro ⟨h1, h2⟩
    refine ⟨h1, fun y hy c => h2 y hy ?_⟩
    rw [ub_mono_iff]
    refine ⟨hy, fun x hx d => ?_⟩
    rw [lb_mono_iff] at d
    exact d.2 y hy c
  · rintro ⟨h1, h2⟩
    refine ⟨h1, fun y hy c => ?_⟩
    rw [ub_mono_iff] at c
    exact c.2 i h1 (lb_mono_iff.mpr ⟨h1, h2⟩)
theorem lbPre_congr {p : Poset} {s t k : Nat} (h : ∀ i, i < k → s.testBit i = t.testBit i) : lbPre p s k = lbPre p t k := by
  unfold lbPre
  apply mask_congr
  intro i _
  apply Bool.eq_iff_iff.mpr
  simp only [List.all_eq_true, List.mem_range]
  exact ⟨fun q x hx => by rw [← h x hx]; exact q x hx, fun q x hx => by rw [h x hx]; exact q x hx⟩
/-! ascending lists -/
def Asc (l : List Nat) : Prop := l.Pairwise (· < ·)
theorem mem_ins {a x : Nat} : ∀ {l : List Nat}, x ∈ insertNat a l ↔ x = a ∨ x ∈ l
  | [] => by simp [insertNat]
  | b :: r => by
    unfold insertNat
    split
    · rename_i e
      subst e
      simp
    · split
      · simp
      · rw [List.mem_cons, mem_ins, List.mem_cons]
        constructor
        · rintro (h | h | h)
          · exact .inr (.inl h)
          · exact .inl h
          · exact .inr (.inr h)
        · rintro (h | h | h)
          · exact .inr (.inl h)
          · exact .inl h
          · exact .inr (.inr h)
theorem asc_ins {a : Nat} : ∀ {l : List Nat}, Asc l → Asc (insertNat a l)
  | [], _ => by simp [insertNat, Asc]
  | b :: r, h => by
    have h' := List.pairwise_cons.mp h
    unfold insertNat
    split
    · exact h
    · split
      · rename_i e c
        refine List.pairwise_cons.mpr ⟨fun x hx => ?_, h⟩
        rcases List.mem_cons.mp hx with rfl | hx
        · exact c
        · exact Nat.lt_trans c (h'.1 x hx)
      · rename_i e c
        refine List.pairwise_cons.mpr ⟨fun x hx => ?_, asc_ins h'.2⟩
        rcases mem_ins.mp hx with rfl | hx
        · omega
        · exact h'.1 x hx
theorem asc_ext : ∀ {l m : List Nat}, Asc l → Asc m → (∀ x, x ∈ l ↔ x ∈ m) → l = m
  | [], [], _, _, _ => rfl
  | [], b :: m, _, _, h => by
    have := (h b).mpr (List.mem_cons_self ..)
    simp at this
  | a :: l, [], _, _, h => by
    have := (h a).mp (List.mem_cons_self ..)
    simp at this
  | a :: l, b :: m, hl, hm, h => by
    have l1 := List.pairwise_cons.mp hl
    have m1 := List.pairwise_cons.mp hm
    have e : a = b := by
      have q1 := (h a).mp (List.mem_cons_self ..)
      have q2 := (h b).mpr (List.mem_cons_self ..)
      rcases List.mem_cons.mp q1 with z | z
      · exact z
      · rcases List.mem_cons.mp q2 with y | y
        · exact y.symm
        · have := m1.1 a z
          have := l1.1 b y
          omega
    subst e
    congr 1
    refine asc_ext l1.2 m1.2 fun x => ?_
    constructor
    · intro hx
      rcases List.mem_cons.mp ((h x).mp (List.mem_cons_of_mem _ hx)) with z | z
      · have := l1.1 x hx
        omega
      · exact z
    · intro hx
      rcases List.mem_cons.mp ((h x).mpr (List.mem_cons_of_mem _ hx)) with z | z
      · have := m1.1 x hx
        omega
      · exact z
theorem ins_all {b : Nat} : ∀ (l r : List Nat), Asc r → Asc (l.foldl (fun r c => insertNat (c &&& b) r) r) ∧ ∀ x, x ∈ l.foldl (fun r c => insertNat (c &&& b) r) r ↔ x ∈ r ∨ ∃ c ∈ l, x = c &&& b
  | [], r, h => ⟨h, fun x => by simp⟩
  | c :: l, r, h => by
    obtain ⟨a1, a2⟩ := ins_all (b := b) l (insertNat (c &&& b) r) (asc_ins h)
    refine ⟨a1, fun x => ?_⟩
    rw [List.foldl_cons, a2 x, mem_ins]
    simp only [List.mem_cons]
    constructor
    · rintro ((h | h) | ⟨d, h1, h2⟩)
      · exact .inr ⟨c, .inl rfl, h⟩
      · exact .inl h
      · exact .inr ⟨d, .inr h1, h2⟩
    · rintro (h | ⟨d, rfl | h1, h2⟩)
      · exact .inl (.inr h)
      · exact .inl (.inl h2)
      · exact .inr ⟨d, h1, h2⟩
def cutPre (p : Poset) (k : Nat) : List Nat := (List.range k).foldl (fun l b => l.foldl (fun r c => insertNat (c &&& downSet p b) r) l) [fullSet p]
theorem cutPre_succ (p : Poset) (k : Nat) : cutPre p (k + 1) = (cutPre p k).foldl (fun r c => insertNat (c &&& downSet p k) r) (cutPre p k) := by
  unfold cutPre
  rw [List.range_succ, List.foldl_append]
  rfl
theorem cutPre_is (p : Poset) : ∀ k, Asc (cutPre p k) ∧ ∀ x, x ∈ cutPre p k ↔ ∃ t, x = lbPre p t k
  | 0 => by
    refine ⟨by simp [cutPre, Asc], fun x => ?_⟩
    show x ∈ [fullSet p] ↔ _
    rw [List.mem_singleton]
    exact ⟨fun h => ⟨0, h⟩, fun ⟨t, h⟩ => h⟩
  | k + 1 => by
    obtain ⟨a, m⟩ := cutPre_is p k
    obtain ⟨a1, m1⟩ := ins_all (b := downSet p k) (cutPre p k) (cutPre p k) a
    rw [cutPre_succ]
    refine ⟨a1, fun x => ?_⟩
    rw [m1 x]
    constructor
    · rintro (h | ⟨c, hc, rfl⟩)
      · obtain ⟨t, rfl⟩ := (m x).mp h
        refine ⟨t % 2 ^ k, ?_⟩
        have b0 : (t % 2 ^ k).testBit k = false := by
          rw [Nat.testBit_mod_two_pow]
          simp
        rw [← lbPre_out b0]
        apply lbPre_congr
        intro i hi
        rw [Nat.testBit_mod_two_pow]
        simp [hi]
      · obtain ⟨t, rfl⟩ := (m c).mp hc
        refine ⟨t ||| 2 ^ k, ?_⟩
        have b1 : (t ||| 2 ^ k).testBit k = true := by
          rw [Nat.testBit_or, Nat.testBit_two_pow]
          simp
        rw [← lbPre_in b1]
        congr 1
        apply lbPre_congr
        intro i hi
        rw [Nat.testBit_or, Nat.testBit_two_pow]
        have e : ¬ k = i := by omega
        simp [e]
    · rintro ⟨t, rfl⟩
      cases c : t.testBit k with
      | true => exact .inr ⟨lbPre p t k, (m _).mpr ⟨t, rfl⟩, (lbPre_in c).symm⟩
      | false => exact .inl ((m _).mpr ⟨t, (lbPre_out c).symm⟩)
theorem mem_cuts {p : Poset} {x : Nat} : x ∈ cutList p ↔ ∃ t, x = lowerBounds p t := (cutPre_is p p.size).2 x
theorem asc_cuts (p : Poset) : Asc (cutList p) := (cutPre_is p p.size).1
theorem lb_mem (p : Poset) (t : Nat) : lowerBounds p t ∈ cutList p := mem_cuts.mpr ⟨t, rfl⟩
theorem clo_mem (p : Poset) (t : Nat) : closure p t ∈ cutList p := lb_mem p _
theorem cut_lt {p : Poset} {x : Nat} (h : x ∈ cutList p) : x < 2 ^ p.size := by
  obtain ⟨t, rfl⟩ := mem_cuts.mp h
  exact mask_lt _ _
theorem cuts_filter (p : Poset) : (List.range (2 ^ p.size)).filter (fun m => closure p m == m) = cutList p := by
  refine asc_ext (List.Pairwise.filter _ List.pairwise_lt_range) (asc_cuts p) fun x => ?_
  rw [List.mem_filter, List.mem_range, mem_cuts]
  constructor
  · rintro ⟨h1, h2⟩
    have e : closure p x = x := by simpa using h2
    exact ⟨upperBounds p x, e.symm⟩
  · rintro ⟨t, rfl⟩
    exact ⟨mask_lt _ _, by rw [clo_lb]; simp⟩
theorem cuts_len (p : Poset) (h : p.size ≤ 10) : (cutList p).length ≤ 1024 := by
  rw [← cuts_filter]
  refine Nat.le_trans (List.length_filter_le _ _) ?_
  rw [List.length_range]
  exact Nat.le_trans (Nat.pow_le_pow_right (by omega) h) (by decide)
theorem full_eq (p : Poset) : fullSet p = 2 ^ p.size - 1 := mask_full p.size
theorem lb_zero (p : Poset) : lowerBounds p 0 = fullSet p := by
  apply bits_ext
  intro i
  rw [lb_mono_iff]
  unfold fullSet
  rw [bit_mask]
  simp
theorem lb_and (p : Poset) (s t : Nat) : lowerBounds p s &&& lowerBounds p t = lowerBounds p (s ||| t) := by
  apply bits_ext
  intro i
  rw [Nat.testBit_and, Bool.and_eq_true, lb_mono_iff, lb_mono_iff, lb_mono_iff]
  constructor
  · rintro ⟨⟨h1, h2⟩, h3, h4⟩
    refine ⟨h1, fun y hy c => ?_⟩
    rw [Nat.testBit_or, Bool.or_eq_true] at c
    rcases c with c | c
    · exact h2 y hy c
    · exact h4 y hy c
  · rintro ⟨h1, h2⟩
    exact ⟨⟨h1, fun y hy c => h2 y hy (by rw [Nat.testBit_or, c]; rfl)⟩, h1, fun y hy c => h2 y hy (by rw [Nat.testBit_or, c, Bool.or_true])⟩
theorem meet_mem {p : Poset} : ∀ {l : List Nat}, (∀ c ∈ l, c ∈ cutList p) → intersectionOf p l ∈ cutList p
  | [], _ => by
    show fullSet p ∈ cutList p
    rw [← lb_zero]
    exact lb_mem p 0
  | c :: l, h => by
    have ih := meet_mem fun d hd => h d (List.mem_cons_of_mem _ hd)
    obtain ⟨s, e1⟩ := mem_cuts.mp (h c (List.mem_cons_self ..))
    obtain ⟨t, e2⟩ := mem_cuts.mp ih
    show c &&& intersectionOf p l ∈ cutList p
    rw [e1, e2, lb_and]
    exact lb_mem p _
theorem union_snoc : ∀ (l : List Nat) (c : Nat), unionOf (l ++ [c]) = unionOf l ||| c
  | [], c => by simp [unionOf]
  | d :: l, c => by
    show d ||| unionOf (l ++ [c]) = (d ||| unionOf l) ||| c
    rw [union_snoc l c, Nat.or_assoc]
theorem inter_snoc (p : Poset) {c : Nat} (hc : c ∈ cutList p) : ∀ (l : List Nat), intersectionOf p (l ++ [c]) = intersectionOf p l &&& c
  | [] => by
    show c &&& fullSet p = fullSet p &&& c
    exact Nat.and_comm _ _
  | d :: l => by
    show d &&& intersectionOf p (l ++ [c]) = (d &&& intersectionOf p l) &&& c
    rw [inter_snoc p hc l, Nat.and_assoc]
theorem cutAt_mem {p : Poset} {i : Nat} (h : i < (cutList p).length) : cutAt p i ∈ cutList p := by
  unfold cutAt
  rw [List.getD_eq_getElem?_getD, List.getElem?_eq_getElem h]
  exact List.getElem_mem h
theorem cuts_mem {p : Poset} {l : List Nat} (h : ∀ i ∈ l, i < (cutList p).length) : ∀ c ∈ cutsOf p l, c ∈ cutList p := by
  intro c hc
  obtain ⟨i, hi, rfl⟩ := List.mem_map.mp hc
  exact cutAt_mem (h i hi)
theorem idx_lt {p : Poset} {c : Nat} (h : c ∈ cutList p) : cutIndex p c < (cutList p).length := List.idxOf_lt_length_of_mem h
theorem idx_inj {p : Poset} {c d : Nat} (hc : c ∈ cutList p) (hd : d ∈ cutList p) (e : cutIndex p c = cutIndex p d) : c = d := by
  have h1 := List.getElem_idxOf (idx_lt hc)
  have h2 := List.getElem_idxOf (idx_lt hd)
  rw [← h1, ← h2]
  congr 1
/-- the first place where two lists of numbers differ -/
def gapOf (a b : List Nat) : Option Nat := (List.range a.length).find? fun i => a.getD i 0 != b.getD i 0
theorem gap_is (p q : Poset) (f : List Nat) : extensionGap p q f = gapOf ((cutList p).map fun c => cutIndex q (leastExtension p q f c)) ((cutList p).map fun c => cutIndex q (greatestExtension p q f c)) := by
  unfold extensionGap gapOf
  rw [List.length_map]
  apply find_congr
  intro i hi
  have hi' : i < (cutList p).length := List.mem_range.mp hi
  have e1 : ((cutList p).map fun c => cutIndex q (leastExtension p q f c)).getD i 0 = cutIndex q (leastExtension p q f (cutAt p i)) := by
    unfold cutAt
    rw [List.getD_eq_getElem?_getD, List.getElem?_map, List.getD_eq_getElem?_getD, List.getElem?_eq_getElem hi']
    rfl
  have e2 : ((cutList p).map fun c => cutIndex q (greatestExtension p q f c)).getD i 0 = cutIndex q (greatestExtension p q f (cutAt p i)) := by
    unfold cutAt
    rw [List.getD_eq_getElem?_getD, List.getElem?_map, List.getD_eq_getElem?_getD, List.getElem?_eq_getElem hi']
    rfl
  rw [e1, e2]
  by_cases c : leastExtension p q f (cutAt p i) = greatestExtension p q f (cutAt p i)
  · rw [c]
    simp
  · have d : cutIndex q (leastExtension p q f (cutAt p i)) ≠ cutIndex q (greatestExtension p q f (cutAt p i)) := fun z => c (idx_inj (clo_mem q _) (lb_mem q _) z)
    have c1 : (leastExtension p q f (cutAt p i) != greatestExtension p q f (cutAt p i)) = true := by simp [c]
    have d1 : (cutIndex q (leastExtension p q f (cutAt p i)) != cutIndex q (greatestExtension p q f (cutAt p i))) = true := by simp [d]
    rw [c1, d1]
end Pu
end PartPu3
section PartPu4
set_option linter.all false
namespace Pu
open R7245g.Spec
/-! ### linear orders -/
def IsLine (n : Nat) (l : List Nat) : Prop := l.Perm (List.range n)
theorem IsLine.len {n : Nat} {l : List Nat} (h : IsLine n l) : l.length = n := by rw [h.length_eq, List.length_range]
theorem IsLine.nd {n : Nat} {l : List Nat} (h : IsLine n l) : l.Nodup := h.nodup_iff.mpr List.nodup_range
theorem IsLine.mem {n : Nat} {l : List Nat} (h : IsLine n l) {x : Nat} : x ∈ l ↔ x < n := by rw [h.mem_iff, List.mem_range]
theorem idxOf_at : ∀ {l : List Nat} {k x : Nat}, l.Nodup → l[k]? = some x → l.idxOf x = k
  | [], k, x, _, h => by simp at h
  | a :: l, 0, x, _, h => by
    cases h
    simp
  | a :: l, k + 1, x, nd, h => by
    have n2 := List.nodup_cons.mp nd
    have hx : l[k]? = some x := by simpa using h
    have hm : x ∈ l := List.mem_of_getElem? hx
    have ne : ¬ a = x := fun z => n2.1 (z ▸ hm)
    have c2 : (a == x) = false := by simp [ne]
    rw [List.idxOf_cons, c2]
    show l.idxOf x + 1 = k + 1
    rw [idxOf_at n2.2 hx]
def plPre (l : List Nat) (n k : Nat) : List Nat := (List.range n).map fun x => if l.idxOf x < k then l.idxOf x else 0
theorem pl_len (l : List Nat) (n k : Nat) : (plPre l n k).length = n := by simp [plPre]
theorem pl_zero (l : List Nat) (n : Nat) : plPre l n 0 = List.replicate n 0 := by
  unfold plPre
  apply List.ext_getElem?
  intro i
  rw [List.getElem?_map, List.getElem?_replicate]
  by_cases c : i < n
  · rw [List.getElem?_range c, if_pos c]
    rfl
  · rw [List.getElem?_eq_none (by simp; omega), if_neg c]
    rfl
theorem pl_at {l : List Nat} {n k x : Nat} (h : x < n) : (plPre l n k).getD x 0 = if l.idxOf x < k then l.idxOf x else 0 := by
  unfold plPre
  rw [List.getD_eq_getElem?_getD, List.getElem?_map, List.getElem?_range h]
  rfl
theorem pl_step {n k x : Nat} {l : List Nat} (hl : IsLine n l) (h : l[k]? = some x) : (plPre l n k).set x k = plPre l n (k + 1) := by
  have hx : x < n := hl.mem.mp (List.mem_of_getElem? h)
  apply ext_getD
  · simp [pl_len]
  · intro i hi
    have hi' : i < n := by simpa [pl_len] using hi
    rw [getD_set (by rw [pl_len]; exact hx), pl_at hi', pl_at hi']
    have ex := idxOf_at hl.nd h
    by_cases e : x = i
    · subst e
      rw [if_pos rfl, ex, if_pos (by omega)]
    · rw [if_neg e]
      have ne : l.idxOf i ≠ k := fun z => by
        have hm : i ∈ l := hl.mem.mpr hi'
        have q := List.getElem_idxOf (List.idxOf_lt_length_of_mem hm)
        have q2 : l[k]? = some i := by
          rw [← z, List.getElem?_eq_getElem (List.idxOf_lt_length_of_mem hm), q]
        rw [h] at q2
        exact e (Option.some.inj q2)
      by_cases c : l.idxOf i < k
      · rw [if_pos c, if_pos (by omega)]
      · rw [if_neg c, if_neg (by omega)]
def places (l : List Nat) (n : Nat) : List Nat := (List.range n).map fun x => l.idxOf x
theorem pl_end {n : Nat} {l : List Nat} (hl : IsLine n l) : plPre l n n = places l n := by
  unfold plPre places
  apply List.map_congr_left
  intro x hx
  rw [if_pos]
  have q := List.idxOf_lt_length_of_mem (hl.mem.mpr (List.mem_range.mp hx))
  rw [hl.len] at q
  exact q
theorem places_at {l : List Nat} {n x : Nat} (h : x < n) : (places l n).getD x 0 = l.idxOf x := by
  unfold places
  rw [List.getD_eq_getElem?_getD, List.getElem?_map, List.getElem?_range h]
  rfl
theorem places_len (l : List Nat) (n : Nat) : (places l n).length = n := by simp [places]
theorem height_snoc : ∀ (l : List Nat) (x c : Nat), heightIn (l ++ [x]) c = if c.testBit x then l.length + 1 else heightIn l c
  | [], x, c => by
    show heightIn [x] c = _
    unfold heightIn
    simp [heightIn]
  | a :: l, x, c => by
    show heightIn (a :: (l ++ [x])) c = _
    unfold heightIn
    rw [height_snoc l x c]
    by_cases b : c.testBit x = true
    · simp [b]
    · simp [b]
/-! ### the order of the cuts -/
def lexlt (a b : Nat × Nat) : Prop := a.1 < b.1 ∨ (a.1 = b.1 ∧ a.2 < b.2)
theorem lex_uniq : ∀ {l m : List (Nat × Nat)}, l.Pairwise (fun a b => ¬ lexlt b a) → m.Pairwise (fun a b => ¬ lexlt b a) → l.Perm m → l = m
  | [], m, _, _, h => (List.Perm.eq_nil h.symm).symm
  | x :: l, [], _, _, h => absurd h.length_eq (by simp)
  | x :: l, y :: m, hl, hm, h => by
    have l1 := List.pairwise_cons.mp hl
    have m1 := List.pairwise_cons.mp hm
    have e : x = y := by
      have q1 : x ∈ y :: m := h.mem_iff.mp (List.mem_cons_self ..)
      have q2 : y ∈ x :: l := h.mem_iff.mpr (List.mem_cons_self ..)
      rcases List.mem_cons.mp q1 with z | z
      · exact z
      · rcases List.mem_cons.mp q2 with w | w
        · exact w.symm
        · have a1 := m1.1 x z
          have a2 := l1.1 y w
          obtain ⟨x1, x2⟩ := x
          obtain ⟨y1, y2⟩ := y
          unfold lexlt at a1 a2
          simp only at a1 a2
          have e1 : x1 = y1 := by omega
          have e2 : x2 = y2 := by omega
          rw [e1, e2]
    subst e
    rw [lex_uniq l1.2 m1.2 h.cons_inv]
theorem ins_perm (h : Nat → Nat) (i : Nat) : ∀ l : List Nat, (insertByHeight h i l).Perm (i :: l)
  | [] => List.Perm.refl _
  | j :: r => by
    unfold insertByHeight
    split
    · exact List.Perm.refl _
    · exact ((ins_perm h i r).cons j).trans (List.Perm.swap i j r)
def HS (h : Nat → Nat) (l : List Nat) : Prop := l.Pairwise fun a b => ¬ lexlt (h b, b) (h a, a)
theorem ins_sorted {h : Nat → Nat} {i : Nat} : ∀ {l : List Nat}, HS h l → (∀ x ∈ l, x < i) → HS h (insertByHeight h i l)
  | [], _, _ => List.pairwise_singleton _ _
  | j :: r, hs, hi => by
    have hs' := List.pairwise_cons.mp hs
    unfold insertByHeight
    split
    · rename_i c
      refine List.pairwise_cons.mpr ⟨fun x hx => ?_, hs⟩
      unfold lexlt
      simp only
      rcases List.mem_cons.mp hx with rfl | hx
      · omega
      · have q := hs'.1 x hx
        unfold lexlt at q
        simp only at q
        omega
    · rename_i c
      refine List.pairwise_cons.mpr ⟨fun x hx => ?_, ins_sorted hs'.2 fun x hx => hi x (List.mem_cons_of_mem _ hx)⟩
      rcases List.mem_cons.mp ((ins_perm h i r).mem_iff.mp hx) with rfl | hx
      · have q := hi j (List.mem_cons_self ..)
        unfold lexlt
        simp only
        omega
      · exact hs'.1 x hx
theorem ext_is (h : Nat → Nat) : ∀ n, HS h ((List.range n).foldl (fun l i => insertByHeight h i l) []) ∧ ((List.range n).foldl (fun l i => insertByHeight h i l) []).Perm (List.range n)
  | 0 => ⟨List.Pairwise.nil, List.Perm.refl _⟩
  | n + 1 => by
    obtain ⟨a, b⟩ := ext_is h n
    rw [List.range_succ, List.foldl_append]
    show HS h (insertByHeight h n _) ∧ (insertByHeight h n _).Perm _
    refine ⟨ins_sorted a fun x hx => List.mem_range.mp (b.mem_iff.mp hx), (ins_perm h n _).trans ?_⟩
    exact (b.cons n).trans (List.perm_append_comm (l₁ := [n]) (l₂ := List.range n))
/-- what the program sorts: pairs of a cut's height and number -/
theorem line_is {p : Poset} {o : List Nat} {zs : List (Nat × Nat)} (hs : zs.Pairwise fun a b => ¬ lexlt b a) (hp : zs.Perm ((List.range (cutList p).length).map fun i => (heightIn o (cutAt p i), i))) : zs.map (·.2) = extendOrder p o := by
  obtain ⟨a, b⟩ := ext_is (fun j => heightIn o (cutAt p j)) (cutList p).length
  have e : zs = (extendOrder p o).map fun i => (heightIn o (cutAt p i), i) := by
    refine lex_uniq hs (List.pairwise_map.mpr a) (hp.trans ?_)
    exact (b.map _).symm
  rw [e, List.map_map]
  show (extendOrder p o).map id = _
  rw [List.map_id]
theorem ext_len (p : Poset) (o : List Nat) : (extendOrder p o).length = (cutList p).length := by
  have h := (ext_is (fun j => heightIn o (cutAt p j)) (cutList p).length).2.length_eq
  rw [List.length_range] at h
  exact h
end Pu
end PartPu4
section PartPu5
set_option linter.all false
namespace Pu
open RWire
theorem low_len : ∀ k n, (low k n).length = k
  | 0, _ => rfl
  | k + 1, n => by
    show (low k (n / 256)).length + 1 = k + 1
    rw [low_len k]
theorem low_snoc : ∀ k n, low (k + 1) n = low k n ++ [UInt8.ofNat (n / 256 ^ k)]
  | 0, n => by simp [low]
  | k + 1, n => by
    show UInt8.ofNat n :: low (k + 1) (n / 256) = (UInt8.ofNat n :: low k (n / 256)) ++ [UInt8.ofNat (n / 256 ^ (k + 1))]
    rw [low_snoc k (n / 256), Nat.div_div_eq_div_mul]
    have e : 256 * 256 ^ k = 256 ^ (k + 1) := by rw [Nat.pow_succ, Nat.mul_comm]
    rw [e]
    rfl
theorem oct_at (n i : Nat) : (n >>> (8 * i)) &&& 255 = (UInt8.ofNat (n / 256 ^ i)).toNat := by
  have e : (256 : Nat) ^ i = 2 ^ (8 * i) := by rw [Nat.pow_mul]
  rw [Nat.shiftRight_eq_div_pow, e]
  have h := Nat.and_two_pow_sub_one_eq_mod (n / 2 ^ (8 * i)) 8
  rw [show (255 : Nat) = 2 ^ 8 - 1 from rfl, h]
  simp [UInt8.toNat_ofNat']
theorem low_mod : ∀ k n, low k (n % 256 ^ k) = low k n
  | 0, _ => rfl
  | k + 1, n => by
    show UInt8.ofNat (n % 256 ^ (k + 1)) :: low k (n % 256 ^ (k + 1) / 256) = UInt8.ofNat n :: low k (n / 256)
    have e1 : n % 256 ^ (k + 1) / 256 = n / 256 % 256 ^ k := by
      rw [Nat.pow_succ, Nat.mul_comm, Nat.mod_mul_right_div_self]
    have e2 : UInt8.ofNat (n % 256 ^ (k + 1)) = UInt8.ofNat n := by
      apply UInt8.toNat_inj.mp
      rw [UInt8.toNat_ofNat', UInt8.toNat_ofNat']
      have e : (2 : Nat) ^ 8 = 256 := rfl
      rw [e, Nat.pow_succ, Nat.mul_comm]
      exact Nat.mod_mul_right_mod n 256 (256 ^ k)
    rw [e1, e2, low_mod k]
theorem writeInt_nat (m : Nat) : writeInt (m : Int) = low 8 m := by
  unfold writeInt wordMost
  have e : ((m : Int) % 18446744073709551616).toNat = m % 256 ^ 8 := by
    have e2 : (256 : Nat) ^ 8 = 18446744073709551616 := by decide
    rw [e2]
    omega
  rw [e, low_mod]
def bitsN (n : Nat) : Nat := if n = 0 then 0 else n.log2 + 1
theorem log2_div {n : Nat} (h : 256 ≤ n) : (n / 256).log2 + 8 = n.log2 := by
  have hn : n ≠ 0 := by omega
  have hd : n / 256 ≠ 0 := by omega
  have h1 : 2 ^ (n / 256).log2 ≤ n / 256 := Nat.log2_self_le hd
  have h2 : n / 256 < 2 ^ ((n / 256).log2 + 1) := Nat.lt_log2_self
  have a1 : 2 ^ ((n / 256).log2 + 8) ≤ n := by
    rw [Nat.pow_add]
    have : (2 : Nat) ^ 8 = 256 := rfl
    omega
  have a2 : n < 2 ^ ((n / 256).log2 + 8 + 1) := by
    have e : 2 ^ ((n / 256).log2 + 8 + 1) = 2 ^ ((n / 256).log2 + 1) * 256 := by
      rw [show (n / 256).log2 + 8 + 1 = ((n / 256).log2 + 1) + 8 by omega, Nat.pow_add]
    omega
  have b1 := (Nat.le_log2 hn).mpr a1
  have b2 := (Nat.log2_lt hn).mpr a2
  omega
theorem size_low : ∀ (f n : Nat), n ≤ f → sizeOcts f n = low ((bitsN n + 7) / 8) n
  | 0, n, h => by
    have e : n = 0 := by omega
    subst e
    rfl
  | f + 1, n, h => by
    unfold sizeOcts
    by_cases c : n = 0
    · subst c
      rfl
    · have c2 : (n == 0) = false := by simp [c]
      rw [c2]
      show UInt8.ofNat n :: sizeOcts f (n / 256) = _
      rw [size_low f (n / 256) (by omega)]
      have e : (bitsN n + 7) / 8 = (bitsN (n / 256) + 7) / 8 + 1 := by
        unfold bitsN
        rw [if_neg c]
        by_cases d : n / 256 = 0
        · rw [if_pos d]
          have hl : n.log2 < 8 := (Nat.log2_lt c).mpr (by have : (2:Nat)^8 = 256 := rfl; omega)
          omega
        · rw [if_neg d]
          have := log2_div (n := n) (by omega)
          omega
      rw [e]
      rfl
end Pu
end PartPu5
section PartPu6
set_option linter.all false
namespace Pu
open RWire
/-! ### what is handed in, against what is due -/
def nb (n : Nat) (x : Value) : Option Nat := R7245g.Spec.natBelow n (Rust.taken x)
def wholeB (x : Value) (lo hi : Int) : Bool := match x with
  | .int i => decide (lo ≤ i) && decide (i ≤ hi)
  | _ => false
theorem nb_int (n : Nat) (i : Int) : nb n (.int i) = if 0 ≤ i ∧ i < (n : Int) then some i.toNat else none := by
  unfold nb Rust.taken R7245g.Spec.natBelow R7245g.Spec.integerOf
  rfl
theorem nb_other {n : Nat} {x : Value} (h : ∀ i, x ≠ .int i) : nb n x = none := by
  unfold nb R7245g.Spec.natBelow R7245g.Spec.integerOf
  cases x <;> first | rfl | exact absurd rfl (h _)
theorem nb_whole (n : Nat) (x : Value) : wholeB x 0 ((n : Int) - 1) = (nb n x).isSome := by
  cases x with
  | int i =>
    rw [nb_int]
    unfold wholeB
    by_cases c : 0 ≤ i ∧ i < (n : Int)
    · rw [if_pos c]
      simp only [decide_eq_true c.1, decide_eq_true (show i ≤ (n : Int) - 1 by omega)]
      rfl
    · rw [if_neg c]
      by_cases d : 0 ≤ i
      · simp only [decide_eq_false (show ¬ i ≤ (n : Int) - 1 by omega), Bool.and_false]
        rfl
      · simp only [decide_eq_false d, Bool.false_and]
        rfl
  | _ => rw [nb_other (fun i => by intro z; cases z)]; rfl
def natOf (x : Value) : Nat := match x with
  | .int i => i.toNat
  | _ => 0
theorem nb_some {n : Nat} {x : Value} {m : Nat} (h : nb n x = some m) : x = .int (m : Int) ∧ m < n ∧ natOf x = m := by
  cases x with
  | int i =>
    rw [nb_int] at h
    by_cases c : 0 ≤ i ∧ i < (n : Int)
    · rw [if_pos c] at h
      have e := Option.some.inj h
      subst e
      refine ⟨congrArg Value.int (by omega), by omega, rfl⟩
    · rw [if_neg c] at h
      cases h
  | _ => rw [nb_other (fun i => by intro z; cases z)] at h; cases h
def belowB (n : Nat) (x : Value) : Bool := (nb n x).isSome
theorem below_int {n : Nat} {x : Value} (h : belowB n x = true) : x = .int (natOf x : Int) ∧ natOf x < n ∧ nb n x = some (natOf x) := by
  unfold belowB at h
  cases c : nb n x with
  | none => rw [c] at h; cases h
  | some m =>
    obtain ⟨h1, h2, h3⟩ := nb_some c
    rw [h3]
    exact ⟨h1, h2, rfl⟩
def natsOf (l : List Value) : List Nat := l.map natOf
/-- allSome of what reads each one -/
theorem allSome_is {α β : Type} (f : α → Option β) (g : α → β) : ∀ l : List α, (∀ x ∈ l, ∀ y, f x = some y → y = g x) → R7245g.Spec.allSome (l.map f) = if l.all (fun x => (f x).isSome) then some (l.map g) else none
  | [], _ => rfl
  | x :: l, h => by
    rw [List.map_cons, List.all_cons]
    cases c : f x with
    | none => rfl
    | some y =>
      have e := h x (List.mem_cons_self ..) y c
      subst e
      show (R7245g.Spec.allSome (l.map f)).map (fun l => g x :: l) = _
      rw [allSome_is f g l fun z hz => h z (List.mem_cons_of_mem _ hz)]
      by_cases d : l.all (fun x => (f x).isSome) = true
      · simp [d]
      · simp [d]
theorem takenAll_map : ∀ l : List Value, Rust.takenAll l = l.map Rust.taken
  | [] => rfl
  | x :: l => by
    show Rust.taken x :: Rust.takenAll l = _
    rw [takenAll_map l]
    rfl
theorem taken_list (l : List Value) : Rust.taken (.list l) = .arr (l.map Rust.taken) := by
  show R7245g.Spec.Plain.arr (Rust.takenAll l) = _
  rw [takenAll_map]
theorem nats_is (n : Nat) (l : List Value) : R7245g.Spec.allSome ((l.map Rust.taken).map (R7245g.Spec.natBelow n)) = if l.all (belowB n) then some (natsOf l) else none := by
  rw [List.map_map]
  exact allSome_is (nb n) natOf l fun x _ y h => (nb_some h).2.2.symm
theorem nats_len (l : List Value) : (natsOf l).length = l.length := by simp [natsOf]
theorem nats_lt {n : Nat} {l : List Value} (h : l.all (belowB n) = true) : ∀ y ∈ natsOf l, y < n := by
  intro y hy
  obtain ⟨x, hx, rfl⟩ := List.mem_map.mp hy
  exact (below_int (List.all_eq_true.mp h x hx)).2.1
/-- a list of numbers of a given length -/
def natListB (n : Nat) (ok : Nat → Bool) (x : Value) : Bool := match x with
  | .list l => ok l.length && l.all (belowB n)
  | _ => false
def listOf (x : Value) : List Value := match x with
  | .list l => l
  | _ => []
theorem natList_is (n : Nat) (ok : Nat → Bool) (e : R7245g.Spec.Err) (x : Value) (hx : ∀ u, x ≠ .octets u) : R7245g.Spec.natListArg n ok e (Rust.taken x) = if natListB n ok x then .ok (natsOf (listOf x)) else .error e := by
  cases x with
  | list l =>
    rw [taken_list]
    unfold R7245g.Spec.natListArg
    simp only [List.length_map]
    rw [nats_is]
    show _ = if (ok l.length && l.all (belowB n)) = true then Except.ok (natsOf l) else Except.error e
    cases ok l.length with
    | false => rfl
    | true =>
      cases l.all (belowB n) <;> rfl
  | octets u => exact absurd rfl (hx u)
  | _ => rfl
/-! pairs -/
def pairB (n : Nat) (x : Value) : Bool := match x with
  | .list l => decide (l.length = 2) && l.all (belowB n)
  | _ => false
def pairOfV (x : Value) : Nat × Nat := ((natsOf (listOf x)).getD 0 0, (natsOf (listOf x)).getD 1 0)
theorem pair_is (n : Nat) (x : Value) (hx : ∀ u, x ≠ .octets u) : R7245g.Spec.pairOf n (Rust.taken x) = if pairB n x then some (pairOfV x) else none := by
  cases x with
  | list l =>
    rw [taken_list]
    match l with
    | [] => rfl
    | [a] => rfl
    | [a, b] =>
      unfold R7245g.Spec.pairOf pairB
      show (match nb n a, nb n b with
        | some a, some b => some (a, b)
        | _, _ => none) = _
      simp only [List.length_cons, List.length_nil, List.all_cons, List.all_nil, Bool.and_true]
      cases c : nb n a with
      | none => simp [belowB, c]
      | some p =>
        cases d : nb n b with
        | none => simp [belowB, c, d]
        | some q =>
          have e1 := (nb_some c).2.2
          have e2 := (nb_some d).2.2
          simp only [belowB, c, d]
          unfold pairOfV natsOf listOf
          simp [e1, e2]
    | a :: b :: c :: l =>
      unfold R7245g.Spec.pairOf pairB
      simp
  | octets u => exact absurd rfl (hx u)
  | _ => rfl
def pairsB (n : Nat) (x : Value) : Bool := match x with
  | .list l => decide (l.length ≤ 100) && l.all (pairB n)
  | _ => false
theorem pairs_is (n : Nat) (x : Value) (hx : ∀ u, x ≠ .octets u) (hl : ∀ y ∈ listOf x, ∀ u, y ≠ .octets u) : R7245g.Spec.pairsArg n (Rust.taken x) = if pairsB n x then .ok ((listOf x).map pairOfV) else .error R7245g.Spec.pairsErr := by
  cases x with
  | list l =>
    rw [taken_list]
    unfold R7245g.Spec.pairsArg
    have e : R7245g.Spec.allSome ((l.map Rust.taken).map (R7245g.Spec.pairOf n)) = if l.all (pairB n) then some (l.map pairOfV) else none := by
      rw [List.map_map]
      have e1 := allSome_is (fun x => R7245g.Spec.pairOf n (Rust.taken x)) pairOfV l fun y hy z h => by
        rw [pair_is n y (hl y hy)] at h
        split at h
        · exact (Option.some.inj h).symm
        · cases h
      have e2 : l.all (fun x => (R7245g.Spec.pairOf n (Rust.taken x)).isSome) = l.all (pairB n) := by
        apply Bool.eq_iff_iff.mpr
        rw [List.all_eq_true, List.all_eq_true]
        constructor
        · intro q y hy
          have := q y hy
          rw [pair_is n y (hl y hy)] at this
          by_cases c : pairB n y = true
          · exact c
          · rw [if_neg c] at this; cases this
        · intro q y hy
          rw [pair_is n y (hl y hy), if_pos (q y hy)]
          rfl
      rw [e2] at e1
      exact e1
    simp only [List.length_map]
    rw [e]
    unfold R7245g.Spec.maxPairs
    show _ = if (decide (l.length ≤ 100) && l.all (pairB n)) = true then Except.ok (l.map pairOfV) else Except.error R7245g.Spec.pairsErr
    by_cases c : l.length ≤ 100
    · rw [if_pos c, decide_eq_true c]
      cases l.all (pairB n) <;> rfl
    · rw [if_neg c, decide_eq_false c]
      rfl
  | octets u => exact absurd rfl (hx u)
  | _ => rfl
theorem pairB_is {n : Nat} {x : Value} (h : pairB n x = true) : ∃ a b : Nat, x = .list [.int (a : Int), .int (b : Int)] ∧ a < n ∧ b < n ∧ pairOfV x = (a, b) ∧ natsOf (listOf x) = [a, b] := by
  cases x with
  | list l =>
    unfold pairB at h
    simp only [Bool.and_eq_true, decide_eq_true_eq] at h
    match l, h with
    | [a, b], h =>
      have q := List.all_eq_true.mp h.2
      obtain ⟨a1, a2, a3⟩ := below_int (q a (by simp))
      obtain ⟨b1, b2, b3⟩ := below_int (q b (by simp))
      refine ⟨natOf a, natOf b, ?_, a2, b2, rfl, rfl⟩
      rw [← a1, ← b1]
    | [], h => simp at h
    | [a], h => simp at h
    | a :: b :: c :: l, h => simp at h
  | _ => cases h
/-! linear orders -/
theorem distinct_iff : ∀ l : List Nat, R7245g.Spec.distinctNats l = true ↔ l.Nodup
  | [] => by simp [R7245g.Spec.distinctNats]
  | a :: l => by
    unfold R7245g.Spec.distinctNats
    rw [Bool.and_eq_true, distinct_iff l, List.nodup_cons]
    simp
theorem pigeon : ∀ (n : Nat) (l : List Nat), l.Nodup → (∀ x ∈ l, x < n) → l.length ≤ n ∧ (l.length = n → l.Perm (List.range n))
  | 0, l, _, h => by
    have e : l = [] := by
      cases l with
      | nil => rfl
      | cons a l => exact absurd (h a (List.mem_cons_self ..)) (by omega)
    subst e
    exact ⟨Nat.le_refl _, fun _ => List.Perm.refl _⟩
  | n + 1, l, nd, h => by
    by_cases c : n ∈ l
    · have p := List.perm_cons_erase c
      have nd2 := p.nodup_iff.mp nd
      have nd3 := List.nodup_cons.mp nd2
      obtain ⟨a, b⟩ := pigeon n (l.erase n) nd3.2 fun x hx => by
        have h1 := h x (List.mem_of_mem_erase hx)
        have h2 : x ≠ n := fun z => nd3.1 (z ▸ hx)
        omega
      have hl := p.length_eq
      simp only [List.length_cons] at hl
      refine ⟨by omega, fun e => ?_⟩
      rw [List.range_succ]
      exact (p.trans ((b (by omega)).cons n)).trans (List.perm_append_comm (l₁ := [n]) (l₂ := List.range n))
    · obtain ⟨a, _⟩ := pigeon n l nd fun x hx => by
        have h1 := h x hx
        have h2 : x ≠ n := fun z => c (z ▸ hx)
        omega
      exact ⟨by omega, fun e => by omega⟩
theorem line_iff {n : Nat} {l : List Nat} (h : ∀ x ∈ l, x < n) : (l.length = n ∧ l.Nodup) ↔ IsLine n l := by
  constructor
  · rintro ⟨h1, h2⟩
    exact (pigeon n l h2 h).2 h1
  · intro q
    exact ⟨q.len, q.nd⟩
instance decLine (n : Nat) (l : List Nat) : Decidable (IsLine n l) := by
  unfold IsLine
  infer_instance
def lineB (n : Nat) (x : Value) : Bool := match x with
  | .list l => decide (l.length = n) && l.all (belowB n) && decide (IsLine n (natsOf l))
  | _ => false
def rowOf (x : Value) : List Nat := natsOf (listOf x)
theorem lineB_is {n : Nat} {x : Value} (h : lineB n x = true) : ∃ l, x = .list l ∧ l.length = n ∧ l.all (belowB n) = true ∧ IsLine n (rowOf x) := by
  cases x with
  | list l =>
    have h2 : (decide (l.length = n) && l.all (belowB n) && decide (IsLine n (natsOf l))) = true := h
    simp only [Bool.and_eq_true, decide_eq_true_eq] at h2
    exact ⟨l, rfl, h2.1.1, h2.1.2, h2.2⟩
  | _ => cases h
theorem line_is_some (p : R7245g.Spec.Poset) (x : Value) (hx : ∀ u, x ≠ .octets u) : R7245g.Spec.orderOfPlain p (Rust.taken x) = if lineB p.size x then some (rowOf x) else none := by
  cases x with
  | list l =>
    rw [taken_list]
    unfold R7245g.Spec.orderOfPlain
    show (R7245g.Spec.allSome ((l.map Rust.taken).map (R7245g.Spec.natBelow p.size))).bind _ = if (decide (l.length = p.size) && l.all (belowB p.size) && decide (IsLine p.size (natsOf l))) = true then some (natsOf l) else none
    rw [nats_is]
    cases c : l.all (belowB p.size) with
    | false => simp
    | true =>
      have lt := nats_lt c
      have q := line_iff lt
      rw [nats_len] at q
      simp only [if_true, Option.bind_some, Bool.and_true]
      by_cases d : l.length = p.size ∧ (natsOf l).Nodup
      · have d2 := q.mp d
        rw [if_pos (by rw [nats_len, Bool.and_eq_true, beq_iff_eq, distinct_iff]; exact d), if_pos (by simp [d.1, d2])]
      · have d2 : ¬ IsLine p.size (natsOf l) := fun z => d (q.mpr z)
        rw [if_neg (by rw [nats_len, Bool.and_eq_true, beq_iff_eq, distinct_iff]; exact d), if_neg (by simp [d2])]
  | octets u => exact absurd rfl (hx u)
  | _ => rfl
def linesB (n : Nat) (x : Value) : Bool := match x with
  | .list l => decide (l.length ≤ 8) && l.all (lineB n)
  | _ => false
def rowsOf (x : Value) : List (List Nat) := (listOf x).map rowOf
theorem lines_is (p : R7245g.Spec.Poset) (x : Value) (hx : ∀ u, x ≠ .octets u) (hl : ∀ y ∈ listOf x, ∀ u, y ≠ .octets u) : R7245g.Spec.ordersArg p (Rust.taken x) = if linesB p.size x then .ok (rowsOf x) else .error R7245g.Spec.ordersErr := by
  cases x with
  | list l =>
    rw [taken_list]
    unfold R7245g.Spec.ordersArg
    have e : R7245g.Spec.allSome ((l.map Rust.taken).map (R7245g.Spec.orderOfPlain p)) = if l.all (lineB p.size) then some (l.map rowOf) else none := by
      rw [List.map_map]
      have e1 := allSome_is (fun x => R7245g.Spec.orderOfPlain p (Rust.taken x)) rowOf l fun y hy z h => by
        rw [line_is_some p y (hl y hy)] at h
        split at h
        · exact (Option.some.inj h).symm
        · cases h
      have e2 : l.all (fun x => (R7245g.Spec.orderOfPlain p (Rust.taken x)).isSome) = l.all (lineB p.size) := by
        apply Bool.eq_iff_iff.mpr
        rw [List.all_eq_true, List.all_eq_true]
        constructor
        · intro q y hy
          have := q y hy
          rw [line_is_some p y (hl y hy)] at this
          by_cases c : lineB p.size y = true
          · exact c
          · rw [if_neg c] at this; cases this
        · intro q y hy
          rw [line_is_some p y (hl y hy), if_pos (q y hy)]
          rfl
      rw [e2] at e1
      exact e1
    simp only [List.length_map]
    rw [e]
    unfold R7245g.Spec.maxOrders
    show _ = if (decide (l.length ≤ 8) && l.all (lineB p.size)) = true then Except.ok (l.map rowOf) else Except.error R7245g.Spec.ordersErr
    by_cases c : l.length ≤ 8
    · rw [if_pos c, decide_eq_true c]
      cases l.all (lineB p.size) <;> rfl
    · rw [if_neg c, decide_eq_false c]
      rfl
  | octets u => exact absurd rfl (hx u)
  | _ => rfl
/-! ascending whole numbers -/
theorem le_uniq : ∀ {l m : List Int}, l.Pairwise (· ≤ ·) → m.Pairwise (· ≤ ·) → l.Perm m → l = m
  | [], m, _, _, h => (List.Perm.eq_nil h.symm).symm
  | x :: l, [], _, _, h => absurd h.length_eq (by simp)
  | x :: l, y :: m, hl, hm, h => by
    have l1 := List.pairwise_cons.mp hl
    have m1 := List.pairwise_cons.mp hm
    have e : x = y := by
      have q1 : x ∈ y :: m := h.mem_iff.mp (List.mem_cons_self ..)
      have q2 : y ∈ x :: l := h.mem_iff.mpr (List.mem_cons_self ..)
      rcases List.mem_cons.mp q1 with z | z
      · exact z
      · rcases List.mem_cons.mp q2 with w | w
        · exact w.symm
        · have a1 := m1.1 x z
          have a2 := l1.1 y w
          omega
    subst e
    rw [le_uniq l1.2 m1.2 h.cons_inv]
def castI (l : List Nat) : List Int := l.map fun (n : Nat) => (n : Int)
theorem cast_inj {a b : List Nat} (h : castI a = castI b) : a = b := by
  have q := congrArg (List.map Int.toNat) h
  unfold castI at q
  rw [List.map_map, List.map_map] at q
  have e : (Int.toNat ∘ fun (n : Nat) => (n : Int)) = id := funext fun n => Int.toNat_natCast n
  rw [e, List.map_id, List.map_id] at q
  exact q
theorem sorted_line {n : Nat} {l : List Nat} {ns : List Int} (hp : ns.Perm (castI l)) (hs : ns.Pairwise (· ≤ ·)) : ns = castI (List.range n) ↔ IsLine n l := by
  constructor
  · intro e
    rw [e] at hp
    have q := hp.map Int.toNat
    unfold castI at q
    rw [List.map_map, List.map_map] at q
    have e : (Int.toNat ∘ fun (n : Nat) => (n : Int)) = id := funext fun n => Int.toNat_natCast n
    rw [e, List.map_id, List.map_id] at q
    exact q.symm
  · intro h
    refine le_uniq hs ?_ (hp.trans (h.map _))
    unfold castI
    exact List.pairwise_map.mpr (List.pairwise_lt_range.imp fun h => by omega)
end Pu
end PartPu6
section PartPu7
set_option linter.all false
namespace Pu
open RWire
/-! ### reading -/
def castB (b : Octets) : List Int := b.map fun u => (u.toNat : Int)
/-- from the place i on stand the octets b of the request, then rest -/
structure At (ns rest : List Int) (i : Nat) (b : Octets) : Prop where
  len : i + b.length + rest.length = ns.length
  eq : ns.drop i = castB b ++ rest
theorem castB_len (b : Octets) : (castB b).length = b.length := by simp [castB]
theorem At.drop {ns rest : List Int} {i : Nat} {b : Octets} (h : At ns rest i b) {k : Nat} (hk : k ≤ b.length) : At ns rest (i + k) (b.drop k) := by
  refine ⟨?_, ?_⟩
  · have := h.len
    rw [List.length_drop]
    omega
  · rw [← List.drop_drop, h.eq, List.drop_append_of_le_length (by rw [castB_len]; exact hk)]
    unfold castB
    rw [List.map_drop]
theorem At.get {ns rest : List Int} {i : Nat} {b : Octets} (h : At ns rest i b) {k : Nat} {u : UInt8} (hk : b[k]? = some u) : ns[i + k]? = some (u.toNat : Int) := by
  have e : (ns.drop i)[k]? = ns[i + k]? := List.getElem?_drop
  rw [← e, h.eq, List.getElem?_append_left (by rw [castB_len]; exact (List.getElem?_eq_some_iff.mp hk).1)]
  unfold castB
  rw [List.getElem?_map, hk]
  rfl
theorem At.cons {ns rest : List Int} {i : Nat} {u : UInt8} {b : Octets} (h : At ns rest i (u :: b)) : At ns rest (i + 1) b := h.drop (k := 1) (by simp)
theorem front_is : ∀ (k : Nat) (b : Octets), front k b = if k ≤ b.length then some (b.take k, b.drop k) else none
  | 0, b => by simp [front]
  | k + 1, [] => by simp [front]
  | k + 1, a :: r => by
    unfold front
    rw [front_is k r]
    by_cases c : k ≤ r.length
    · rw [if_pos c, if_pos (by simpa using c)]
      rfl
    · rw [if_neg c, if_neg (by simpa using c)]
theorem front_some {k : Nat} {b x y : Octets} (h : front k b = some (x, y)) : k ≤ b.length ∧ x = b.take k ∧ y = b.drop k := by
  rw [front_is] at h
  split at h
  · rename_i c
    cases h
    exact ⟨c, rfl, rfl⟩
  · cases h
theorem num_some {k n : Nat} {b y : Octets} (h : readNum k b = some (n, y)) : k ≤ b.length ∧ n = numOf (b.take k) ∧ y = b.drop k := by
  unfold readNum at h
  cases c : front k b with
  | none => rw [c] at h; cases h
  | some p =>
    rw [c] at h
    obtain ⟨x, z⟩ := p
    cases h
    obtain ⟨h1, h2, h3⟩ := front_some c
    exact ⟨h1, by rw [h2], h3⟩
theorem numOf_snoc : ∀ (l : Octets) (x : UInt8), numOf (l ++ [x]) = numOf l + x.toNat * 256 ^ l.length
  | [], x => by simp [numOf]
  | a :: l, x => by
    show a.toNat + 256 * numOf (l ++ [x]) = (a.toNat + 256 * numOf l) + x.toNat * 256 ^ (l.length + 1)
    rw [numOf_snoc l x, Nat.pow_succ, Nat.mul_add]
    have e : 256 * (x.toNat * 256 ^ l.length) = x.toNat * (256 ^ l.length * 256) := by
      rw [Nat.mul_comm 256, Nat.mul_assoc]
    omega
theorem numOf_lt : ∀ l : Octets, numOf l < 256 ^ l.length
  | [] => by simp [numOf]
  | a :: l => by
    show a.toNat + 256 * numOf l < 256 ^ (l.length + 1)
    have := numOf_lt l
    have h1 := a.toNat_lt
    rw [Nat.pow_succ]
    omega
theorem text_some {b u y : Octets} (h : readText b = some (u, y)) : 4 ≤ b.length ∧ numOf (b.take 4) ≤ (b.drop 4).length ∧ y = (b.drop 4).drop (numOf (b.take 4)) := by
  unfold readText at h
  cases c : readNum 4 b with
  | none => rw [c] at h; cases h
  | some p =>
    rw [c] at h
    obtain ⟨n, z⟩ := p
    obtain ⟨h1, h2, h3⟩ := num_some c
    subst h2 h3
    obtain ⟨h4, _, h6⟩ := front_some h
    exact ⟨h1, h4, h6⟩
theorem many_len {α : Type} {f : Octets → Option (α × Octets)} (hf : ∀ b x b', f b = some (x, b') → b'.length < b.length) : ∀ (n : Nat) (b : Octets) (l : List α) (b' : Octets), readMany f n b = some (l, b') → l.length = n ∧ n + b'.length ≤ b.length
  | 0, b, l, b', h => by
    cases h
    exact ⟨rfl, by omega⟩
  | n + 1, b, l, b', h => by
    unfold readMany at h
    cases c : f b with
    | none => rw [c] at h; cases h
    | some p =>
      rw [c] at h
      obtain ⟨x, y⟩ := p
      simp only at h
      cases d : readMany f n y with
      | none => rw [d] at h; cases h
      | some q =>
        rw [d] at h
        obtain ⟨l2, y2⟩ := q
        cases h
        obtain ⟨e1, e2⟩ := many_len hf n y l2 y2 d
        have := hf b x y c
        refine ⟨by simp [e1], ?_⟩
        show n + 1 + y2.length ≤ b.length
        omega
theorem many_step {α : Type} {f : Octets → Option (α × Octets)} {n : Nat} {b b' : Octets} {l : List α} (h : readMany f (n + 1) b = some (l, b')) : ∃ x y l2, f b = some (x, y) ∧ readMany f n y = some (l2, b') ∧ l = x :: l2 := by
  unfold readMany at h
  cases c : f b with
  | none => rw [c] at h; cases h
  | some p =>
    rw [c] at h
    obtain ⟨x, y⟩ := p
    simp only at h
    cases d : readMany f n y with
    | none => rw [d] at h; cases h
    | some q =>
      rw [d] at h
      obtain ⟨l2, y2⟩ := q
      cases h
      exact ⟨x, y, l2, rfl, d, rfl⟩
theorem int_some {b y : Octets} {x : Value} (h : readInt b = some (x, y)) : 8 ≤ b.length ∧ x = .int (intOf (numOf (b.take 8))) ∧ y = b.drop 8 := by
  unfold readInt at h
  cases c : readNum 8 b with
  | none => rw [c] at h; cases h
  | some p =>
    rw [c] at h
    obtain ⟨n, z⟩ := p
    obtain ⟨h1, h2, h3⟩ := num_some c
    subst h2 h3
    simp only at h
    split at h
    · cases h
      exact ⟨h1, rfl, rfl⟩
    · cases h
theorem big_some {s : UInt8} {r y : Octets} {x : Value} (h : readBig (s :: r) = some (x, y)) : 4 ≤ r.length ∧ numOf (r.take 4) ≤ (r.drop 4).length ∧ y = (r.drop 4).drop (numOf (r.take 4)) ∧
    x = .big (if s.toNat = 1 then -(numOf ((r.drop 4).take (numOf (r.take 4))) : Int) else (numOf ((r.drop 4).take (numOf (r.take 4))) : Int)) := by
  unfold readBig at h
  simp only at h
  cases c : readNum 4 r with
  | none => rw [c] at h; cases h
  | some p =>
    rw [c] at h
    obtain ⟨n, z⟩ := p
    obtain ⟨h1, h2, h3⟩ := num_some c
    subst h2 h3
    simp only at h
    cases d : front (numOf (r.take 4)) (r.drop 4) with
    | none => rw [d] at h; cases h
    | some q =>
      rw [d] at h
      obtain ⟨m, w⟩ := q
      obtain ⟨h4, h5, h6⟩ := front_some d
      subst h5 h6
      simp only at h
      cases e : bigOf s ((r.drop 4).take (numOf (r.take 4))) with
      | none => rw [e] at h; cases h
      | some i =>
        rw [e] at h
        cases h
        refine ⟨h1, h4, rfl, congrArg Value.big ?_⟩
        unfold bigOf at e
        split at e
        · cases e
        · split at e
          · rename_i e0
            have e1 : s = 0 := by simpa using e0
            subst e1
            cases e
            rw [if_neg (by decide)]
            rfl
          · split at e
            · rename_i e0
              have e1 : s = 1 := by
                simp only [Bool.and_eq_true, beq_iff_eq] at e0
                exact e0.1
              subst e1
              cases e
              rw [if_pos (by decide)]
              rfl
            · cases e
theorem big_len {s : UInt8} {r y : Octets} {x : Value} (h : readBig (s :: r) = some (x, y)) : y.length < (s :: r).length := by
  obtain ⟨h1, h2, h3, _⟩ := big_some h
  rw [h3, List.length_drop, List.length_drop, List.length_cons]
  omega
theorem list_some {f : Octets → Option (Value × Octets)} {b y : Octets} {x : Value} (h : readList f b = some (x, y)) : ∃ l, x = .list l ∧ 4 ≤ b.length ∧ readMany f (numOf (b.take 4)) (b.drop 4) = some (l, y) := by
  unfold readList at h
  cases c : readNum 4 b with
  | none => rw [c] at h; cases h
  | some p =>
    rw [c] at h
    obtain ⟨n, z⟩ := p
    obtain ⟨h1, h2, h3⟩ := num_some c
    subst h2 h3
    simp only at h
    cases d : readMany f (numOf (b.take 4)) (b.drop 4) with
    | none => rw [d] at h; cases h
    | some q =>
      rw [d] at h
      obtain ⟨l, w⟩ := q
      cases h
      exact ⟨l, rfl, h1, rfl⟩
theorem record_some {f : Octets → Option (Value × Octets)} {b y : Octets} {x : Value} (h : readRecord f b = some (x, y)) : ∃ l, x = .record l ∧ 4 ≤ b.length ∧ readMany (readEntry f) (numOf (b.take 4)) (b.drop 4) = some (l, y) := by
  unfold readRecord at h
  cases c : readNum 4 b with
  | none => rw [c] at h; cases h
  | some p =>
    rw [c] at h
    obtain ⟨n, z⟩ := p
    obtain ⟨h1, h2, h3⟩ := num_some c
    subst h2 h3
    simp only at h
    cases d : readMany (readEntry f) (numOf (b.take 4)) (b.drop 4) with
    | none => rw [d] at h; cases h
    | some q =>
      rw [d] at h
      obtain ⟨l, w⟩ := q
      simp only at h
      split at h
      · cases h
        exact ⟨l, rfl, h1, rfl⟩
      · cases h
theorem entry_some {f : Octets → Option (Value × Octets)} {b y : Octets} {x : Text × Value} (h : readEntry f b = some (x, y)) : ∃ z, readText b = some (x.1, z) ∧ f z = some (x.2, y) := by
  unfold readEntry at h
  cases c : readText b with
  | none => rw [c] at h; cases h
  | some p =>
    rw [c] at h
    obtain ⟨u, z⟩ := p
    simp only at h
    cases d : f z with
    | none => rw [d] at h; cases h
    | some q =>
      rw [d] at h
      obtain ⟨v, w⟩ := q
      cases h
      exact ⟨z, rfl, d⟩
theorem text_len {b u y : Octets} (h : readText b = some (u, y)) : y.length < b.length := by
  obtain ⟨h1, h2, h3⟩ := text_some h
  rw [h3, List.length_drop, List.length_drop]
  omega
theorem entry_len {f : Octets → Option (Value × Octets)} (hf : ∀ b x b', f b = some (x, b') → b'.length < b.length) : ∀ b x b', readEntry f b = some (x, b') → b'.length < b.length := by
  intro b x b' h
  obtain ⟨z, h1, h2⟩ := entry_some h
  have := text_len h1
  have := hf _ _ _ h2
  omega
theorem signs_len : ∀ (n : Nat) (b : Octets) (l : List UInt16) (y : Octets), readSigns n b = some (l, y) → y.length ≤ b.length
  | 0, b, l, y, h => by
    cases h
    exact Nat.le_refl _
  | n + 1, [], l, y, h => by cases h
  | n + 1, [a], l, y, h => by cases h
  | n + 1, a :: c :: r, l, y, h => by
    unfold readSigns at h
    cases d : readSigns n r with
    | none => rw [d] at h; cases h
    | some p =>
      rw [d] at h
      obtain ⟨l2, z⟩ := p
      cases h
      have := signs_len n r _ _ d
      simp only [List.length_cons]
      omega
theorem kind_len {f : Octets → Option (Value × Octets)} (hf : ∀ b x b', f b = some (x, b') → b'.length < b.length) {k : Nat} {r y : Octets} {x : Value} (h : readKind f k r = some (x, y)) : y.length ≤ r.length := by
  unfold readKind at h
  split at h
  · cases h; exact Nat.le_refl _
  · cases h; exact Nat.le_refl _
  · cases h; exact Nat.le_refl _
  · cases h; exact Nat.le_refl _
  · obtain ⟨_, _, h3⟩ := int_some h
    rw [h3, List.length_drop]
    omega
  · cases r with
    | nil => cases h
    | cons s r => exact Nat.le_of_lt (big_len h)
  · unfold readWords at h
    cases c : readText r with
    | none => rw [c] at h; cases h
    | some p =>
      rw [c] at h
      obtain ⟨u, z⟩ := p
      cases h
      exact Nat.le_of_lt (text_len c)
  · obtain ⟨l, _, h2, h3⟩ := list_some h
    have := (many_len hf _ _ _ _ h3).2
    rw [List.length_drop] at this
    omega
  · obtain ⟨l, _, h2, h3⟩ := record_some h
    have := (many_len (entry_len hf) _ _ _ _ h3).2
    rw [List.length_drop] at this
    omega
  · unfold readOctets at h
    cases c : readText r with
    | none => rw [c] at h; cases h
    | some p =>
      rw [c] at h
      obtain ⟨u, z⟩ := p
      cases h
      exact Nat.le_of_lt (text_len c)
  · unfold readWide at h
    cases c : readNum 4 r with
    | none => rw [c] at h; cases h
    | some p =>
      rw [c] at h
      obtain ⟨n, z⟩ := p
      obtain ⟨_, _, h3⟩ := num_some c
      simp only at h
      cases d : readSigns n z with
      | none => rw [d] at h; cases h
      | some q =>
        rw [d] at h
        obtain ⟨l, w⟩ := q
        simp only at h
        split at h
        · cases h
          have := signs_len _ _ _ _ d
          rw [h3, List.length_drop] at this
          omega
        · cases h
  · cases h
theorem readF_len : ∀ (n : Nat) (b : Octets) (x : Value) (y : Octets), readF n b = some (x, y) → y.length < b.length
  | 0, b, x, y, h => by cases h
  | n + 1, [], x, y, h => by cases h
  | n + 1, k :: r, x, y, h => by
    have := kind_len (readF_len n) (k := k.toNat) (r := r) h
    simp only [List.length_cons]
    omega
/-- the kinds that a request may have -/
inductive KindCase (f : Octets → Option (Value × Octets)) (k : Nat) (r : Octets) (x : Value) (y : Octets) : Prop where
  | plain (e : y = r) (h : (k = 0 ∧ x = .nothing) ∨ (k = 1 ∧ x = .null) ∨ (k = 2 ∧ x = .bool false) ∨ (k = 3 ∧ x = .bool true))
  | int (e : k = 4) (h : readInt r = some (x, y))
  | big (e : k = 5) (h : readBig r = some (x, y))
  | text (e : k = 6) (u : Text) (h : readText r = some (u, y)) (hx : x = .text u)
  | list (e : k = 7) (h : readList f r = some (x, y))
  | record (e : k = 8) (h : readRecord f r = some (x, y))
theorem kind_cases {f : Octets → Option (Value × Octets)} {k : Nat} {r y : Octets} {x : Value} (h : readKind f k r = some (x, y)) (ho : noOctets x = true) (hw : noWide x = true) : KindCase f k r x y := by
  unfold readKind at h
  split at h
  · cases h; exact .plain rfl (.inl ⟨rfl, rfl⟩)
  · cases h; exact .plain rfl (.inr (.inl ⟨rfl, rfl⟩))
  · cases h; exact .plain rfl (.inr (.inr (.inl ⟨rfl, rfl⟩)))
  · cases h; exact .plain rfl (.inr (.inr (.inr ⟨rfl, rfl⟩)))
  · exact .int rfl h
  · exact .big rfl h
  · unfold readWords at h
    cases c : readText r with
    | none => rw [c] at h; cases h
    | some p =>
      rw [c] at h
      obtain ⟨u, z⟩ := p
      cases h
      exact .text rfl u c rfl
  · exact .list rfl h
  · exact .record rfl h
  · unfold readOctets at h
    cases c : readText r with
    | none => rw [c] at h; cases h
    | some p =>
      rw [c] at h
      obtain ⟨u, z⟩ := p
      cases h
      simp [noOctets] at ho
  · unfold readWide at h
    cases c : readNum 4 r with
    | none => rw [c] at h; cases h
    | some p =>
      rw [c] at h
      obtain ⟨n, z⟩ := p
      simp only at h
      cases d : readSigns n z with
      | none => rw [d] at h; cases h
      | some q =>
        rw [d] at h
        obtain ⟨l, w⟩ := q
        simp only at h
        split at h
        · cases h
          simp [noWide] at hw
        · cases h
  · cases h
theorem noO_mem : ∀ {l : List Value} {x : Value}, noOctetsMany l = true → x ∈ l → noOctets x = true
  | y :: l, x, h, m => by
    unfold noOctetsMany at h
    rw [Bool.and_eq_true] at h
    rcases List.mem_cons.mp m with rfl | m
    · exact h.1
    · exact noO_mem h.2 m
theorem noW_mem : ∀ {l : List Value} {x : Value}, noWideMany l = true → x ∈ l → noWide x = true
  | y :: l, x, h, m => by
    unfold noWideMany at h
    rw [Bool.and_eq_true] at h
    rcases List.mem_cons.mp m with rfl | m
    · exact h.1
    · exact noW_mem h.2 m
theorem noO_ent : ∀ {l : List (Text × Value)} {x : Text × Value}, noOctetsEntries l = true → x ∈ l → noOctets x.2 = true
  | y :: l, x, h, m => by
    unfold noOctetsEntries at h
    rw [Bool.and_eq_true] at h
    rcases List.mem_cons.mp m with rfl | m
    · exact h.1
    · exact noO_ent h.2 m
theorem noW_ent : ∀ {l : List (Text × Value)} {x : Text × Value}, noWideEntries l = true → x ∈ l → noWide x.2 = true
  | y :: l, x, h, m => by
    unfold noWideEntries at h
    rw [Bool.and_eq_true] at h
    rcases List.mem_cons.mp m with rfl | m
    · exact h.1
    · exact noW_ent h.2 m
/-- one turn of a reading of many things -/
theorem many_turn {α : Type} {f : Octets → Option (α × Octets)} {n k : Nat} {b y : Octets} {l : List α} (hk : k < n) (h : readMany f (n - k) b = some (l.drop k, y)) : ∃ x b2, f b = some (x, b2) ∧ readMany f (n - (k + 1)) b2 = some (l.drop (k + 1), y) ∧ l[k]? = some x := by
  have e : n - k = (n - (k + 1)) + 1 := by omega
  rw [e] at h
  obtain ⟨x, b2, l2, h1, h2, h3⟩ := many_step h
  have e2 : l.drop (k + 1) = l2 := by
    rw [← List.drop_drop, h3]
    rfl
  refine ⟨x, b2, h1, by rw [e2]; exact h2, ?_⟩
  have q := List.getElem?_drop (xs := l) (i := k) (j := 0)
  rw [h3] at q
  simpa using q.symm
end Pu
end PartPu7
section PartPu8
set_option linter.all false
namespace Pu
open RWire R7245g.Spec
/-! ### doors and their arguments -/
def arg (l : List Value) (i : Nat) : Value := l.getD i .nothing
theorem argAt_is (l : List Value) (i : Nat) : Rust.argAt (Rust.takenAll l) i = Rust.taken (arg l i) := by
  unfold Rust.argAt arg
  rw [takenAll_map, List.getD_eq_getElem?_getD, List.getD_eq_getElem?_getD, List.getElem?_map]
  cases l[i]? <;> rfl
theorem slot_is {l : List Value} {i last s : Nat} (h : Rust.slotAt (Rust.takenAll l) i last = some s) : arg l i = .int (s : Int) ∧ s ≤ last := by
  unfold Rust.slotAt at h
  rw [argAt_is] at h
  cases c : arg l i with
  | int k =>
    rw [c] at h
    have h2 : (if decide (0 ≤ k) && Nat.ble k.toNat last then some k.toNat else none) = some s := h
    split at h2
    · rename_i d
      simp only [Bool.and_eq_true, decide_eq_true_eq, Nat.ble_eq] at d
      cases h2
      exact ⟨congrArg Value.int (by omega), d.2⟩
    · cases h2
  | _ => rw [c] at h; cases h
theorem taking_is {n : Nat} {l : List Plain} {c : Option Call} {x : Call} (h : Rust.taking n l c = some x) : c = some x := by
  unfold Rust.taking at h
  split at h
  · exact h
  · cases h
theorem slot_bind {l : List Value} {i last : Nat} {f : Nat → Option Call} {c : Call} (h : (Rust.slotAt (Rust.takenAll l) i last).bind f = some c) : ∃ s : Nat, arg l i = .int (s : Int) ∧ s ≤ last ∧ f s = some c := by
  cases d : Rust.slotAt (Rust.takenAll l) i last with
  | none => rw [d] at h; cases h
  | some s =>
    rw [d] at h
    obtain ⟨h1, h2⟩ := slot_is d
    exact ⟨s, h1, h2, h⟩
section
variable {l : List Value} {c : Call}
theorem call_one {d n last : Nat} {mk : Nat → Call} (h : Rust.callOf d (Rust.takenAll l) = some c) (e : Rust.callOf d (Rust.takenAll l) = Rust.taking n (Rust.takenAll l) ((Rust.slotAt (Rust.takenAll l) 0 last).bind fun s0 => some (mk s0))) : ∃ s : Nat, arg l 0 = .int (s : Int) ∧ s ≤ last ∧ c = mk s := by
  rw [e] at h
  obtain ⟨s, h1, h2, h3⟩ := slot_bind (taking_is h)
  cases h3
  exact ⟨s, h1, h2, rfl⟩
theorem call_two {d n la lb : Nat} {mk : Nat → Nat → Call} (h : Rust.callOf d (Rust.takenAll l) = some c) (e : Rust.callOf d (Rust.takenAll l) = Rust.taking n (Rust.takenAll l) ((Rust.slotAt (Rust.takenAll l) 0 la).bind fun s0 => (Rust.slotAt (Rust.takenAll l) 1 lb).bind fun s1 => some (mk s0 s1))) :
    ∃ s t : Nat, arg l 0 = .int (s : Int) ∧ s ≤ la ∧ arg l 1 = .int (t : Int) ∧ t ≤ lb ∧ c = mk s t := by
  rw [e] at h
  obtain ⟨s, h1, h2, h3⟩ := slot_bind (taking_is h)
  obtain ⟨t, h4, h5, h6⟩ := slot_bind h3
  cases h6
  exact ⟨s, t, h1, h2, h4, h5, rfl⟩
theorem call0 (h : Rust.callOf 0 (Rust.takenAll l) = some c) : ∃ s : Nat, arg l 0 = .int (s : Int) ∧ s ≤ 2 ∧ c = .posetNew s (Rust.taken (arg l 1)) (Rust.taken (arg l 2)) := by
  rw [← argAt_is, ← argAt_is]
  exact call_one (mk := fun s => .posetNew s (Rust.argAt (Rust.takenAll l) 1) (Rust.argAt (Rust.takenAll l) 2)) h rfl
theorem call1 (h : Rust.callOf 1 (Rust.takenAll l) = some c) : ∃ s t : Nat, arg l 0 = .int (s : Int) ∧ s ≤ 2 ∧ arg l 1 = .int (t : Int) ∧ t ≤ 2 ∧ c = .posetRestrict s t (Rust.taken (arg l 2)) := by
  rw [← argAt_is]
  exact call_two (mk := fun s t => .posetRestrict s t (Rust.argAt (Rust.takenAll l) 2)) h rfl
theorem call2 (h : Rust.callOf 2 (Rust.takenAll l) = some c) : ∃ s : Nat, arg l 0 = .int (s : Int) ∧ s ≤ 2 ∧ c = .posetRelation s := call_one (mk := .posetRelation) h rfl
theorem call3 (h : Rust.callOf 3 (Rust.takenAll l) = some c) : ∃ s : Nat, arg l 0 = .int (s : Int) ∧ s ≤ 2 ∧ c = .posetUpper s (Rust.taken (arg l 1)) := by
  rw [← argAt_is]
  exact call_one (mk := fun s => .posetUpper s (Rust.argAt (Rust.takenAll l) 1)) h rfl
theorem call4 (h : Rust.callOf 4 (Rust.takenAll l) = some c) : ∃ s : Nat, arg l 0 = .int (s : Int) ∧ s ≤ 2 ∧ c = .posetLower s (Rust.taken (arg l 1)) := by
  rw [← argAt_is]
  exact call_one (mk := fun s => .posetLower s (Rust.argAt (Rust.takenAll l) 1)) h rfl
theorem call5 (h : Rust.callOf 5 (Rust.takenAll l) = some c) : ∃ s : Nat, arg l 0 = .int (s : Int) ∧ s ≤ 2 ∧ c = .posetSupremum s (Rust.taken (arg l 1)) := by
  rw [← argAt_is]
  exact call_one (mk := fun s => .posetSupremum s (Rust.argAt (Rust.takenAll l) 1)) h rfl
theorem call6 (h : Rust.callOf 6 (Rust.takenAll l) = some c) : ∃ s : Nat, arg l 0 = .int (s : Int) ∧ s ≤ 2 ∧ c = .posetInfimum s (Rust.taken (arg l 1)) := by
  rw [← argAt_is]
  exact call_one (mk := fun s => .posetInfimum s (Rust.argAt (Rust.takenAll l) 1)) h rfl
theorem call7 (h : Rust.callOf 7 (Rust.takenAll l) = some c) : ∃ s : Nat, arg l 0 = .int (s : Int) ∧ s ≤ 2 ∧ c = .posetIrreducibles s := call_one (mk := .posetIrreducibles) h rfl
theorem call8 (h : Rust.callOf 8 (Rust.takenAll l) = some c) : ∃ s t : Nat, arg l 0 = .int (s : Int) ∧ s ≤ 2 ∧ arg l 1 = .int (t : Int) ∧ t ≤ 2 ∧ c = .posetAdjoint s t (Rust.taken (arg l 2)) := by
  rw [← argAt_is]
  exact call_two (mk := fun s t => .posetAdjoint s t (Rust.argAt (Rust.takenAll l) 2)) h rfl
theorem call9 (h : Rust.callOf 9 (Rust.takenAll l) = some c) : ∃ s : Nat, arg l 0 = .int (s : Int) ∧ s ≤ 2 ∧ c = .posetConflict s (Rust.taken (arg l 1)) := by
  rw [← argAt_is]
  exact call_one (mk := fun s => .posetConflict s (Rust.argAt (Rust.takenAll l) 1)) h rfl
theorem call10 (h : Rust.callOf 10 (Rust.takenAll l) = some c) : ∃ s t : Nat, arg l 0 = .int (s : Int) ∧ s ≤ 1 ∧ arg l 1 = .int (t : Int) ∧ t ≤ 2 ∧ c = .completionNew s t := call_two (mk := .completionNew) h rfl
theorem call11 (h : Rust.callOf 11 (Rust.takenAll l) = some c) : ∃ s : Nat, arg l 0 = .int (s : Int) ∧ s ≤ 1 ∧ c = .completionCuts s := call_one (mk := .completionCuts) h rfl
theorem call12 (h : Rust.callOf 12 (Rust.takenAll l) = some c) : ∃ s : Nat, arg l 0 = .int (s : Int) ∧ s ≤ 1 ∧ c = .completionClosure s (Rust.taken (arg l 1)) := by
  rw [← argAt_is]
  exact call_one (mk := fun s => .completionClosure s (Rust.argAt (Rust.takenAll l) 1)) h rfl
theorem call13 (h : Rust.callOf 13 (Rust.takenAll l) = some c) : ∃ s : Nat, arg l 0 = .int (s : Int) ∧ s ≤ 1 ∧ c = .completionJoin s (Rust.taken (arg l 1)) := by
  rw [← argAt_is]
  exact call_one (mk := fun s => .completionJoin s (Rust.argAt (Rust.takenAll l) 1)) h rfl
theorem call14 (h : Rust.callOf 14 (Rust.takenAll l) = some c) : ∃ s : Nat, arg l 0 = .int (s : Int) ∧ s ≤ 1 ∧ c = .completionMeet s (Rust.taken (arg l 1)) := by
  rw [← argAt_is]
  exact call_one (mk := fun s => .completionMeet s (Rust.argAt (Rust.takenAll l) 1)) h rfl
theorem call15 (h : Rust.callOf 15 (Rust.takenAll l) = some c) : ∃ s t : Nat, arg l 0 = .int (s : Int) ∧ s ≤ 1 ∧ arg l 1 = .int (t : Int) ∧ t ≤ 1 ∧ c = .completionExtend s t (Rust.taken (arg l 2)) := by
  rw [← argAt_is]
  exact call_two (mk := fun s t => .completionExtend s t (Rust.argAt (Rust.takenAll l) 2)) h rfl
theorem call16 (h : Rust.callOf 16 (Rust.takenAll l) = some c) : ∃ s : Nat, arg l 0 = .int (s : Int) ∧ s ≤ 1 ∧ c = .completionOrders s (Rust.taken (arg l 1)) := by
  rw [← argAt_is]
  exact call_one (mk := fun s => .completionOrders s (Rust.argAt (Rust.takenAll l) 1)) h rfl
theorem call_small {d : Nat} {L : List Plain} (h : Rust.callOf d L = some c) : d < 17 := by
  rcases Nat.lt_or_ge d 17 with k | k
  · exact k
  · unfold Rust.callOf at h
    rcases Nat.lt_or_ge d 32 with q | q
    · have e : d / 16 = 1 := by omega
      rw [e] at h
      have h2 : Rust.calls1 d L = some c := h
      unfold Rust.calls1 at h2
      split at h2
      · omega
      · cases h2
    · split at h
      · omega
      · omega
      · cases h
end
theorem has_poset {w : World} {s : Nat} (h : hasPoset w s = true) : ∃ p, posetAt w s = some p ∧ s < 3 := by
  unfold hasPoset at h
  simp only [Bool.and_eq_true, decide_eq_true_eq] at h
  cases c : posetAt w s with
  | none => rw [c] at h; cases h.2
  | some p => exact ⟨p, rfl, h.1⟩
theorem has_completion {w : World} {s : Nat} (h : hasCompletion w s = true) : ∃ p, completionAt w s = some p ∧ s < 2 := by
  unfold hasCompletion at h
  simp only [Bool.and_eq_true, decide_eq_true_eq] at h
  cases c : completionAt w s with
  | none => rw [c] at h; cases h.2
  | some p => exact ⟨p, rfl, h.1⟩
theorem poset_set {w : World} {p : Poset} {s i : Nat} (hs : s < w.posets.length) : posetAt { w with posets := w.posets.set s (some p) } i = if s = i then some p else posetAt w i := by
  unfold posetAt
  simp only
  rw [List.getD_eq_getElem?_getD, List.getElem?_set, List.getD_eq_getElem?_getD]
  by_cases c : s = i
  · subst c
    rw [if_pos rfl, if_pos rfl, if_pos hs]
    rfl
  · rw [if_neg c, if_neg c]
theorem completion_set {w : World} {p : Poset} {s i : Nat} (hs : s < w.completions.length) : completionAt { w with completions := w.completions.set s (some p) } i = if s = i then some p else completionAt w i := by
  unfold completionAt
  simp only
  rw [List.getD_eq_getElem?_getD, List.getElem?_set, List.getD_eq_getElem?_getD]
  by_cases c : s = i
  · subst c
    rw [if_pos rfl, if_pos rfl, if_pos hs]
    rfl
  · rw [if_neg c, if_neg c]
/-! ### a set, the size -/
theorem set_big (p : Poset) (x : Value) : setArg p (Rust.taken x) = match x with
  | .big i => .ok (i % (2 ^ p.size : Int)).toNat
  | _ => .error (typeErr "set must be a great integer") := by
  cases x <;> rfl
theorem size_is (x : Value) : sizeArg (Rust.taken x) = if wholeB x 1 10 then .ok (natOf x) else .error (typeErr "size must be an integer from 1 to 10") := by
  have e : natBelow 11 (Rust.taken x) = nb 11 x := rfl
  unfold sizeArg maxElements
  rw [e]
  cases x with
  | int i =>
    rw [nb_int]
    unfold wholeB natOf
    by_cases c : 0 ≤ i ∧ i < ((11 : Nat) : Int)
    · rw [if_pos c]
      simp only
      by_cases d : i.toNat = 0
      · rw [if_pos d, if_neg (by simp; omega)]
      · rw [if_neg d, if_pos (by simp; omega)]
    · rw [if_neg c, if_neg (by simp; omega)]
  | _ => rw [nb_other (fun i => by intro z; cases z)]; rfl
theorem taking_len {n : Nat} {l : List Value} {c : Option Call} {x : Call} (h : Rust.taking n (Rust.takenAll l) c = some x) : l.length ≤ n := by
  unfold Rust.taking at h
  split at h
  · rename_i q
    rw [Nat.ble_eq, takenAll_map, List.length_map] at q
    exact q
  · cases h
theorem call_len0 {l : List Value} {c : Call} (h : Rust.callOf 0 (Rust.takenAll l) = some c) : l.length ≤ 3 := taking_len (n := 3) h
theorem call_len1 {l : List Value} {c : Call} (h : Rust.callOf 1 (Rust.takenAll l) = some c) : l.length ≤ 3 := taking_len (n := 3) h
theorem pair_rows {n : Nat} {l : List Value} (h : l.all (pairB n) = true) : l.map rowOf = (l.map pairOfV).map (fun e => [e.1, e.2]) := by
  rw [List.map_map]
  apply List.map_congr_left
  intro x hx
  obtain ⟨a, b, _, _, _, h4, h5⟩ := pairB_is (List.all_eq_true.mp h x hx)
  show natsOf (listOf x) = [(pairOfV x).1, (pairOfV x).2]
  rw [h5, h4]
theorem pair_lts {n : Nat} {l : List Value} (h : l.all (pairB n) = true) : ∀ e ∈ l.map pairOfV, e.1 < n ∧ e.2 < n := by
  intro e he
  obtain ⟨x, hx, rfl⟩ := List.mem_map.mp he
  obtain ⟨a, b, _, h2, h3, h4, _⟩ := pairB_is (List.all_eq_true.mp h x hx)
  rw [h4]
  exact ⟨h2, h3⟩
theorem pairsB_ex {n : Nat} {x : Value} (h : pairsB n x = true) : ∃ l, x = .list l ∧ l.length ≤ 100 ∧ l.all (pairB n) = true := by
  cases x with
  | list l =>
    have h2 : (decide (l.length ≤ 100) && l.all (pairB n)) = true := h
    rw [Bool.and_eq_true] at h2
    exact ⟨l, rfl, of_decide_eq_true h2.1, h2.2⟩
  | _ => cases h
end Pu
end PartPu8
section PartPu9
set_option linter.all false
namespace Pu
open RWire
/-! ### the session: calls, and what is told -/
def flatI : List (List Int) → List Int
  | [] => []
  | x :: r => 0 :: (x.length : Int) :: (x ++ flatI r)
def flatOf : List Octets → List Int
  | [] => []
  | b :: r => 0 :: (b.length : Int) :: (castB b ++ flatOf r)
def outOf : Rust.St → List Octets → List Int
  | _, [] => []
  | w, b :: r => ((Rust.step w b).2.length : Int) :: (castB (Rust.step w b).2 ++ outOf (Rust.step w b).1 r)
theorem row_of {l x s : List Int} (h : PyFlat.row l = some (x, s)) : l = (x.length : Int) :: (x ++ s) := by
  cases l with
  | nil => cases h
  | cons n r =>
    have h2 : (if 0 ≤ n ∧ n.toNat ≤ r.length then some (r.take n.toNat, r.drop n.toNat) else none) = some (x, s) := h
    by_cases c : 0 ≤ n ∧ n.toNat ≤ r.length
    · rw [if_pos c] at h2
      cases h2
      have e : (r.take n.toNat).length = n.toNat := by
        rw [List.length_take]
        omega
      rw [e, List.take_append_drop, Int.toNat_of_nonneg c.1]
    · rw [if_neg c] at h2
      cases h2
theorem calls_of : ∀ (f : Nat) (l : List Int) (cs : List (List (List Int))), PyFlat.calls PyZr37.shape f l = some cs → ∃ xs : List (List Int), cs = xs.map (fun x => [[0], x]) ∧ l = flatI xs
  | f, [], cs, h => by
    cases f <;> (cases h; exact ⟨[], rfl, rfl⟩)
  | 0, p :: r, cs, h => by cases h
  | f + 1, p :: r, cs, h => by
    unfold PyFlat.calls at h
    cases c : PyFlat.call PyZr37.shape (p :: r) with
    | none => rw [c] at h; cases h
    | some q =>
      rw [c] at h
      obtain ⟨c1, t⟩ := q
      simp only at h
      cases d : PyFlat.calls PyZr37.shape f t with
      | none => rw [d] at h; cases h
      | some ds =>
        rw [d] at h
        cases h
        obtain ⟨xs, e1, e2⟩ := calls_of f t ds d
        unfold PyFlat.call PyZr37.shape at c
        simp only at c
        by_cases hp : p = 0
        · subst hp
          simp only [if_true, List.drop_zero, List.take_zero, Nat.not_lt_zero, if_false] at c
          unfold PyFlat.rows at c
          cases e : PyFlat.row r with
          | none => rw [e] at c; cases c
          | some y =>
            rw [e] at c
            obtain ⟨x, s⟩ := y
            simp only [PyFlat.rows] at c
            cases c
            refine ⟨x :: xs, by rw [e1] <;> rfl, ?_⟩
            rw [row_of e, e2]
            rfl
        · rw [if_neg hp] at c
          cases c
theorem bytes_of {x : List Int} (h : Zr37Neutral.asked1 x = true) : castB (Zr37Neutral.bytesOf x) = x := by
  unfold castB Zr37Neutral.bytesOf
  rw [List.map_map]
  have e : ∀ n ∈ x, ((fun u : UInt8 => (u.toNat : Int)) ∘ fun (n : Int) => UInt8.ofNat n.toNat) n = n := fun n hn => by
    have q := List.all_eq_true.mp h n hn
    simp only [Bool.and_eq_true, decide_eq_true_eq] at q
    show ((UInt8.ofNat n.toNat).toNat : Int) = n
    rw [UInt8.toNat_ofNat', Nat.mod_eq_of_lt (by have : (2:Nat)^8 = 256 := rfl; omega)]
    omega
  calc x.map _ = x.map id := List.map_congr_left e
    _ = x := List.map_id x
theorem flat_is : ∀ xs : List (List Int), xs.all Zr37Neutral.asked1 = true → flatI xs = flatOf (xs.map Zr37Neutral.bytesOf)
  | [], _ => rfl
  | x :: r, h => by
    rw [List.all_cons, Bool.and_eq_true] at h
    show 0 :: (x.length : Int) :: (x ++ flatI r) = 0 :: ((Zr37Neutral.bytesOf x).length : Int) :: (castB (Zr37Neutral.bytesOf x) ++ flatOf (r.map Zr37Neutral.bytesOf))
    rw [flat_is r h.2, bytes_of h.1]
    have e : (Zr37Neutral.bytesOf x).length = x.length := by
      unfold Zr37Neutral.bytesOf
      rw [List.length_map]
    rw [e]
theorem told_is : ∀ (xs : List (List Int)) (w : Rust.St), PyFlat.told (PyFlat.played (fun s c => Zr37Neutral.step s (c.headD [])) w (xs.map fun x => [x])) = outOf w (xs.map Zr37Neutral.bytesOf)
  | [], _ => rfl
  | x :: r, w => by
    have ih := told_is r (Rust.step w (Zr37Neutral.bytesOf x)).1
    show ((Zr37Neutral.numbersOf (Rust.step w (Zr37Neutral.bytesOf x)).2).length : Int) :: (Zr37Neutral.numbersOf (Rust.step w (Zr37Neutral.bytesOf x)).2 ++ PyFlat.told (PyFlat.played (fun s c => Zr37Neutral.step s (c.headD [])) (Rust.step w (Zr37Neutral.bytesOf x)).1 (r.map fun x => [x]))) = _
    rw [ih]
    have e : (Zr37Neutral.numbersOf (Rust.step w (Zr37Neutral.bytesOf x)).2).length = (Rust.step w (Zr37Neutral.bytesOf x)).2.length := by
      unfold Zr37Neutral.numbersOf
      rw [List.length_map]
    rw [e]
    rfl
theorem asked_is {l : List Int} (h : PyZr37.answers_asked l = true) : ∃ rs : List Octets, l = flatOf rs ∧ PyZr37.answers l = outOf Rust.start rs ∧ Rust.goes Rust.start 4000000 rs = true ∧ rs.length ≤ 200 := by
  unfold PyZr37.answers_asked at h
  cases c : PyZr37.calls l with
  | none => rw [c] at h; cases h
  | some cs =>
    rw [c] at h
    have ha : PyZr37.answers l = PyFlat.told (PyFlat.played (fun s c => Zr37Neutral.step s (c.headD [])) Zr37Neutral.start cs) := by
      unfold PyZr37.answers
      rw [c]
    unfold PyZr37.calls at c
    cases d : PyFlat.calls PyZr37.shape l.length l with
    | none => rw [d] at c; cases c
    | some ds =>
      rw [d] at c
      cases c
      obtain ⟨xs, e1, e2⟩ := calls_of _ _ _ d
      have e3 : ds.map PyZr37.whole = xs.map fun x => [x] := by
        rw [e1, List.map_map]
        rfl
      rw [e3] at h ha
      simp only [Bool.and_eq_true] at h
      obtain ⟨⟨h1, h2⟩, h3⟩ := h
      unfold Zr37Neutral.asked at h2
      have e4 : (xs.map fun x => [x]).map (fun c => c.headD []) = xs := by
        rw [List.map_map]
        exact List.map_id xs
      rw [e4] at h2
      simp only [Bool.and_eq_true] at h2
      obtain ⟨h4, h5, h6⟩ := h2
      unfold Rust.fits at h6
      simp only [Bool.and_eq_true] at h6
      refine ⟨xs.map Zr37Neutral.bytesOf, by rw [e2, flat_is xs h4], by rw [ha, told_is] <;> rfl, h6.2, ?_⟩
      have q := h6.1.1.1
      rw [Nat.ble_eq] at q
      exact q
end Pu
end PartPu9
section PartCmBase
set_option Elab.async false
set_option linter.all false
set_option maxRecDepth 100000
set_option maxHeartbeats 4000000
namespace Cm
open PySem PySem.Spec PyProof.Rows L2 Evl
/-! ### what stands of the text -/
structure Tx (K : PySem.W.Frag) (mg : PySem.Str → Option Value) (base : Heap) : Prop where
  c : He.SaysD fa fn K
  X : K.In base
  G : base.Ns mainGlobals mg
/-- a def of the text -/
structure DefAt (K : PySem.W.Frag) (mg : PySem.Str → Option Value) (x : PySem.Str) (st : Stmt) : Prop where
  ex : ∃ f fd, mg x = some (.ref f) ∧ FunD K x x (defArgs st) (defBody st) (defScope st) [] [] f fd
/-- a def that keeps a promise -/
structure Ok (P : Program) (w : World) (K : PySem.W.Frag) (mg : PySem.Str → Option Value) (base : Heap) (k : Nat) (x : PySem.Str) (ps : List PySem.Str) (sp : Sp) : Prop where
  ex : ∃ f fd, FnOk P w K mg base CX0 k f fd ps sp ∧ mg x = some (.ref f) ∧ PySem.W.keepIn K (.ref f) = true ∧ Binds K fd ps []
/-- a class whose __init__ keeps a promise -/
structure OkC (P : Program) (w : World) (K : PySem.W.Frag) (mg : PySem.Str → Option Value) (base : Heap) (k : Nat) (x : PySem.Str) (ps : List PySem.Str) (sp : Sp) : Prop where
  ex : ∃ f fd, FnOk P w K mg base CX0 k f fd ps sp ∧ Mk K (He.ga K x) f ∧ mg x = some (.ref (He.ga K x)) ∧ Binds K fd ps []
section
variable {P : Program} {w : World} {K : PySem.W.Frag} {mg : PySem.Str → Option Value} {base : Heap}
theorem Tx.dAt (T : Tx K mg base) (i : Nat) {d : He.DefD} {x : PySem.Str} (h : fn[i]? = some d) (j : Nat) (hg : fa[j]? = some (.glo x)) (e : d.at_ = (x, none)) (e2 : d.dfl = []) (e3 : d.kwd = []) :
    ∃ f fd, mg x = some (.ref f) ∧ FunD K d.name d.qual d.params d.body d.scope [] [] f fd := by
  obtain ⟨fd, F⟩ := T.c.def_ i h
  refine ⟨He.fAd K d.at_, fd, ?_, ?_⟩
  · have q := He.glo_ok T.X T.G (T.c.fact j hg)
    rw [e]
    exact q
  · have a1 : d.dvs K = [] := by
      unfold He.DefD.dvs
      rw [e2] <;> rfl
    have a2 : d.kws K = [] := by
      unfold He.DefD.kws
      rw [e3] <;> rfl
    rw [a1, a2] at F
    exact F
theorem Ok.mono {j k : Nat} {x : PySem.Str} {ps : List PySem.Str} {sp : Sp} (F : Ok P w K mg base j x ps sp) (h : j ≤ k) : Ok P w K mg base k x ps sp := by
  obtain ⟨f, fd, a, b, c, e⟩ := F.ex
  exact ⟨f, fd, a.mono h, b, c, e⟩
/-- a def's promise, by its body -/
theorem ok_of {x : PySem.Str} {st : Stmt} {N ps : List PySem.Str} {k : Nat} {sp : Sp} (D : DefAt K mg x st) (S : FnScope N ps (defScope st))
    (hb : ∀ (kV doc pm : Value) (an : Option Addr) (cdv ct : Value) (us : List Value), us.length = ps.length → bindArgs (PySem.W.fnOf x x (defArgs st) (defBody st) (defScope st) .none kV doc pm an cdv ct) ⟨us, []⟩ = pure (ps.zip us))
    (len : ∀ vs H Q E, sp vs H Q E → vs.length = ps.length)
    (body : ∀ (f : Addr) (cdv : Value) (A : Around) (outer : List Env) (s : Shared) (H : Hp) (vs : List V) (Q : VK) (E : XK), Room k (A.deeper (envOfC x (defScope st) s.heap.objs.size f cdv)) → sp vs H Q E →
      ∃ t, PSs (cxOf CX0 P w K mg base N x (defScope st) f cdv A outer s H E).nox (defBody st) t ∧ t { nx := fun _ H' => Q .non H', rt := Q } (start N vs) H) : Ok P w K mg base (k + 1) x ps sp := by
  obtain ⟨f, fd, hm, F⟩ := D.ex
  refine ⟨f, fd, F.ok S len (fun cdv A outer s H vs Q E hr h => ?_), hm, F.kp, F.bindsN hb⟩
  obtain ⟨t, h1, h2⟩ := body f cdv A outer s H vs Q E hr h
  exact ⟨t, h1.nox, h2⟩
/-- a class's promise, by the body of its __init__ -/
theorem okC_of (T : Tx K mg base) (i : Nat) {d : He.DefD} {c : PySem.Str} (hi : fn[i]? = some d) (e : d.at_ = (c, some ("__init__" : PySem.Str))) (e2 : d.dfl = []) (e3 : d.kwd = []) (j : Nat) (hg : fa[j]? = some (.glo c)) (hk : fa[j + 2]? = some (.mkr c))
    {N ps : List PySem.Str} {k : Nat} {sp : Sp} (S : FnScope N ps d.scope)
    (hb : ∀ (kV doc pm : Value) (an : Option Addr) (cdv ct : Value) (us : List Value), us.length = ps.length → bindArgs (PySem.W.fnOf d.name d.qual d.params d.body d.scope .none kV doc pm an cdv ct) ⟨us, []⟩ = pure (ps.zip us))
    (len : ∀ vs H Q E, sp vs H Q E → vs.length = ps.length)
    (body : ∀ (f : Addr) (cdv : Value) (A : Around) (outer : List Env) (s : Shared) (H : Hp) (vs : List V) (Q : VK) (E : XK), Room k (A.deeper (envOfC d.qual d.scope s.heap.objs.size f cdv)) → sp vs H Q E →
      ∃ t, PSs (cxOf CX0 P w K mg base N d.qual d.scope f cdv A outer s H E).nox d.body t ∧ t { nx := fun _ H' => Q .non H', rt := Q } (start N vs) H) : OkC P w K mg base (k + 1) c ps sp := by
  obtain ⟨fd, F⟩ := T.c.def_ i hi
  have a1 : d.dvs K = [] := by
    unfold He.DefD.dvs
    rw [e2] <;> rfl
  have a2 : d.kws K = [] := by
    unfold He.DefD.kws
    rw [e3] <;> rfl
  rw [a1, a2] at F
  have m := He.mkr_ok (T.c.fact (j + 2) hk)
  have ef : He.fAd K d.at_ = He.ma K (He.ga K c) "__init__" := by
    rw [e] <;> rfl
  rw [ef] at F
  refine ⟨_, fd, F.ok S len (fun cdv A outer s H vs Q E hr h => ?_), m, He.glo_ok T.X T.G (T.c.fact j hg), F.bindsN hb⟩
  obtain ⟨t, h1, h2⟩ := body _ cdv A outer s H vs Q E hr h
  exact ⟨t, h1.nox, h2⟩
end
section
variable {X : Cx} {x : PySem.Str} {p pos : Pos} {ps : List PySem.Str} {sp : Sp} {k : Nat}
theorem pe_ok {e : Expr} {es : List Expr} {t : TA} (G : Ok X.prog X.w X.K X.mg X.base k x ps sp) (hr : Room k X.A) (hg : Gl X x) (ha : PA X (e :: es) t) (hdb : (x == ("__debug__" : PySem.Str)) = false := by decide)
    (he : starEach (e :: es) X.env = (false, eval e X.env) :: starEach es X.env := by rfl) (hpl : (backTo pos (starEach es X.env)).any (·.1) = false := by rfl) : PE X (.Call (.Name x p) (e :: es) [] pos) (tCall sp [] E0 t) := by
  obtain ⟨f, fd, F, hm, hk, hb⟩ := G.ex
  exact pe_call F hr hg hm hk hb .nil pass0 ha hdb he hpl
theorem pe_ok0 (G : Ok X.prog X.w X.K X.mg X.base k x ps sp) (hr : Room k X.A) (hg : Gl X x) (hdb : (x == ("__debug__" : PySem.Str)) = false := by decide) : PE X (.Call (.Name x p) [] [] pos) (tCall sp [] E0 tNil) := by
  obtain ⟨f, fd, F, hm, hk, hb⟩ := G.ex
  exact pe_call0 F hr hg hm hk hb .nil pass0 hdb
theorem pe_mk0 {e : Expr} {es : List Expr} {t : TA} (G : OkC X.prog X.w X.K X.mg X.base k x ps sp) (hr : Room (k + 1) X.A) (hg : Gl X x) (ha : PA X (e :: es) t) (hdb : (x == ("__debug__" : PySem.Str)) = false := by decide)
    (he : starEach (e :: es) X.env = (false, eval e X.env) :: starEach es X.env := by rfl) (hpl : (backTo pos (starEach es X.env)).any (·.1) = false := by rfl) : PE X (.Call (.Name x p) (e :: es) [] pos) (tMake (He.ga X.K x) sp [] E0 t) := by
  obtain ⟨f, fd, F, hm, hk, hb⟩ := G.ex
  exact pe_make hm F hr hg hk hb .nil pass0 ha hdb he hpl
theorem pe_mk00 (G : OkC X.prog X.w X.K X.mg X.base k x ps sp) (hr : Room (k + 1) X.A) (hg : Gl X x) (hdb : (x == ("__debug__" : PySem.Str)) = false := by decide) : PE X (.Call (.Name x p) [] [] pos) (tMake (He.ga X.K x) sp [] E0 tNil) := by
  obtain ⟨f, fd, F, hm, hk, hb⟩ := G.ex
  exact pe_make0 hm F hr hg hk hb .nil pass0 hdb
theorem pe_gi {i : Int} (h : ∃ t, X.mg x = some (.int i t)) (hg : Gl X x) (hdb : (x == ("__debug__" : PySem.Str)) = false := by decide) : PE X (.Name x pos) (tC (.int i)) := by
  obtain ⟨t, h⟩ := h
  exact pe_glob hg h ⟨t, rfl⟩ (hd := hdb)
theorem pe_gs {z : PySem.Str} (h : ∃ t, X.mg x = some (.str z t)) (hg : Gl X x) (hdb : (x == ("__debug__" : PySem.Str)) = false := by decide) : PE X (.Name x pos) (tC (.str z)) := by
  obtain ⟨t, h⟩ := h
  exact pe_glob hg h ⟨t, rfl⟩ (hd := hdb)
theorem ix_listK {K : PySem.W.Frag} (h : X.K = K) : IxR X (rIxL K) := by
  rw [← h]
  exact ix_list
theorem ix_tupK {K : PySem.W.Frag} (h : X.K = K) : IxR X (rIxT K) := by
  rw [← h]
  exact ix_tup
theorem pe_fldK {K : PySem.W.Frag} {e : Expr} {ta : TE} {f : PySem.Str} (h : X.K = K) (ha : PE X e ta) (hb : attributeBase e f X.env (eval e X.env) = eval e X.env) : PE X (.Attribute e f pos) (tFld K ta f) := by
  rw [← h]
  exact pe_fld ha hb
theorem pg_tupK {K : PySem.W.Frag} {es : List Expr} {k : Nat} {t : TGs} {n : Nat} (hK : X.K = K) (hc : X.calm = true) (h : PGs X es t) (hn : (assignEach es X.env).length = n := by rfl) (hst : (assignEach es X.env).findIdx? (·.1) = none := by rfl) : PG X (.Tuple es k pos) (gTup K n t) := by
  rw [← hK]
  exact pg_tup hc h hn hst
/-- xs[i] op= e, i not below 0 -/
def rGetL (K : PySem.W.Frag) : V → V → Hp → VK → Prop := fun x y H Q => ∃ p xs j v, x = .ref p ∧ y = .int ((j : Nat) : Int) ∧ SqL K H p xs ∧ xs[j]? = some v ∧ Q v H
theorem pget_list : PGet X (rGetL X.K) := by
  intro pins s σ H o i ov iv Q I rx ry h
  obtain ⟨p, xs, j, z, rfl, rfl, hq, he, q⟩ := h
  cases rx
  obtain ⟨t, rfl⟩ := ry
  obtain ⟨its, r, pl, hz⟩ := I.list hq
  obtain ⟨u, eu, ru⟩ := r.get he
  have hl := r.length
  have hj : j < xs.length := (List.getElem?_eq_some_iff.mp he).1
  have hz2 : xs.length ≤ 16777216 := hz
  exact PySem.wpAny_getItem_list pl.isList (Int.natCast_nonneg _) (by omega) (by simpa using eu) ⟨z, H, I, ru, q⟩
end
section
variable {K : PySem.W.Frag} {mg : PySem.Str → Option Value} {base : Heap}
theorem Tx.cl_Order (T : Tx K mg base) : Cls K (He.ga K "Order") := He.cls_ok (T.c.fact 96 rfl)
theorem Tx.cl_Completion (T : Tx K mg base) : Cls K (He.ga K "Completion") := He.cls_ok (T.c.fact 99 rfl)
theorem Tx.cl_Slots (T : Tx K mg base) : Cls K (He.ga K "Slots") := He.cls_ok (T.c.fact 102 rfl)
theorem Tx.na_Order_size (T : Tx K mg base) : NoAttr K (He.ga K "Order") "size" := He.noat_ok (T.c.fact 104 rfl)
theorem Tx.na_Order_ups (T : Tx K mg base) : NoAttr K (He.ga K "Order") "ups" := He.noat_ok (T.c.fact 105 rfl)
theorem Tx.na_Order_downs (T : Tx K mg base) : NoAttr K (He.ga K "Order") "downs" := He.noat_ok (T.c.fact 106 rfl)
theorem Tx.na_Completion_order (T : Tx K mg base) : NoAttr K (He.ga K "Completion") "order" := He.noat_ok (T.c.fact 107 rfl)
theorem Tx.na_Completion_lowers (T : Tx K mg base) : NoAttr K (He.ga K "Completion") "lowers" := He.noat_ok (T.c.fact 108 rfl)
theorem Tx.na_Slots_orders (T : Tx K mg base) : NoAttr K (He.ga K "Slots") "orders" := He.noat_ok (T.c.fact 109 rfl)
theorem Tx.na_Slots_completions (T : Tx K mg base) : NoAttr K (He.ga K "Slots") "completions" := He.noat_ok (T.c.fact 110 rfl)
theorem g_NOTHING (T : Tx K mg base) : ∃ t, mg "NOTHING" = some (.int 0 t) := He.int_ok T.X T.G (T.c.fact 111 rfl)
theorem g_NULL (T : Tx K mg base) : ∃ t, mg "NULL" = some (.int 1 t) := He.int_ok T.X T.G (T.c.fact 112 rfl)
theorem g_FALSE (T : Tx K mg base) : ∃ t, mg "FALSE" = some (.int 2 t) := He.int_ok T.X T.G (T.c.fact 113 rfl)
theorem g_TRUE (T : Tx K mg base) : ∃ t, mg "TRUE" = some (.int 3 t) := He.int_ok T.X T.G (T.c.fact 114 rfl)
theorem g_INTEGER (T : Tx K mg base) : ∃ t, mg "INTEGER" = some (.int 4 t) := He.int_ok T.X T.G (T.c.fact 115 rfl)
theorem g_GREAT (T : Tx K mg base) : ∃ t, mg "GREAT" = some (.int 5 t) := He.int_ok T.X T.G (T.c.fact 116 rfl)
theorem g_TEXT (T : Tx K mg base) : ∃ t, mg "TEXT" = some (.int 6 t) := He.int_ok T.X T.G (T.c.fact 117 rfl)
theorem g_LIST (T : Tx K mg base) : ∃ t, mg "LIST" = some (.int 7 t) := He.int_ok T.X T.G (T.c.fact 118 rfl)
theorem g_RECORD (T : Tx K mg base) : ∃ t, mg "RECORD" = some (.int 8 t) := He.int_ok T.X T.G (T.c.fact 119 rfl)
theorem g_SET_WORDS (T : Tx K mg base) : ∃ t, mg "SET_WORDS" = some (.str "set must be a great integer" t) := He.str_ok T.X T.G (T.c.fact 120 rfl)
theorem g_IMAGES_WORDS (T : Tx K mg base) : ∃ t, mg "IMAGES_WORDS" = some (.str "images must be a list of one element of the target for each element" t) := He.str_ok T.X T.G (T.c.fact 121 rfl)
theorem g_ORDERS_WORDS (T : Tx K mg base) : ∃ t, mg "ORDERS_WORDS" = some (.str "orders must be a list of at most 8 lists of all elements" t) := He.str_ok T.X T.G (T.c.fact 122 rfl)
theorem g_MOST_PAIRS (T : Tx K mg base) : ∃ t, mg "MOST_PAIRS" = some (.int 100 t) := He.int_ok T.X T.G (T.c.fact 123 rfl)
theorem g_MOST_ORDERS (T : Tx K mg base) : ∃ t, mg "MOST_ORDERS" = some (.int 8 t) := He.int_ok T.X T.G (T.c.fact 124 rfl)
theorem g_MOST_CUTS (T : Tx K mg base) : ∃ t, mg "MOST_CUTS" = some (.int 20 t) := He.int_ok T.X T.G (T.c.fact 125 rfl)
theorem g_WRONG_KIND (T : Tx K mg base) : ∃ t, mg "WRONG_KIND" = some (.int 1 t) := He.int_ok T.X T.G (T.c.fact 126 rfl)
theorem g_OUT_OF_RANGE (T : Tx K mg base) : ∃ t, mg "OUT_OF_RANGE" = some (.int 2 t) := He.int_ok T.X T.G (T.c.fact 127 rfl)
theorem g_CUTS_WORDS (T : Tx K mg base) : ∃ t, mg "CUTS_WORDS" = some (.str "cuts must be a list of at most 20 numbers of cuts" t) := He.str_ok T.X T.G (T.c.fact 128 rfl)
theorem g_MOST_ARGUMENTS (T : Tx K mg base) : ∃ t, mg "MOST_ARGUMENTS" = some (.int 3 t) := He.int_ok T.X T.G (T.c.fact 129 rfl)
theorem Tx.n_range (T : Tx K mg base) : mg "range" = none := He.free_ok T.X T.G (T.c.fact 130 rfl)
theorem Tx.n_len (T : Tx K mg base) : mg "len" = none := He.free_ok T.X T.G (T.c.fact 131 rfl)
theorem Tx.n_abs (T : Tx K mg base) : mg "abs" = none := He.free_ok T.X T.G (T.c.fact 132 rfl)
theorem Tx.n_ord (T : Tx K mg base) : mg "ord" = none := He.free_ok T.X T.G (T.c.fact 133 rfl)
theorem Tx.n_sorted (T : Tx K mg base) : mg "sorted" = none := He.free_ok T.X T.G (T.c.fact 134 rfl)
theorem Tx.n_list (T : Tx K mg base) : mg "list" = none := He.free_ok T.X T.G (T.c.fact 135 rfl)
theorem Tx.n_enumerate (T : Tx K mg base) : mg "enumerate" = none := He.free_ok T.X T.G (T.c.fact 136 rfl)
theorem sc_nothing : FnScope [] [] (defScope s_nothing) := ⟨rfl, rfl, rfl, by decide +kernel, rfl, by decide +kernel, by decide +kernel⟩
theorem at_nothing (T : Tx K mg base) : DefAt K mg "nothing" s_nothing := ⟨T.dAt (d := d_nothing) 0 rfl 0 rfl rfl rfl rfl⟩
theorem sc_truth : FnScope ["flag"] ["flag"] (defScope s_truth) := ⟨rfl, rfl, rfl, by decide +kernel, rfl, by decide +kernel, by decide +kernel⟩
theorem at_truth (T : Tx K mg base) : DefAt K mg "truth" s_truth := ⟨T.dAt (d := d_truth) 1 rfl 1 rfl rfl rfl rfl⟩
theorem sc_integer : FnScope ["number"] ["number"] (defScope s_integer) := ⟨rfl, rfl, rfl, by decide +kernel, rfl, by decide +kernel, by decide +kernel⟩
theorem at_integer (T : Tx K mg base) : DefAt K mg "integer" s_integer := ⟨T.dAt (d := d_integer) 2 rfl 2 rfl rfl rfl rfl⟩
theorem sc_integer_or_null : FnScope ["number"] ["number"] (defScope s_integer_or_null) := ⟨rfl, rfl, rfl, by decide +kernel, rfl, by decide +kernel, by decide +kernel⟩
theorem at_integer_or_null (T : Tx K mg base) : DefAt K mg "integer_or_null" s_integer_or_null := ⟨T.dAt (d := d_integer_or_null) 3 rfl 3 rfl rfl rfl rfl⟩
theorem sc_great : FnScope ["number"] ["number"] (defScope s_great) := ⟨rfl, rfl, rfl, by decide +kernel, rfl, by decide +kernel, by decide +kernel⟩
theorem at_great (T : Tx K mg base) : DefAt K mg "great" s_great := ⟨T.dAt (d := d_great) 4 rfl 4 rfl rfl rfl rfl⟩
theorem sc_great_or_null : FnScope ["number"] ["number"] (defScope s_great_or_null) := ⟨rfl, rfl, rfl, by decide +kernel, rfl, by decide +kernel, by decide +kernel⟩
theorem at_great_or_null (T : Tx K mg base) : DefAt K mg "great_or_null" s_great_or_null := ⟨T.dAt (d := d_great_or_null) 5 rfl 5 rfl rfl rfl rfl⟩
theorem sc_integers : FnScope ["numbers", "number"] ["numbers"] (defScope s_integers) := ⟨rfl, rfl, rfl, by decide +kernel, rfl, by decide +kernel, by decide +kernel⟩
theorem at_integers (T : Tx K mg base) : DefAt K mg "integers" s_integers := ⟨T.dAt (d := d_integers) 6 rfl 6 rfl rfl rfl rfl⟩
theorem sc_greats : FnScope ["numbers", "number"] ["numbers"] (defScope s_greats) := ⟨rfl, rfl, rfl, by decide +kernel, rfl, by decide +kernel, by decide +kernel⟩
theorem at_greats (T : Tx K mg base) : DefAt K mg "greats" s_greats := ⟨T.dAt (d := d_greats) 7 rfl 7 rfl rfl rfl rfl⟩
theorem sc_listed : FnScope ["values"] ["values"] (defScope s_listed) := ⟨rfl, rfl, rfl, by decide +kernel, rfl, by decide +kernel, by decide +kernel⟩
theorem at_listed (T : Tx K mg base) : DefAt K mg "listed" s_listed := ⟨T.dAt (d := d_listed) 8 rfl 8 rfl rfl rfl rfl⟩
theorem sc_record : FnScope ["members"] ["members"] (defScope s_record) := ⟨rfl, rfl, rfl, by decide +kernel, rfl, by decide +kernel, by decide +kernel⟩
theorem at_record (T : Tx K mg base) : DefAt K mg "record" s_record := ⟨T.dAt (d := d_record) 9 rfl 9 rfl rfl rfl rfl⟩
theorem sc_is_whole : FnScope ["value", "least", "most"] ["value", "least", "most"] (defScope s_is_whole) := ⟨rfl, rfl, rfl, by decide +kernel, rfl, by decide +kernel, by decide +kernel⟩
theorem at_is_whole (T : Tx K mg base) : DefAt K mg "is_whole" s_is_whole := ⟨T.dAt (d := d_is_whole) 10 rfl 10 rfl rfl rfl rfl⟩
theorem sc_are_below : FnScope ["values", "size", "value"] ["values", "size"] (defScope s_are_below) := ⟨rfl, rfl, rfl, by decide +kernel, rfl, by decide +kernel, by decide +kernel⟩
theorem at_are_below (T : Tx K mg base) : DefAt K mg "are_below" s_are_below := ⟨T.dAt (d := d_are_below) 11 rfl 11 rfl rfl rfl rfl⟩
theorem sc_is_set : FnScope ["value"] ["value"] (defScope s_is_set) := ⟨rfl, rfl, rfl, by decide +kernel, rfl, by decide +kernel, by decide +kernel⟩
theorem at_is_set (T : Tx K mg base) : DefAt K mg "is_set" s_is_set := ⟨T.dAt (d := d_is_set) 12 rfl 12 rfl rfl rfl rfl⟩
theorem sc_set_of : FnScope ["order", "value"] ["order", "value"] (defScope s_set_of) := ⟨rfl, rfl, rfl, by decide +kernel, rfl, by decide +kernel, by decide +kernel⟩
theorem at_set_of (T : Tx K mg base) : DefAt K mg "set_of" s_set_of := ⟨T.dAt (d := d_set_of) 13 rfl 13 rfl rfl rfl rfl⟩
theorem sc_is_pair : FnScope ["value", "size"] ["value", "size"] (defScope s_is_pair) := ⟨rfl, rfl, rfl, by decide +kernel, rfl, by decide +kernel, by decide +kernel⟩
theorem at_is_pair (T : Tx K mg base) : DefAt K mg "is_pair" s_is_pair := ⟨T.dAt (d := d_is_pair) 14 rfl 14 rfl rfl rfl rfl⟩
theorem sc_is_pairs : FnScope ["value", "size", "part"] ["value", "size"] (defScope s_is_pairs) := ⟨rfl, rfl, rfl, by decide +kernel, rfl, by decide +kernel, by decide +kernel⟩
theorem at_is_pairs (T : Tx K mg base) : DefAt K mg "is_pairs" s_is_pairs := ⟨T.dAt (d := d_is_pairs) 15 rfl 15 rfl rfl rfl rfl⟩
theorem sc_is_images : FnScope ["value", "size", "target_size"] ["value", "size", "target_size"] (defScope s_is_images) := ⟨rfl, rfl, rfl, by decide +kernel, rfl, by decide +kernel, by decide +kernel⟩
theorem at_is_images (T : Tx K mg base) : DefAt K mg "is_images" s_is_images := ⟨T.dAt (d := d_is_images) 16 rfl 16 rfl rfl rfl rfl⟩
theorem sc_is_line : FnScope ["value", "size"] ["value", "size"] (defScope s_is_line) := ⟨rfl, rfl, rfl, by decide +kernel, rfl, by decide +kernel, by decide +kernel⟩
theorem at_is_line (T : Tx K mg base) : DefAt K mg "is_line" s_is_line := ⟨T.dAt (d := d_is_line) 17 rfl 17 rfl rfl rfl rfl⟩
theorem sc_is_lines : FnScope ["value", "size", "part"] ["value", "size"] (defScope s_is_lines) := ⟨rfl, rfl, rfl, by decide +kernel, rfl, by decide +kernel, by decide +kernel⟩
theorem at_is_lines (T : Tx K mg base) : DefAt K mg "is_lines" s_is_lines := ⟨T.dAt (d := d_is_lines) 18 rfl 18 rfl rfl rfl rfl⟩
theorem sc_is_cuts : FnScope ["value", "many"] ["value", "many"] (defScope s_is_cuts) := ⟨rfl, rfl, rfl, by decide +kernel, rfl, by decide +kernel, by decide +kernel⟩
theorem at_is_cuts (T : Tx K mg base) : DefAt K mg "is_cuts" s_is_cuts := ⟨T.dAt (d := d_is_cuts) 19 rfl 19 rfl rfl rfl rfl⟩
theorem sc_numbers_of : FnScope ["value", "part"] ["value"] (defScope s_numbers_of) := ⟨rfl, rfl, rfl, by decide +kernel, rfl, by decide +kernel, by decide +kernel⟩
theorem at_numbers_of (T : Tx K mg base) : DefAt K mg "numbers_of" s_numbers_of := ⟨T.dAt (d := d_numbers_of) 20 rfl 20 rfl rfl rfl rfl⟩
theorem sc_rows_of : FnScope ["value", "part"] ["value"] (defScope s_rows_of) := ⟨rfl, rfl, rfl, by decide +kernel, rfl, by decide +kernel, by decide +kernel⟩
theorem at_rows_of (T : Tx K mg base) : DefAt K mg "rows_of" s_rows_of := ⟨T.dAt (d := d_rows_of) 21 rfl 21 rfl rfl rfl rfl⟩
theorem sc_Order_init : FnScope ["self", "size", "ups", "downs"] ["self", "size", "ups", "downs"] (defScope s_Order_init) := ⟨rfl, rfl, rfl, by decide +kernel, rfl, by decide +kernel, by decide +kernel⟩
theorem sc_has : FnScope ["mask", "x"] ["mask", "x"] (defScope s_has) := ⟨rfl, rfl, rfl, by decide +kernel, rfl, by decide +kernel, by decide +kernel⟩
theorem at_has (T : Tx K mg base) : DefAt K mg "has" s_has := ⟨T.dAt (d := d_has) 23 rfl 22 rfl rfl rfl rfl⟩
theorem sc_inside : FnScope ["one", "other"] ["one", "other"] (defScope s_inside) := ⟨rfl, rfl, rfl, by decide +kernel, rfl, by decide +kernel, by decide +kernel⟩
theorem at_inside (T : Tx K mg base) : DefAt K mg "inside" s_inside := ⟨T.dAt (d := d_inside) 24 rfl 23 rfl rfl rfl rfl⟩
theorem sc_mask_of : FnScope ["numbers", "mask", "x"] ["numbers"] (defScope s_mask_of) := ⟨rfl, rfl, rfl, by decide +kernel, rfl, by decide +kernel, by decide +kernel⟩
theorem at_mask_of (T : Tx K mg base) : DefAt K mg "mask_of" s_mask_of := ⟨T.dAt (d := d_mask_of) 25 rfl 24 rfl rfl rfl rfl⟩
theorem sc_members : FnScope ["order", "mask", "x"] ["order", "mask"] (defScope s_members) := ⟨rfl, rfl, rfl, by decide +kernel, rfl, by decide +kernel, by decide +kernel⟩
theorem at_members (T : Tx K mg base) : DefAt K mg "members" s_members := ⟨T.dAt (d := d_members) 26 rfl 25 rfl rfl rfl rfl⟩
theorem sc_reached : FnScope ["size", "pairs", "ups", "a", "b", "between"] ["size", "pairs"] (defScope s_reached) := ⟨rfl, rfl, rfl, by decide +kernel, rfl, by decide +kernel, by decide +kernel⟩
theorem at_reached (T : Tx K mg base) : DefAt K mg "reached" s_reached := ⟨T.dAt (d := d_reached) 27 rfl 26 rfl rfl rfl rfl⟩
theorem sc_mutual_pair : FnScope ["ups", "size", "a", "b"] ["ups"] (defScope s_mutual_pair) := ⟨rfl, rfl, rfl, by decide +kernel, rfl, by decide +kernel, by decide +kernel⟩
theorem at_mutual_pair (T : Tx K mg base) : DefAt K mg "mutual_pair" s_mutual_pair := ⟨T.dAt (d := d_mutual_pair) 28 rfl 27 rfl rfl rfl rfl⟩
theorem sc_order_of : FnScope ["ups", "size", "downs", "b", "a"] ["ups"] (defScope s_order_of) := ⟨rfl, rfl, rfl, by decide +kernel, rfl, by decide +kernel, by decide +kernel⟩
theorem at_order_of (T : Tx K mg base) : DefAt K mg "order_of" s_order_of := ⟨T.dAt (d := d_order_of) 29 rfl 28 rfl rfl rfl rfl⟩
theorem sc_restricted : FnScope ["order", "mask", "chosen", "ups", "a", "at", "b"] ["order", "mask"] (defScope s_restricted) := ⟨rfl, rfl, rfl, by decide +kernel, rfl, by decide +kernel, by decide +kernel⟩
theorem at_restricted (T : Tx K mg base) : DefAt K mg "restricted" s_restricted := ⟨T.dAt (d := d_restricted) 30 rfl 29 rfl rfl rfl rfl⟩
theorem sc_at_most : FnScope ["order", "a", "b"] ["order", "a", "b"] (defScope s_at_most) := ⟨rfl, rfl, rfl, by decide +kernel, rfl, by decide +kernel, by decide +kernel⟩
theorem at_at_most (T : Tx K mg base) : DefAt K mg "at_most" s_at_most := ⟨T.dAt (d := d_at_most) 31 rfl 30 rfl rfl rfl rfl⟩
theorem sc_upper_bounds : FnScope ["order", "mask", "found", "x", "above"] ["order", "mask"] (defScope s_upper_bounds) := ⟨rfl, rfl, rfl, by decide +kernel, rfl, by decide +kernel, by decide +kernel⟩
theorem at_upper_bounds (T : Tx K mg base) : DefAt K mg "upper_bounds" s_upper_bounds := ⟨T.dAt (d := d_upper_bounds) 32 rfl 31 rfl rfl rfl rfl⟩
theorem sc_lower_bounds : FnScope ["order", "mask", "found", "x", "under"] ["order", "mask"] (defScope s_lower_bounds) := ⟨rfl, rfl, rfl, by decide +kernel, rfl, by decide +kernel, by decide +kernel⟩
theorem at_lower_bounds (T : Tx K mg base) : DefAt K mg "lower_bounds" s_lower_bounds := ⟨T.dAt (d := d_lower_bounds) 33 rfl 32 rfl rfl rfl rfl⟩
theorem sc_closure : FnScope ["order", "mask"] ["order", "mask"] (defScope s_closure) := ⟨rfl, rfl, rfl, by decide +kernel, rfl, by decide +kernel, by decide +kernel⟩
theorem at_closure (T : Tx K mg base) : DefAt K mg "closure" s_closure := ⟨T.dAt (d := d_closure) 34 rfl 33 rfl rfl rfl rfl⟩
theorem sc_upper_closure : FnScope ["order", "mask"] ["order", "mask"] (defScope s_upper_closure) := ⟨rfl, rfl, rfl, by decide +kernel, rfl, by decide +kernel, by decide +kernel⟩
theorem at_upper_closure (T : Tx K mg base) : DefAt K mg "upper_closure" s_upper_closure := ⟨T.dAt (d := d_upper_closure) 35 rfl 34 rfl rfl rfl rfl⟩
theorem sc_supremum : FnScope ["order", "mask", "bounds", "y"] ["order", "mask"] (defScope s_supremum) := ⟨rfl, rfl, rfl, by decide +kernel, rfl, by decide +kernel, by decide +kernel⟩
theorem at_supremum (T : Tx K mg base) : DefAt K mg "supremum" s_supremum := ⟨T.dAt (d := d_supremum) 36 rfl 35 rfl rfl rfl rfl⟩
theorem sc_infimum : FnScope ["order", "mask", "bounds", "y"] ["order", "mask"] (defScope s_infimum) := ⟨rfl, rfl, rfl, by decide +kernel, rfl, by decide +kernel, by decide +kernel⟩
theorem at_infimum (T : Tx K mg base) : DefAt K mg "infimum" s_infimum := ⟨T.dAt (d := d_infimum) 37 rfl 36 rfl rfl rfl rfl⟩
theorem sc_join_irreducibles : FnScope ["order", "a"] ["order"] (defScope s_join_irreducibles) := ⟨rfl, rfl, rfl, by decide +kernel, rfl, by decide +kernel, by decide +kernel⟩
theorem at_join_irreducibles (T : Tx K mg base) : DefAt K mg "join_irreducibles" s_join_irreducibles := ⟨T.dAt (d := d_join_irreducibles) 38 rfl 37 rfl rfl rfl rfl⟩
theorem sc_meet_irreducibles : FnScope ["order", "a"] ["order"] (defScope s_meet_irreducibles) := ⟨rfl, rfl, rfl, by decide +kernel, rfl, by decide +kernel, by decide +kernel⟩
theorem at_meet_irreducibles (T : Tx K mg base) : DefAt K mg "meet_irreducibles" s_meet_irreducibles := ⟨T.dAt (d := d_meet_irreducibles) 39 rfl 38 rfl rfl rfl rfl⟩
theorem sc_image : FnScope ["images", "mask", "found", "x", "y"] ["images", "mask"] (defScope s_image) := ⟨rfl, rfl, rfl, by decide +kernel, rfl, by decide +kernel, by decide +kernel⟩
theorem at_image (T : Tx K mg base) : DefAt K mg "image" s_image := ⟨T.dAt (d := d_image) 40 rfl 39 rfl rfl rfl rfl⟩
theorem sc_adjoint_at : FnScope ["order", "target", "images", "y", "wanted", "z", "x"] ["order", "target", "images", "y"] (defScope s_adjoint_at) := ⟨rfl, rfl, rfl, by decide +kernel, rfl, by decide +kernel, by decide +kernel⟩
theorem at_adjoint_at (T : Tx K mg base) : DefAt K mg "adjoint_at" s_adjoint_at := ⟨T.dAt (d := d_adjoint_at) 41 rfl 40 rfl rfl rfl rfl⟩
theorem sc_broken_pair : FnScope ["order", "target", "images", "a", "b"] ["order", "target", "images"] (defScope s_broken_pair) := ⟨rfl, rfl, rfl, by decide +kernel, rfl, by decide +kernel, by decide +kernel⟩
theorem at_broken_pair (T : Tx K mg base) : DefAt K mg "broken_pair" s_broken_pair := ⟨T.dAt (d := d_broken_pair) 42 rfl 41 rfl rfl rfl rfl⟩
theorem sc_embeds : FnScope ["order", "target", "images", "x", "y"] ["order", "target", "images"] (defScope s_embeds) := ⟨rfl, rfl, rfl, by decide +kernel, rfl, by decide +kernel, by decide +kernel⟩
theorem at_embeds (T : Tx K mg base) : DefAt K mg "embeds" s_embeds := ⟨T.dAt (d := d_embeds) 43 rfl 42 rfl rfl rfl rfl⟩
theorem sc_joins_witness : FnScope ["order", "target", "images", "mask"] ["order", "target", "images"] (defScope s_joins_witness) := ⟨rfl, rfl, rfl, by decide +kernel, rfl, by decide +kernel, by decide +kernel⟩
theorem at_joins_witness (T : Tx K mg base) : DefAt K mg "joins_witness" s_joins_witness := ⟨T.dAt (d := d_joins_witness) 44 rfl 43 rfl rfl rfl rfl⟩
theorem sc_meets_witness : FnScope ["order", "target", "images", "mask"] ["order", "target", "images"] (defScope s_meets_witness) := ⟨rfl, rfl, rfl, by decide +kernel, rfl, by decide +kernel, by decide +kernel⟩
theorem at_meets_witness (T : Tx K mg base) : DefAt K mg "meets_witness" s_meets_witness := ⟨T.dAt (d := d_meets_witness) 45 rfl 44 rfl rfl rfl rfl⟩
theorem sc_Completion_init : FnScope ["self", "order", "lowers"] ["self", "order", "lowers"] (defScope s_Completion_init) := ⟨rfl, rfl, rfl, by decide +kernel, rfl, by decide +kernel, by decide +kernel⟩
theorem sc_completed : FnScope ["order", "mask"] ["order"] (defScope s_completed) := ⟨rfl, rfl, rfl, by decide +kernel, rfl, by decide +kernel, by decide +kernel⟩
theorem at_completed (T : Tx K mg base) : DefAt K mg "completed" s_completed := ⟨T.dAt (d := d_completed) 47 rfl 45 rfl rfl rfl rfl⟩
theorem sc_cut_number : FnScope ["completion", "lower"] ["completion", "lower"] (defScope s_cut_number) := ⟨rfl, rfl, rfl, by decide +kernel, rfl, by decide +kernel, by decide +kernel⟩
theorem at_cut_number (T : Tx K mg base) : DefAt K mg "cut_number" s_cut_number := ⟨T.dAt (d := d_cut_number) 48 rfl 46 rfl rfl rfl rfl⟩
theorem sc_join_of : FnScope ["completion", "numbers", "union", "number"] ["completion", "numbers"] (defScope s_join_of) := ⟨rfl, rfl, rfl, by decide +kernel, rfl, by decide +kernel, by decide +kernel⟩
theorem at_join_of (T : Tx K mg base) : DefAt K mg "join_of" s_join_of := ⟨T.dAt (d := d_join_of) 49 rfl 47 rfl rfl rfl rfl⟩
theorem sc_meet_of : FnScope ["completion", "numbers", "common", "number"] ["completion", "numbers"] (defScope s_meet_of) := ⟨rfl, rfl, rfl, by decide +kernel, rfl, by decide +kernel, by decide +kernel⟩
theorem at_meet_of (T : Tx K mg base) : DefAt K mg "meet_of" s_meet_of := ⟨T.dAt (d := d_meet_of) 50 rfl 48 rfl rfl rfl rfl⟩
theorem sc_least_extension : FnScope ["completion", "target", "images", "found", "lower"] ["completion", "target", "images"] (defScope s_least_extension) := ⟨rfl, rfl, rfl, by decide +kernel, rfl, by decide +kernel, by decide +kernel⟩
theorem at_least_extension (T : Tx K mg base) : DefAt K mg "least_extension" s_least_extension := ⟨T.dAt (d := d_least_extension) 51 rfl 49 rfl rfl rfl rfl⟩
theorem sc_greatest_extension : FnScope ["completion", "target", "images", "found", "lower", "upper"] ["completion", "target", "images"] (defScope s_greatest_extension) := ⟨rfl, rfl, rfl, by decide +kernel, rfl, by decide +kernel, by decide +kernel⟩
theorem at_greatest_extension (T : Tx K mg base) : DefAt K mg "greatest_extension" s_greatest_extension := ⟨T.dAt (d := d_greatest_extension) 52 rfl 50 rfl rfl rfl rfl⟩
theorem sc_first_gap : FnScope ["least", "greatest", "number"] ["least", "greatest"] (defScope s_first_gap) := ⟨rfl, rfl, rfl, by decide +kernel, rfl, by decide +kernel, by decide +kernel⟩
theorem at_first_gap (T : Tx K mg base) : DefAt K mg "first_gap" s_first_gap := ⟨T.dAt (d := d_first_gap) 53 rfl 51 rfl rfl rfl rfl⟩
theorem sc_places_of : FnScope ["line", "places", "at", "x"] ["line"] (defScope s_places_of) := ⟨rfl, rfl, rfl, by decide +kernel, rfl, by decide +kernel, by decide +kernel⟩
theorem at_places_of (T : Tx K mg base) : DefAt K mg "places_of" s_places_of := ⟨T.dAt (d := d_places_of) 54 rfl 52 rfl rfl rfl rfl⟩
theorem sc_before_in_all : FnScope ["tables", "a", "b", "places"] ["tables", "a", "b"] (defScope s_before_in_all) := ⟨rfl, rfl, rfl, by decide +kernel, rfl, by decide +kernel, by decide +kernel⟩
theorem at_before_in_all (T : Tx K mg base) : DefAt K mg "before_in_all" s_before_in_all := ⟨T.dAt (d := d_before_in_all) 55 rfl 53 rfl rfl rfl rfl⟩
theorem sc_conflict : FnScope ["order", "lines", "tables", "a", "b", "line"] ["order", "lines"] (defScope s_conflict) := ⟨rfl, rfl, rfl, by decide +kernel, rfl, by decide +kernel, by decide +kernel⟩
theorem at_conflict (T : Tx K mg base) : DefAt K mg "conflict" s_conflict := ⟨T.dAt (d := d_conflict) 56 rfl 54 rfl rfl rfl rfl⟩
theorem sc_height : FnScope ["line", "lower", "found", "at", "x"] ["line", "lower"] (defScope s_height) := ⟨rfl, rfl, rfl, by decide +kernel, rfl, by decide +kernel, by decide +kernel⟩
theorem at_height (T : Tx K mg base) : DefAt K mg "height" s_height := ⟨T.dAt (d := d_height) 57 rfl 55 rfl rfl rfl rfl⟩
theorem sc_line_of_cuts : FnScope ["lowers", "line", "rows", "number", "lower", "row"] ["lowers", "line"] (defScope s_line_of_cuts) := ⟨rfl, rfl, rfl, by decide +kernel, rfl, by decide +kernel, by decide +kernel⟩
theorem at_line_of_cuts (T : Tx K mg base) : DefAt K mg "line_of_cuts" s_line_of_cuts := ⟨T.dAt (d := d_line_of_cuts) 58 rfl 56 rfl rfl rfl rfl⟩
theorem sc_put_number : FnScope ["out", "number", "many", "turn"] ["out", "number", "many"] (defScope s_put_number) := ⟨rfl, rfl, rfl, by decide +kernel, rfl, by decide +kernel, by decide +kernel⟩
theorem at_put_number (T : Tx K mg base) : DefAt K mg "put_number" s_put_number := ⟨T.dAt (d := d_put_number) 59 rfl 57 rfl rfl rfl rfl⟩
theorem sc_put_text : FnScope ["out", "text", "sign"] ["out", "text"] (defScope s_put_text) := ⟨rfl, rfl, rfl, by decide +kernel, rfl, by decide +kernel, by decide +kernel⟩
theorem at_put_text (T : Tx K mg base) : DefAt K mg "put_text" s_put_text := ⟨T.dAt (d := d_put_text) 60 rfl 58 rfl rfl rfl rfl⟩
theorem sc_put_great : FnScope ["out", "number", "size", "many"] ["out", "number"] (defScope s_put_great) := ⟨rfl, rfl, rfl, by decide +kernel, rfl, by decide +kernel, by decide +kernel⟩
theorem at_put_great (T : Tx K mg base) : DefAt K mg "put_great" s_put_great := ⟨T.dAt (d := d_put_great) 61 rfl 59 rfl rfl rfl rfl⟩
theorem sc_put_value : FnScope ["out", "value", "kind", "content", "part", "name"] ["out", "value"] (defScope s_put_value) := ⟨rfl, rfl, rfl, by decide +kernel, rfl, by decide +kernel, by decide +kernel⟩
theorem at_put_value (T : Tx K mg base) : DefAt K mg "put_value" s_put_value := ⟨T.dAt (d := d_put_value) 62 rfl 60 rfl rfl rfl rfl⟩
theorem sc_returned : FnScope ["value", "out"] ["value"] (defScope s_returned) := ⟨rfl, rfl, rfl, by decide +kernel, rfl, by decide +kernel, by decide +kernel⟩
theorem at_returned (T : Tx K mg base) : DefAt K mg "returned" s_returned := ⟨T.dAt (d := d_returned) 63 rfl 61 rfl rfl rfl rfl⟩
theorem sc_refused : FnScope ["sort", "message", "out"] ["sort", "message"] (defScope s_refused) := ⟨rfl, rfl, rfl, by decide +kernel, rfl, by decide +kernel, by decide +kernel⟩
theorem at_refused (T : Tx K mg base) : DefAt K mg "refused" s_refused := ⟨T.dAt (d := d_refused) 64 rfl 62 rfl rfl rfl rfl⟩
theorem sc_wrong_kind : FnScope ["message"] ["message"] (defScope s_wrong_kind) := ⟨rfl, rfl, rfl, by decide +kernel, rfl, by decide +kernel, by decide +kernel⟩
theorem at_wrong_kind (T : Tx K mg base) : DefAt K mg "wrong_kind" s_wrong_kind := ⟨T.dAt (d := d_wrong_kind) 65 rfl 63 rfl rfl rfl rfl⟩
theorem sc_out_of_range : FnScope ["message"] ["message"] (defScope s_out_of_range) := ⟨rfl, rfl, rfl, by decide +kernel, rfl, by decide +kernel, by decide +kernel⟩
theorem at_out_of_range (T : Tx K mg base) : DefAt K mg "out_of_range" s_out_of_range := ⟨T.dAt (d := d_out_of_range) 66 rfl 64 rfl rfl rfl rfl⟩
theorem sc_completion_new : FnScope ["slots", "given"] ["slots", "given"] (defScope s_completion_new) := ⟨rfl, rfl, rfl, by decide +kernel, rfl, by decide +kernel, by decide +kernel⟩
theorem at_completion_new (T : Tx K mg base) : DefAt K mg "completion_new" s_completion_new := ⟨T.dAt (d := d_completion_new) 67 rfl 65 rfl rfl rfl rfl⟩
theorem sc_completion_cuts : FnScope ["slots", "given", "completion", "rows", "lower", "upper"] ["slots", "given"] (defScope s_completion_cuts) := ⟨rfl, rfl, rfl, by decide +kernel, rfl, by decide +kernel, by decide +kernel⟩
theorem at_completion_cuts (T : Tx K mg base) : DefAt K mg "completion_cuts" s_completion_cuts := ⟨T.dAt (d := d_completion_cuts) 68 rfl 66 rfl rfl rfl rfl⟩
theorem sc_completion_closure : FnScope ["slots", "given", "completion", "mask"] ["slots", "given"] (defScope s_completion_closure) := ⟨rfl, rfl, rfl, by decide +kernel, rfl, by decide +kernel, by decide +kernel⟩
theorem at_completion_closure (T : Tx K mg base) : DefAt K mg "completion_closure" s_completion_closure := ⟨T.dAt (d := d_completion_closure) 69 rfl 67 rfl rfl rfl rfl⟩
theorem sc_completion_join : FnScope ["slots", "given", "completion"] ["slots", "given"] (defScope s_completion_join) := ⟨rfl, rfl, rfl, by decide +kernel, rfl, by decide +kernel, by decide +kernel⟩
theorem at_completion_join (T : Tx K mg base) : DefAt K mg "completion_join" s_completion_join := ⟨T.dAt (d := d_completion_join) 70 rfl 68 rfl rfl rfl rfl⟩
theorem sc_completion_meet : FnScope ["slots", "given", "completion"] ["slots", "given"] (defScope s_completion_meet) := ⟨rfl, rfl, rfl, by decide +kernel, rfl, by decide +kernel, by decide +kernel⟩
theorem at_completion_meet (T : Tx K mg base) : DefAt K mg "completion_meet" s_completion_meet := ⟨T.dAt (d := d_completion_meet) 71 rfl 69 rfl rfl rfl rfl⟩
theorem sc_extension_record : FnScope ["completion", "target", "images", "order", "least", "greatest"] ["completion", "target", "images"] (defScope s_extension_record) := ⟨rfl, rfl, rfl, by decide +kernel, rfl, by decide +kernel, by decide +kernel⟩
theorem at_extension_record (T : Tx K mg base) : DefAt K mg "extension_record" s_extension_record := ⟨T.dAt (d := d_extension_record) 72 rfl 70 rfl rfl rfl rfl⟩
theorem sc_completion_extend : FnScope ["slots", "given", "completion", "target", "images", "pair"] ["slots", "given"] (defScope s_completion_extend) := ⟨rfl, rfl, rfl, by decide +kernel, rfl, by decide +kernel, by decide +kernel⟩
theorem at_completion_extend (T : Tx K mg base) : DefAt K mg "completion_extend" s_completion_extend := ⟨T.dAt (d := d_completion_extend) 73 rfl 71 rfl rfl rfl rfl⟩
theorem sc_completion_orders : FnScope ["slots", "given", "completion", "lines", "pair", "line"] ["slots", "given"] (defScope s_completion_orders) := ⟨rfl, rfl, rfl, by decide +kernel, rfl, by decide +kernel, by decide +kernel⟩
theorem at_completion_orders (T : Tx K mg base) : DefAt K mg "completion_orders" s_completion_orders := ⟨T.dAt (d := d_completion_orders) 74 rfl 72 rfl rfl rfl rfl⟩
theorem sc_poset_new : FnScope ["slots", "given", "new", "size", "pairs", "ups", "twins"] ["slots", "given"] (defScope s_poset_new) := ⟨rfl, rfl, rfl, by decide +kernel, rfl, by decide +kernel, by decide +kernel⟩
theorem at_poset_new (T : Tx K mg base) : DefAt K mg "poset_new" s_poset_new := ⟨T.dAt (d := d_poset_new) 75 rfl 73 rfl rfl rfl rfl⟩
theorem sc_poset_restrict : FnScope ["slots", "given", "new", "poset", "wanted", "order", "mask"] ["slots", "given"] (defScope s_poset_restrict) := ⟨rfl, rfl, rfl, by decide +kernel, rfl, by decide +kernel, by decide +kernel⟩
theorem at_poset_restrict (T : Tx K mg base) : DefAt K mg "poset_restrict" s_poset_restrict := ⟨T.dAt (d := d_poset_restrict) 76 rfl 74 rfl rfl rfl rfl⟩
theorem sc_poset_relation : FnScope ["slots", "given", "order"] ["slots", "given"] (defScope s_poset_relation) := ⟨rfl, rfl, rfl, by decide +kernel, rfl, by decide +kernel, by decide +kernel⟩
theorem at_poset_relation (T : Tx K mg base) : DefAt K mg "poset_relation" s_poset_relation := ⟨T.dAt (d := d_poset_relation) 77 rfl 75 rfl rfl rfl rfl⟩
theorem sc_poset_upper : FnScope ["slots", "given", "order"] ["slots", "given"] (defScope s_poset_upper) := ⟨rfl, rfl, rfl, by decide +kernel, rfl, by decide +kernel, by decide +kernel⟩
theorem at_poset_upper (T : Tx K mg base) : DefAt K mg "poset_upper" s_poset_upper := ⟨T.dAt (d := d_poset_upper) 78 rfl 76 rfl rfl rfl rfl⟩
theorem sc_poset_lower : FnScope ["slots", "given", "order"] ["slots", "given"] (defScope s_poset_lower) := ⟨rfl, rfl, rfl, by decide +kernel, rfl, by decide +kernel, by decide +kernel⟩
theorem at_poset_lower (T : Tx K mg base) : DefAt K mg "poset_lower" s_poset_lower := ⟨T.dAt (d := d_poset_lower) 79 rfl 77 rfl rfl rfl rfl⟩
theorem sc_poset_supremum : FnScope ["slots", "given", "order"] ["slots", "given"] (defScope s_poset_supremum) := ⟨rfl, rfl, rfl, by decide +kernel, rfl, by decide +kernel, by decide +kernel⟩
theorem at_poset_supremum (T : Tx K mg base) : DefAt K mg "poset_supremum" s_poset_supremum := ⟨T.dAt (d := d_poset_supremum) 80 rfl 78 rfl rfl rfl rfl⟩
theorem sc_poset_infimum : FnScope ["slots", "given", "order"] ["slots", "given"] (defScope s_poset_infimum) := ⟨rfl, rfl, rfl, by decide +kernel, rfl, by decide +kernel, by decide +kernel⟩
theorem at_poset_infimum (T : Tx K mg base) : DefAt K mg "poset_infimum" s_poset_infimum := ⟨T.dAt (d := d_poset_infimum) 81 rfl 79 rfl rfl rfl rfl⟩
theorem sc_poset_irreducibles : FnScope ["slots", "given", "order", "joins", "meets"] ["slots", "given"] (defScope s_poset_irreducibles) := ⟨rfl, rfl, rfl, by decide +kernel, rfl, by decide +kernel, by decide +kernel⟩
theorem at_poset_irreducibles (T : Tx K mg base) : DefAt K mg "poset_irreducibles" s_poset_irreducibles := ⟨T.dAt (d := d_poset_irreducibles) 82 rfl 80 rfl rfl rfl rfl⟩
theorem sc_poset_adjoint : FnScope ["slots", "given", "order", "target", "images", "adjoint", "y", "z"] ["slots", "given"] (defScope s_poset_adjoint) := ⟨rfl, rfl, rfl, by decide +kernel, rfl, by decide +kernel, by decide +kernel⟩
theorem at_poset_adjoint (T : Tx K mg base) : DefAt K mg "poset_adjoint" s_poset_adjoint := ⟨T.dAt (d := d_poset_adjoint) 83 rfl 81 rfl rfl rfl rfl⟩
theorem sc_poset_conflict : FnScope ["slots", "given", "order", "pair"] ["slots", "given"] (defScope s_poset_conflict) := ⟨rfl, rfl, rfl, by decide +kernel, rfl, by decide +kernel, by decide +kernel⟩
theorem at_poset_conflict (T : Tx K mg base) : DefAt K mg "poset_conflict" s_poset_conflict := ⟨T.dAt (d := d_poset_conflict) 84 rfl 82 rfl rfl rfl rfl⟩
theorem sc_number_at : FnScope ["octets", "at", "many", "found", "turn"] ["octets", "at", "many"] (defScope s_number_at) := ⟨rfl, rfl, rfl, by decide +kernel, rfl, by decide +kernel, by decide +kernel⟩
theorem at_number_at (T : Tx K mg base) : DefAt K mg "number_at" s_number_at := ⟨T.dAt (d := d_number_at) 85 rfl 83 rfl rfl rfl rfl⟩
theorem sc_read_integer : FnScope ["octets", "at", "found"] ["octets", "at"] (defScope s_read_integer) := ⟨rfl, rfl, rfl, by decide +kernel, rfl, by decide +kernel, by decide +kernel⟩
theorem at_read_integer (T : Tx K mg base) : DefAt K mg "read_integer" s_read_integer := ⟨T.dAt (d := d_read_integer) 86 rfl 84 rfl rfl rfl rfl⟩
theorem sc_read_great : FnScope ["octets", "at", "many", "found"] ["octets", "at"] (defScope s_read_great) := ⟨rfl, rfl, rfl, by decide +kernel, rfl, by decide +kernel, by decide +kernel⟩
theorem at_read_great (T : Tx K mg base) : DefAt K mg "read_great" s_read_great := ⟨T.dAt (d := d_read_great) 87 rfl 85 rfl rfl rfl rfl⟩
theorem sc_read_text : FnScope ["octets", "at", "many", "turn"] ["octets", "at"] (defScope s_read_text) := ⟨rfl, rfl, rfl, by decide +kernel, rfl, by decide +kernel, by decide +kernel⟩
theorem at_read_text (T : Tx K mg base) : DefAt K mg "read_text" s_read_text := ⟨T.dAt (d := d_read_text) 88 rfl 86 rfl rfl rfl rfl⟩
theorem sc_read_list : FnScope ["octets", "at", "values", "place", "turn", "value"] ["octets", "at"] (defScope s_read_list) := ⟨rfl, rfl, rfl, by decide +kernel, rfl, by decide +kernel, by decide +kernel⟩
theorem at_read_list (T : Tx K mg base) : DefAt K mg "read_list" s_read_list := ⟨T.dAt (d := d_read_list) 89 rfl 87 rfl rfl rfl rfl⟩
theorem sc_read_record : FnScope ["octets", "at", "members", "place", "turn", "name", "value"] ["octets", "at"] (defScope s_read_record) := ⟨rfl, rfl, rfl, by decide +kernel, rfl, by decide +kernel, by decide +kernel⟩
theorem at_read_record (T : Tx K mg base) : DefAt K mg "read_record" s_read_record := ⟨T.dAt (d := d_read_record) 90 rfl 88 rfl rfl rfl rfl⟩
theorem sc_read_value : FnScope ["octets", "at", "kind", "text", "place"] ["octets", "at"] (defScope s_read_value) := ⟨rfl, rfl, rfl, by decide +kernel, rfl, by decide +kernel, by decide +kernel⟩
theorem at_read_value (T : Tx K mg base) : DefAt K mg "read_value" s_read_value := ⟨T.dAt (d := d_read_value) 91 rfl 89 rfl rfl rfl rfl⟩
theorem sc_read_request : FnScope ["octets", "at", "given", "place", "turn", "value"] ["octets", "at"] (defScope s_read_request) := ⟨rfl, rfl, rfl, by decide +kernel, rfl, by decide +kernel, by decide +kernel⟩
theorem at_read_request (T : Tx K mg base) : DefAt K mg "read_request" s_read_request := ⟨T.dAt (d := d_read_request) 92 rfl 90 rfl rfl rfl rfl⟩
theorem sc_Slots_init : FnScope ["self"] ["self"] (defScope s_Slots_init) := ⟨rfl, rfl, rfl, by decide +kernel, rfl, by decide +kernel, by decide +kernel⟩
theorem sc_answer_by_poset : FnScope ["slots", "door", "given"] ["slots", "door", "given"] (defScope s_answer_by_poset) := ⟨rfl, rfl, rfl, by decide +kernel, rfl, by decide +kernel, by decide +kernel⟩
theorem at_answer_by_poset (T : Tx K mg base) : DefAt K mg "answer_by_poset" s_answer_by_poset := ⟨T.dAt (d := d_answer_by_poset) 94 rfl 91 rfl rfl rfl rfl⟩
theorem sc_answer_by_completion : FnScope ["slots", "door", "given"] ["slots", "door", "given"] (defScope s_answer_by_completion) := ⟨rfl, rfl, rfl, by decide +kernel, rfl, by decide +kernel, by decide +kernel⟩
theorem at_answer_by_completion (T : Tx K mg base) : DefAt K mg "answer_by_completion" s_answer_by_completion := ⟨T.dAt (d := d_answer_by_completion) 95 rfl 92 rfl rfl rfl rfl⟩
theorem sc_answer_to : FnScope ["slots", "octets", "at", "door", "given"] ["slots", "octets", "at"] (defScope s_answer_to) := ⟨rfl, rfl, rfl, by decide +kernel, rfl, by decide +kernel, by decide +kernel⟩
theorem at_answer_to (T : Tx K mg base) : DefAt K mg "answer_to" s_answer_to := ⟨T.dAt (d := d_answer_to) 96 rfl 93 rfl rfl rfl rfl⟩
theorem sc_answers : FnScope ["calls", "slots", "out", "at", "answer"] ["calls"] (defScope s_answers) := ⟨rfl, rfl, rfl, by decide +kernel, rfl, by decide +kernel, by decide +kernel⟩
theorem at_answers (T : Tx K mg base) : DefAt K mg "answers" s_answers := ⟨T.dAt (d := d_answers) 97 rfl 94 rfl rfl rfl rfl⟩
end
end Cm
end PartCmBase
section PartCmEv
set_option Elab.async false
set_option linter.all false
set_option maxRecDepth 100000
set_option maxHeartbeats 4000000
namespace Cm
open PySem PySem.Spec PyProof.Rows L2 Evl
abbrev ni (n : Nat) : V := .int ((n : Nat) : Int)
/-! ### numbers -/
theorem band (a b : Nat) : Builtin.bitAnd (a : Int) (b : Int) = ((a &&& b : Nat) : Int) := PySem.W.os_band a b
theorem bor (a b : Nat) : Builtin.bitOr (a : Int) (b : Int) = ((a ||| b : Nat) : Int) := by
  have h := L2.bitOr_nn (x := (a : Int)) (y := (b : Int)) (Int.natCast_nonneg _) (Int.natCast_nonneg _)
  rw [h, Int.toNat_natCast, Int.toNat_natCast]
theorem shl1 (x : Nat) : (1 : Int) * 2 ^ ((x : Nat) : Int).toNat = ((2 ^ x : Nat) : Int) := by
  rw [Int.toNat_natCast, Int.one_mul]
  simp
theorem shrN (m x : Nat) : ((m : Nat) : Int) / 2 ^ ((x : Nat) : Int).toNat = ((m >>> x : Nat) : Int) := by
  rw [Int.toNat_natCast, Nat.shiftRight_eq_div_pow]
  simp
theorem bit_of (m x : Nat) : decide (V.int (((m >>> x) &&& 1 : Nat) : Int) = V.int 1) = m.testBit x := by
  have e : m.testBit x = ((m >>> x) &&& 1 != 0) := by
    unfold Nat.testBit
    rw [Nat.and_comm]
  rw [e]
  have h2 : (m >>> x) &&& 1 = (m >>> x) % 2 := Nat.and_one_is_mod _
  rw [h2]
  rcases Nat.mod_two_eq_zero_or_one (m >>> x) with h | h
  · rw [h]
    rfl
  · rw [h]
    rfl
/-! ### what is known: a part B of the heap H -/
/-- what is known behind a step from H to H1: B, and all that is new -/
def ext (B H H1 : Hp) : Hp := fun b => match H b with
  | some _ => B b
  | none => H1 b
section
variable {B B0 B1 H H0 H1 H2 : Hp} {p l b : Addr} {o u : HO}
theorem ext_old (h : H b = some o) : ext B H H1 b = B b := by
  unfold ext
  rw [h]
theorem ext_new (h : H b = none) : ext B H H1 b = H1 b := by
  unfold ext
  rw [h]
theorem ext_ex (e : Ex B H) : Ex B (ext B H H1) := fun a o h => by
  rw [ext_old (e a o h)]
  exact h
theorem ext_in (e : Ex B H) (e1 : Ex H H1) : Ex (ext B H H1) H1 := fun a o h => by
  cases c : H a with
  | none =>
    rw [ext_new c] at h
    exact h
  | some u =>
    rw [ext_old c] at h
    exact e1 a o (e a o h)
theorem ext_ext (e1 : Ex H H1) (e2 : Ex H1 H2) : ext (ext B H H1) H1 H2 = ext B H H2 := by
  funext a
  cases c : H a with
  | some u => rw [ext_old (e1 a u c), ext_old c, ext_old c]
  | none =>
    rw [ext_new c]
    cases d : H1 a with
    | none => rw [ext_new d]
    | some v => rw [ext_old d, ext_new c, d, e2 a v d]
theorem ext_self (e : Ex H H1) : ext H H H1 = H1 := by
  funext a
  cases c : H a with
  | none => rw [ext_new c]
  | some u => rw [ext_old c, c, e a u c]
theorem ext_same (e : Ex B H) : ext B H H = B := by
  funext a
  cases c : H a with
  | some u => rw [ext_old c]
  | none =>
    rw [ext_new c]
    cases d : B a with
    | none => exact c
    | some v =>
      rw [e a v d] at c
      cases c
theorem ext_upd (e : Ex B H) (h : H p = none) : ext B H (upd H p o) = upd B p o := by
  funext a
  by_cases c : a = p
  · subst c
    rw [ext_new h, upd_same, upd_same]
  · rw [upd_ne c]
    cases d : H a with
    | some u => rw [ext_old d]
    | none =>
      rw [ext_new d, upd_ne c]
      cases f : B a with
      | none => exact d
      | some v =>
        rw [e a v f] at d
        cases d
/-- a step: what is known grows from B to B1 (all that is new there is new in the heap) -/
structure Gr (B H B1 H1 : Hp) : Prop where
  b : Ex B B1
  i : Ex B1 H1
  h : Ex H H1
  fr : ∀ a, H a ≠ none → B1 a = B a
theorem Gr.of (e : Ex B H) (e1 : Ex H H1) : Gr B H (ext B H H1) H1 := ⟨ext_ex e, ext_in e e1, e1, fun a h => by
  cases c : H a with
  | none => exact absurd c h
  | some u => rw [ext_old c]⟩
theorem some_ne {α : Type} {x : Option α} {v : α} (h : x = some v) : x ≠ none := by rw [h]; exact fun z => nomatch z
theorem Gr.none (g : Gr B H B1 H1) (h : H l = some o) (n : B l = none) : B1 l = none := (g.fr l (some_ne h)).trans n
/-- from the start of a def: B0, H0 then, B, H now; a local list may have changed meanwhile -/
structure Kn (B0 H0 B H : Hp) : Prop where
  b : Ex B0 B
  i : Ex B H
  h : Ex H0 H
  fr : ∀ a, H0 a ≠ none → B a = B0 a
theorem Kn.refl (e : Ex B H) : Kn B H B H := ⟨Ex.refl B, e, Ex.refl H, fun _ _ => rfl⟩
theorem Kn.gr (k : Kn B0 H0 B H) (g : Gr B H B1 H1) : Kn B0 H0 B1 H1 := ⟨k.b.trans g.b, g.i, k.h.trans g.h, fun a h => by
  cases c : H0 a with
  | none => exact absurd c h
  | some u => rw [g.fr a (some_ne (k.h a u c)), k.fr a h]⟩
theorem Kn.step (k : Kn B0 H0 B H) (e : Ex H H1) : Kn B0 H0 (ext B H H1) H1 := k.gr (Gr.of k.i e)
/-- the heap grows, what is known stays -/
theorem Kn.up (k : Kn B0 H0 B H) (e : Ex H H1) : Kn B0 H0 B H1 := ⟨k.b, k.i.trans e, k.h.trans e, k.fr⟩
theorem Kn.mut (k : Kn B0 H0 B H) (h0 : H0 l = none) (h : B l = none) : Kn B0 H0 B (upd H l o) := ⟨k.b, Ex.mut k.i h, Ex.mut k.h h0, k.fr⟩
/-- a new object that is to be known -/
theorem Kn.put (k : Kn B0 H0 B H) (h : H l = none) : Kn B0 H0 (upd B l o) (upd H l o) := by
  have q := k.step (Ex.new (o := o) h)
  rw [ext_upd k.i h] at q
  exact q
/-- an object of the heap that is to be known from now on -/
theorem Kn.know (k : Kn B0 H0 B H) (h0 : H0 l = none) (h : H l = some o) : Kn B0 H0 (upd B l o) H := by
  refine ⟨fun a u q => ?_, fun a u q => ?_, k.h, fun a q => ?_⟩
  · by_cases c : a = l
    · subst c
      have z := k.i a u (k.b a u q)
      rw [h] at z
      cases z
      exact upd_same
    · rw [upd_ne c]
      exact k.b a u q
  · by_cases c : a = l
    · subst c
      rw [upd_same] at q
      cases q
      exact h
    · rw [upd_ne c] at q
      exact k.i a u q
  · by_cases c : a = l
    · subst c
      exact absurd h0 q
    · rw [upd_ne c]
      exact k.fr a q
theorem Kn.end_ (k : Kn B0 H0 B H) : Ex B (ext B0 H0 H) := fun a o h => by
  cases c : H0 a with
  | none =>
    rw [ext_new c]
    exact k.i a o h
  | some u =>
    rw [ext_old c, ← k.fr a (some_ne c)]
    exact h
theorem ex_none (e : Ex B H) (h : H l = none) : B l = none := fresh_back e h
end
/-! ### promises -/
/-- a def that leaves all that stood as it was, and hands back a plain value -/
def spG {α : Type} (A : α → List V → Hp → Prop) (f : α → V) : Sp := fun vs H Q _ => ∃ g, A g vs H ∧ ∀ H', Ex H H' → Q (f g) H'
/-- the same, what is handed back stands in what is known -/
def spB {α : Type} (A : α → List V → Hp → Prop) (R : α → V → Hp → Prop) : Sp := fun vs H Q _ => ∃ g, (∃ B, A g vs B ∧ Ex B H ∧ ∀ v B' H', Gr B H B' H' → R g v B' → Q v H')
def EvR (te : TE) (σ : L2.St) (B : Hp) (R : V → Hp → Prop) : Prop := ∀ H1, Ex B H1 → ∀ Q : VK, (∀ v H2, Ex H1 H2 → R v (ext B H1 H2) → Q v H2) → te σ H1 Q
def EvAR (ta : TA) (σ : L2.St) (B : Hp) (R : List V → Hp → Prop) : Prop := ∀ H1, Ex B H1 → ∀ Q : List V → Hp → Prop, (∀ vs H2, Ex H1 H2 → R vs (ext B H1 H2) → Q vs H2) → ta σ H1 Q
/-- R stands in a growing heap -/
def Up (R : Hp → Prop) : Prop := ∀ H H', Ex H H' → R H → R H'
section
variable {K : PySem.W.Frag} {σ : L2.St} {B H H' : Hp} {ta tb te tx : TE} {t u : TT} {x y z v : V} {r : R2} {R R1 : V → Hp → Prop}
theorem er_ev (h : Ev te σ B v) (hr : ∀ H1, Ex B H1 → R v H1) : EvR te σ B R := fun H1 e Q q => h H1 e Q fun H2 e2 => q v H2 e2 (hr _ (ext_ex e))
theorem er_imp (h : EvR te σ B R1) (i : ∀ v H1, Ex B H1 → R1 v H1 → R v H1) : EvR te σ B R := fun H1 e Q q => h H1 e Q fun v H2 e2 r => q v H2 e2 (i v _ (ext_ex e) r)
theorem ev_er (h : EvR te σ B R) (i : ∀ v H1, Ex B H1 → R v H1 → v = z) : Ev te σ B z := fun H1 e Q q => h H1 e Q fun v H2 e2 r => by
  rw [i v _ (ext_ex e) r]
  exact q H2 e2
theorem ar_of {tr : TA} {vs : List V} {S : List V → Hp → Prop} (h : EvA tr σ B vs) (i : ∀ H1, Ex B H1 → S vs H1) : EvAR tr σ B S := fun H1 e Q q => h H1 e Q fun H2 e2 => q vs H2 e2 (i _ (ext_ex e))
theorem ar_nil {S : List V → Hp → Prop} (i : S [] B) : EvAR tNil σ B S := fun H1 e Q q => q [] H1 (Ex.refl H1) (by rw [ext_same e]; exact i)
theorem ar_cons {tr : TA} {S : List V → Hp → Prop} (h : EvR te σ B R) (k : ∀ v H1, Ex B H1 → R v H1 → EvAR tr σ H1 fun vs H2 => S (v :: vs) H2) : EvAR (tCons te tr) σ B S := fun H1 e Q q =>
  h H1 e _ fun v H2 e2 r => k v _ (ext_ex e) r H2 (ext_in e e2) _ fun vs H3 e3 s => q (v :: vs) H3 (e2.trans e3) (by rw [← ext_ext e2 e3]; exact s)
theorem ar_consV {tr : TA} {S : List V → Hp → Prop} (h : Ev te σ B v) (k : ∀ H1, Ex B H1 → EvAR tr σ H1 fun vs H2 => S (v :: vs) H2) : EvAR (tCons te tr) σ B S :=
  ar_cons (R := fun w _ => w = v) (er_ev h fun _ _ => rfl) fun w H1 e q => by
    rw [q]
    exact k H1 e
/-- one argument -/
theorem ar_one {S : List V → Hp → Prop} (h : EvR te σ B R) (i : ∀ v H1, Ex B H1 → R v H1 → S [v] H1) : EvAR (tCons te tNil) σ B S := ar_cons h fun v H1 e r => ar_nil (i v H1 e r)
theorem er_call {α : Type} {A : α → List V → Hp → Prop} {S : α → V → Hp → Prop} {tr : TA} (g : α) (h : EvAR tr σ B fun vs H1 => A g vs H1) (up : ∀ v, Up (S g v)) : EvR (tCall (spB A S) [] E0 tr) σ B (S g) := fun H1 e Q q =>
  h H1 e _ fun vs H2 e2 a => ⟨g, ext B H1 H2, by rw [List.append_nil]; exact a, ext_in e e2, fun v B3 H3 gr r => q v H3 (e2.trans gr.h) (up v _ _ (by
    rw [← ext_ext e2 gr.h]
    intro a o ha
    cases c : H2 a with
    | none =>
      rw [ext_new c]
      exact gr.i a o ha
    | some u =>
      rw [ext_old c, ← gr.fr a (some_ne c)]
      exact ha) r)⟩
theorem evg_call {α : Type} {A : α → List V → Hp → Prop} {f : α → V} {tr : TA} {S : List V → Hp → Prop} (g : α) (h : EvAR tr σ B S) (i : ∀ vs B1 H2, Ex B1 H2 → S vs B1 → A g vs H2) : Ev (tCall (spG A f) [] E0 tr) σ B (f g) := fun H1 e Q q =>
  h H1 e _ fun vs H2 e2 s => ⟨g, by rw [List.append_nil]; exact i vs _ _ (ext_in e e2) s, fun H3 e3 => q H3 (e2.trans e3)⟩
theorem ev_callG {α : Type} {A : α → List V → Hp → Prop} {f : α → V} {tr : TA} {vs : List V} (g : α) (h : EvA tr σ H vs) (hA : ∀ H1, Ex H H1 → A g vs H1) : Ev (tCall (spG A f) [] E0 tr) σ H (f g) := fun H1 e Q q =>
  h H1 e _ fun H2 e2 => ⟨g, by rw [List.append_nil]; exact hA H2 (e.trans e2), fun H3 e3 => q H3 (e2.trans e3)⟩
theorem er_tup {tr : TA} {S : List V → Hp → Prop} (h : EvAR tr σ B S) (hl : ∀ vs H1, S vs H1 → vs.length ≤ 100000) (i : ∀ p vs H1, Ex B H1 → S vs H1 → H1 p = none → R (.ref p) (upd H1 p (.tup vs))) : EvR (tTup tr) σ B R := fun H1 e Q q =>
  h H1 e _ fun vs H2 e2 s => ⟨sz_of (hl vs _ s), fun p hp => q _ _ (e2.trans (Ex.new hp)) (by
    rw [← ext_ext e2 (Ex.new hp), ext_upd (ext_in e e2) hp]
    exact i p vs _ (ext_ex e) s (fresh_back (ext_in e e2) hp))⟩
theorem er_lst {tr : TA} {S : List V → Hp → Prop} (h : EvAR tr σ B S) (hl : ∀ vs H1, S vs H1 → vs.length ≤ 100000) (i : ∀ p vs H1, Ex B H1 → S vs H1 → H1 p = none → R (.ref p) (upd H1 p (.lst vs))) : EvR (tLst tr) σ B R := fun H1 e Q q =>
  h H1 e _ fun vs H2 e2 s => ⟨sz_of (hl vs _ s), fun p hp => q _ _ (e2.trans (Ex.new hp)) (by
    rw [← ext_ext e2 (Ex.new hp), ext_upd (ext_in e e2) hp]
    exact i p vs _ (ext_ex e) s (fresh_back (ext_in e e2) hp))⟩
theorem er_L {xs : List V} (h : EvL te σ B xs) (i : ∀ p H1, Ex B H1 → H1 p = some (.lst xs) → R (.ref p) H1) : EvR te σ B R := fun H1 e Q q => h H1 e Q fun p H2 hp e2 h2 => q _ _ e2 (i p _ (ext_ex e) (by rw [ext_new hp]; exact h2))
theorem ev_fld {a C dx : Addr} {fs : List (PySem.Str × V)} {f : PySem.Str} (h : Ev te σ H (.ref a)) (ho : H a = some (.ins C dx fs)) (hc : Cls K C) (hn : NoAttr K C f) (hl : fs.lookup f = some v) : Ev (tFld K te f) σ H v := fun H1 e Q q =>
  h H1 e _ fun H2 e2 => ⟨a, C, dx, fs, v, rfl, e2 a _ (e a _ ho), hc, hn, hl, q H2 e2⟩
/-! ### the forms of expressions that the program has -/
theorem ev_shl1 {x : Nat} {tb : TE} (h : Ev tb σ H (ni x)) (hx : x ≤ 1000000) : Ev (tOp (rI CPow fun i j => .int (i * 2 ^ j.toNat)) (tC (.int 1)) tb) σ H (ni (2 ^ x)) :=
  ev_is (ev_op ev_c h (rv_I (g := fun i j => .int (i * 2 ^ j.toNat)) ⟨Int.natCast_nonneg _, by omega, by decide⟩)) (congrArg V.int (shl1 x))
theorem ev_and {a b : Nat} (ha : Ev ta σ H (ni a)) (hb : Ev tb σ H (ni b)) : Ev (tOp (rI0 fun i j => .int (Builtin.bitAnd i j)) ta tb) σ H (ni (a &&& b)) :=
  ev_is (ev_op ha hb (rv_I0 (g := fun i j => .int (Builtin.bitAnd i j)))) (congrArg V.int (band a b))
theorem ev_bit {m x : Nat} (ha : Ev ta σ H (ni m)) (hb : Ev tb σ H (ni x)) :
    Ev (tOp rEq (tOp (rI0 fun i j => .int (Builtin.bitAnd i j)) (tOp (rI (fun _ j => 0 ≤ j) fun i j => .int (i / 2 ^ j.toNat)) ta tb) (tC (.int 1))) (tC (.int 1))) σ H (.bl (m.testBit x)) := by
  have h1 : Ev (tOp (rI (fun _ j => 0 ≤ j) fun i j => .int (i / 2 ^ j.toNat)) ta tb) σ H (ni (m >>> x)) :=
    ev_is (ev_op ha hb (rv_I (g := fun i j => .int (i / 2 ^ j.toNat)) (Int.natCast_nonneg _))) (congrArg V.int (shrN m x))
  have h2 := ev_and (b := 1) h1 (ev_c (v := .int 1))
  exact ev_is (ev_op h2 ev_c (rv_eq rfl)) (congrArg V.bl (bit_of m x))
theorem ev_subN {a b : Nat} (ha : Ev ta σ H (ni a)) (hb : Ev tb σ H (ni b)) (h : b ≤ a) : Ev (tOp (rI0 fun i j => .int (i - j)) ta tb) σ H (ni (a - b)) :=
  ev_is (ev_op ha hb (rv_I0 (g := fun i j => .int (i - j)))) (congrArg V.int (by omega))
theorem ev_addN {a b : Nat} (ha : Ev ta σ H (ni a)) (hb : Ev tb σ H (ni b)) : Ev (tOp (rI0 fun i j => .int (i + j)) ta tb) σ H (ni (a + b)) :=
  ev_is (ev_op ha hb (rv_I0 (g := fun i j => .int (i + j)))) (congrArg V.int (by omega))
theorem ev_eqN {a b : Nat} (ha : Ev ta σ H (ni a)) (hb : Ev tb σ H (ni b)) : Ev (tOp rEq ta tb) σ H (.bl (decide (a = b))) :=
  ev_is (ev_op ha hb (rv_eq rfl)) (congrArg V.bl (by
    by_cases e : a = b
    · subst e
      simp
    · rw [decide_eq_false e]
      exact decide_eq_false fun z => e (Int.ofNat.inj (V.int.inj z))))
theorem ev_neN {a b : Nat} (ha : Ev ta σ H (ni a)) (hb : Ev tb σ H (ni b)) : Ev (tOp rNe ta tb) σ H (.bl (decide (a ≠ b))) :=
  ev_is (ev_op ha hb (rv_ne rfl)) (congrArg V.bl (by
    by_cases e : a = b
    · subst e
      simp
    · have q : decide (ni a = ni b) = false := decide_eq_false fun z => e (Int.ofNat.inj (V.int.inj z))
      rw [decide_eq_true e, q] <;> rfl))
theorem atI_ni {l : List Nat} {i : Nat} (h : i < l.length) : atI (l.map ni) ((i : Nat) : Int) = some (ni (l.getD i 0)) :=
  atI_nat (by rw [List.getElem?_map, List.getElem?_eq_getElem h, List.getD_eq_getElem?_getD, List.getElem?_eq_getElem h] <;> rfl)
theorem ev_ixN {l : List Nat} {i : Nat} {a : Addr} (ha : Ev ta σ H (.ref a)) (hb : Ev tb σ H (ni i)) (hs : SqL K H a (l.map ni)) (hi : i < l.length) : Ev (tOp (rIxL K) ta tb) σ H (ni (l.getD i 0)) :=
  ev_op ha hb (rv_ixL hs (atI_ni hi))
/-! ### statements -/
variable {D : Ends} {tu tw : TS} {g : TG}
theorem s_retR (e : Ex B H) (h : EvR te σ B R) (k : ∀ v B1 H1, Gr B H B1 H1 → R v B1 → D.rt v H1) : tRet te D σ H := h H e _ fun v H1 e1 r => k v _ H1 (Gr.of e e1) r
theorem s_asgR {i : Nat} (e : Ex B H) (h : EvR te σ B R) (k : ∀ v B1 H1, Gr B H B1 H1 → R v B1 → D.nx (σ.set i (some v)) H1) : tAsg te (gName i) D σ H := h H e _ fun v H1 e1 r => k v _ H1 (Gr.of e e1) r
/-- l.append(e), what is known of e is to be kept; l is not known -/
theorem s_appR {l : Addr} {xs : List V} (e : Ex B H) (hl : H l = some (.lst xs)) (ha : Ev ta σ H (.ref l)) (h : EvR te σ B R) (hz : xs.length < 100000) (k : ∀ v B1 H1, Gr B H B1 H1 → R v B1 → D.nx σ (upd H1 l (.lst (xs ++ [v])))) :
    tDrop (tBM K "list" rAppend ta (tCons te tNil)) D σ H := ha H (Ex.refl H) _ fun H1 e1 =>
  ⟨Or.inl ⟨rfl, xs, sq_of (e1 l _ hl)⟩, h H1 (e.trans e1) _ fun v H2 e2 r => ⟨l, xs, v, rfl, rfl, e2 l _ (e1 l _ hl), sz_lt hz, k v _ H2 (by
    have g := Gr.of (e.trans e1) e2
    exact ⟨g.b, g.i, e1.trans e2, fun a q => g.fr a (by
      cases c : H a with
      | none => exact absurd c q
      | some u => exact some_ne (e1 a u c))⟩) r⟩⟩
theorem s_ifT {b : Bool} (h : EvT t σ H b) (h1 : b = true → ∀ H1, Ex H H1 → tu D σ H1) (h2 : b = false → ∀ H1, Ex H H1 → tw D σ H1) : tIfS t tu tw D σ H := s_if h h1 h2
theorem s_augR {i : Nat} {ti : TIp} {a b c : V} (hx : σ[i]? = some (some a)) (h : Ev te σ H b) (hi : ∀ H1, Ex H H1 → ∀ Q : VK, Q c H1 → ti a b H1 Q) (k : ∀ H1, Ex H H1 → D.nx (σ.set i (some c)) H1) : tAug i te ti D σ H :=
  ⟨a, hx, h H (Ex.refl H) _ fun H1 e => hi H1 e _ (k H1 e)⟩
theorem s_orN {i : Nat} {a b : Nat} (hx : σ[i]? = some (some (ni a))) (h : Ev te σ H (ni b)) (k : ∀ H1, Ex H H1 → D.nx (σ.set i (some (ni (a ||| b)))) H1) : tAug i te (rI0 fun i j => .int (Builtin.bitOr i j)) D σ H :=
  s_augR hx h (fun H1 _ Q q => ⟨_, _, rfl, rfl, by show Q (.int (Builtin.bitOr _ _)) H1; rw [bor]; exact q⟩) k
theorem s_andN {i : Nat} {a b : Nat} (hx : σ[i]? = some (some (ni a))) (h : Ev te σ H (ni b)) (k : ∀ H1, Ex H H1 → D.nx (σ.set i (some (ni (a &&& b)))) H1) : tAug i te (rI0 fun i j => .int (Builtin.bitAnd i j)) D σ H :=
  s_augR hx h (fun H1 _ Q q => ⟨_, _, rfl, rfl, by show Q (.int (Builtin.bitAnd _ _)) H1; rw [band]; exact q⟩) k
/-- for x in xs: Pv of the turns done, by an extension of H -/
theorem s_forLst {a : Addr} {xs : List V} {tl : TE} (h : Ev tl σ H (.ref a)) (hx : SqL K H a xs) (Pv : Nat → L2.St → Hp → Prop) (h0 : ∀ H1, Ex H H1 → Pv 0 σ H1) (hl : ∀ i σ' H', i ≤ xs.length → Pv i σ' H' → SqL K H' a xs)
    (hs : ∀ i x σ' H', xs[i]? = some x → Pv i σ' H' → g x σ' H' fun σ2 H2 => tu { D with nx := Pv (i + 1), ct := Pv (i + 1), bk := D.nx } σ2 H2) (hd : ∀ σ' H', Pv xs.length σ' H' → D.nx σ' H') : tFor (iList K tl) g tu D σ H :=
  s_forL h hx Pv h0 hl hs hd
/-- for i, x in enumerate(xs) -/
theorem s_forEnum {a : Addr} {xs : List V} {tl : TE} {i j : Nat} (h : Ev tl σ H (.ref a)) (hx : SqL K H a xs) (Pv : Nat → L2.St → Hp → Prop) (h0 : ∀ H1, Ex H H1 → Pv 0 σ H1) (hl : ∀ i σ' H', i ≤ xs.length → Pv i σ' H' → Ex H H')
    (hs : ∀ k x σ' H' H1, xs[k]? = some x → Pv k σ' H' → Ex H' H1 → tu { D with nx := Pv (k + 1), ct := Pv (k + 1), bk := D.nx } ((σ'.set i (some (ni k))).set j (some x)) H1) (hd : ∀ σ' H', Pv xs.length σ' H' → D.nx σ' H') :
    tFor (iEnum K (tCons tl tNil)) (gTup K 2 (gCons (gName i) (gCons (gName j) gNil))) tu D σ H :=
  h H (Ex.refl H) _ fun H1 e => ⟨a, xs, rfl, ex_l e hx, for_it (walk_enum (xs := xs)) Pv (h0 H1 e) (fun k σ' H' hk p => ex_l (hl k σ' H' hk p) hx) (fun k x σ' H' H2 hk p y => by
    obtain ⟨T, x1, x2, rfl, hT, rfl, e1, e2⟩ := y
    cases e1
    exact ⟨T, _, rfl, SqT.of upd_same, rfl, _, _, rfl, _, _, rfl, rfl, hs k x2 σ' H' _ e2 p (Ex.new hT)⟩) hd⟩
end
end Cm
end PartCmEv
section PartCmDat
set_option Elab.async false
set_option linter.all false
set_option maxRecDepth 100000
set_option maxHeartbeats 4000000
namespace Cm
open PySem PySem.Spec PyProof.Rows L2 Evl
abbrev Po := R7245g.Spec.Poset
/-! ### what lies in the heap -/
def ordF (p : Po) (u d : Addr) : List (PySem.Str × V) := [("size", ni p.size), ("ups", .ref u), ("downs", .ref d)]
theorem ordF_size (p : Po) (u d : Addr) : (ordF p u d).lookup ("size" : PySem.Str) = some (ni p.size) := rfl
theorem ordF_ups (p : Po) (u d : Addr) : (ordF p u d).lookup ("ups" : PySem.Str) = some (.ref u) := rfl
theorem ordF_downs (p : Po) (u d : Addr) : (ordF p u d).lookup ("downs" : PySem.Str) = some (.ref d) := rfl
structure OrdAt (K : PySem.W.Frag) (H : Hp) (v : V) (p : Po) : Prop where
  wf : Pu.WF p
  ex : ∃ a dx u d, v = .ref a ∧ H a = some (.ins (He.ga K "Order") dx (ordF p u d)) ∧ H u = some (.lst (p.above.map ni)) ∧ H d = some (.lst ((Pu.downs p).map ni))
theorem OrdAt.mono {K : PySem.W.Frag} {H H' : Hp} {v : V} {p : Po} (h : OrdAt K H v p) (e : Ex H H') : OrdAt K H' v p := by
  obtain ⟨w, a, dx, u, d, h1, h2, h3, h4⟩ := h
  exact ⟨w, a, dx, u, d, h1, e _ _ h2, e _ _ h3, e _ _ h4⟩
def LN (H : Hp) (v : V) (l : List Nat) : Prop := ∃ a, v = .ref a ∧ H a = some (.lst (l.map ni))
theorem LN.mono {H H' : Hp} {v : V} {l : List Nat} (h : LN H v l) (e : Ex H H') : LN H' v l := by
  obtain ⟨a, h1, h2⟩ := h
  exact ⟨a, h1, e _ _ h2⟩
def compF (o : V) (l : Addr) : List (PySem.Str × V) := [("order", o), ("lowers", .ref l)]
theorem compF_order (o : V) (l : Addr) : (compF o l).lookup ("order" : PySem.Str) = some o := rfl
theorem compF_lowers (o : V) (l : Addr) : (compF o l).lookup ("lowers" : PySem.Str) = some (.ref l) := rfl
structure CompAt (K : PySem.W.Frag) (H : Hp) (v : V) (p : Po) : Prop where
  ex : ∃ a dx o l, v = .ref a ∧ H a = some (.ins (He.ga K "Completion") dx (compF o l)) ∧ OrdAt K H o p ∧ H l = some (.lst ((R7245g.Spec.cutList p).map ni))
theorem CompAt.mono {K : PySem.W.Frag} {H H' : Hp} {v : V} {p : Po} (h : CompAt K H v p) (e : Ex H H') : CompAt K H' v p := by
  obtain ⟨a, dx, o, l, h1, h2, h3, h4⟩ := h
  exact ⟨a, dx, o, l, h1, e _ _ h2, h3.mono e, e _ _ h4⟩
def optN : Option Nat → V
  | none => .non
  | some n => ni n
def PairOr (H : Hp) (v : V) : Option (Nat × Nat) → Prop
  | none => v = .non
  | some e => ∃ t, v = .ref t ∧ H t = some (.tup [ni e.1, ni e.2])
/-- lists of numbers -/
def RowsAt (H : Hp) (v : V) (ll : List (List Nat)) : Prop := ∃ a vs, v = .ref a ∧ H a = some (.lst vs) ∧ vs.length = ll.length ∧ ∀ (i : Nat) (x : V), vs[i]? = some x → ∃ l, ll[i]? = some l ∧ LN H x l
theorem RowsAt.mono {H H' : Hp} {v : V} {ll : List (List Nat)} (h : RowsAt H v ll) (e : Ex H H') : RowsAt H' v ll := by
  obtain ⟨a, vs, h1, h2, h3, h4⟩ := h
  exact ⟨a, vs, h1, e _ _ h2, h3, fun i x hx => by
    obtain ⟨l, q1, q2⟩ := h4 i x hx
    exact ⟨l, q1, q2.mono e⟩⟩
section
variable {K : PySem.W.Frag} {mg : PySem.Str → Option Value} {base : Heap} {σ : L2.St} {H H' : Hp} {ta tb te tx : TE} {v : V} {p : Po}
theorem ev_size (T : Tx K mg base) (o : OrdAt K H v p) (h : Ev te σ H v) : Ev (tFld K te "size") σ H (ni p.size) := by
  obtain ⟨_, a, dx, u, d, rfl, h2, h3, h4⟩ := o
  exact ev_fld h h2 T.cl_Order T.na_Order_size (ordF_size p u d)
theorem ev_upAt (T : Tx K mg base) (o : OrdAt K H v p) (h : Ev te σ H v) {i : Nat} (hb : Ev tb σ H (ni i)) (hi : i < p.size) : Ev (tOp (rIxL K) (tFld K te "ups") tb) σ H (ni (p.above.getD i 0)) := by
  obtain ⟨w, a, dx, u, d, rfl, h2, h3, h4⟩ := o
  exact ev_ixN (ev_fld h h2 T.cl_Order T.na_Order_ups (ordF_ups p u d)) hb (sq_of h3) (by rw [w.len]; exact hi)
theorem ev_downAt (T : Tx K mg base) (o : OrdAt K H v p) (h : Ev te σ H v) {i : Nat} (hb : Ev tb σ H (ni i)) (hi : i < p.size) : Ev (tOp (rIxL K) (tFld K te "downs") tb) σ H (ni (R7245g.Spec.downSet p i)) := by
  obtain ⟨w, a, dx, u, d, rfl, h2, h3, h4⟩ := o
  rw [← Pu.downs_at p hi]
  exact ev_ixN (ev_fld h h2 T.cl_Order T.na_Order_downs (ordF_downs p u d)) hb (sq_of h4) (by rw [Pu.downs_len]; exact hi)
theorem ev_full (T : Tx K mg base) (o : OrdAt K H v p) (h : Ev te σ H v) : Ev (tOp (rI0 fun i j => .int (i - j)) (tOp (rI CPow fun i j => .int (i * 2 ^ j.toNat)) (tC (.int 1)) (tFld K te "size")) (tC (.int 1))) σ H (ni (2 ^ p.size - 1)) :=
  ev_subN (b := 1) (ev_shl1 (ev_size T o h) (by have := o.wf.le10; omega)) ev_c (Nat.one_le_two_pow)
end
end Cm
end PartCmDat
section PartCmLoop
set_option Elab.async false
set_option linter.all false
set_option maxRecDepth 100000
set_option maxHeartbeats 4000000
namespace Cm
open PySem PySem.Spec PyProof.Rows L2 Evl
theorem find_take_none {α : Type} {f : α → Bool} {l : List α} {i : Nat} {x : α} (h : l[i]? = some x) (n : (l.take i).find? f = none) (c : f x = false) : (l.take (i + 1)).find? f = none := by
  rw [Pu.take_more h, List.find?_append, n]
  simp [c]
theorem find_at {α : Type} {f : α → Bool} {l : List α} {i : Nat} {x : α} (h : l[i]? = some x) (n : (l.take i).find? f = none) (c : f x = true) : l.find? f = some x := by
  have e : l = l.take (i + 1) ++ l.drop (i + 1) := (List.take_append_drop _ _).symm
  rw [e, Pu.take_more h, List.find?_append, List.find?_append, n]
  simp [c]
theorem map_at {α : Type} {f : α → V} {l : List α} {i : Nat} {x : V} (h : (l.map f)[i]? = some x) : ∃ n, l[i]? = some n ∧ x = f n := by
  rw [List.getElem?_map] at h
  cases q : l[i]? with
  | none => rw [q] at h; cases h
  | some n => rw [q] at h; exact ⟨n, rfl, (Option.some.inj h).symm⟩
theorem range_none {f : Nat → Bool} {i : Nat} (n : (List.range i).find? f = none) (c : f i = false) : (List.range (i + 1)).find? f = none := by
  rw [List.range_succ, List.find?_append, n]
  simp [c]
theorem range_at {f : Nat → Bool} {i n : Nat} (hi : i < n) (h : (List.range i).find? f = none) (c : f i = true) : (List.range n).find? f = some i := by
  have q : (List.range n)[i]? = some i := List.getElem?_range hi
  refine find_at q ?_ c
  rw [List.take_range, Nat.min_eq_left (Nat.le_of_lt hi)]
  exact h
open R7245g.Spec (pairsBelow)
theorem pairs_none0 {f : Nat × Nat → Bool} {n a b : Nat} (h1 : ((List.range a).flatMap fun a => (List.range n).map fun b => (a, b)).find? f = none) (h2 : ((List.range b).map fun b => (a, b)).find? f = none) (c : f (a, b) = false) :
    ((List.range (b + 1)).map fun b => (a, b)).find? f = none := by
  rw [List.range_succ, List.map_append, List.find?_append, h2]
  simp [c]
theorem pairs_none1 {f : Nat × Nat → Bool} {n a : Nat} (h1 : ((List.range a).flatMap fun a => (List.range n).map fun b => (a, b)).find? f = none) (h2 : ((List.range n).map fun b => (a, b)).find? f = none) :
    ((List.range (a + 1)).flatMap fun a => (List.range n).map fun b => (a, b)).find? f = none := by
  rw [List.range_succ, List.flatMap_append, List.find?_append, h1]
  simpa using h2
theorem pairs_at {f : Nat × Nat → Bool} {n a b : Nat} (ha : a < n) (hb : b < n) (h1 : ((List.range a).flatMap fun a => (List.range n).map fun b => (a, b)).find? f = none) (h2 : ((List.range b).map fun b => (a, b)).find? f = none) (c : f (a, b) = true) :
    (pairsBelow n).find? f = some (a, b) := by
  have e1 : List.range n = List.range (a + 1) ++ (List.range n).drop (a + 1) := by
    have q : (List.range n).take (a + 1) = List.range (a + 1) := by
      rw [List.take_range, Nat.min_eq_left (by omega)]
    rw [← q, List.take_append_drop]
  have e2 : List.range n = List.range (b + 1) ++ (List.range n).drop (b + 1) := by
    have q : (List.range n).take (b + 1) = List.range (b + 1) := by
      rw [List.take_range, Nat.min_eq_left (by omega)]
    rw [← q, List.take_append_drop]
  have e3 : ((List.range n).map fun b => (a, b)).find? f = some (a, b) := by
    rw [e2, List.map_append, List.find?_append, List.range_succ, List.map_append, List.find?_append, h2]
    simp [c]
  show ((List.range n).flatMap fun a => (List.range n).map fun b => (a, b)).find? f = some (a, b)
  have e4 : ((List.range n).flatMap fun a => (List.range n).map fun b => (a, b)) = ((List.range (a + 1)).flatMap fun a => (List.range n).map fun b => (a, b)) ++ (((List.range n).drop (a + 1)).flatMap fun a => (List.range n).map fun b => (a, b)) := by
    rw [← List.flatMap_append, ← e1]
  rw [e4, List.find?_append, List.range_succ, List.flatMap_append, List.find?_append, h1]
  simp [e3]
section
variable {K : PySem.W.Frag} {σ : L2.St} {B H H' : Hp} {ta tb te tr : TE} {t : TT} {D : Ends}
/-- for i in range(n): if test: return e -/
theorem s_find1 {tn : TA} {j n : Nat} (f : Nat → Bool) (h : EvA tn σ H [ni n]) (hn : n ≤ 100000) (ht : ∀ (i : Nat) x H1, Ex H H1 → i < n → EvT t ((σ.set j x).set j (some (ni i))) H1 (f i))
    (hr : ∀ (i : Nat) x H1, Ex H H1 → i < n → (List.range n).find? f = some i → tr ((σ.set j x).set j (some (ni i))) H1 fun v H2 => D.rt v H2)
    (hd : ∀ x H1, Ex H H1 → (List.range n).find? f = none → D.nx (σ.set j x) H1) (hσ : ∃ x, σ = σ.set j x) : tFor (iRng1 tn) (gName j) (tIfS t (tRet tr) tNext) D σ H := by
  refine s_forR1 (n := (n : Int)) h (by omega) (fun i σ' H' => ∃ x, σ' = σ.set j x ∧ Ex H H' ∧ (List.range i).find? f = none) (fun H1 e => ?_) ?_ ?_
  · obtain ⟨x, hx⟩ := hσ
    exact ⟨x, hx, e, rfl⟩
  · rintro i σ' H' hi ⟨x, rfl, e, q⟩
    have hi' : i < n := by omega
    refine s_if (ht i x H' e hi') (fun c H1 e1 => hr i x H1 (e.trans e1) hi' (range_at hi' q c)) (fun c H1 e1 => ⟨some (ni i), ?_, e.trans e1, range_none q c⟩)
    rw [List.set_set]
  · rintro σ' H' ⟨x, rfl, e, q⟩
    exact hd x H' e q
/-- for a in range(n): for b in range(n): if test: return e -/
theorem s_find2 {tn tm : TA} {i j n : Nat} (hij : i ≠ j) (f : Nat × Nat → Bool) (h : EvA tn σ H [ni n]) (h' : ∀ a x y H1, Ex H H1 → EvA tm (((σ.set i x).set j y).set i (some (ni a))) H1 [ni n]) (hn : n ≤ 100000)
    (ht : ∀ (a b : Nat) x y H1, Ex H H1 → a < n → b < n → EvT t (((((σ.set i x).set j y).set i (some (ni a))).set j (some (ni b)))) H1 (f (a, b)))
    (hr : ∀ (a b : Nat) x y H1, Ex H H1 → a < n → b < n → (pairsBelow n).find? f = some (a, b) → tr (((((σ.set i x).set j y).set i (some (ni a))).set j (some (ni b)))) H1 fun v H2 => D.rt v H2)
    (hd : ∀ x y H1, Ex H H1 → (pairsBelow n).find? f = none → D.nx ((σ.set i x).set j y) H1) (hσ : ∃ x y, σ = (σ.set i x).set j y) :
    tFor (iRng1 tn) (gName i) (tFor (iRng1 tm) (gName j) (tIfS t (tRet tr) tNext)) D σ H := by
  refine s_forR1 (n := (n : Int)) h (by omega) (fun a σ' H' => ∃ x y, σ' = (σ.set i x).set j y ∧ Ex H H' ∧ ((List.range a).flatMap fun a => (List.range n).map fun b => (a, b)).find? f = none) (fun H1 e => ?_) ?_ ?_
  · obtain ⟨x, y, hx⟩ := hσ
    exact ⟨x, y, hx, e, rfl⟩
  · rintro a σ' H' hi ⟨x, y, rfl, e, q⟩
    have ha : a < n := by omega
    refine s_forR1 (n := (n : Int)) (h' a x y H' e) (by omega) (fun b σ' H'' => ∃ y', σ' = ((σ.set i x).set j y').set i (some (ni a)) ∧ Ex H H'' ∧ ((List.range b).map fun b => (a, b)).find? f = none) (fun H1 e1 => ⟨y, rfl, e.trans e1, rfl⟩) ?_ ?_
    · rintro b σ' H'' hb ⟨y', rfl, e1, q1⟩
      have hb' : b < n := by omega
      refine s_if (ht a b x y' H'' e1 ha hb') (fun c H1 e2 => hr a b x y' H1 (e1.trans e2) ha hb' (pairs_at ha hb' q q1 c)) (fun c H1 e2 => ⟨some (ni b), ?_, e1.trans e2, pairs_none0 q q1 c⟩)
      rw [List.set_comm _ _ hij, List.set_set]
    · rintro σ' H'' ⟨y', rfl, e1, q1⟩
      refine ⟨some (ni a), y', ?_, e1, pairs_none1 q q1⟩
      rw [List.set_comm _ _ (Ne.symm hij), List.set_set]
  · rintro σ' H' ⟨x, y, rfl, e, q⟩
    exact hd x y H' e q
/-- xs[j] |= e of a list of numbers -/
theorem s_orAt {l : Addr} {xs : List Nat} {j m : Nat} (hl : H l = some (.lst (xs.map ni))) (ha : Ev ta σ H (.ref l)) (hb : Ev tb σ H (ni j)) (hj : j < xs.length) (he : Ev te σ H (ni m)) (k : ∀ H1, Ex H H1 → D.nx σ (upd H1 l (.lst ((xs.set j (xs.getD j 0 ||| m)).map ni)))) :
    tAugS ta tb te (rGetL K) (rI0 fun i j => .int (Builtin.bitOr i j)) rSetL D σ H := by
  refine ha H (Ex.refl H) _ fun H1 e1 => hb H1 e1 _ fun H2 e2 => ⟨l, xs.map ni, j, ni (xs.getD j 0), rfl, rfl, sq_of (e2 _ _ (e1 _ _ hl)), ?_, he H2 (e1.trans e2) _ fun H3 e3 => ⟨_, _, rfl, rfl, l, xs.map ni, ((j : Nat) : Int), j, rfl, rfl, e3 _ _ (e2 _ _ (e1 _ _ hl)), ?_, ?_⟩⟩
  · rw [List.getElem?_map, List.getElem?_eq_getElem hj, List.getD_eq_getElem?_getD, List.getElem?_eq_getElem hj] <;> rfl
  · exact ixN_nat (by rw [List.length_map]; exact hj)
  · have q := k H3 ((e1.trans e2).trans e3)
    rw [List.map_set] at q
    show D.nx σ (upd H3 l (.lst ((xs.map ni).set j (V.int (Builtin.bitOr _ _)))))
    rw [bor]
    exact q
theorem given_all (n : Nat) (v : Nat → V) : given n (fun _ => true) v = (List.range n).map v := by
  unfold given
  rw [List.filter_eq_self.mpr (fun _ _ => rfl)]
theorem et_yes : EvT tYes σ H true := fun H1 _ Q q => q H1 (Ex.refl H1)
/-- [e for i, x in enumerate(xs) if t], plain values -/
theorem el_lcE {te : TE} {a : Addr} {xs : List V} {tl : TE} {i j : Nat} {vs : List Nat} (f : Nat → Bool) (v : Nat → V) (h : Ev tl σ H (.ref a)) (hx : SqL K H a xs) (hz : xs.length ≤ 40000) (hw : ∀ x y, wipe (((wipe σ vs).set i (some x)).set j (some y)) vs = wipe σ vs)
    (ht : ∀ (k : Nat) (x : V) H1, Ex H H1 → xs[k]? = some x → EvT t (((wipe σ vs).set i (some (ni k))).set j (some x)) H1 (f k)) (he : ∀ (k : Nat) (x : V) H1, Ex H H1 → xs[k]? = some x → f k = true → Ev te (((wipe σ vs).set i (some (ni k))).set j (some x)) H1 (v k)) :
    EvL (tLc (iEnum K (tCons tl tNil)) (gTup K 2 (gCons (gName i) (gCons (gName j) gNil))) t te vs) σ H (given xs.length f v) := fun H0 e Q q => h H0 e _ fun H1 e1 => ⟨a, xs, rfl, ex_l (e.trans e1) hx, fun Dl hD =>
  lc_it (walk_enum (xs := xs)) (Cw H1 f v Dl) ⟨hD, Ex.new hD, upd_same⟩ (fun k H' _ p => ex_l ((e.trans e1).trans p.2.1) hx) (fun k x H' H2 hk p y => by
    obtain ⟨T, x1, x2, rfl, hT, rfl, q1, q2⟩ := y
    cases q1
    exact ⟨T, _, rfl, SqT.of upd_same, rfl, _, _, rfl, _, _, rfl, rfl, hw _ _, cw_turn ⟨p.1, p.2.1.trans (Ex.new hT), Ex.new hT _ _ p.2.2⟩ (by omega) (ht k x2 H1 (e.trans e1) q2) (fun hf => he k x2 H1 (e.trans e1) q2 hf)⟩)
    (fun H' p => q Dl H' (fresh_back e1 p.1) (e1.trans p.2.1) p.2.2)⟩
theorem Kn.end2 {B0 H0 B H H1 : Hp} (k : Kn B0 H0 B H) (e : Ex H1 H0) : Ex B (ext B0 H1 H) := fun a o h => by
  cases c : H1 a with
  | none =>
    rw [ext_new c]
    exact k.i a o h
  | some u =>
    rw [ext_old c, ← k.fr a (some_ne (e a u c))]
    exact h
/-- a list of new things -/
def LstR (Re : Nat → V → Hp → Prop) (n : Nat) (v : V) (H : Hp) : Prop := ∃ p ys, v = .ref p ∧ H p = some (.lst ys) ∧ ys.length = n ∧ ∀ (k : Nat) (y : V), ys[k]? = some y → Re k y H
theorem LstR.up {Re : Nat → V → Hp → Prop} {n : Nat} {v : V} (u : ∀ k y, Up (Re k y)) : Up (LstR Re n v) := fun H H' e h => by
  obtain ⟨p, ys, h1, h2, h3, h4⟩ := h
  exact ⟨p, ys, h1, e _ _ h2, h3, fun k y q => u k y H H' e (h4 k y q)⟩
/-- what a list comprehension holds behind i turns -/
def Lw (Re : Nat → V → Hp → Prop) (B H1 : Hp) (Dl : Addr) (i : Nat) (H' : Hp) : Prop := ∃ B1 ys, Kn B H1 B1 H' ∧ B1 Dl = none ∧ H' Dl = some (.lst ys) ∧ ys.length = i ∧ ∀ (k : Nat) (y : V), ys[k]? = some y → Re k y B1
theorem lw_turn {te : TE} {Re : Nat → V → Hp → Prop} (up : ∀ k y, Up (Re k y)) {B H1 H' : Hp} {Dl : Addr} {i : Nat} {σ2 : L2.St} (hD : H1 Dl = none) (p : Lw Re B H1 Dl i H') (hi : i < 50000) (he : ∀ B1, Ex B B1 → EvR te σ2 B1 (Re i)) :
    te σ2 H' fun y H4 => ∃ acc, H4 Dl = some (.lst acc) ∧ acc.length < sizeLine ∧ Lw Re B H1 Dl (i + 1) (upd H4 Dl (.lst (acc ++ [y]))) := by
  obtain ⟨B1, ys, k, n, h1, h2, h3⟩ := p
  refine he B1 k.b H' k.i _ fun y H4 e4 r => ⟨ys, e4 _ _ h1, sz_lt (by omega), ext B1 H' H4, ys ++ [y], (k.step e4).mut hD (by rw [ext_old h1]; exact n), by rw [ext_old h1]; exact n, upd_same, by simp [h2], fun m z q => ?_⟩
  by_cases c : m < ys.length
  · rw [List.getElem?_append_left c] at q
    exact up m z _ _ (ext_ex k.i) (h3 m z q)
  · rw [List.getElem?_append_right (by omega)] at q
    have e0 : m - ys.length = 0 := by
      have := (List.getElem?_eq_some_iff.mp q).1
      simp at this
      omega
    rw [e0] at q
    cases q
    have e5 : m = i := by omega
    subst e5
    exact r
theorem lw_end {Re : Nat → V → Hp → Prop} (up : ∀ k y, Up (Re k y)) {B H0 H1 H' : Hp} {Dl : Addr} {n : Nat} (e1 : Ex H0 H1) (hD : H1 Dl = none) (p : Lw Re B H1 Dl n H') : Ex H0 H' ∧ LstR Re n (.ref Dl) (ext B H0 H') := by
  obtain ⟨B1, ys, k, m, h1, h2, h3⟩ := p
  exact ⟨e1.trans k.h, Dl, ys, rfl, by rw [ext_new (fresh_back e1 hD)]; exact h1, h2, fun i y q => up i y _ _ (k.end2 e1) (h3 i y q)⟩
/-- [e for x in xs], new things -/
theorem er_lcL {te : TE} {a : Addr} {xs : List V} {tl : TE} {j : Nat} {vs : List Nat} (Re : Nat → V → Hp → Prop) (up : ∀ k y, Up (Re k y)) (h : Ev tl σ B (.ref a)) (hx : SqL K B a xs) (hz : xs.length ≤ 40000) (hw : ∀ x, wipe ((wipe σ vs).set j (some x)) vs = wipe σ vs)
    (he : ∀ (k : Nat) (x : V) B1, Ex B B1 → xs[k]? = some x → EvR te ((wipe σ vs).set j (some x)) B1 (Re k)) : EvR (tLc (iList K tl) (gName j) tYes te vs) σ B (LstR Re xs.length) := fun H0 e Q q => h H0 e _ fun H1 e1 =>
  ⟨a, rfl, ⟨xs, ex_l (e.trans e1) hx⟩, fun Dl hD => lc_list (xs := xs) (Lw Re B H1 Dl) ⟨B, [], (Kn.refl (e.trans e1)).mut hD (ex_none (e.trans e1) hD), ex_none (e.trans e1) hD, upd_same, rfl, fun k y z => by simp at z⟩
    (fun i H' _ ⟨_, _, k, _⟩ => ex_l (k.b.trans k.i) hx) (fun i x H' hi p => ⟨hw x, lw_turn up hD p (by have := (List.getElem?_eq_some_iff.mp hi).1; omega) fun B1 eb => he i x B1 eb hi⟩) fun H' p => q _ _ (lw_end up e1 hD p).1 (lw_end up e1 hD p).2⟩
/-- [e for i, x in enumerate(xs)], new things -/
theorem er_lcE {te : TE} {a : Addr} {xs : List V} {tl : TE} {i j : Nat} {vs : List Nat} (Re : Nat → V → Hp → Prop) (up : ∀ k y, Up (Re k y)) (h : Ev tl σ B (.ref a)) (hx : SqL K B a xs) (hz : xs.length ≤ 40000) (hw : ∀ x y, wipe (((wipe σ vs).set i (some x)).set j (some y)) vs = wipe σ vs)
    (he : ∀ (k : Nat) (x : V) B1, Ex B B1 → xs[k]? = some x → EvR te (((wipe σ vs).set i (some (ni k))).set j (some x)) B1 (Re k)) :
    EvR (tLc (iEnum K (tCons tl tNil)) (gTup K 2 (gCons (gName i) (gCons (gName j) gNil))) tYes te vs) σ B (LstR Re xs.length) := fun H0 e Q q => h H0 e _ fun H1 e1 =>
  ⟨a, xs, rfl, ex_l (e.trans e1) hx, fun Dl hD => lc_it (walk_enum (xs := xs)) (Lw Re B H1 Dl) ⟨B, [], (Kn.refl (e.trans e1)).mut hD (ex_none (e.trans e1) hD), ex_none (e.trans e1) hD, upd_same, rfl, fun k y z => by simp at z⟩
    (fun i H' _ ⟨_, _, k, _⟩ => ex_l (k.b.trans k.i) hx) (fun k x H' H2 hk p y => by
      obtain ⟨T, x1, x2, rfl, hT, rfl, q1, q2⟩ := y
      cases q1
      obtain ⟨B1, ys, kn, n, h1, h2, h3⟩ := p
      exact ⟨T, _, rfl, SqT.of upd_same, rfl, _, _, rfl, _, _, rfl, rfl, hw _ _, lw_turn up hD ⟨B1, ys, kn.up (Ex.new hT), n, Ex.new hT _ _ h1, h2, h3⟩ (by omega) fun B2 eb => he k x2 B2 eb q2⟩) fun H' p => q _ _ (lw_end up e1 hD p).1 (lw_end up e1 hD p).2⟩
/-- for i, x in enumerate(xs), where a list may change -/
theorem s_forEnumK {a : Addr} {xs : List V} {tl : TE} {tu : TS} {i j : Nat} (h : Ev tl σ H (.ref a)) (hx : SqL K H a xs) (Pv : Nat → L2.St → Hp → Prop) (h0 : ∀ H1, Ex H H1 → Pv 0 σ H1) (hl : ∀ i σ' H', i ≤ xs.length → Pv i σ' H' → SqL K H' a xs)
    (hs : ∀ (k : Nat) x σ' H' H1, xs[k]? = some x → Pv k σ' H' → Ex H' H1 → tu { D with nx := Pv (k + 1), ct := Pv (k + 1), bk := D.nx } ((σ'.set i (some (ni k))).set j (some x)) H1) (hd : ∀ σ' H', Pv xs.length σ' H' → D.nx σ' H') :
    tFor (iEnum K (tCons tl tNil)) (gTup K 2 (gCons (gName i) (gCons (gName j) gNil))) tu D σ H :=
  h H (Ex.refl H) _ fun H1 e => ⟨a, xs, rfl, ex_l e hx, for_it (walk_enum (xs := xs)) Pv (h0 H1 e) (fun k σ' H' hk p => hl k σ' H' hk p) (fun k x σ' H' H2 hk p y => by
    obtain ⟨T, x1, x2, rfl, hT, rfl, e1, e2⟩ := y
    cases e1
    exact ⟨T, _, rfl, SqT.of upd_same, rfl, _, _, rfl, _, _, rfl, rfl, hs k x2 σ' H' _ e2 p (Ex.new hT)⟩) hd⟩
end
end Cm
end PartCmLoop
section PartF1
set_option Elab.async false
set_option linter.all false
set_option maxRecDepth 100000
set_option maxHeartbeats 4000000
namespace Cm
open PySem PySem.Spec PyProof.Rows L2 Evl
open R7245g.Spec (maskOf upperBounds lowerBounds downSet)
def sp_has : Sp := spG (fun (g : Nat × Nat) vs _ => vs = [ni g.1, ni g.2] ∧ True) (fun g => .bl (g.1.testBit g.2))
theorem ok_has {P : Program} {w : World} {K : PySem.W.Frag} {mg : PySem.Str → Option Value} {base : Heap} (T : Tx K mg base) : Ok P w K mg base 1 "has" ["mask", "x"] (sp_has) := by
  refine ok_of (at_has T) sc_has (fun _ _ _ _ _ _ us hl => match us, hl with | [_, _], _ => rfl) (fun vs H Q E h => ?_) (fun f cdv A outer s H vs Q E hr h => ?_)
  · obtain ⟨g, ⟨e, _⟩, _⟩ := h
    rw [e] <;> rfl
  · obtain ⟨⟨m, x⟩, ⟨rfl, _⟩, hQ⟩ := h
    (try dsimp only at hQ)
    refine ⟨_, (pss_one (ps_ret (pe_cmpR op_eq (pe_op op_and (pe_op op_shr (pv 0) (pv 1)) pe_int) pe_int (nomark _)))), ?_⟩
    exact s_ret (ev_bit (ev_var rfl) (ev_var rfl)) fun H1 e => hQ H1 e
def sp_inside : Sp := spG (fun (g : Nat × Nat) vs _ => vs = [ni g.1, ni g.2] ∧ True) (fun g => .bl (g.1 &&& g.2 == g.1))
theorem ok_inside {P : Program} {w : World} {K : PySem.W.Frag} {mg : PySem.Str → Option Value} {base : Heap} (T : Tx K mg base) : Ok P w K mg base 1 "inside" ["one", "other"] (sp_inside) := by
  refine ok_of (at_inside T) sc_inside (fun _ _ _ _ _ _ us hl => match us, hl with | [_, _], _ => rfl) (fun vs H Q E h => ?_) (fun f cdv A outer s H vs Q E hr h => ?_)
  · obtain ⟨g, ⟨e, _⟩, _⟩ := h
    rw [e] <;> rfl
  · obtain ⟨⟨m, x⟩, ⟨rfl, _⟩, hQ⟩ := h
    (try dsimp only at hQ)
    refine ⟨_, (pss_one (ps_ret (pe_cmpR op_eq (pe_op op_and (pv 0) (pv 1)) (pv 0) (nomark _)))), ?_⟩
    exact s_ret (ev_eqN (ev_and (ev_var rfl) (ev_var rfl)) (ev_var rfl)) fun H1 e => hQ H1 e
def sp_mask_of : Sp := spG (fun (g : V × List Nat) vs H => vs = [g.1] ∧ LN H g.1 g.2 ∧ ∀ x ∈ g.2, x ≤ 1000000) (fun g => ni (Pu.bitsOf g.2))
theorem ok_mask_of {P : Program} {w : World} {K : PySem.W.Frag} {mg : PySem.Str → Option Value} {base : Heap} (T : Tx K mg base) : Ok P w K mg base 1 "mask_of" ["numbers"] (sp_mask_of) := by
  refine ok_of (at_mask_of T) sc_mask_of (fun _ _ _ _ _ _ us hl => match us, hl with | [_], _ => rfl) (fun vs H Q E h => ?_) (fun f cdv A outer s H vs Q E hr h => ?_)
  · obtain ⟨g, ⟨e, _⟩, _⟩ := h
    rw [e] <;> rfl
  · obtain ⟨⟨_, l⟩, ⟨rfl, ⟨a, rfl, ha⟩, hl⟩, hQ⟩ := h
    (try dsimp only at ha)
    (try dsimp only at hl)
    (try dsimp only at hQ)
    refine ⟨_, (pss_cons (ps_set (i := 1) sc_mask_of.nd rfl (Or.inl rfl) pe_int)
      (pss_cons (ps_for PassesOwn.never rfl (pi_list (pv 0)) (pg_name (i := 2) sc_mask_of.nd rfl (Or.inl rfl)) (pss_one (ps_aug (i := 1) sc_mask_of.nd rfl (Or.inl rfl) (pe_op op_shl pe_int (pv 2)) iop_or)))
      (pss_one (ps_ret (pv 1))))), ?_⟩
    refine s_asg (v := ni 0) ev_c fun H1 e1 => ?_
    refine s_forLst (a := a) (xs := l.map ni) (ev_var rfl) (sq_of (e1 _ _ ha)) (fun i σ H' => ∃ x, σ = [some (.ref a), some (ni (Pu.bitsOf (l.take i))), x] ∧ Ex H H') (fun H2 e2 => ⟨none, rfl, e1.trans e2⟩)
      (fun i σ' H' _ ⟨_, _, e⟩ => sq_of (e _ _ ha)) ?_ ?_
    · rintro i x σ' H' hx ⟨_, rfl, e⟩
      obtain ⟨n, hn, rfl⟩ : ∃ n, l[i]? = some n ∧ x = ni n := by
        rw [List.getElem?_map] at hx
        cases q : l[i]? with
        | none => rw [q] at hx; cases hx
        | some n => rw [q] at hx; exact ⟨n, rfl, (Option.some.inj hx).symm⟩
      refine s_orN (a := Pu.bitsOf (l.take i)) (b := 2 ^ n) rfl (ev_shl1 (ev_var rfl) (hl n (List.mem_of_getElem? hn))) fun H2 e2 => ⟨some (ni n), ?_, e.trans e2⟩
      rw [Pu.take_more hn, Pu.bitsOf_snoc]
      rfl
    · rintro σ' H' ⟨_, rfl, e⟩
      rw [List.length_map, List.take_length]
      exact s_ret (ev_var rfl) fun H2 e2 => hQ H2 (e.trans e2)
def sp_upper_bounds (K : PySem.W.Frag) : Sp := spG (fun (g : V × Po × Nat) vs H => vs = [g.1, ni g.2.2] ∧ OrdAt K H g.1 g.2.1) (fun g => ni (upperBounds g.2.1 g.2.2))
theorem ok_upper_bounds {P : Program} {w : World} {K : PySem.W.Frag} {mg : PySem.Str → Option Value} {base : Heap} (T : Tx K mg base) : Ok P w K mg base 1 "upper_bounds" ["order", "mask"] (sp_upper_bounds K) := by
  refine ok_of (at_upper_bounds T) sc_upper_bounds (fun _ _ _ _ _ _ us hl => match us, hl with | [_, _], _ => rfl) (fun vs H Q E h => ?_) (fun f cdv A outer s H vs Q E hr h => ?_)
  · obtain ⟨g, ⟨e, _⟩, _⟩ := h
    rw [e] <;> rfl
  · obtain ⟨⟨o, p, s⟩, ⟨rfl, ho⟩, hQ⟩ := h
    (try dsimp only at ho)
    (try dsimp only at hQ)
    refine ⟨_, (pss_cons (ps_set (i := 2) sc_upper_bounds.nd rfl (Or.inl rfl) (pe_op op_sub (pe_op op_shl pe_int (pe_fld (pv 0) rfl)) pe_int))
      (pss_cons (ps_for PassesOwn.never rfl (pi_enum rfl T.n_enumerate (pa_cons (pe_fld (pv 0) rfl) pa_nil)) (pg_tup rfl (pgs_cons (pg_name (i := 3) sc_upper_bounds.nd rfl (Or.inl rfl)) (pgs_cons (pg_name (i := 4) sc_upper_bounds.nd rfl (Or.inl rfl)) pgs_nil))) (pss_one (ps_if (pt_cmpR op_eq (pe_op op_and (pe_op op_shr (pv 1) (pv 3)) pe_int) pe_int (nomark _)) (pss_one (ps_aug (i := 2) sc_upper_bounds.nd rfl (Or.inl rfl) (pv 4) iop_and)) pss_nil)))
      (pss_one (ps_ret (pv 2))))), ?_⟩
    refine s_asg (ev_full T ho (ev_var rfl)) fun H1 e1 => ?_
    obtain ⟨w, a, dx, u, d, rfl, h2, h3, h4⟩ := ho
    refine s_forEnum (a := u) (xs := p.above.map ni) (ev_fld (ev_var rfl) (e1 _ _ h2) T.cl_Order T.na_Order_ups (ordF_ups p u d)) (sq_of (e1 _ _ h3)) (fun k σ H' => ∃ x y, σ = [some (.ref a), some (ni s), some (ni (Pu.ubPre p s k)), x, y] ∧ Ex H1 H')
      (fun H2 e2 => ⟨none, none, by rw [Pu.ubPre_zero] <;> rfl, e2⟩) (fun k σ' H' _ ⟨_, _, _, e⟩ => e) ?_ ?_
    · rintro k x σ' H' H2 hx ⟨_, _, rfl, e⟩ e2
      rw [List.getElem?_map] at hx
      obtain ⟨n, hn, rfl⟩ : ∃ n, p.above[k]? = some n ∧ x = ni n := by
        cases q : p.above[k]? with
        | none => rw [q] at hx; cases hx
        | some n => rw [q] at hx; exact ⟨n, rfl, (Option.some.inj hx).symm⟩
      have en : p.above.getD k 0 = n := by rw [List.getD_eq_getElem?_getD, hn] <;> rfl
      refine s_if (et_test (ev_bit (m := s) (x := k) (ev_var rfl) (ev_var rfl))) (fun c H3 e3 => ?_) (fun c H3 e3 => ?_)
      · refine s_andN (a := Pu.ubPre p s k) (b := n) rfl (ev_var rfl) fun H4 e4 => ⟨some (ni k), some (ni n), ?_, (e.trans e2).trans (e3.trans e4)⟩
        rw [← Pu.ubPre_in c, en]
        rfl
      · refine ⟨some (ni k), some (ni n), ?_, (e.trans e2).trans e3⟩
        rw [← Pu.ubPre_out c]
        rfl
    · rintro σ' H' ⟨_, _, rfl, e⟩
      rw [List.length_map, w.len, Pu.ubPre_size]
      exact s_ret (ev_var rfl) fun H2 e2 => hQ H2 ((e1.trans e).trans e2)
def sp_lower_bounds (K : PySem.W.Frag) : Sp := spG (fun (g : V × Po × Nat) vs H => vs = [g.1, ni g.2.2] ∧ OrdAt K H g.1 g.2.1) (fun g => ni (lowerBounds g.2.1 g.2.2))
theorem ok_lower_bounds {P : Program} {w : World} {K : PySem.W.Frag} {mg : PySem.Str → Option Value} {base : Heap} (T : Tx K mg base) : Ok P w K mg base 1 "lower_bounds" ["order", "mask"] (sp_lower_bounds K) := by
  refine ok_of (at_lower_bounds T) sc_lower_bounds (fun _ _ _ _ _ _ us hl => match us, hl with | [_, _], _ => rfl) (fun vs H Q E h => ?_) (fun f cdv A outer s H vs Q E hr h => ?_)
  · obtain ⟨g, ⟨e, _⟩, _⟩ := h
    rw [e] <;> rfl
  · obtain ⟨⟨o, p, s⟩, ⟨rfl, ho⟩, hQ⟩ := h
    (try dsimp only at ho)
    (try dsimp only at hQ)
    refine ⟨_, (pss_cons (ps_set (i := 2) sc_lower_bounds.nd rfl (Or.inl rfl) (pe_op op_sub (pe_op op_shl pe_int (pe_fld (pv 0) rfl)) pe_int))
      (pss_cons (ps_for PassesOwn.never rfl (pi_enum rfl T.n_enumerate (pa_cons (pe_fld (pv 0) rfl) pa_nil)) (pg_tup rfl (pgs_cons (pg_name (i := 3) sc_lower_bounds.nd rfl (Or.inl rfl)) (pgs_cons (pg_name (i := 4) sc_lower_bounds.nd rfl (Or.inl rfl)) pgs_nil))) (pss_one (ps_if (pt_cmpR op_eq (pe_op op_and (pe_op op_shr (pv 1) (pv 3)) pe_int) pe_int (nomark _)) (pss_one (ps_aug (i := 2) sc_lower_bounds.nd rfl (Or.inl rfl) (pv 4) iop_and)) pss_nil)))
      (pss_one (ps_ret (pv 2))))), ?_⟩
    refine s_asg (ev_full T ho (ev_var rfl)) fun H1 e1 => ?_
    obtain ⟨w, a, dx, u, d, rfl, h2, h3, h4⟩ := ho
    refine s_forEnum (a := d) (xs := (Pu.downs p).map ni) (ev_fld (ev_var rfl) (e1 _ _ h2) T.cl_Order T.na_Order_downs (ordF_downs p u d)) (sq_of (e1 _ _ h4)) (fun k σ H' => ∃ x y, σ = [some (.ref a), some (ni s), some (ni (Pu.lbPre p s k)), x, y] ∧ Ex H1 H')
      (fun H2 e2 => ⟨none, none, by rw [Pu.lbPre_zero] <;> rfl, e2⟩) (fun k σ' H' _ ⟨_, _, _, e⟩ => e) ?_ ?_
    · rintro k x σ' H' H2 hx ⟨_, _, rfl, e⟩ e2
      rw [List.getElem?_map] at hx
      obtain ⟨n, hn, rfl⟩ : ∃ n, (Pu.downs p)[k]? = some n ∧ x = ni n := by
        cases q : (Pu.downs p)[k]? with
        | none => rw [q] at hx; cases hx
        | some n => rw [q] at hx; exact ⟨n, rfl, (Option.some.inj hx).symm⟩
      have lk : k < p.size := by
        have q := (List.getElem?_eq_some_iff.mp hn).1
        rw [Pu.downs_len] at q
        exact q
      have en : downSet p k = n := by rw [← Pu.downs_at p lk, List.getD_eq_getElem?_getD, hn] <;> rfl
      refine s_if (et_test (ev_bit (m := s) (x := k) (ev_var rfl) (ev_var rfl))) (fun c H3 e3 => ?_) (fun c H3 e3 => ?_)
      · refine s_andN (a := Pu.lbPre p s k) (b := n) rfl (ev_var rfl) fun H4 e4 => ⟨some (ni k), some (ni n), ?_, (e.trans e2).trans (e3.trans e4)⟩
        rw [← Pu.lbPre_in c, en]
        rfl
      · refine ⟨some (ni k), some (ni n), ?_, (e.trans e2).trans e3⟩
        rw [← Pu.lbPre_out c]
        rfl
    · rintro σ' H' ⟨_, _, rfl, e⟩
      rw [List.length_map, Pu.downs_len, Pu.lbPre_size]
      exact s_ret (ev_var rfl) fun H2 e2 => hQ H2 ((e1.trans e).trans e2)
section
variable {K : PySem.W.Frag} {mg : PySem.Str → Option Value} {base : Heap} {σ : L2.St} {H H' : Hp} {ta tb te tx : TE} {v : V} {p : Po} {m x s : Nat}
theorem ev_has (ha : Ev ta σ H (ni m)) (hb : Ev tb σ H (ni x)) : Ev (tCall sp_has [] E0 (tCons ta (tCons tb tNil))) σ H (.bl (m.testBit x)) :=
  ev_callG (m, x) (ea_cons ha (ea_cons hb ea_nil)) (fun _ _ => ⟨rfl, trivial⟩)
theorem ev_inside (ha : Ev ta σ H (ni m)) (hb : Ev tb σ H (ni x)) : Ev (tCall sp_inside [] E0 (tCons ta (tCons tb tNil))) σ H (.bl (m &&& x == m)) :=
  ev_callG (m, x) (ea_cons ha (ea_cons hb ea_nil)) (fun _ _ => ⟨rfl, trivial⟩)
theorem ev_ub (o : OrdAt K H v p) (ha : Ev ta σ H v) (hb : Ev tb σ H (ni s)) : Ev (tCall (sp_upper_bounds K) [] E0 (tCons ta (tCons tb tNil))) σ H (ni (upperBounds p s)) :=
  ev_callG (v, p, s) (ea_cons ha (ea_cons hb ea_nil)) (fun _ e => ⟨rfl, o.mono e⟩)
theorem ev_lb (o : OrdAt K H v p) (ha : Ev ta σ H v) (hb : Ev tb σ H (ni s)) : Ev (tCall (sp_lower_bounds K) [] E0 (tCons ta (tCons tb tNil))) σ H (ni (lowerBounds p s)) :=
  ev_callG (v, p, s) (ea_cons ha (ea_cons hb ea_nil)) (fun _ e => ⟨rfl, o.mono e⟩)
end
def sp_closure (K : PySem.W.Frag) : Sp := spG (fun (g : V × Po × Nat) vs H => vs = [g.1, ni g.2.2] ∧ OrdAt K H g.1 g.2.1) (fun g => ni (R7245g.Spec.closure g.2.1 g.2.2))
theorem ok_closure {P : Program} {w : World} {K : PySem.W.Frag} {mg : PySem.Str → Option Value} {base : Heap} (T : Tx K mg base) : Ok P w K mg base 2 "closure" ["order", "mask"] (sp_closure K) := by
  refine ok_of (at_closure T) sc_closure (fun _ _ _ _ _ _ us hl => match us, hl with | [_, _], _ => rfl) (fun vs H Q E h => ?_) (fun f cdv A outer s H vs Q E hr h => ?_)
  · obtain ⟨g, ⟨e, _⟩, _⟩ := h
    rw [e] <;> rfl
  · obtain ⟨⟨o, p, s⟩, ⟨rfl, ho⟩, hQ⟩ := h
    (try dsimp only at ho)
    (try dsimp only at hQ)
    refine ⟨_, (pss_one (ps_ret (pe_ok (ok_lower_bounds T) (hr.mono (by decide)) rfl (pa_cons (pv 0) (pa_cons (pe_ok (ok_upper_bounds T) (hr.mono (by decide)) rfl (pa_cons (pv 0) (pa_cons (pv 1) pa_nil))) pa_nil))))), ?_⟩
    exact s_ret (ev_lb ho (ev_var rfl) (ev_ub ho (ev_var rfl) (ev_var rfl))) fun H1 e => hQ H1 e
def sp_upper_closure (K : PySem.W.Frag) : Sp := spG (fun (g : V × Po × Nat) vs H => vs = [g.1, ni g.2.2] ∧ OrdAt K H g.1 g.2.1) (fun g => ni (upperBounds g.2.1 (lowerBounds g.2.1 g.2.2)))
theorem ok_upper_closure {P : Program} {w : World} {K : PySem.W.Frag} {mg : PySem.Str → Option Value} {base : Heap} (T : Tx K mg base) : Ok P w K mg base 2 "upper_closure" ["order", "mask"] (sp_upper_closure K) := by
  refine ok_of (at_upper_closure T) sc_upper_closure (fun _ _ _ _ _ _ us hl => match us, hl with | [_, _], _ => rfl) (fun vs H Q E h => ?_) (fun f cdv A outer s H vs Q E hr h => ?_)
  · obtain ⟨g, ⟨e, _⟩, _⟩ := h
    rw [e] <;> rfl
  · obtain ⟨⟨o, p, s⟩, ⟨rfl, ho⟩, hQ⟩ := h
    (try dsimp only at ho)
    (try dsimp only at hQ)
    refine ⟨_, (pss_one (ps_ret (pe_ok (ok_upper_bounds T) (hr.mono (by decide)) rfl (pa_cons (pv 0) (pa_cons (pe_ok (ok_lower_bounds T) (hr.mono (by decide)) rfl (pa_cons (pv 0) (pa_cons (pv 1) pa_nil))) pa_nil))))), ?_⟩
    exact s_ret (ev_ub ho (ev_var rfl) (ev_lb ho (ev_var rfl) (ev_var rfl))) fun H1 e => hQ H1 e
def sp_at_most (K : PySem.W.Frag) : Sp := spG (fun (g : V × Po × Nat × Nat) vs H => vs = [g.1, ni g.2.2.1, ni g.2.2.2] ∧ OrdAt K H g.1 g.2.1 ∧ g.2.2.1 < g.2.1.size) (fun g => .bl (g.2.1.le g.2.2.1 g.2.2.2))
theorem ok_at_most {P : Program} {w : World} {K : PySem.W.Frag} {mg : PySem.Str → Option Value} {base : Heap} (T : Tx K mg base) : Ok P w K mg base 2 "at_most" ["order", "a", "b"] (sp_at_most K) := by
  refine ok_of (at_at_most T) sc_at_most (fun _ _ _ _ _ _ us hl => match us, hl with | [_, _, _], _ => rfl) (fun vs H Q E h => ?_) (fun f cdv A outer s H vs Q E hr h => ?_)
  · obtain ⟨g, ⟨e, _⟩, _⟩ := h
    rw [e] <;> rfl
  · obtain ⟨⟨o, p, a, b⟩, ⟨rfl, ho, ha⟩, hQ⟩ := h
    (try dsimp only at ho)
    (try dsimp only at ha)
    (try dsimp only at hQ)
    refine ⟨_, (pss_one (ps_ret (pe_ok (ok_has T) (hr.mono (by decide)) rfl (pa_cons (pe_ix ix_list (pe_fld (pv 0) rfl) (pv 1) (fun _ _ => rfl)) (pa_cons (pv 2) pa_nil))))), ?_⟩
    exact s_ret (ev_has (ev_upAt T ho (ev_var rfl) (ev_var rfl) ha) (ev_var rfl)) fun H1 e => hQ H1 e
def sp_members (K : PySem.W.Frag) : Sp := spB (fun (g : V × Po × Nat) vs H => vs = [g.1, ni g.2.2] ∧ OrdAt K H g.1 g.2.1) (fun g v H => LN H v (R7245g.Spec.members g.2.1 g.2.2))
theorem ok_members {P : Program} {w : World} {K : PySem.W.Frag} {mg : PySem.Str → Option Value} {base : Heap} (T : Tx K mg base) : Ok P w K mg base 2 "members" ["order", "mask"] (sp_members K) := by
  refine ok_of (at_members T) sc_members (fun _ _ _ _ _ _ us hl => match us, hl with | [_, _], _ => rfl) (fun vs H Q E h => ?_) (fun f cdv A outer s H vs Q E hr h => ?_)
  · obtain ⟨g, B, ⟨e, _⟩, _⟩ := h
    rw [e] <;> rfl
  · obtain ⟨⟨o, p, s⟩, B, ⟨rfl, ho⟩, eB, hQ⟩ := h
    (try dsimp only at ho)
    (try dsimp only at hQ)
    refine ⟨_, (pss_one (ps_ret (pe_lc (own := [("x", 2)]) rfl sc_members.nd (pi_range1 rfl T.n_range (pa_cons (pe_fld (pv 0) rfl) pa_nil)) (blkOk_by (N := ["order", "mask", "x"]) (sc := defScope s_members) (by decide +kernel)) (fun _ _ _ _ _ => by exact (pg_name (i := 2) sc_members.nd rfl (Or.inl rfl))) (fun _ _ _ _ _ => by exact (pts_one (pt_val (pe_ok (ok_has T) (hr.mono (by decide)) rfl (pa_cons (pv 1) (pa_cons (pv 2) pa_nil)))))) (fun _ _ _ _ _ => by exact (pv 2))))), ?_⟩
    refine s_retR (R := fun v H => LN H v (R7245g.Spec.members p s)) eB (er_L (el_lcR1 (n := (p.size : Int)) (fun i => s.testBit i) ni (ea_cons (ev_size T ho (ev_var rfl)) ea_nil) (by have := ho.wf.le10; omega) (fun x => rfl)
      (fun i H1 e hi => et_B (ev_has (ev_var rfl) (ev_var rfl))) (fun i H1 e hi _ => ev_var rfl)) (fun q H1 e h => ⟨q, rfl, h⟩)) fun v B1 H1 g r => hQ v B1 H1 g r
section
variable {K : PySem.W.Frag} {mg : PySem.Str → Option Value} {base : Heap} {σ : L2.St} {H H' : Hp} {ta tb tc te tx : TE} {v : V} {p : Po} {m x s a b : Nat}
theorem ev_clo (o : OrdAt K H v p) (ha : Ev ta σ H v) (hb : Ev tb σ H (ni s)) : Ev (tCall (sp_closure K) [] E0 (tCons ta (tCons tb tNil))) σ H (ni (R7245g.Spec.closure p s)) :=
  ev_callG (v, p, s) (ea_cons ha (ea_cons hb ea_nil)) (fun _ e => ⟨rfl, o.mono e⟩)
theorem ev_uclo (o : OrdAt K H v p) (ha : Ev ta σ H v) (hb : Ev tb σ H (ni s)) : Ev (tCall (sp_upper_closure K) [] E0 (tCons ta (tCons tb tNil))) σ H (ni (upperBounds p (lowerBounds p s))) :=
  ev_callG (v, p, s) (ea_cons ha (ea_cons hb ea_nil)) (fun _ e => ⟨rfl, o.mono e⟩)
theorem ev_le (o : OrdAt K H v p) (hl : a < p.size) (ha : Ev ta σ H v) (hb : Ev tb σ H (ni a)) (hc : Ev tc σ H (ni b)) : Ev (tCall (sp_at_most K) [] E0 (tCons ta (tCons tb (tCons tc tNil)))) σ H (.bl (p.le a b)) :=
  ev_callG (v, p, a, b) (ea_cons ha (ea_cons hb (ea_cons hc ea_nil))) (fun _ e => ⟨rfl, o.mono e, hl⟩)
theorem er_members {B : Hp} (o : OrdAt K B v p) (ha : Ev ta σ B v) (hb : Ev tb σ B (ni s)) : EvR (tCall (sp_members K) [] E0 (tCons ta (tCons tb tNil))) σ B (fun v H => LN H v (R7245g.Spec.members p s)) :=
  er_call (v, p, s) (ar_of (ea_cons ha (ea_cons hb ea_nil)) fun _ e => ⟨rfl, o.mono e⟩) fun _ _ _ e h => LN.mono h e
theorem ev_mask {B : Hp} {l : List Nat} (h : EvR te σ B (fun v H => LN H v l)) (hl : ∀ x ∈ l, x ≤ 1000000) : Ev (tCall sp_mask_of [] E0 (tCons te tNil)) σ B (ni (Pu.bitsOf l)) := fun H1 e Q q =>
  h H1 e _ fun v H2 e2 r => ⟨(v, l), ⟨rfl, r.mono (ext_in e e2), hl⟩, fun H3 e3 => q H3 (e2.trans e3)⟩
/-- mask_of([a for a in range(n) if ..]) -/
theorem ev_maskR {B : Hp} {n : Nat} {t : TT} {ta : TA} {j : Nat} {vs : List Nat} (f : Nat → Bool) (hn : n ≤ 10) (h : EvA ta σ B [ni n]) (hw : ∀ x, wipe ((wipe σ vs).set j (some x)) vs = wipe σ vs)
    (ht : ∀ (i : Nat) H1, Ex B H1 → i < n → EvT t ((wipe σ vs).set j (some (ni i))) H1 (f i)) (he : ∀ (i : Nat) H1, Ex B H1 → i < n → Ev te ((wipe σ vs).set j (some (ni i))) H1 (ni i)) :
    Ev (tCall sp_mask_of [] E0 (tCons (tLc (iRng1 ta) (gName j) t te vs) tNil)) σ B (ni (maskOf f n)) := by
  rw [← Pu.bits_range]
  refine ev_mask (er_L (el_lcR1 (n := (n : Int)) f ni h (by omega) hw (fun i H1 e hi => ht i H1 e (by omega)) (fun i H1 e hi _ => he i H1 e (by omega))) (fun q H1 e h => ⟨q, rfl, h⟩)) fun x hx => ?_
  have q := List.mem_range.mp (List.mem_filter.mp hx).1
  omega
end
def sp_supremum (K : PySem.W.Frag) : Sp := spG (fun (g : V × Po × Nat) vs H => vs = [g.1, ni g.2.2] ∧ OrdAt K H g.1 g.2.1) (fun g => optN (R7245g.Spec.supremum g.2.1 g.2.2))
theorem ok_supremum {P : Program} {w : World} {K : PySem.W.Frag} {mg : PySem.Str → Option Value} {base : Heap} (T : Tx K mg base) : Ok P w K mg base 3 "supremum" ["order", "mask"] (sp_supremum K) := by
  refine ok_of (at_supremum T) sc_supremum (fun _ _ _ _ _ _ us hl => match us, hl with | [_, _], _ => rfl) (fun vs H Q E h => ?_) (fun f cdv A outer s H vs Q E hr h => ?_)
  · obtain ⟨g, ⟨e, _⟩, _⟩ := h
    rw [e] <;> rfl
  · obtain ⟨⟨o, p, s⟩, ⟨rfl, ho⟩, hQ⟩ := h
    (try dsimp only at ho)
    (try dsimp only at hQ)
    refine ⟨_, (pss_cons (ps_set (i := 2) sc_supremum.nd rfl (Or.inl rfl) (pe_ok (ok_upper_bounds T) (hr.mono (by decide)) rfl (pa_cons (pv 0) (pa_cons (pv 1) pa_nil))))
      (pss_cons (ps_for PassesOwn.never rfl (pi_list (pe_ok (ok_members T) (hr.mono (by decide)) rfl (pa_cons (pv 0) (pa_cons (pv 2) pa_nil)))) (pg_name (i := 3) sc_supremum.nd rfl (Or.inl rfl)) (pss_one (ps_if (pt_val (pe_ok (ok_inside T) (hr.mono (by decide)) rfl (pa_cons (pv 2) (pa_cons (pe_ix ix_list (pe_fld (pv 0) rfl) (pv 3) (fun _ _ => rfl)) pa_nil)))) (pss_one (ps_ret (pv 3))) pss_nil)))
      (pss_one (ps_ret pe_non)))), ?_⟩
    refine s_asg (ev_ub ho (ev_var rfl) (ev_var rfl)) fun H1 e1 => ?_
    have ho1 := ho.mono e1
    refine er_members ho1 (ev_var rfl) (ev_var rfl) H1 (Ex.refl _) _ fun v H2 e2 r => ?_
    rw [ext_self e2] at r
    obtain ⟨a, rfl, ha⟩ := r
    refine ⟨a, rfl, ⟨_, sq_of ha⟩, for_list (K := K) (a := a) (xs := (R7245g.Spec.members p (upperBounds p s)).map ni) (fun i σ H' => ∃ x, σ = [some o, some (ni s), some (ni (upperBounds p s)), x] ∧ Ex H2 H' ∧
      ((R7245g.Spec.members p (upperBounds p s)).take i).find? (fun y => upperBounds p s &&& p.above.getD y 0 == upperBounds p s) = none) ⟨none, rfl, Ex.refl _, rfl⟩ (fun i σ' H' _ ⟨_, _, e, _⟩ => sq_of (e _ _ ha)) ?_ ?_⟩
    · rintro i x σ' H' hx ⟨_, rfl, e, hn⟩
      obtain ⟨y, hy, rfl⟩ := map_at hx
      have ly : y < p.size := by
        have q := (List.mem_filter.mp (List.mem_of_getElem? hy)).1
        exact List.mem_range.mp q
      have ho2 := ho1.mono (e2.trans e)
      refine s_if (et_B (ev_inside (ev_var rfl) (ev_upAt T ho2 (ev_var rfl) (ev_var rfl) ly))) (fun c H3 e3 => ?_) (fun c H3 e3 => ⟨some (ni y), rfl, e.trans e3, find_take_none hy hn c⟩)
      refine s_ret (ev_var rfl) fun H4 e4 => ?_
      have q := hQ H4 (((e1.trans e2).trans e).trans (e3.trans e4))
      rw [Pu.sup_find, find_at hy hn c] at q
      exact q
    · rintro σ' H' ⟨_, rfl, e, hn⟩
      rw [List.length_map, List.take_length] at hn
      dsimp only
      refine s_ret ev_c fun H4 e4 => ?_
      have q := hQ H4 (((e1.trans e2).trans e).trans e4)
      rw [Pu.sup_find, hn] at q
      exact q
def sp_infimum (K : PySem.W.Frag) : Sp := spG (fun (g : V × Po × Nat) vs H => vs = [g.1, ni g.2.2] ∧ OrdAt K H g.1 g.2.1) (fun g => optN (R7245g.Spec.infimum g.2.1 g.2.2))
theorem ok_infimum {P : Program} {w : World} {K : PySem.W.Frag} {mg : PySem.Str → Option Value} {base : Heap} (T : Tx K mg base) : Ok P w K mg base 3 "infimum" ["order", "mask"] (sp_infimum K) := by
  refine ok_of (at_infimum T) sc_infimum (fun _ _ _ _ _ _ us hl => match us, hl with | [_, _], _ => rfl) (fun vs H Q E h => ?_) (fun f cdv A outer s H vs Q E hr h => ?_)
  · obtain ⟨g, ⟨e, _⟩, _⟩ := h
    rw [e] <;> rfl
  · obtain ⟨⟨o, p, s⟩, ⟨rfl, ho⟩, hQ⟩ := h
    (try dsimp only at ho)
    (try dsimp only at hQ)
    refine ⟨_, (pss_cons (ps_set (i := 2) sc_infimum.nd rfl (Or.inl rfl) (pe_ok (ok_lower_bounds T) (hr.mono (by decide)) rfl (pa_cons (pv 0) (pa_cons (pv 1) pa_nil))))
      (pss_cons (ps_for PassesOwn.never rfl (pi_list (pe_ok (ok_members T) (hr.mono (by decide)) rfl (pa_cons (pv 0) (pa_cons (pv 2) pa_nil)))) (pg_name (i := 3) sc_infimum.nd rfl (Or.inl rfl)) (pss_one (ps_if (pt_val (pe_ok (ok_inside T) (hr.mono (by decide)) rfl (pa_cons (pv 2) (pa_cons (pe_ix ix_list (pe_fld (pv 0) rfl) (pv 3) (fun _ _ => rfl)) pa_nil)))) (pss_one (ps_ret (pv 3))) pss_nil)))
      (pss_one (ps_ret pe_non)))), ?_⟩
    refine s_asg (ev_lb ho (ev_var rfl) (ev_var rfl)) fun H1 e1 => ?_
    have ho1 := ho.mono e1
    refine er_members ho1 (ev_var rfl) (ev_var rfl) H1 (Ex.refl _) _ fun v H2 e2 r => ?_
    rw [ext_self e2] at r
    obtain ⟨a, rfl, ha⟩ := r
    refine ⟨a, rfl, ⟨_, sq_of ha⟩, for_list (K := K) (a := a) (xs := (R7245g.Spec.members p (lowerBounds p s)).map ni) (fun i σ H' => ∃ x, σ = [some o, some (ni s), some (ni (lowerBounds p s)), x] ∧ Ex H2 H' ∧
      ((R7245g.Spec.members p (lowerBounds p s)).take i).find? (fun y => lowerBounds p s &&& downSet p y == lowerBounds p s) = none) ⟨none, rfl, Ex.refl _, rfl⟩ (fun i σ' H' _ ⟨_, _, e, _⟩ => sq_of (e _ _ ha)) ?_ ?_⟩
    · rintro i x σ' H' hx ⟨_, rfl, e, hn⟩
      obtain ⟨y, hy, rfl⟩ := map_at hx
      have ly : y < p.size := by
        have q := (List.mem_filter.mp (List.mem_of_getElem? hy)).1
        exact List.mem_range.mp q
      have ho2 := ho1.mono (e2.trans e)
      refine s_if (et_B (ev_inside (ev_var rfl) (ev_downAt T ho2 (ev_var rfl) (ev_var rfl) ly))) (fun c H3 e3 => ?_) (fun c H3 e3 => ⟨some (ni y), rfl, e.trans e3, find_take_none hy hn c⟩)
      refine s_ret (ev_var rfl) fun H4 e4 => ?_
      have q := hQ H4 (((e1.trans e2).trans e).trans (e3.trans e4))
      rw [Pu.inf_find, find_at hy hn c] at q
      exact q
    · rintro σ' H' ⟨_, rfl, e, hn⟩
      rw [List.length_map, List.take_length] at hn
      dsimp only
      refine s_ret ev_c fun H4 e4 => ?_
      have q := hQ H4 (((e1.trans e2).trans e).trans e4)
      rw [Pu.inf_find, hn] at q
      exact q
theorem ev_sup {K : PySem.W.Frag} {σ : L2.St} {H : Hp} {ta tb : TE} {v : V} {p : Po} {s : Nat} (o : OrdAt K H v p) (ha : Ev ta σ H v) (hb : Ev tb σ H (ni s)) : Ev (tCall (sp_supremum K) [] E0 (tCons ta (tCons tb tNil))) σ H (optN (R7245g.Spec.supremum p s)) :=
  ev_callG (v, p, s) (ea_cons ha (ea_cons hb ea_nil)) (fun _ e => ⟨rfl, o.mono e⟩)
theorem ev_inf {K : PySem.W.Frag} {σ : L2.St} {H : Hp} {ta tb : TE} {v : V} {p : Po} {s : Nat} (o : OrdAt K H v p) (ha : Ev ta σ H v) (hb : Ev tb σ H (ni s)) : Ev (tCall (sp_infimum K) [] E0 (tCons ta (tCons tb tNil))) σ H (optN (R7245g.Spec.infimum p s)) :=
  ev_callG (v, p, s) (ea_cons ha (ea_cons hb ea_nil)) (fun _ e => ⟨rfl, o.mono e⟩)
theorem ne_optN (o : Option Nat) (a : Nat) : (!decide (optN o = ni a)) = (o != some a) := by
  cases o with
  | none => rfl
  | some b =>
    by_cases e : b = a
    · subst e
      simp [optN]
    · have q : decide (optN (some b) = ni a) = false := decide_eq_false fun z => e (Int.ofNat.inj (V.int.inj z))
      rw [q]
      simp [e]
theorem scal_optN (o : Option Nat) (a : Nat) : scal (optN o) (ni a) = true := by cases o <;> rfl
def sp_join_irreducibles (K : PySem.W.Frag) : Sp := spG (fun (g : V × Po) vs H => vs = [g.1] ∧ OrdAt K H g.1 g.2) (fun g => ni (R7245g.Spec.joinIrreducibles g.2))
theorem ok_join_irreducibles {P : Program} {w : World} {K : PySem.W.Frag} {mg : PySem.Str → Option Value} {base : Heap} (T : Tx K mg base) : Ok P w K mg base 4 "join_irreducibles" ["order"] (sp_join_irreducibles K) := by
  refine ok_of (at_join_irreducibles T) sc_join_irreducibles (fun _ _ _ _ _ _ us hl => match us, hl with | [_], _ => rfl) (fun vs H Q E h => ?_) (fun f cdv A outer s H vs Q E hr h => ?_)
  · obtain ⟨g, ⟨e, _⟩, _⟩ := h
    rw [e] <;> rfl
  · obtain ⟨⟨o, p⟩, ⟨rfl, ho⟩, hQ⟩ := h
    (try dsimp only at ho)
    (try dsimp only at hQ)
    refine ⟨_, (pss_one (ps_ret (pe_ok (ok_mask_of T) (hr.mono (by decide)) rfl (pa_cons (pe_lc (own := [("a", 1)]) rfl sc_join_irreducibles.nd (pi_range1 rfl T.n_range (pa_cons (pe_fld (pv 0) rfl) pa_nil)) (blkOk_by (N := ["order", "a"]) (sc := defScope s_join_irreducibles) (by decide +kernel)) (fun _ _ _ _ _ => by exact (pg_name (i := 1) sc_join_irreducibles.nd rfl (Or.inl rfl))) (fun _ _ _ _ _ => by exact (pts_one (pt_cmpR op_ne (pe_ok (ok_supremum T) (hr.mono (by decide)) rfl (pa_cons (pv 0) (pa_cons (pe_op op_sub (pe_ix (ix_listK (K := K) rfl) (pe_fldK (K := K) rfl (pv 0) rfl) (pv 1) (fun _ _ => rfl)) (pe_op op_shl pe_int (pv 1))) pa_nil))) (pv 1) (nomark _)))) (fun _ _ _ _ _ => by exact (pv 1))) pa_nil)))), ?_⟩
    refine s_ret (ev_maskR (n := p.size) (fun a => R7245g.Spec.supremum p (R7245g.Spec.strictlyBelow p a) != some a) ho.wf.le10 (ea_cons (ev_size T ho (ev_var rfl)) ea_nil) (fun x => rfl) (fun i H1 e hi => et_test (ev_is (ev_op (ev_sup (s := downSet p i - 2 ^ i) (ho.mono e) (ev_var rfl)
      (ev_subN (ev_downAt T (ho.mono e) (ev_var rfl) (ev_var rfl) hi) (ev_shl1 (ev_var rfl) (by have := ho.wf.le10; omega)) (Pu.pow_le_down ho.wf hi))) (ev_var rfl) (rv_ne (scal_optN _ _))) ?_)) (fun i H1 e hi => ev_var rfl)) fun H1 e => hQ H1 e
    rw [ne_optN, Pu.below_sub ho.wf hi]
def sp_meet_irreducibles (K : PySem.W.Frag) : Sp := spG (fun (g : V × Po) vs H => vs = [g.1] ∧ OrdAt K H g.1 g.2) (fun g => ni (R7245g.Spec.meetIrreducibles g.2))
theorem ok_meet_irreducibles {P : Program} {w : World} {K : PySem.W.Frag} {mg : PySem.Str → Option Value} {base : Heap} (T : Tx K mg base) : Ok P w K mg base 4 "meet_irreducibles" ["order"] (sp_meet_irreducibles K) := by
  refine ok_of (at_meet_irreducibles T) sc_meet_irreducibles (fun _ _ _ _ _ _ us hl => match us, hl with | [_], _ => rfl) (fun vs H Q E h => ?_) (fun f cdv A outer s H vs Q E hr h => ?_)
  · obtain ⟨g, ⟨e, _⟩, _⟩ := h
    rw [e] <;> rfl
  · obtain ⟨⟨o, p⟩, ⟨rfl, ho⟩, hQ⟩ := h
    (try dsimp only at ho)
    (try dsimp only at hQ)
    refine ⟨_, (pss_one (ps_ret (pe_ok (ok_mask_of T) (hr.mono (by decide)) rfl (pa_cons (pe_lc (own := [("a", 1)]) rfl sc_meet_irreducibles.nd (pi_range1 rfl T.n_range (pa_cons (pe_fld (pv 0) rfl) pa_nil)) (blkOk_by (N := ["order", "a"]) (sc := defScope s_meet_irreducibles) (by decide +kernel)) (fun _ _ _ _ _ => by exact (pg_name (i := 1) sc_meet_irreducibles.nd rfl (Or.inl rfl))) (fun _ _ _ _ _ => by exact (pts_one (pt_cmpR op_ne (pe_ok (ok_infimum T) (hr.mono (by decide)) rfl (pa_cons (pv 0) (pa_cons (pe_op op_sub (pe_ix (ix_listK (K := K) rfl) (pe_fldK (K := K) rfl (pv 0) rfl) (pv 1) (fun _ _ => rfl)) (pe_op op_shl pe_int (pv 1))) pa_nil))) (pv 1) (nomark _)))) (fun _ _ _ _ _ => by exact (pv 1))) pa_nil)))), ?_⟩
    refine s_ret (ev_maskR (n := p.size) (fun a => R7245g.Spec.infimum p (R7245g.Spec.strictlyAbove p a) != some a) ho.wf.le10 (ea_cons (ev_size T ho (ev_var rfl)) ea_nil) (fun x => rfl) (fun i H1 e hi => et_test (ev_is (ev_op (ev_inf (s := p.above.getD i 0 - 2 ^ i) (ho.mono e) (ev_var rfl)
      (ev_subN (ev_upAt T (ho.mono e) (ev_var rfl) (ev_var rfl) hi) (ev_shl1 (ev_var rfl) (by have := ho.wf.le10; omega)) (Pu.pow_le_up ho.wf hi))) (ev_var rfl) (rv_ne (scal_optN _ _))) ?_)) (fun i H1 e hi => ev_var rfl)) fun H1 e => hQ H1 e
    rw [ne_optN, Pu.above_sub ho.wf hi]
end Cm
end PartF1
section PartF2
set_option Elab.async false
set_option linter.all false
set_option maxRecDepth 100000
set_option maxHeartbeats 4000000
namespace Cm
open PySem PySem.Spec PyProof.Rows L2 Evl
open R7245g.Spec (maskOf upperBounds lowerBounds downSet orderOf baseRows closeStep firstCycle)
def sp_reached : Sp := spB (fun (g : Nat × V × List (Nat × Nat)) vs H => vs = [ni g.1, g.2.1] ∧ RowsAt H g.2.1 (g.2.2.map fun e => [e.1, e.2]) ∧ g.1 ≤ 10 ∧ ∀ e ∈ g.2.2, e.1 < g.1 ∧ e.2 < g.1) (fun g v H => LN H v (orderOf g.1 g.2.2).above)
theorem ok_reached {P : Program} {w : World} {K : PySem.W.Frag} {mg : PySem.Str → Option Value} {base : Heap} (T : Tx K mg base) : Ok P w K mg base 2 "reached" ["size", "pairs"] (sp_reached) := by
  refine ok_of (at_reached T) sc_reached (fun _ _ _ _ _ _ us hl => match us, hl with | [_, _], _ => rfl) (fun vs H Q E h => ?_) (fun f cdv A outer s H vs Q E hr h => ?_)
  · obtain ⟨g, B, ⟨e, _⟩, _⟩ := h
    rw [e] <;> rfl
  · obtain ⟨⟨n, _, l⟩, B, ⟨rfl, ⟨pa, vs, rfl, hp, hlen, hrow⟩, hn, hl⟩, eB, hQ⟩ := h
    (try dsimp only at hp)
    (try dsimp only at hlen)
    (try dsimp only at hrow)
    (try dsimp only at hn)
    (try dsimp only at hl)
    (try dsimp only at hQ)
    refine ⟨_, (pss_cons (ps_setLc (i := 2) rfl sc_reached.nd rfl rfl (sw_true rfl rfl rfl (by decide +kernel)) (own := [("a", 3)]) (pi_range1 rfl T.n_range (pa_cons (pv 0) pa_nil)) (blkOk_by (N := ["size", "pairs", "ups", "a", "b", "between"]) (sc := defScope s_reached) (by decide +kernel)) (fun _ _ _ _ _ => by exact (pg_name (i := 3) sc_reached.nd rfl (Or.inl rfl))) (fun _ _ _ _ _ => by exact pts_nil) (fun _ _ _ _ _ => by exact (pe_op op_shl pe_int (pv 3))))
      (pss_cons (ps_for PassesOwn.never rfl (pi_list (pv 1)) (pg_unl rfl (pgs_cons (pg_name (i := 3) sc_reached.nd rfl (Or.inl rfl)) (pgs_cons (pg_name (i := 4) sc_reached.nd rfl (Or.inl rfl)) pgs_nil))) (pss_one (ps_augS (pv 2) (pv 3) pget_list (pe_op op_shl pe_int (pv 4)) iop_or set_list)))
      (pss_cons (ps_for PassesOwn.never rfl (pi_range1 rfl T.n_range (pa_cons (pv 0) pa_nil)) (pg_name (i := 5) sc_reached.nd rfl (Or.inl rfl)) (pss_one (ps_for PassesOwn.never rfl (pi_range1 rfl T.n_range (pa_cons (pv 0) pa_nil)) (pg_name (i := 3) sc_reached.nd rfl (Or.inl rfl)) (pss_one (ps_if (pt_val (pe_ok (ok_has T) (hr.mono (by decide)) rfl (pa_cons (pe_ix ix_list (pv 2) (pv 3) (fun _ _ => rfl)) (pa_cons (pv 5) pa_nil)))) (pss_one (ps_augS (pv 2) (pv 3) pget_list (pe_ix ix_list (pv 2) (pv 5) (fun _ _ => rfl)) iop_or set_list)) pss_nil)))))
      (pss_one (ps_ret (pv 2)))))), ?_⟩
    refine s_asgL (el_lcR1 (n := (n : Int)) (fun _ => true) (fun i => ni (2 ^ i)) (ea_cons (ev_var rfl) ea_nil) (by omega) (fun x => rfl) (fun i H1 e hi H2 e2 Q q => q H2 (Ex.refl _)) (fun i H1 e hi _ => ev_shl1 (ev_var rfl) (by omega))) fun u H1 hu e1 h1 => ?_
    have h1' : H1 u = some (.lst ((baseRows n []).map ni)) := by
      rw [h1, Pu.base_nil, given_all, List.map_map]
      rfl
    have k1 : Kn B H B H1 := (Kn.refl eB).up e1
    have hup : u ≠ pa := fun z => by
      rw [z, eB _ _ hp] at hu
      cases hu
    refine s_forLst (a := pa) (xs := vs) (ev_var rfl) (sq_of (e1 _ _ (eB _ _ hp))) (fun i σ H' => ∃ x y z, σ = [some (ni n), some (.ref pa), some (.ref u), x, y, z] ∧ Kn B H B H' ∧ H' u = some (.lst ((baseRows n (l.take i)).map ni))) (fun H2 e2 => ⟨none, none, none, rfl, k1.up e2, e2 _ _ h1'⟩)
      (fun i σ' H' _ ⟨_, _, _, _, k, _⟩ => sq_of (k.i _ _ hp)) ?_ ?_
    · rintro i x σ' H' hx ⟨_, _, _, rfl, k, h2⟩
      obtain ⟨ll, hll, ra, rfl, hra⟩ := hrow i x hx
      rw [List.getElem?_map] at hll
      obtain ⟨e, he, rfl⟩ : ∃ e, l[i]? = some e ∧ ll = [e.1, e.2] := by
        cases q : l[i]? with
        | none => rw [q] at hll; cases hll
        | some e => rw [q] at hll; exact ⟨e, rfl, (Option.some.inj hll).symm⟩
      obtain ⟨le1, le2⟩ := hl e (List.mem_of_getElem? he)
      refine ⟨ra, _, rfl, sq_of (k.i _ _ hra), rfl, _, _, rfl, _, _, rfl, rfl, ?_⟩
      refine s_orAt (j := e.1) (m := 2 ^ e.2) h2 (ev_var rfl) (ev_var rfl) (by rw [Pu.base_len]; exact le1) (ev_shl1 (ev_var rfl) (by omega)) fun H3 e3 => ?_
      refine ⟨some (ni e.1), some (ni e.2), _, rfl, (k.up e3).mut hu (ex_none eB hu), ?_⟩
      rw [upd_same, Pu.base_snoc le1 le2, Pu.take_more he]
    · rintro σ' H' ⟨_, _, _, rfl, k, h2⟩
      rw [hlen, List.length_map, List.take_length] at h2
      refine s_forR1 (n := (n : Int)) (ea_cons (ev_var rfl) ea_nil) (by omega) (fun i σ H' => ∃ x y z, σ = [some (ni n), some (.ref pa), some (.ref u), x, y, z] ∧ Kn B H B H' ∧ H' u = some (.lst (((List.range i).foldl closeStep (baseRows n l)).map ni))) (fun H2 e2 => ⟨_, _, _, rfl, k.up e2, e2 _ _ h2⟩) ?_ ?_
      · rintro b σ' H'' hb ⟨_, _, _, rfl, k, h2⟩
        have hb' : b < n := by omega
        refine s_forR1 (n := (n : Int)) (ea_cons (ev_var rfl) ea_nil) (by omega) (fun i σ H' => ∃ x y, σ = [some (ni n), some (.ref pa), some (.ref u), x, y, some (ni b)] ∧ Kn B H B H' ∧ H' u = some (.lst ((Pu.closePart ((List.range b).foldl closeStep (baseRows n l)) b i).map ni))) (fun H2 e2 => ⟨_, _, rfl, k.up e2, by rw [Pu.part_zero]; exact e2 _ _ h2⟩) ?_ ?_
        · rintro i σ' H3 hi ⟨_, _, rfl, k, h2⟩
          have hi' : i < ((List.range b).foldl closeStep (baseRows n l)).length := by rw [Pu.rows_len]; omega
          have hb2 : b < ((List.range b).foldl closeStep (baseRows n l)).length := by rw [Pu.rows_len]; omega
          have hi2 : i < (Pu.closePart ((List.range b).foldl closeStep (baseRows n l)) b i).length := by rw [Pu.part_len]; exact hi'
          have hb3 : b < (Pu.closePart ((List.range b).foldl closeStep (baseRows n l)) b i).length := by rw [Pu.part_len]; exact hb2
          refine s_if (et_B (ev_has (ev_ixN (i := i) (ev_var rfl) (ev_var rfl) (sq_of h2) hi2) (ev_var rfl))) (fun c H4 e4 => ?_) (fun c H4 e4 => ⟨_, _, rfl, k.up e4, by rw [← Pu.part_no hi' c]; exact e4 _ _ h2⟩)
          refine s_orAt (j := i) (e4 _ _ h2) (ev_var rfl) (ev_var rfl) hi2 (ev_ixN (i := b) (ev_var rfl) (ev_var rfl) (sq_of (e4 _ _ h2)) hb3) fun H5 e5 => ?_
          refine ⟨_, _, rfl, (k.up (e4.trans e5)).mut hu (ex_none eB hu), ?_⟩
          rw [upd_same, Pu.part_yes hi' hb2 c]
        · rintro σ' H3 ⟨_, _, rfl, k, h2⟩
          refine ⟨_, _, _, rfl, k, ?_⟩
          rw [Pu.rows_succ, ← Pu.part_all, Pu.rows_len]
          exact h2
      · rintro σ' H'' ⟨_, _, _, rfl, k, h2⟩
        dsimp only
        refine s_ret (ev_var rfl) fun H3 e3 => ?_
        have k2 := (k.up e3).know hu (e3 _ _ h2)
        exact hQ _ _ _ ⟨k2.b, k2.i, k2.h, k2.fr⟩ ⟨u, rfl, upd_same⟩
def sp_mutual_pair : Sp := spB (fun (g : V × Po) vs H => vs = [g.1] ∧ LN H g.1 g.2.above ∧ g.2.above.length = g.2.size ∧ g.2.size ≤ 10) (fun g v H => PairOr H v (firstCycle g.2))
theorem ok_mutual_pair {P : Program} {w : World} {K : PySem.W.Frag} {mg : PySem.Str → Option Value} {base : Heap} (T : Tx K mg base) : Ok P w K mg base 2 "mutual_pair" ["ups"] (sp_mutual_pair) := by
  refine ok_of (at_mutual_pair T) sc_mutual_pair (fun _ _ _ _ _ _ us hl => match us, hl with | [_], _ => rfl) (fun vs H Q E h => ?_) (fun f cdv A outer s H vs Q E hr h => ?_)
  · obtain ⟨g, B, ⟨e, _⟩, _⟩ := h
    rw [e] <;> rfl
  · obtain ⟨⟨_, p⟩, B, ⟨rfl, ⟨a, rfl, ha⟩, hl, hn⟩, eB, hQ⟩ := h
    (try dsimp only at ha)
    (try dsimp only at hl)
    (try dsimp only at hn)
    (try dsimp only at hQ)
    refine ⟨_, (pss_cons (ps_set (i := 1) sc_mutual_pair.nd rfl (Or.inl rfl) (pe_callB call_len_seq (by rfl) T.n_len PySem.boot_len (pa_cons (pv 0) pa_nil)))
      (pss_cons (ps_for PassesOwn.never rfl (pi_range1 rfl T.n_range (pa_cons (pv 1) pa_nil)) (pg_name (i := 2) sc_mutual_pair.nd rfl (Or.inl rfl)) (pss_one (ps_for PassesOwn.never rfl (pi_range1 rfl T.n_range (pa_cons (pv 1) pa_nil)) (pg_name (i := 3) sc_mutual_pair.nd rfl (Or.inl rfl)) (pss_one (ps_if (PW.pt (pw_and (pt_cmpR op_ne (pv 2) (pv 3) (nomark _)) (pw_and (pt_val (pe_ok (ok_has T) (hr.mono (by decide)) rfl (pa_cons (pe_ix ix_list (pv 0) (pv 2) (fun _ _ => rfl)) (pa_cons (pv 3) pa_nil)))) (pw_and1 (pt_val (pe_ok (ok_has T) (hr.mono (by decide)) rfl (pa_cons (pe_ix ix_list (pv 0) (pv 3) (fun _ _ => rfl)) (pa_cons (pv 2) pa_nil)))))))) (pss_one (ps_ret (pe_tup (pa_cons (pv 2) (pa_cons (pv 3) pa_nil))))) pss_nil)))))
      (pss_one (ps_ret pe_non)))), ?_⟩
    have ha' := eB _ _ ha
    refine s_asg (v := ni p.size) (ev_is (ev_len (ev_var rfl) (sq_of ha')) (by rw [List.length_map, hl])) fun H1 e1 => ?_
    refine s_find2 (n := p.size) (i := 2) (j := 3) (by decide) (fun e => e.1 != e.2 && p.le e.1 e.2 && p.le e.2 e.1) (ea_cons (ev_var rfl) ea_nil) (fun _ _ _ _ _ => ea_cons (ev_var rfl) ea_nil) (by omega) (fun x y _ _ H2 e2 hx hy => ?_) (fun x y _ _ H2 e2 hx hy hf => ?_) (fun _ _ H2 e2 hf => ?_) ⟨none, none, rfl⟩
    · have h2 := e2 _ _ (e1 _ _ ha')
      refine et_is (et_and (et_test (ev_neN (a := x) (b := y) (ev_var rfl) (ev_var rfl))) fun _ => et_and (et_B (ev_has (m := p.above.getD x 0) (x := y) (ev_ixN (i := x) (ev_var rfl) (ev_var rfl) (sq_of h2) (by omega)) (ev_var rfl))) fun _ =>
        et_B (ev_has (m := p.above.getD y 0) (x := x) (ev_ixN (i := y) (ev_var rfl) (ev_var rfl) (sq_of h2) (by omega)) (ev_var rfl))) ?_
      show (decide (x ≠ y) && (p.le x y && p.le y x)) = (x != y && p.le x y && p.le y x)
      rw [Bool.and_assoc]
      congr 1
      by_cases c : x = y
      · subst c
        simp
      · simp [c]
    · refine eu_tup (ea_cons (ev_var rfl) (ea_cons (ev_var rfl) ea_nil)) (by show 2 ≤ 100000; omega) H2 (Ex.refl _) _ fun t H3 ht e3 h3 => ?_
      have ht0 : H t = none := fresh_back (e1.trans e2) ht
      have k := ((Kn.refl eB).up ((e1.trans e2).trans e3)).know ht0 h3
      refine hQ _ _ _ ⟨k.b, k.i, k.h, k.fr⟩ ?_
      show PairOr _ _ (firstCycle p)
      unfold firstCycle
      rw [hf]
      exact ⟨t, rfl, upd_same⟩
    · dsimp only
      refine s_ret ev_c fun H3 e3 => ?_
      have k := (Kn.refl eB).up ((e1.trans e2).trans e3)
      refine hQ _ _ _ ⟨k.b, k.i, k.h, k.fr⟩ ?_
      show PairOr _ _ (firstCycle p)
      unfold firstCycle
      rw [hf]
      rfl
theorem Kn.toGr {B0 H0 B H : Hp} (k : Kn B0 H0 B H) : Gr B0 H0 B H := ⟨k.b, k.i, k.h, k.fr⟩
def sp_Order_init (K : PySem.W.Frag) : Sp := fun vs H Q _ => ∃ p dx a b c, vs = [.ref p, a, b, c] ∧ H p = some (.ins (He.ga K "Order") dx []) ∧ ∀ H', H' p = some (.ins (He.ga K "Order") dx [("size", a), ("ups", b), ("downs", c)]) → (∀ q o, H q = some o → q ≠ p → H' q = some o) → Q .non H'
theorem ok_Order_init {P : Program} {w : World} {K : PySem.W.Frag} {mg : PySem.Str → Option Value} {base : Heap} (T : Tx K mg base) : OkC P w K mg base 1 "Order" ["self", "size", "ups", "downs"] (sp_Order_init K) := by
  refine okC_of T 22 (d := d_Order_init) rfl rfl rfl rfl 95 rfl rfl sc_Order_init (fun _ _ _ _ _ _ us hl => match us, hl with | [_, _, _, _], _ => rfl) (fun vs H Q E h => ?_) (fun f cdv A outer s H vs Q E hr h => ?_)
  · obtain ⟨p, dx, a, b, c, rfl, hp, hQ⟩ := h
    rfl
  · obtain ⟨p, dx, a, b, c, rfl, hp, hQ⟩ := h
    refine ⟨_, (pss_cons (ps_fld (pv 0) (pv 1) rfl)
      (pss_cons (ps_fld (pv 0) (pv 2) rfl)
      (pss_one (ps_fld (pv 0) (pv 3) rfl)))), ?_⟩
    refine ⟨_, rfl, _, rfl, p, _, dx, [], rfl, hp, T.cl_Order, T.na_Order_size, (by show 0 < 1000; decide), ?_⟩
    refine ⟨_, rfl, _, rfl, p, _, dx, _, rfl, upd_same, T.cl_Order, T.na_Order_ups, (by show 1 < 1000; decide), ?_⟩
    refine ⟨_, rfl, _, rfl, p, _, dx, _, rfl, upd_same, T.cl_Order, T.na_Order_downs, (by show 2 < 1000; decide), ?_⟩
    exact hQ _ upd_same fun q o h hq => by
      rw [upd_ne hq, upd_ne hq, upd_ne hq]
      exact h
theorem er_mkO {K : PySem.W.Frag} {σ : L2.St} {B : Hp} {ta : TA} {x y z : V} (ha : EvA ta σ B [x, y, z]) :
    EvR (tMake (He.ga K "Order") (sp_Order_init K) [] E0 ta) σ B (fun v H => ∃ a dx, v = .ref a ∧ H a = some (.ins (He.ga K "Order") dx [("size", x), ("ups", y), ("downs", z)])) := fun H1 e Q q =>
  ha H1 e _ fun H2 e2 p dx np nd ne => ⟨p, dx, x, y, z, rfl, upd_same, fun H' h1 h2 => ⟨rfl, q _ _ (e2.trans fun b o hb => h2 b o (by rw [upd_ne (ne_of_none hb np), upd_ne (ne_of_none hb nd)]; exact hb) (ne_of_none hb np)) ⟨p, dx, rfl, by
    rw [ext_new (fresh_back e2 np)]
    exact h1⟩⟩⟩
def sp_order_of (K : PySem.W.Frag) : Sp := spB (fun (g : V × Po) vs H => vs = [g.1] ∧ LN H g.1 g.2.above ∧ Pu.WF g.2) (fun g v H => OrdAt K H v g.2)
theorem ok_order_of {P : Program} {w : World} {K : PySem.W.Frag} {mg : PySem.Str → Option Value} {base : Heap} (T : Tx K mg base) : Ok P w K mg base 3 "order_of" ["ups"] (sp_order_of K) := by
  refine ok_of (at_order_of T) sc_order_of (fun _ _ _ _ _ _ us hl => match us, hl with | [_], _ => rfl) (fun vs H Q E h => ?_) (fun f cdv A outer s H vs Q E hr h => ?_)
  · obtain ⟨g, B, ⟨e, _⟩, _⟩ := h
    rw [e] <;> rfl
  · obtain ⟨⟨_, p⟩, B, ⟨rfl, ⟨a, rfl, ha⟩, hw⟩, eB, hQ⟩ := h
    (try dsimp only at ha)
    (try dsimp only at hw)
    (try dsimp only at hQ)
    refine ⟨_, (pss_cons (ps_set (i := 1) sc_order_of.nd rfl (Or.inl rfl) (pe_callB call_len_seq (by rfl) T.n_len PySem.boot_len (pa_cons (pv 0) pa_nil)))
      (pss_cons (ps_set (i := 2) sc_order_of.nd rfl (Or.inl rfl) (pe_lst pa_nil))
      (pss_cons (ps_for PassesOwn.never rfl (pi_range1 rfl T.n_range (pa_cons (pv 1) pa_nil)) (pg_name (i := 3) sc_order_of.nd rfl (Or.inr rfl)) (pss_one (ps_expr (pe_bm PySem.F.plainAttrs_list PySem.F.slot_list_append PySem.F.type_list_append mt_append (pv 2) (pa_cons (pe_ok (ok_mask_of T) (hr.mono (by decide)) rfl (pa_cons (pe_lc (own := [("a", 4)]) rfl sc_order_of.nd (pi_range1 rfl T.n_range (pa_cons (pv 1) pa_nil)) (blkOk_by (N := ["ups", "size", "downs", "b", "a"]) (sc := defScope s_order_of) (by decide +kernel)) (fun _ _ _ _ _ => by exact (pg_name (i := 4) sc_order_of.nd rfl (Or.inl rfl))) (fun _ _ _ _ _ => by exact (pts_one (pt_val (pe_ok (ok_has T) (hr.mono (by decide)) rfl (pa_cons (pe_ix (ix_listK (K := K) rfl) (pv 0) (pv 4) (fun _ _ => rfl)) (pa_cons (pv 3) pa_nil)))))) (fun _ _ _ _ _ => by exact (pv 4))) pa_nil)) pa_nil)))))
      (pss_one (ps_ret (pe_mk0 (ok_Order_init T) (hr.mono (by decide)) rfl (pa_cons (pv 1) (pa_cons (pv 0) (pa_cons (pv 2) pa_nil))))))))), ?_⟩
    have ha' := eB _ _ ha
    have h10 := hw.le10
    refine s_asg (v := ni p.size) (ev_is (ev_len (ev_var rfl) (sq_of ha')) (by rw [List.length_map, hw.len])) fun H1 e1 => ?_
    refine s_asgL (el_lst (vs := []) ea_nil (by decide)) fun d H2 hd e2 h2 => ?_
    have hd0 : H d = none := fresh_back e1 hd
    have k0 := (Kn.refl eB).up (e1.trans e2)
    refine s_forR1 (n := (p.size : Int)) (ea_cons (ev_var rfl) ea_nil) (by omega) (fun i σ H' => ∃ x, σ = [some (.ref a), some (ni p.size), some (.ref d), x, none] ∧ Kn B H B H' ∧ H' d = some (.lst (((List.range i).map (downSet p)).map ni))) (fun H3 e3 => ⟨none, rfl, k0.up e3, e3 _ _ h2⟩) ?_ ?_
    · rintro i σ' H' hi ⟨_, rfl, k, h3⟩
      have hi' : i < p.size := by omega
      have ha2 := k.i _ _ ha
      refine s_app h3 (ev_var rfl) (ev_maskR (n := p.size) (fun x => p.le x i) h10 (ea_cons (ev_var rfl) ea_nil) (fun x => rfl) (fun x H4 e4 hx => et_B (ev_has (m := p.above.getD x 0) (x := i) (ev_ixN (ev_var rfl) (ev_var rfl) (sq_of (e4 _ _ ha2)) (by rw [hw.len]; exact hx)) (ev_var rfl))) (fun x H4 e4 hx => ev_var rfl))
        (by simp; omega) fun H4 e4 => ?_
      refine ⟨_, rfl, (k.up e4).mut hd0 (ex_none eB hd0), ?_⟩
      rw [upd_same, List.range_succ, List.map_append, List.map_append]
      rfl
    · rintro σ' H' ⟨_, rfl, k, h3⟩
      dsimp only
      have k2 := k.know hd0 h3
      refine s_retR k2.i (er_mkO (ea_cons (ev_var rfl) (ea_cons (ev_var rfl) (ea_cons (ev_var rfl) ea_nil)))) fun v B1 H3 g r => ?_
      obtain ⟨o, dx, rfl, ho⟩ := r
      refine hQ _ _ _ (k2.gr g).toGr ⟨hw, o, dx, a, d, rfl, ho, g.b _ _ (k2.b _ _ ha), g.b _ _ upd_same⟩
def sp_restricted (K : PySem.W.Frag) : Sp := spB (fun (g : V × Po × Nat) vs H => vs = [g.1, ni g.2.2] ∧ OrdAt K H g.1 g.2.1 ∧ g.2.2 < 2 ^ g.2.1.size ∧ g.2.2 ≠ 0) (fun g v H => OrdAt K H v (R7245g.Spec.restrict g.2.1 g.2.2))
theorem ok_restricted {P : Program} {w : World} {K : PySem.W.Frag} {mg : PySem.Str → Option Value} {base : Heap} (T : Tx K mg base) : Ok P w K mg base 4 "restricted" ["order", "mask"] (sp_restricted K) := by
  refine ok_of (at_restricted T) sc_restricted (fun _ _ _ _ _ _ us hl => match us, hl with | [_, _], _ => rfl) (fun vs H Q E h => ?_) (fun f cdv A outer s H vs Q E hr h => ?_)
  · obtain ⟨g, B, ⟨e, _⟩, _⟩ := h
    rw [e] <;> rfl
  · obtain ⟨⟨o, p, s⟩, B, ⟨rfl, ho, hs, h0⟩, eB, hQ⟩ := h
    (try dsimp only at ho)
    (try dsimp only at hs)
    (try dsimp only at h0)
    (try dsimp only at hQ)
    refine ⟨_, (pss_cons (ps_set (i := 2) sc_restricted.nd rfl (Or.inl rfl) (pe_ok (ok_members T) (hr.mono (by decide)) rfl (pa_cons (pv 0) (pa_cons (pv 1) pa_nil))))
      (pss_cons (ps_set (i := 3) sc_restricted.nd rfl (Or.inl rfl) (pe_lst pa_nil))
      (pss_cons (ps_for PassesOwn.never rfl (pi_list (pv 2)) (pg_name (i := 4) sc_restricted.nd rfl (Or.inr rfl)) (pss_one (ps_expr (pe_bm PySem.F.plainAttrs_list PySem.F.slot_list_append PySem.F.type_list_append mt_append (pv 3) (pa_cons (pe_ok (ok_mask_of T) (hr.mono (by decide)) rfl (pa_cons (pe_lc (own := [("at", 5), ("b", 6)]) rfl sc_restricted.nd (pi_enum rfl T.n_enumerate (pa_cons (pv 2) pa_nil)) (blkOk_by (N := ["order", "mask", "chosen", "ups", "a", "at", "b"]) (sc := defScope s_restricted) (by decide +kernel)) (fun _ _ _ _ _ => by exact (pg_tupK (K := K) (n := 2) rfl rfl (pgs_cons (pg_name (i := 5) sc_restricted.nd rfl (Or.inl rfl)) (pgs_cons (pg_name (i := 6) sc_restricted.nd rfl (Or.inl rfl)) pgs_nil)))) (fun _ _ _ _ _ => by exact (pts_one (pt_val (pe_ok (ok_at_most T) (hr.mono (by decide)) rfl (pa_cons (pv 0) (pa_cons (pv 4) (pa_cons (pv 6) pa_nil))))))) (fun _ _ _ _ _ => by exact (pv 5))) pa_nil)) pa_nil)))))
      (pss_one (ps_ret (pe_ok (ok_order_of T) (hr.mono (by decide)) rfl (pa_cons (pv 3) pa_nil))))))), ?_⟩
    have h10 := ho.wf.le10
    refine s_asgR eB (er_members ho (ev_var rfl) (ev_var rfl)) fun v B1 H1 g1 r1 => ?_
    obtain ⟨c, rfl, hc⟩ := r1
    refine s_asgL (el_lst (vs := []) ea_nil (by decide)) fun u H2 hu e2 h2 => ?_
    have k0 := ((Kn.refl eB).gr g1).up e2
    have hu0 : H u = none := fresh_back g1.h hu
    have hl := Pu.members_len p s
    refine s_forLst (a := c) (xs := (R7245g.Spec.members p s).map ni) (ev_var rfl) (sq_of (k0.i _ _ hc)) (fun i σ H' => ∃ x, σ = [some o, some (ni s), some (.ref c), some (.ref u), x, none, none] ∧ Kn B H B1 H' ∧ H' u = some (.lst ((((R7245g.Spec.members p s).take i).map fun a => maskOf (fun j => p.le a ((R7245g.Spec.members p s).getD j 0)) (R7245g.Spec.members p s).length).map ni)))
      (fun H3 e3 => ⟨none, rfl, k0.up e3, e3 _ _ h2⟩) (fun i σ' H' _ ⟨_, _, k, _⟩ => sq_of (k.i _ _ hc)) ?_ ?_
    · rintro i x σ' H' hx ⟨_, rfl, k, h3⟩
      obtain ⟨m, hm, rfl⟩ := map_at hx
      have lm : m < p.size := Pu.members_lt (List.mem_of_getElem? hm)
      have hc2 := k.i _ _ hc
      have ho2 := ho.mono (k.b.trans k.i)
      have q : Ev (tCall sp_mask_of [] E0 (tCons (tLc (iEnum K (tCons (tVar 2) tNil)) (gTup K 2 (gCons (gName 5) (gCons (gName 6) gNil))) (tB (tCall (sp_at_most K) [] E0 (tCons (tVar 0) (tCons (tVar 4) (tCons (tVar 6) tNil))))) (tVar 5) [5, 6]) tNil)) [some o, some (ni s), some (.ref c), some (.ref u), some (ni m), none, none] H' (ni (maskOf (fun j => p.le m ((R7245g.Spec.members p s).getD j 0)) (R7245g.Spec.members p s).length)) := by
        rw [← Pu.bits_range]
        refine ev_mask (er_L (el_lcE (xs := (R7245g.Spec.members p s).map ni) (fun j => p.le m ((R7245g.Spec.members p s).getD j 0)) ni (ev_var rfl) (sq_of hc2) (by rw [List.length_map]; omega) (fun x y => rfl) (fun k x H4 e4 hk => ?_) (fun k x H4 e4 hk _ => ev_var rfl)) (fun q H4 e h => ⟨q, rfl, by rw [h, List.length_map] <;> rfl⟩)) fun x hx => ?_
        · obtain ⟨y, hy, rfl⟩ := map_at hk
          have ey : (R7245g.Spec.members p s).getD k 0 = y := by rw [List.getD_eq_getElem?_getD, hy] <;> rfl
          rw [ey]
          exact et_B (ev_le (ho2.mono e4) lm (ev_var rfl) (ev_var rfl) (ev_var rfl))
        · have q := List.mem_range.mp (List.mem_filter.mp hx).1
          omega
      refine s_app h3 (ev_var rfl) q (by simp; omega) fun H4 e4 => ⟨_, rfl, (k.up e4).mut hu0 (ex_none g1.i hu), ?_⟩
      rw [upd_same, Pu.take_more hm, List.map_append, List.map_append]
      rfl
    · rintro σ' H' ⟨_, rfl, k, h3⟩
      rw [List.length_map, List.take_length] at h3
      dsimp only
      have k2 := k.know hu0 h3
      refine s_retR k2.i (er_call (.ref u, R7245g.Spec.restrict p s) (ar_of (ea_cons (ev_var rfl) ea_nil) fun H3 e3 => ⟨rfl, ⟨u, rfl, e3 _ _ upd_same⟩, Pu.wf_restrict ho.wf hs h0⟩) fun _ _ _ e h => OrdAt.mono h e) fun v B2 H3 g r => hQ _ _ _ (k2.gr g).toGr r
end Cm
end PartF2
section PartF3
set_option Elab.async false
set_option linter.all false
set_option maxRecDepth 100000
set_option maxHeartbeats 4000000
namespace Cm
open PySem PySem.Spec PyProof.Rows L2 Evl
open R7245g.Spec (maskOf upperBounds lowerBounds downSet imageSet imageOf pairsBelow)
def sp_image : Sp := spG (fun (g : V × Po × Po × List Nat × Nat) vs H => vs = [g.1, ni g.2.2.2.2] ∧ LN H g.1 g.2.2.2.1 ∧ Pu.MapOk g.2.1 g.2.2.1 g.2.2.2.1 ∧ g.2.2.1.size ≤ 10) (fun g => ni (imageSet g.2.1 g.2.2.1 g.2.2.2.1 g.2.2.2.2))
theorem ok_image {P : Program} {w : World} {K : PySem.W.Frag} {mg : PySem.Str → Option Value} {base : Heap} (T : Tx K mg base) : Ok P w K mg base 1 "image" ["images", "mask"] (sp_image) := by
  refine ok_of (at_image T) sc_image (fun _ _ _ _ _ _ us hl => match us, hl with | [_, _], _ => rfl) (fun vs H Q E h => ?_) (fun f cdv A outer s H vs Q E hr h => ?_)
  · obtain ⟨g, ⟨e, _⟩, _⟩ := h
    rw [e] <;> rfl
  · obtain ⟨⟨_, p, q, f', s⟩, ⟨rfl, ⟨a, rfl, ha⟩, hm, hq10⟩, hQ⟩ := h
    (try dsimp only at ha)
    (try dsimp only at hm)
    (try dsimp only at hq10)
    (try dsimp only at hQ)
    refine ⟨_, (pss_cons (ps_set (i := 2) sc_image.nd rfl (Or.inl rfl) pe_int)
      (pss_cons (ps_for PassesOwn.never rfl (pi_enum rfl T.n_enumerate (pa_cons (pv 0) pa_nil)) (pg_tup rfl (pgs_cons (pg_name (i := 3) sc_image.nd rfl (Or.inl rfl)) (pgs_cons (pg_name (i := 4) sc_image.nd rfl (Or.inl rfl)) pgs_nil))) (pss_one (ps_if (pt_cmpR op_eq (pe_op op_and (pe_op op_shr (pv 1) (pv 3)) pe_int) pe_int (nomark _)) (pss_one (ps_aug (i := 2) sc_image.nd rfl (Or.inl rfl) (pe_op op_shl pe_int (pv 4)) iop_or)) pss_nil)))
      (pss_one (ps_ret (pv 2))))), ?_⟩
    refine s_asg (v := ni 0) ev_c fun H1 e1 => ?_
    refine s_forEnum (a := a) (xs := f'.map ni) (ev_var rfl) (sq_of (e1 _ _ ha)) (fun k σ H' => ∃ x y, σ = [some (.ref a), some (ni s), some (ni (Pu.imgPre q f' s k)), x, y] ∧ Ex H1 H')
      (fun H2 e2 => ⟨none, none, by rw [Pu.imgPre_zero] <;> rfl, e2⟩) (fun k σ' H' _ ⟨_, _, _, e⟩ => e) ?_ ?_
    · rintro k x σ' H' H2 hx ⟨_, _, rfl, e⟩ e2
      obtain ⟨n, hn, rfl⟩ := map_at hx
      have lk : k < p.size := by
        have z := (List.getElem?_eq_some_iff.mp hn).1
        rw [hm.len] at z
        exact z
      have en : imageOf f' k = n := by
        unfold imageOf
        rw [List.getD_eq_getElem?_getD, hn] <;> rfl
      have ln : imageOf f' k < q.size := hm.at_ lk
      refine s_if (et_test (ev_bit (m := s) (x := k) (ev_var rfl) (ev_var rfl))) (fun c H3 e3 => ?_) (fun c H3 e3 => ?_)
      · refine s_orN (a := Pu.imgPre q f' s k) (b := 2 ^ n) rfl (ev_shl1 (ev_var rfl) (by omega)) fun H4 e4 => ⟨some (ni k), some (ni n), ?_, (e.trans e2).trans (e3.trans e4)⟩
        rw [← Pu.imgPre_in c ln, en]
        rfl
      · refine ⟨some (ni k), some (ni n), ?_, (e.trans e2).trans e3⟩
        rw [← Pu.imgPre_out c]
        rfl
    · rintro σ' H' ⟨_, _, rfl, e⟩
      rw [List.length_map, hm.len, Pu.imgPre_size]
      dsimp only
      exact s_ret (ev_var rfl) fun H2 e2 => hQ H2 ((e1.trans e).trans e2)
section
variable {K : PySem.W.Frag} {σ : L2.St} {H : Hp} {ta tb te tx : TE} {v w : V} {p q : Po} {f : List Nat} {s i : Nat}
theorem ev_img (hf : LN H v f) (hm : Pu.MapOk p q f) (hq : q.size ≤ 10) (ha : Ev ta σ H v) (hb : Ev tb σ H (ni s)) : Ev (tCall sp_image [] E0 (tCons ta (tCons tb tNil))) σ H (ni (imageSet p q f s)) :=
  ev_callG (v, p, q, f, s) (ea_cons ha (ea_cons hb ea_nil)) (fun _ e => ⟨rfl, hf.mono e, hm, hq⟩)
theorem ev_imgAt (hf : LN H v f) (ha : Ev ta σ H v) (hb : Ev tb σ H (ni i)) (hi : i < f.length) : Ev (tOp (rIxL K) ta tb) σ H (ni (imageOf f i)) := by
  obtain ⟨a, rfl, h⟩ := hf
  exact ev_ixN ha hb (sq_of h) hi
end
theorem ev_eqB {σ : L2.St} {H : Hp} {ta tb : TE} {a b : Bool} (ha : Ev ta σ H (.bl a)) (hb : Ev tb σ H (.bl b)) : Ev (tOp rNe ta tb) σ H (.bl (a != b)) :=
  ev_is (ev_op ha hb (rv_ne rfl)) (congrArg V.bl (by cases a <;> cases b <;> rfl))
def sp_adjoint_at (K : PySem.W.Frag) : Sp := spG (fun (g : V × Po × V × Po × V × List Nat × Nat) vs H => vs = [g.1, g.2.2.1, g.2.2.2.2.1, ni g.2.2.2.2.2.2] ∧ OrdAt K H g.1 g.2.1 ∧ OrdAt K H g.2.2.1 g.2.2.2.1 ∧ LN H g.2.2.2.2.1 g.2.2.2.2.2.1 ∧ Pu.MapOk g.2.1 g.2.2.2.1 g.2.2.2.2.2.1)
  (fun g => optN (R7245g.Spec.adjointAt g.2.1 g.2.2.2.1 g.2.2.2.2.2.1 g.2.2.2.2.2.2))
theorem ok_adjoint_at {P : Program} {w : World} {K : PySem.W.Frag} {mg : PySem.Str → Option Value} {base : Heap} (T : Tx K mg base) : Ok P w K mg base 3 "adjoint_at" ["order", "target", "images", "y"] (sp_adjoint_at K) := by
  refine ok_of (at_adjoint_at T) sc_adjoint_at (fun _ _ _ _ _ _ us hl => match us, hl with | [_, _, _, _], _ => rfl) (fun vs H Q E h => ?_) (fun f cdv A outer s H vs Q E hr h => ?_)
  · obtain ⟨g, ⟨e, _⟩, _⟩ := h
    rw [e] <;> rfl
  · obtain ⟨⟨o, p, t, q, m, f', y⟩, ⟨rfl, ho, ht, hf, hm⟩, hQ⟩ := h
    (try dsimp only at ho)
    (try dsimp only at ht)
    (try dsimp only at hf)
    (try dsimp only at hm)
    (try dsimp only at hQ)
    refine ⟨_, (pss_cons (ps_set (i := 4) sc_adjoint_at.nd rfl (Or.inl rfl) (pe_ok (ok_mask_of T) (hr.mono (by decide)) rfl (pa_cons (pe_lc (own := [("x", 6)]) rfl sc_adjoint_at.nd (pi_range1 rfl T.n_range (pa_cons (pe_fld (pv 0) rfl) pa_nil)) (blkOk_by (N := ["order", "target", "images", "y", "wanted", "z", "x"]) (sc := defScope s_adjoint_at) (by decide +kernel)) (fun _ _ _ _ _ => by exact (pg_name (i := 6) sc_adjoint_at.nd rfl (Or.inl rfl))) (fun _ _ _ _ _ => by exact (pts_one (pt_val (pe_ok (ok_at_most T) (hr.mono (by decide)) rfl (pa_cons (pv 1) (pa_cons (pe_ix (ix_listK (K := K) rfl) (pv 2) (pv 6) (fun _ _ => rfl)) (pa_cons (pv 3) pa_nil))))))) (fun _ _ _ _ _ => by exact (pv 6))) pa_nil)))
      (pss_cons (ps_for PassesOwn.never rfl (pi_range1 rfl T.n_range (pa_cons (pe_fld (pv 0) rfl) pa_nil)) (pg_name (i := 5) sc_adjoint_at.nd rfl (Or.inl rfl)) (pss_one (ps_if (pt_cmpR op_eq (pe_ix ix_list (pe_fld (pv 0) rfl) (pv 5) (fun _ _ => rfl)) (pv 4) (nomark _)) (pss_one (ps_ret (pv 5))) pss_nil)))
      (pss_one (ps_ret pe_non)))), ?_⟩
    have h10 := ho.wf.le10
    refine s_asg (v := ni (R7245g.Spec.preimageBelow p q f' y)) (ev_maskR (n := p.size) (fun x => q.le (imageOf f' x) y) h10 (ea_cons (ev_size T ho (ev_var rfl)) ea_nil) (fun x => rfl) (fun i H1 e hi => et_B (ev_le (ht.mono e) (hm.at_ hi) (ev_var rfl) (ev_imgAt (hf.mono e) (ev_var rfl) (ev_var rfl) (by rw [hm.len]; exact hi)) (ev_var rfl))) (fun i H1 e hi => ev_var rfl)) fun H1 e1 => ?_
    have ho1 := ho.mono e1
    refine s_find1 (n := p.size) (j := 5) (fun z => downSet p z == R7245g.Spec.preimageBelow p q f' y) (ea_cons (ev_size T ho1 (ev_var rfl)) ea_nil) (by omega) (fun z _ H2 e2 hz => ?_) (fun z _ H2 e2 hz hF => ?_) (fun _ H2 e2 hF => ?_) ⟨none, rfl⟩
    · exact et_is (et_test (ev_eqN (ev_downAt T (ho1.mono e2) (ev_var rfl) (ev_var rfl) hz) (ev_var rfl))) (by
        by_cases c : downSet p z = R7245g.Spec.preimageBelow p q f' y
        · rw [c]
          simp
        · simp [c])
    · refine (ev_var (v := ni z) rfl : Ev _ _ H2 _) H2 (Ex.refl _) _ fun H3 e3 => ?_
      have z1 := hQ H3 ((e1.trans e2).trans e3)
      unfold R7245g.Spec.adjointAt R7245g.Spec.elements at z1
      rw [hF] at z1
      exact z1
    · dsimp only
      refine s_ret ev_c fun H3 e3 => ?_
      have z1 := hQ H3 ((e1.trans e2).trans e3)
      unfold R7245g.Spec.adjointAt R7245g.Spec.elements at z1
      rw [hF] at z1
      exact z1
def sp_broken_pair (K : PySem.W.Frag) : Sp := spB (fun (g : V × Po × V × Po × V × List Nat) vs H => vs = [g.1, g.2.2.1, g.2.2.2.2.1] ∧ OrdAt K H g.1 g.2.1 ∧ OrdAt K H g.2.2.1 g.2.2.2.1 ∧ LN H g.2.2.2.2.1 g.2.2.2.2.2 ∧ Pu.MapOk g.2.1 g.2.2.2.1 g.2.2.2.2.2)
  (fun g v H => PairOr H v (R7245g.Spec.firstDisorder g.2.1 g.2.2.2.1 g.2.2.2.2.2))
/-- the end of a search for a pair -/
theorem end_some {B H H1 : Hp} {Q : VK} {R : V → Hp → Prop} {σ : L2.St} {ta tb : TE} {x y : Nat} (eB : Ex B H) (e : Ex H H1) (ha : Ev ta σ H1 (ni x)) (hb : Ev tb σ H1 (ni y)) (hQ : ∀ v B' H', Gr B H B' H' → R v B' → Q v H')
    (hR : ∀ v B', PairOr B' v (some (x, y)) → R v B') : tTup (tCons ta (tCons tb tNil)) σ H1 fun v H2 => Q v H2 :=
  eu_tup (ea_cons ha (ea_cons hb ea_nil)) (by show 2 ≤ 100000; omega) H1 (Ex.refl _) _ fun t H3 ht e3 h3 =>
    hQ _ _ _ (((Kn.refl eB).up (e.trans e3)).know (fresh_back e ht) h3).toGr (hR _ _ ⟨t, rfl, upd_same⟩)
theorem end_plain {B H H1 : Hp} {Q : VK} {R : V → Hp → Prop} {v : V} (eB : Ex B H) (e : Ex H H1) (hQ : ∀ v B' H', Gr B H B' H' → R v B' → Q v H') (hR : ∀ B', Ex B B' → R v B') : Q v H1 := hQ _ _ _ ((Kn.refl eB).up e).toGr (hR B (Ex.refl B))
theorem ok_broken_pair {P : Program} {w : World} {K : PySem.W.Frag} {mg : PySem.Str → Option Value} {base : Heap} (T : Tx K mg base) : Ok P w K mg base 3 "broken_pair" ["order", "target", "images"] (sp_broken_pair K) := by
  refine ok_of (at_broken_pair T) sc_broken_pair (fun _ _ _ _ _ _ us hl => match us, hl with | [_, _, _], _ => rfl) (fun vs H Q E h => ?_) (fun f cdv A outer s H vs Q E hr h => ?_)
  · obtain ⟨g, B, ⟨e, _⟩, _⟩ := h
    rw [e] <;> rfl
  · obtain ⟨⟨o, p, t, q, m, f'⟩, B, ⟨rfl, ho, ht, hf, hm⟩, eB, hQ⟩ := h
    (try dsimp only at ho)
    (try dsimp only at ht)
    (try dsimp only at hf)
    (try dsimp only at hm)
    (try dsimp only at hQ)
    refine ⟨_, (pss_cons (ps_for PassesOwn.never rfl (pi_range1 rfl T.n_range (pa_cons (pe_fld (pv 0) rfl) pa_nil)) (pg_name (i := 3) sc_broken_pair.nd rfl (Or.inl rfl)) (pss_one (ps_for PassesOwn.never rfl (pi_range1 rfl T.n_range (pa_cons (pe_fld (pv 0) rfl) pa_nil)) (pg_name (i := 4) sc_broken_pair.nd rfl (Or.inl rfl)) (pss_one (ps_if (PW.pt (pw_and (pt_val (pe_ok (ok_at_most T) (hr.mono (by decide)) rfl (pa_cons (pv 0) (pa_cons (pv 3) (pa_cons (pv 4) pa_nil))))) (pw_and1 (pt_not (pt_val (pe_ok (ok_at_most T) (hr.mono (by decide)) rfl (pa_cons (pv 1) (pa_cons (pe_ix ix_list (pv 2) (pv 3) (fun _ _ => rfl)) (pa_cons (pe_ix ix_list (pv 2) (pv 4) (fun _ _ => rfl)) pa_nil))))))))) (pss_one (ps_ret (pe_tup (pa_cons (pv 3) (pa_cons (pv 4) pa_nil))))) pss_nil)))))
      (pss_one (ps_ret pe_non))), ?_⟩
    have h10 := ho.wf.le10
    have ho1 := ho.mono eB
    have ht1 := ht.mono eB
    have hf1 := hf.mono eB
    refine s_find2 (n := p.size) (i := 3) (j := 4) (by decide) (fun e => p.le e.1 e.2 && !q.le (imageOf f' e.1) (imageOf f' e.2)) (ea_cons (ev_size T ho1 (ev_var rfl)) ea_nil) (fun a _ _ H1 e1 => ea_cons (ev_size T (ho1.mono e1) (ev_var rfl)) ea_nil) (by omega) (fun x y _ _ H2 e2 hx hy => ?_) (fun x y _ _ H2 e2 hx hy hF => ?_) (fun _ _ H2 e2 hF => ?_) ⟨none, none, rfl⟩
    · refine et_and (et_B (ev_le (ho1.mono e2) hx (ev_var rfl) (ev_var rfl) (ev_var rfl))) fun _ => et_not (et_B (ev_le (ht1.mono e2) (hm.at_ hx) (ev_var rfl) (ev_imgAt (hf1.mono e2) (ev_var rfl) (ev_var rfl) (by rw [hm.len]; exact hx)) (ev_imgAt (hf1.mono e2) (ev_var rfl) (ev_var rfl) (by rw [hm.len]; exact hy))))
    · refine end_some eB e2 (ev_var rfl) (ev_var rfl) hQ fun v B' h => ?_
      show PairOr _ _ (R7245g.Spec.firstDisorder p q f')
      unfold R7245g.Spec.firstDisorder
      rw [hF]
      exact h
    · dsimp only
      refine s_ret ev_c fun H3 e3 => end_plain eB (e2.trans e3) hQ fun B' _ => ?_
      show PairOr _ _ (R7245g.Spec.firstDisorder p q f')
      unfold R7245g.Spec.firstDisorder
      rw [hF]
      rfl
def sp_embeds (K : PySem.W.Frag) : Sp := spG (fun (g : V × Po × V × Po × V × List Nat) vs H => vs = [g.1, g.2.2.1, g.2.2.2.2.1] ∧ OrdAt K H g.1 g.2.1 ∧ OrdAt K H g.2.2.1 g.2.2.2.1 ∧ LN H g.2.2.2.2.1 g.2.2.2.2.2 ∧ Pu.MapOk g.2.1 g.2.2.2.1 g.2.2.2.2.2)
  (fun g => .bl (R7245g.Spec.isEmbedding g.2.1 g.2.2.2.1 g.2.2.2.2.2))
theorem ok_embeds {P : Program} {w : World} {K : PySem.W.Frag} {mg : PySem.Str → Option Value} {base : Heap} (T : Tx K mg base) : Ok P w K mg base 3 "embeds" ["order", "target", "images"] (sp_embeds K) := by
  refine ok_of (at_embeds T) sc_embeds (fun _ _ _ _ _ _ us hl => match us, hl with | [_, _, _], _ => rfl) (fun vs H Q E h => ?_) (fun f cdv A outer s H vs Q E hr h => ?_)
  · obtain ⟨g, ⟨e, _⟩, _⟩ := h
    rw [e] <;> rfl
  · obtain ⟨⟨o, p, t, q, m, f'⟩, ⟨rfl, ho, ht, hf, hm⟩, hQ⟩ := h
    (try dsimp only at ho)
    (try dsimp only at ht)
    (try dsimp only at hf)
    (try dsimp only at hm)
    (try dsimp only at hQ)
    refine ⟨_, (pss_cons (ps_for PassesOwn.never rfl (pi_range1 rfl T.n_range (pa_cons (pe_fld (pv 0) rfl) pa_nil)) (pg_name (i := 3) sc_embeds.nd rfl (Or.inl rfl)) (pss_one (ps_for PassesOwn.never rfl (pi_range1 rfl T.n_range (pa_cons (pe_fld (pv 0) rfl) pa_nil)) (pg_name (i := 4) sc_embeds.nd rfl (Or.inl rfl)) (pss_one (ps_if (pt_cmpR op_ne (pe_ok (ok_at_most T) (hr.mono (by decide)) rfl (pa_cons (pv 0) (pa_cons (pv 3) (pa_cons (pv 4) pa_nil)))) (pe_ok (ok_at_most T) (hr.mono (by decide)) rfl (pa_cons (pv 1) (pa_cons (pe_ix ix_list (pv 2) (pv 3) (fun _ _ => rfl)) (pa_cons (pe_ix ix_list (pv 2) (pv 4) (fun _ _ => rfl)) pa_nil)))) (nomark _)) (pss_one (ps_ret pe_bl)) pss_nil)))))
      (pss_one (ps_ret pe_bl))), ?_⟩
    have h10 := ho.wf.le10
    refine s_find2 (n := p.size) (i := 3) (j := 4) (by decide) (fun e => !(p.le e.1 e.2 == q.le (imageOf f' e.1) (imageOf f' e.2))) (ea_cons (ev_size T ho (ev_var rfl)) ea_nil) (fun a _ _ H1 e1 => ea_cons (ev_size T (ho.mono e1) (ev_var rfl)) ea_nil) (by omega) (fun x y _ _ H2 e2 hx hy => ?_) (fun x y _ _ H2 e2 hx hy hF => ?_) (fun _ _ H2 e2 hF => ?_) ⟨none, none, rfl⟩
    · exact et_test (ev_eqB (ev_le (ho.mono e2) hx (ev_var rfl) (ev_var rfl) (ev_var rfl)) (ev_le (ht.mono e2) (hm.at_ hx) (ev_var rfl) (ev_imgAt (hf.mono e2) (ev_var rfl) (ev_var rfl) (by rw [hm.len]; exact hx)) (ev_imgAt (hf.mono e2) (ev_var rfl) (ev_var rfl) (by rw [hm.len]; exact hy))))
    · refine (ev_c (v := .bl false) : Ev _ _ H2 _) H2 (Ex.refl _) _ fun H3 e3 => ?_
      have z1 := hQ H3 (e2.trans e3)
      unfold R7245g.Spec.isEmbedding at z1
      rw [Pu.all_find, hF] at z1
      exact z1
    · dsimp only
      refine s_ret ev_c fun H3 e3 => ?_
      have z1 := hQ H3 (e2.trans e3)
      unfold R7245g.Spec.isEmbedding at z1
      rw [Pu.all_find, hF] at z1
      exact z1
def sp_joins_witness (K : PySem.W.Frag) : Sp := spG (fun (g : V × Po × V × Po × V × List Nat) vs H => vs = [g.1, g.2.2.1, g.2.2.2.2.1] ∧ OrdAt K H g.1 g.2.1 ∧ OrdAt K H g.2.2.1 g.2.2.2.1 ∧ LN H g.2.2.2.2.1 g.2.2.2.2.2 ∧ Pu.MapOk g.2.1 g.2.2.2.1 g.2.2.2.2.2)
  (fun g => optN (R7245g.Spec.joinFailure g.2.1 g.2.2.2.1 g.2.2.2.2.2))
theorem pow_1024 {n : Nat} (h : n ≤ 10) : 2 ^ n ≤ 1024 := Nat.le_trans (Nat.pow_le_pow_right (by omega) h) (by decide)
theorem ok_joins_witness {P : Program} {w : World} {K : PySem.W.Frag} {mg : PySem.Str → Option Value} {base : Heap} (T : Tx K mg base) : Ok P w K mg base 3 "joins_witness" ["order", "target", "images"] (sp_joins_witness K) := by
  refine ok_of (at_joins_witness T) sc_joins_witness (fun _ _ _ _ _ _ us hl => match us, hl with | [_, _, _], _ => rfl) (fun vs H Q E h => ?_) (fun f cdv A outer s H vs Q E hr h => ?_)
  · obtain ⟨g, ⟨e, _⟩, _⟩ := h
    rw [e] <;> rfl
  · obtain ⟨⟨o, p, t, q, m, f'⟩, ⟨rfl, ho, ht, hf, hm⟩, hQ⟩ := h
    (try dsimp only at ho)
    (try dsimp only at ht)
    (try dsimp only at hf)
    (try dsimp only at hm)
    (try dsimp only at hQ)
    refine ⟨_, (pss_cons (ps_for PassesOwn.never rfl (pi_range1 rfl T.n_range (pa_cons (pe_op op_shl pe_int (pe_fld (pv 0) rfl)) pa_nil)) (pg_name (i := 3) sc_joins_witness.nd rfl (Or.inl rfl)) (pss_one (ps_if (pt_not (pt_val (pe_ok (ok_inside T) (hr.mono (by decide)) rfl (pa_cons (pe_ok (ok_image T) (hr.mono (by decide)) rfl (pa_cons (pv 2) (pa_cons (pe_ok (ok_closure T) (hr.mono (by decide)) rfl (pa_cons (pv 0) (pa_cons (pv 3) pa_nil))) pa_nil))) (pa_cons (pe_ok (ok_closure T) (hr.mono (by decide)) rfl (pa_cons (pv 1) (pa_cons (pe_ok (ok_image T) (hr.mono (by decide)) rfl (pa_cons (pv 2) (pa_cons (pv 3) pa_nil))) pa_nil))) pa_nil))))) (pss_one (ps_ret (pv 3))) pss_nil)))
      (pss_one (ps_ret pe_non))), ?_⟩
    have h10 := ho.wf.le10
    have q10 := ht.wf.le10
    have h24 := pow_1024 h10
    refine s_find1 (n := 2 ^ p.size) (j := 3) (fun s => !R7245g.Spec.isSubset (imageSet p q f' (R7245g.Spec.closure p s)) (R7245g.Spec.closure q (imageSet p q f' s))) (ea_cons (ev_shl1 (ev_size T ho (ev_var rfl)) (by omega)) ea_nil) (by omega) (fun z _ H2 e2 hz => ?_) (fun z _ H2 e2 hz hF => ?_) (fun _ H2 e2 hF => ?_) ⟨none, rfl⟩
    · exact et_not (et_B (ev_inside (ev_img (hf.mono e2) hm q10 (ev_var rfl) (ev_clo (ho.mono e2) (ev_var rfl) (ev_var rfl))) (ev_clo (ht.mono e2) (ev_var rfl) (ev_img (hf.mono e2) hm q10 (ev_var rfl) (ev_var rfl)))))
    · refine (ev_var (v := ni z) rfl : Ev _ _ H2 _) H2 (Ex.refl _) _ fun H3 e3 => ?_
      have z1 := hQ H3 (e2.trans e3)
      unfold R7245g.Spec.joinFailure at z1
      rw [hF] at z1
      exact z1
    · dsimp only
      refine s_ret ev_c fun H3 e3 => ?_
      have z1 := hQ H3 (e2.trans e3)
      unfold R7245g.Spec.joinFailure at z1
      rw [hF] at z1
      exact z1
def sp_meets_witness (K : PySem.W.Frag) : Sp := spG (fun (g : V × Po × V × Po × V × List Nat) vs H => vs = [g.1, g.2.2.1, g.2.2.2.2.1] ∧ OrdAt K H g.1 g.2.1 ∧ OrdAt K H g.2.2.1 g.2.2.2.1 ∧ LN H g.2.2.2.2.1 g.2.2.2.2.2 ∧ Pu.MapOk g.2.1 g.2.2.2.1 g.2.2.2.2.2)
  (fun g => optN (R7245g.Spec.meetFailure g.2.1 g.2.2.2.1 g.2.2.2.2.2))
theorem ok_meets_witness {P : Program} {w : World} {K : PySem.W.Frag} {mg : PySem.Str → Option Value} {base : Heap} (T : Tx K mg base) : Ok P w K mg base 3 "meets_witness" ["order", "target", "images"] (sp_meets_witness K) := by
  refine ok_of (at_meets_witness T) sc_meets_witness (fun _ _ _ _ _ _ us hl => match us, hl with | [_, _, _], _ => rfl) (fun vs H Q E h => ?_) (fun f cdv A outer s H vs Q E hr h => ?_)
  · obtain ⟨g, ⟨e, _⟩, _⟩ := h
    rw [e] <;> rfl
  · obtain ⟨⟨o, p, t, q, m, f'⟩, ⟨rfl, ho, ht, hf, hm⟩, hQ⟩ := h
    (try dsimp only at ho)
    (try dsimp only at ht)
    (try dsimp only at hf)
    (try dsimp only at hm)
    (try dsimp only at hQ)
    refine ⟨_, (pss_cons (ps_for PassesOwn.never rfl (pi_range1 rfl T.n_range (pa_cons (pe_op op_shl pe_int (pe_fld (pv 0) rfl)) pa_nil)) (pg_name (i := 3) sc_meets_witness.nd rfl (Or.inl rfl)) (pss_one (ps_if (pt_not (pt_val (pe_ok (ok_inside T) (hr.mono (by decide)) rfl (pa_cons (pe_ok (ok_image T) (hr.mono (by decide)) rfl (pa_cons (pv 2) (pa_cons (pe_ok (ok_upper_closure T) (hr.mono (by decide)) rfl (pa_cons (pv 0) (pa_cons (pv 3) pa_nil))) pa_nil))) (pa_cons (pe_ok (ok_upper_closure T) (hr.mono (by decide)) rfl (pa_cons (pv 1) (pa_cons (pe_ok (ok_image T) (hr.mono (by decide)) rfl (pa_cons (pv 2) (pa_cons (pv 3) pa_nil))) pa_nil))) pa_nil))))) (pss_one (ps_ret (pv 3))) pss_nil)))
      (pss_one (ps_ret pe_non))), ?_⟩
    have h10 := ho.wf.le10
    have q10 := ht.wf.le10
    have h24 := pow_1024 h10
    refine s_find1 (n := 2 ^ p.size) (j := 3) (fun s => !R7245g.Spec.isSubset (imageSet p q f' (upperBounds p (lowerBounds p s))) (upperBounds q (lowerBounds q (imageSet p q f' s)))) (ea_cons (ev_shl1 (ev_size T ho (ev_var rfl)) (by omega)) ea_nil) (by omega) (fun z _ H2 e2 hz => ?_) (fun z _ H2 e2 hz hF => ?_) (fun _ H2 e2 hF => ?_) ⟨none, rfl⟩
    · exact et_not (et_B (ev_inside (ev_img (hf.mono e2) hm q10 (ev_var rfl) (ev_uclo (ho.mono e2) (ev_var rfl) (ev_var rfl))) (ev_uclo (ht.mono e2) (ev_var rfl) (ev_img (hf.mono e2) hm q10 (ev_var rfl) (ev_var rfl)))))
    · refine (ev_var (v := ni z) rfl : Ev _ _ H2 _) H2 (Ex.refl _) _ fun H3 e3 => ?_
      have z1 := hQ H3 (e2.trans e3)
      unfold R7245g.Spec.meetFailure at z1
      rw [hF] at z1
      exact z1
    · dsimp only
      refine s_ret ev_c fun H3 e3 => ?_
      have z1 := hQ H3 (e2.trans e3)
      unfold R7245g.Spec.meetFailure at z1
      rw [hF] at z1
      exact z1
end Cm
end PartF3
section PartF4
set_option Elab.async false
set_option linter.all false
set_option maxRecDepth 100000
set_option maxHeartbeats 4000000
namespace Cm
open PySem PySem.Spec PyProof.Rows L2 Evl
open R7245g.Spec (maskOf upperBounds lowerBounds downSet imageSet imageOf cutList cutIndex unionOf intersectionOf cutsOf cutAt)
theorem idx_first : ∀ {l : List Nat} {x m : Nat}, m < l.idxOf x → ∀ {y}, l[m]? = some y → y ≠ x
  | [], x, m, h, y, e => by simp at e
  | a :: l, x, m, h, y, e => by
    rw [List.idxOf_cons] at h
    by_cases c : a = x
    · subst c
      simp at h
    · have c2 : (a == x) = false := by simp [c]
      rw [c2] at h
      cases m with
      | zero =>
        cases e
        exact c
      | succ m =>
        exact idx_first (l := l) (by simpa using h) (by simpa using e)
theorem eqV_ni (a b : Nat) : eqV (ni a) (ni b) = decide (a = b) := by
  show (((a : Nat) : Int) == ((b : Nat) : Int)) = _
  by_cases c : a = b
  · subst c
    simp
  · have c2 : ((a : Nat) : Int) ≠ ((b : Nat) : Int) := by omega
    rw [decide_eq_false c]
    exact beq_eq_false_iff_ne.mpr c2
theorem flat_all (l : List Nat) : (l.map ni).all flatV = true := by
  rw [List.all_eq_true]
  intro x hx
  obtain ⟨n, _, rfl⟩ := List.mem_map.mp hx
  rfl
def sp_Completion_init (K : PySem.W.Frag) : Sp := fun vs H Q _ => ∃ p dx a b, vs = [.ref p, a, b] ∧ H p = some (.ins (He.ga K "Completion") dx []) ∧ ∀ H', H' p = some (.ins (He.ga K "Completion") dx [("order", a), ("lowers", b)]) → (∀ q o, H q = some o → q ≠ p → H' q = some o) → Q .non H'
theorem ok_Completion_init {P : Program} {w : World} {K : PySem.W.Frag} {mg : PySem.Str → Option Value} {base : Heap} (T : Tx K mg base) : OkC P w K mg base 1 "Completion" ["self", "order", "lowers"] (sp_Completion_init K) := by
  refine okC_of T 46 (d := d_Completion_init) rfl rfl rfl rfl 98 rfl rfl sc_Completion_init (fun _ _ _ _ _ _ us hl => match us, hl with | [_, _, _], _ => rfl) (fun vs H Q E h => ?_) (fun f cdv A outer s H vs Q E hr h => ?_)
  · obtain ⟨p, dx, a, b, rfl, hp, hQ⟩ := h
    rfl
  · obtain ⟨p, dx, a, b, rfl, hp, hQ⟩ := h
    refine ⟨_, (pss_cons (ps_fld (pv 0) (pv 1) rfl)
      (pss_one (ps_fld (pv 0) (pv 2) rfl))), ?_⟩
    refine ⟨_, rfl, _, rfl, p, _, dx, [], rfl, hp, T.cl_Completion, T.na_Completion_order, (by show 0 < 1000; decide), ?_⟩
    refine ⟨_, rfl, _, rfl, p, _, dx, _, rfl, upd_same, T.cl_Completion, T.na_Completion_lowers, (by show 1 < 1000; decide), ?_⟩
    exact hQ _ upd_same fun q o h hq => by
      rw [upd_ne hq, upd_ne hq]
      exact h
theorem er_mkC {K : PySem.W.Frag} {σ : L2.St} {B : Hp} {ta : TA} {o : V} {xs : List V} (ha : EvAR ta σ B fun vs H => ∃ l, vs = [o, .ref l] ∧ H l = some (.lst xs)) :
    EvR (tMake (He.ga K "Completion") (sp_Completion_init K) [] E0 ta) σ B (fun v H => ∃ a dx l, v = .ref a ∧ H a = some (.ins (He.ga K "Completion") dx (compF o l)) ∧ H l = some (.lst xs)) := fun H1 e Q q =>
  ha H1 e _ fun vs H2 e2 ⟨l, ev, hl⟩ p dx np nd ne => ⟨p, dx, o, .ref l, by rw [ev] <;> rfl, upd_same, fun H' h1 h2 => ⟨rfl, by
    have e3 : Ex H2 H' := fun b u hb => h2 b u (by rw [upd_ne (ne_of_none hb np), upd_ne (ne_of_none hb nd)]; exact hb) (ne_of_none hb np)
    refine q _ _ (e2.trans e3) ⟨p, dx, l, rfl, ?_, ?_⟩
    · rw [ext_new (fresh_back e2 np)]
      exact h1
    · rw [← ext_ext e2 e3]
      exact ext_ex (ext_in e e2) _ _ hl⟩⟩
def sp_completed (K : PySem.W.Frag) : Sp := spB (fun (g : V × Po) vs H => vs = [g.1] ∧ OrdAt K H g.1 g.2) (fun g v H => CompAt K H v g.2)
theorem ok_completed {P : Program} {w : World} {K : PySem.W.Frag} {mg : PySem.Str → Option Value} {base : Heap} (T : Tx K mg base) : Ok P w K mg base 3 "completed" ["order"] (sp_completed K) := by
  refine ok_of (at_completed T) sc_completed (fun _ _ _ _ _ _ us hl => match us, hl with | [_], _ => rfl) (fun vs H Q E h => ?_) (fun f cdv A outer s H vs Q E hr h => ?_)
  · obtain ⟨g, B, ⟨e, _⟩, _⟩ := h
    rw [e] <;> rfl
  · obtain ⟨⟨o, p⟩, B, ⟨rfl, ho⟩, eB, hQ⟩ := h
    (try dsimp only at ho)
    (try dsimp only at hQ)
    refine ⟨_, (pss_one (ps_ret (pe_mk0 (ok_Completion_init T) (hr.mono (by decide)) rfl (pa_cons (pv 0) (pa_cons (pe_lc (own := [("mask", 1)]) rfl sc_completed.nd (pi_range1 rfl T.n_range (pa_cons (pe_op op_shl pe_int (pe_fld (pv 0) rfl)) pa_nil)) (blkOk_by (N := ["order", "mask"]) (sc := defScope s_completed) (by decide +kernel)) (fun _ _ _ _ _ => by exact (pg_name (i := 1) sc_completed.nd rfl (Or.inl rfl))) (fun _ _ _ _ _ => by exact (pts_one (pt_cmpR op_eq (pe_ok (ok_closure T) (hr.mono (by decide)) rfl (pa_cons (pv 0) (pa_cons (pv 1) pa_nil))) (pv 1) (nomark _)))) (fun _ _ _ _ _ => by exact (pv 1))) pa_nil))))), ?_⟩
    have h24 := pow_1024 ho.wf.le10
    refine s_retR (R := fun v H => CompAt K H v p) eB (er_imp (er_mkC (o := o) (xs := (cutList p).map ni) (ar_consV (ev_var rfl) fun H1 e1 => ar_one (R := fun v H => ∃ l, v = .ref l ∧ H l = some (.lst ((cutList p).map ni))) (er_L (el_lcR1 (n := ((2 ^ p.size : Nat) : Int)) (fun m => R7245g.Spec.closure p m == m) ni (ea_cons (ev_shl1 (ev_size T (ho.mono e1) (ev_var rfl)) (by have := ho.wf.le10; omega)) ea_nil) (by generalize 2 ^ p.size = z at h24; omega) (fun x => rfl)
      (fun i H2 e hi => et_is (et_test (ev_eqN (ev_clo (s := i) (ho.mono (e1.trans e)) (ev_var rfl) (ev_var rfl)) (ev_var rfl))) (by
        by_cases c : R7245g.Spec.closure p i = i
        · rw [c]
          simp
        · simp [c])) (fun i H2 e hi _ => ev_var rfl)) (fun l H2 e h => ⟨l, rfl, by
          rw [h, ← Pu.cuts_filter]
          rfl⟩)) fun v H2 e ⟨l, h1, h2⟩ => ⟨l, by rw [h1], h2⟩)) fun v H1 e ⟨a, dx, l, h1, h2, h3⟩ => ⟨a, dx, o, l, h1, h2, ho.mono e, h3⟩) fun v B1 H1 g r => hQ v B1 H1 g r
section
variable {K : PySem.W.Frag} {mg : PySem.Str → Option Value} {base : Heap} {σ : L2.St} {H : Hp} {ta tb te tx : TE} {v w : V} {p q : Po} {s i x : Nat}
theorem ev_index {a : Addr} {l : List Nat} (ha : Ev ta σ H (.ref a)) (hb : Ev tb σ H (ni x)) (h : H a = some (.lst (l.map ni))) (hx : x ∈ l) : Ev (tBM K "list" (rIndex K) ta (tCons tb tNil)) σ H (ni (l.idxOf x)) := fun H1 e Q q =>
  ha H1 e _ fun H2 e2 => ⟨Or.inl ⟨rfl, _, sq_of (e2 _ _ (e _ _ h))⟩, hb H2 (e.trans e2) _ fun H3 e3 => ⟨a, l.map ni, ni x, l.idxOf x, ni x, rfl, rfl, sq_of (e3 _ _ (e2 _ _ (e _ _ h))), rfl, flat_all l, by
      rw [List.getElem?_map, List.getElem?_eq_getElem (List.idxOf_lt_length_of_mem hx), List.getElem_idxOf] <;> rfl, by rw [eqV_ni]; simp, fun m z' hm hz => by
      obtain ⟨y, hy, rfl⟩ := map_at hz
      rw [eqV_ni]
      exact decide_eq_false (idx_first hm hy), q H3 (e2.trans e3)⟩⟩
end
def sp_cut_number (K : PySem.W.Frag) : Sp := spG (fun (g : V × Po × Nat) vs H => vs = [g.1, ni g.2.2] ∧ CompAt K H g.1 g.2.1 ∧ g.2.2 ∈ cutList g.2.1) (fun g => ni (cutIndex g.2.1 g.2.2))
theorem ok_cut_number {P : Program} {w : World} {K : PySem.W.Frag} {mg : PySem.Str → Option Value} {base : Heap} (T : Tx K mg base) : Ok P w K mg base 1 "cut_number" ["completion", "lower"] (sp_cut_number K) := by
  refine ok_of (at_cut_number T) sc_cut_number (fun _ _ _ _ _ _ us hl => match us, hl with | [_, _], _ => rfl) (fun vs H Q E h => ?_) (fun f cdv A outer s H vs Q E hr h => ?_)
  · obtain ⟨g, ⟨e, _⟩, _⟩ := h
    rw [e] <;> rfl
  · obtain ⟨⟨c, p, x⟩, ⟨rfl, ⟨a, dx, o, l, rfl, h1, h2, h3⟩, hx⟩, hQ⟩ := h
    (try dsimp only at h1)
    (try dsimp only at h2)
    (try dsimp only at h3)
    (try dsimp only at hx)
    (try dsimp only at hQ)
    refine ⟨_, (pss_one (ps_ret (pe_bm PySem.F.plainAttrs_list PySem.F.slot_list_index PySem.F.type_list_index mt_index (pe_fld (pv 0) rfl) (pa_cons (pv 1) pa_nil)))), ?_⟩
    exact s_ret (ev_index (ev_fld (ev_var rfl) h1 T.cl_Completion T.na_Completion_lowers (compF_lowers o l)) (ev_var rfl) h3 hx) fun H1 e => hQ H1 e
section
variable {K : PySem.W.Frag} {mg : PySem.Str → Option Value} {base : Heap} {σ : L2.St} {H : Hp} {ta tb te tx : TE} {v w : V} {p q : Po} {s i x : Nat}
theorem ev_cutno (c : CompAt K H v p) (hx : x ∈ cutList p) (ha : Ev ta σ H v) (hb : Ev tb σ H (ni x)) : Ev (tCall (sp_cut_number K) [] E0 (tCons ta (tCons tb tNil))) σ H (ni (cutIndex p x)) :=
  ev_callG (v, p, x) (ea_cons ha (ea_cons hb ea_nil)) (fun _ e => ⟨rfl, c.mono e, hx⟩)
end
def sp_join_of (K : PySem.W.Frag) : Sp := spG (fun (g : V × Po × V × List Nat) vs H => vs = [g.1, g.2.2.1] ∧ CompAt K H g.1 g.2.1 ∧ LN H g.2.2.1 g.2.2.2 ∧ ∀ i ∈ g.2.2.2, i < (cutList g.2.1).length) (fun g => ni (cutIndex g.2.1 (R7245g.Spec.joinOf g.2.1 (cutsOf g.2.1 g.2.2.2))))
theorem ok_join_of {P : Program} {w : World} {K : PySem.W.Frag} {mg : PySem.Str → Option Value} {base : Heap} (T : Tx K mg base) : Ok P w K mg base 3 "join_of" ["completion", "numbers"] (sp_join_of K) := by
  refine ok_of (at_join_of T) sc_join_of (fun _ _ _ _ _ _ us hl => match us, hl with | [_, _], _ => rfl) (fun vs H Q E h => ?_) (fun f cdv A outer s H vs Q E hr h => ?_)
  · obtain ⟨g, ⟨e, _⟩, _⟩ := h
    rw [e] <;> rfl
  · obtain ⟨⟨c, p, _, ns⟩, ⟨rfl, hc, ⟨b, rfl, hb⟩, hl⟩, hQ⟩ := h
    (try dsimp only at hc)
    (try dsimp only at hb)
    (try dsimp only at hl)
    (try dsimp only at hQ)
    refine ⟨_, (pss_cons (ps_set (i := 2) sc_join_of.nd rfl (Or.inl rfl) pe_int)
      (pss_cons (ps_for PassesOwn.never rfl (pi_list (pv 1)) (pg_name (i := 3) sc_join_of.nd rfl (Or.inl rfl)) (pss_one (ps_aug (i := 2) sc_join_of.nd rfl (Or.inl rfl) (pe_ix ix_list (pe_fld (pv 0) rfl) (pv 3) (fun _ _ => rfl)) iop_or)))
      (pss_one (ps_ret (pe_ok (ok_cut_number T) (hr.mono (by decide)) rfl (pa_cons (pv 0) (pa_cons (pe_ok (ok_closure T) (hr.mono (by decide)) rfl (pa_cons (pe_fld (pv 0) rfl) (pa_cons (pv 2) pa_nil))) pa_nil))))))), ?_⟩
    have hc0 := hc
    obtain ⟨a, dx, o, l, rfl, h1, h2, h3⟩ := hc
    refine s_asg (v := ni 0) ev_c fun H1 e1 => ?_
    refine s_forLst (a := b) (xs := ns.map ni) (ev_var rfl) (sq_of (e1 _ _ hb)) (fun i σ H' => ∃ x, σ = [some (.ref a), some (.ref b), some (ni (unionOf (cutsOf p (ns.take i)))), x] ∧ Ex H H') (fun H2 e2 => ⟨none, rfl, e1.trans e2⟩) (fun i σ' H' _ ⟨_, _, e⟩ => sq_of (e _ _ hb)) ?_ ?_
    · rintro i x σ' H' hx ⟨_, rfl, e⟩
      obtain ⟨n, hn, rfl⟩ := map_at hx
      refine s_orN (a := unionOf (cutsOf p (ns.take i))) (b := cutAt p n) rfl (ev_ixN (ev_fld (ev_var rfl) (e _ _ h1) T.cl_Completion T.na_Completion_lowers (compF_lowers o l)) (ev_var rfl) (sq_of (e _ _ h3)) (hl n (List.mem_of_getElem? hn))) fun H2 e2 => ⟨some (ni n), ?_, e.trans e2⟩
      rw [Pu.take_more hn]
      unfold cutsOf
      rw [List.map_append]
      show _ = [_, _, some (ni (unionOf (_ ++ [_]))), _]
      rw [Pu.union_snoc]
      rfl
    · rintro σ' H' ⟨_, rfl, e⟩
      rw [List.length_map, List.take_length]
      dsimp only
      exact s_ret (ev_cutno (hc0.mono e) (Pu.clo_mem p _) (ev_var rfl) (ev_clo (h2.mono e) (ev_fld (ev_var rfl) (e _ _ h1) T.cl_Completion T.na_Completion_order (compF_order o l)) (ev_var rfl))) fun H2 e2 => hQ H2 (e.trans e2)
def sp_meet_of (K : PySem.W.Frag) : Sp := spG (fun (g : V × Po × V × List Nat) vs H => vs = [g.1, g.2.2.1] ∧ CompAt K H g.1 g.2.1 ∧ LN H g.2.2.1 g.2.2.2 ∧ ∀ i ∈ g.2.2.2, i < (cutList g.2.1).length) (fun g => ni (cutIndex g.2.1 (R7245g.Spec.meetOf g.2.1 (cutsOf g.2.1 g.2.2.2))))
theorem ok_meet_of {P : Program} {w : World} {K : PySem.W.Frag} {mg : PySem.Str → Option Value} {base : Heap} (T : Tx K mg base) : Ok P w K mg base 2 "meet_of" ["completion", "numbers"] (sp_meet_of K) := by
  refine ok_of (at_meet_of T) sc_meet_of (fun _ _ _ _ _ _ us hl => match us, hl with | [_, _], _ => rfl) (fun vs H Q E h => ?_) (fun f cdv A outer s H vs Q E hr h => ?_)
  · obtain ⟨g, ⟨e, _⟩, _⟩ := h
    rw [e] <;> rfl
  · obtain ⟨⟨c, p, _, ns⟩, ⟨rfl, hc, ⟨b, rfl, hb⟩, hl⟩, hQ⟩ := h
    (try dsimp only at hc)
    (try dsimp only at hb)
    (try dsimp only at hl)
    (try dsimp only at hQ)
    refine ⟨_, (pss_cons (ps_set (i := 2) sc_meet_of.nd rfl (Or.inl rfl) (pe_op op_sub (pe_op op_shl pe_int (pe_fld (pe_fld (pv 0) rfl) rfl)) pe_int))
      (pss_cons (ps_for PassesOwn.never rfl (pi_list (pv 1)) (pg_name (i := 3) sc_meet_of.nd rfl (Or.inl rfl)) (pss_one (ps_aug (i := 2) sc_meet_of.nd rfl (Or.inl rfl) (pe_ix ix_list (pe_fld (pv 0) rfl) (pv 3) (fun _ _ => rfl)) iop_and)))
      (pss_one (ps_ret (pe_ok (ok_cut_number T) (hr.mono (by decide)) rfl (pa_cons (pv 0) (pa_cons (pv 2) pa_nil))))))), ?_⟩
    have hc0 := hc
    obtain ⟨a, dx, o, l, rfl, h1, h2, h3⟩ := hc
    refine s_asg (v := ni (2 ^ p.size - 1)) (ev_full T h2 (ev_fld (ev_var rfl) h1 T.cl_Completion T.na_Completion_order (compF_order o l))) fun H1 e1 => ?_
    refine s_forLst (a := b) (xs := ns.map ni) (ev_var rfl) (sq_of (e1 _ _ hb)) (fun i σ H' => ∃ x, σ = [some (.ref a), some (.ref b), some (ni (intersectionOf p (cutsOf p (ns.take i)))), x] ∧ Ex H H') (fun H2 e2 => ⟨none, by rw [← Pu.full_eq] <;> rfl, e1.trans e2⟩) (fun i σ' H' _ ⟨_, _, e⟩ => sq_of (e _ _ hb)) ?_ ?_
    · rintro i x σ' H' hx ⟨_, rfl, e⟩
      obtain ⟨n, hn, rfl⟩ := map_at hx
      have hln := hl n (List.mem_of_getElem? hn)
      refine s_andN (a := intersectionOf p (cutsOf p (ns.take i))) (b := cutAt p n) rfl (ev_ixN (ev_fld (ev_var rfl) (e _ _ h1) T.cl_Completion T.na_Completion_lowers (compF_lowers o l)) (ev_var rfl) (sq_of (e _ _ h3)) hln) fun H2 e2 => ⟨some (ni n), ?_, e.trans e2⟩
      rw [Pu.take_more hn]
      unfold cutsOf
      rw [List.map_append]
      show _ = [_, _, some (ni (intersectionOf p (_ ++ [_]))), _]
      rw [Pu.inter_snoc p (Pu.cutAt_mem hln)]
      rfl
    · rintro σ' H' ⟨_, rfl, e⟩
      rw [List.length_map, List.take_length]
      dsimp only
      exact s_ret (ev_cutno (hc0.mono e) (Pu.meet_mem (Pu.cuts_mem hl)) (ev_var rfl) (ev_var rfl)) fun H2 e2 => hQ H2 (e.trans e2)
def sp_least_extension (K : PySem.W.Frag) : Sp := spB (fun (g : V × Po × V × Po × V × List Nat) vs H => vs = [g.1, g.2.2.1, g.2.2.2.2.1] ∧ CompAt K H g.1 g.2.1 ∧ CompAt K H g.2.2.1 g.2.2.2.1 ∧ LN H g.2.2.2.2.1 g.2.2.2.2.2 ∧ Pu.MapOk g.2.1 g.2.2.2.1 g.2.2.2.2.2)
  (fun g v H => LN H v ((cutList g.2.1).map fun c => cutIndex g.2.2.2.1 (R7245g.Spec.leastExtension g.2.1 g.2.2.2.1 g.2.2.2.2.2 c)))
theorem ok_least_extension {P : Program} {w : World} {K : PySem.W.Frag} {mg : PySem.Str → Option Value} {base : Heap} (T : Tx K mg base) : Ok P w K mg base 3 "least_extension" ["completion", "target", "images"] (sp_least_extension K) := by
  refine ok_of (at_least_extension T) sc_least_extension (fun _ _ _ _ _ _ us hl => match us, hl with | [_, _, _], _ => rfl) (fun vs H Q E h => ?_) (fun f cdv A outer s H vs Q E hr h => ?_)
  · obtain ⟨g, B, ⟨e, _⟩, _⟩ := h
    rw [e] <;> rfl
  · obtain ⟨⟨c, p, t, q, m, f'⟩, B, ⟨rfl, hc, ht, hf, hm⟩, eB, hQ⟩ := h
    (try dsimp only at hc)
    (try dsimp only at ht)
    (try dsimp only at hf)
    (try dsimp only at hm)
    (try dsimp only at hQ)
    refine ⟨_, (pss_cons (ps_set (i := 3) sc_least_extension.nd rfl (Or.inl rfl) (pe_lst pa_nil))
      (pss_cons (ps_for PassesOwn.never rfl (pi_list (pe_fld (pv 0) rfl)) (pg_name (i := 4) sc_least_extension.nd rfl (Or.inl rfl)) (pss_one (ps_expr (pe_bm PySem.F.plainAttrs_list PySem.F.slot_list_append PySem.F.type_list_append mt_append (pv 3) (pa_cons (pe_ok (ok_cut_number T) (hr.mono (by decide)) rfl (pa_cons (pv 1) (pa_cons (pe_ok (ok_closure T) (hr.mono (by decide)) rfl (pa_cons (pe_fld (pv 1) rfl) (pa_cons (pe_ok (ok_image T) (hr.mono (by decide)) rfl (pa_cons (pv 2) (pa_cons (pv 4) pa_nil))) pa_nil))) pa_nil))) pa_nil)))))
      (pss_one (ps_ret (pv 3))))), ?_⟩
    have ht0 := ht
    obtain ⟨a, dx, o, l, rfl, h1, h2, h3⟩ := hc
    obtain ⟨a2, dx2, o2, l2, rfl, k1, k2, k3⟩ := ht
    have q10 := k2.wf.le10
    have p10 := Pu.cuts_len p h2.wf.le10
    refine s_asgL (el_lst (vs := []) ea_nil (by decide)) fun u H1 hu e1 hu1 => ?_
    refine s_forLst (a := l) (xs := (cutList p).map ni) (ev_fld (ev_var rfl) (e1 _ _ (eB _ _ h1)) T.cl_Completion T.na_Completion_lowers (compF_lowers o l)) (sq_of (e1 _ _ (eB _ _ h3))) (fun i σ H' => ∃ x, σ = [some (.ref a), some (.ref a2), some m, some (.ref u), x] ∧ Kn B H B H' ∧ H' u = some (.lst ((((cutList p).take i).map fun c => cutIndex q (R7245g.Spec.leastExtension p q f' c)).map ni)))
      (fun H2 e2 => ⟨none, rfl, (Kn.refl eB).up (e1.trans e2), e2 _ _ hu1⟩) (fun i σ' H' _ ⟨_, _, k, _⟩ => sq_of (k.i _ _ h3)) ?_ ?_
    · rintro i x σ' H' hx ⟨_, rfl, k, hu2⟩
      obtain ⟨n, hn, rfl⟩ := map_at hx
      refine s_app hu2 (ev_var rfl) (ev_cutno (ht0.mono k.i) (Pu.clo_mem q _) (ev_var rfl) (ev_clo (k2.mono k.i) (ev_fld (ev_var rfl) (k.i _ _ k1) T.cl_Completion T.na_Completion_order (compF_order o2 l2)) (ev_img (hf.mono k.i) hm q10 (ev_var rfl) (ev_var rfl)))) (by simp; omega) fun H2 e2 => ⟨_, rfl, (k.up e2).mut hu (ex_none eB hu), ?_⟩
      rw [upd_same, Pu.take_more hn, List.map_append, List.map_append]
      rfl
    · rintro σ' H' ⟨_, rfl, k, hu2⟩
      rw [List.length_map, List.take_length] at hu2
      dsimp only
      exact s_ret (ev_var rfl) fun H2 e2 => hQ _ _ _ ((k.up e2).know hu (e2 _ _ hu2)).toGr ⟨u, rfl, upd_same⟩
def sp_greatest_extension (K : PySem.W.Frag) : Sp := spB (fun (g : V × Po × V × Po × V × List Nat) vs H => vs = [g.1, g.2.2.1, g.2.2.2.2.1] ∧ CompAt K H g.1 g.2.1 ∧ CompAt K H g.2.2.1 g.2.2.2.1 ∧ LN H g.2.2.2.2.1 g.2.2.2.2.2 ∧ Pu.MapOk g.2.1 g.2.2.2.1 g.2.2.2.2.2)
  (fun g v H => LN H v ((cutList g.2.1).map fun c => cutIndex g.2.2.2.1 (R7245g.Spec.greatestExtension g.2.1 g.2.2.2.1 g.2.2.2.2.2 c)))
theorem ok_greatest_extension {P : Program} {w : World} {K : PySem.W.Frag} {mg : PySem.Str → Option Value} {base : Heap} (T : Tx K mg base) : Ok P w K mg base 2 "greatest_extension" ["completion", "target", "images"] (sp_greatest_extension K) := by
  refine ok_of (at_greatest_extension T) sc_greatest_extension (fun _ _ _ _ _ _ us hl => match us, hl with | [_, _, _], _ => rfl) (fun vs H Q E h => ?_) (fun f cdv A outer s H vs Q E hr h => ?_)
  · obtain ⟨g, B, ⟨e, _⟩, _⟩ := h
    rw [e] <;> rfl
  · obtain ⟨⟨c, p, t, q, m, f'⟩, B, ⟨rfl, hc, ht, hf, hm⟩, eB, hQ⟩ := h
    (try dsimp only at hc)
    (try dsimp only at ht)
    (try dsimp only at hf)
    (try dsimp only at hm)
    (try dsimp only at hQ)
    refine ⟨_, (pss_cons (ps_set (i := 3) sc_greatest_extension.nd rfl (Or.inl rfl) (pe_lst pa_nil))
      (pss_cons (ps_for PassesOwn.never rfl (pi_list (pe_fld (pv 0) rfl)) (pg_name (i := 4) sc_greatest_extension.nd rfl (Or.inl rfl)) (pss_cons (ps_set (i := 5) sc_greatest_extension.nd rfl (Or.inl rfl) (pe_ok (ok_upper_bounds T) (hr.mono (by decide)) rfl (pa_cons (pe_fld (pv 0) rfl) (pa_cons (pv 4) pa_nil))))
      (pss_one (ps_expr (pe_bm PySem.F.plainAttrs_list PySem.F.slot_list_append PySem.F.type_list_append mt_append (pv 3) (pa_cons (pe_ok (ok_cut_number T) (hr.mono (by decide)) rfl (pa_cons (pv 1) (pa_cons (pe_ok (ok_lower_bounds T) (hr.mono (by decide)) rfl (pa_cons (pe_fld (pv 1) rfl) (pa_cons (pe_ok (ok_image T) (hr.mono (by decide)) rfl (pa_cons (pv 2) (pa_cons (pv 5) pa_nil))) pa_nil))) pa_nil))) pa_nil))))))
      (pss_one (ps_ret (pv 3))))), ?_⟩
    have ht0 := ht
    obtain ⟨a, dx, o, l, rfl, h1, h2, h3⟩ := hc
    obtain ⟨a2, dx2, o2, l2, rfl, k1, k2, k3⟩ := ht
    have q10 := k2.wf.le10
    have p10 := Pu.cuts_len p h2.wf.le10
    refine s_asgL (el_lst (vs := []) ea_nil (by decide)) fun u H1 hu e1 hu1 => ?_
    refine s_forLst (a := l) (xs := (cutList p).map ni) (ev_fld (ev_var rfl) (e1 _ _ (eB _ _ h1)) T.cl_Completion T.na_Completion_lowers (compF_lowers o l)) (sq_of (e1 _ _ (eB _ _ h3))) (fun i σ H' => ∃ x y, σ = [some (.ref a), some (.ref a2), some m, some (.ref u), x, y] ∧ Kn B H B H' ∧ H' u = some (.lst ((((cutList p).take i).map fun c => cutIndex q (R7245g.Spec.greatestExtension p q f' c)).map ni)))
      (fun H2 e2 => ⟨none, none, rfl, (Kn.refl eB).up (e1.trans e2), e2 _ _ hu1⟩) (fun i σ' H' _ ⟨_, _, _, k, _⟩ => sq_of (k.i _ _ h3)) ?_ ?_
    · rintro i x σ' H' hx ⟨_, _, rfl, k, hu2⟩
      obtain ⟨n, hn, rfl⟩ := map_at hx
      refine s_asg (ev_ub (s := n) (h2.mono k.i) (ev_fld (ev_var rfl) (k.i _ _ h1) T.cl_Completion T.na_Completion_order (compF_order o l)) (ev_var rfl)) fun H2 e2 => ?_
      have kk := k.up e2
      refine s_app (e2 _ _ hu2) (ev_var rfl) (ev_cutno (ht0.mono kk.i) (Pu.lb_mem q _) (ev_var rfl) (ev_lb (k2.mono kk.i) (ev_fld (ev_var rfl) (kk.i _ _ k1) T.cl_Completion T.na_Completion_order (compF_order o2 l2)) (ev_img (hf.mono kk.i) hm q10 (ev_var rfl) (ev_var rfl)))) (by simp; omega) fun H3 e3 => ⟨_, _, rfl, (kk.up e3).mut hu (ex_none eB hu), ?_⟩
      rw [upd_same, Pu.take_more hn, List.map_append, List.map_append]
      rfl
    · rintro σ' H' ⟨_, _, rfl, k, hu2⟩
      rw [List.length_map, List.take_length] at hu2
      dsimp only
      exact s_ret (ev_var rfl) fun H2 e2 => hQ _ _ _ ((k.up e2).know hu (e2 _ _ hu2)).toGr ⟨u, rfl, upd_same⟩
def sp_first_gap : Sp := spG (fun (g : V × List Nat × V × List Nat) vs H => vs = [g.1, g.2.2.1] ∧ LN H g.1 g.2.1 ∧ LN H g.2.2.1 g.2.2.2 ∧ g.2.1.length = g.2.2.2.length ∧ g.2.1.length ≤ 1024) (fun g => optN (Pu.gapOf g.2.1 g.2.2.2))
theorem ok_first_gap {P : Program} {w : World} {K : PySem.W.Frag} {mg : PySem.Str → Option Value} {base : Heap} (T : Tx K mg base) : Ok P w K mg base 1 "first_gap" ["least", "greatest"] (sp_first_gap) := by
  refine ok_of (at_first_gap T) sc_first_gap (fun _ _ _ _ _ _ us hl => match us, hl with | [_, _], _ => rfl) (fun vs H Q E h => ?_) (fun f cdv A outer s H vs Q E hr h => ?_)
  · obtain ⟨g, ⟨e, _⟩, _⟩ := h
    rw [e] <;> rfl
  · obtain ⟨⟨_, xs, _, ys⟩, ⟨rfl, ⟨a, rfl, ha⟩, ⟨b, rfl, hb⟩, hl, hz⟩, hQ⟩ := h
    (try dsimp only at ha)
    (try dsimp only at hb)
    (try dsimp only at hl)
    (try dsimp only at hz)
    (try dsimp only at hQ)
    refine ⟨_, (pss_cons (ps_for PassesOwn.never rfl (pi_range1 rfl T.n_range (pa_cons (pe_callB call_len_seq (by rfl) T.n_len PySem.boot_len (pa_cons (pv 0) pa_nil)) pa_nil)) (pg_name (i := 2) sc_first_gap.nd rfl (Or.inl rfl)) (pss_one (ps_if (pt_cmpR op_ne (pe_ix ix_list (pv 0) (pv 2) (fun _ _ => rfl)) (pe_ix ix_list (pv 1) (pv 2) (fun _ _ => rfl)) (nomark _)) (pss_one (ps_ret (pv 2))) pss_nil)))
      (pss_one (ps_ret pe_non))), ?_⟩
    refine s_find1 (n := xs.length) (j := 2) (fun i => xs.getD i 0 != ys.getD i 0) (ea_cons (ev_is (ev_len (ev_var rfl) (sq_of ha)) (by rw [List.length_map])) ea_nil) (by omega) (fun z _ H2 e2 hz => ?_) (fun z _ H2 e2 hz hF => ?_) (fun _ H2 e2 hF => ?_) ⟨none, rfl⟩
    · exact et_is (et_test (ev_neN (ev_ixN (i := z) (ev_var rfl) (ev_var rfl) (sq_of (e2 _ _ ha)) hz) (ev_ixN (i := z) (ev_var rfl) (ev_var rfl) (sq_of (e2 _ _ hb)) (by omega)))) (by
        by_cases c : xs.getD z 0 = ys.getD z 0
        · rw [c]
          simp
        · have c2 : (xs.getD z 0 != ys.getD z 0) = true := by simp only [bne_iff_ne]; exact c
          rw [c2]
          exact decide_eq_true c)
    · refine (ev_var (v := ni z) rfl : Ev _ _ H2 _) H2 (Ex.refl _) _ fun H3 e3 => ?_
      have z1 := hQ H3 (e2.trans e3)
      unfold Pu.gapOf at z1
      rw [hF] at z1
      exact z1
    · dsimp only
      refine s_ret ev_c fun H3 e3 => ?_
      have z1 := hQ H3 (e2.trans e3)
      unfold Pu.gapOf at z1
      rw [hF] at z1
      exact z1
end Cm
end PartF4
section PartF5
set_option Elab.async false
set_option linter.all false
set_option maxRecDepth 100000
set_option maxHeartbeats 4000000
namespace Cm
open PySem PySem.Spec PyProof.Rows L2 Evl
open R7245g.Spec (heightIn inAllOrders firstConflict extendOrder cutList cutAt)
theorem flat_rep (k : Nat) : (List.replicate k [V.int 0]).flatten = (List.replicate k 0).map ni := by
  induction k with
  | zero => rfl
  | succ k ih =>
    rw [List.replicate_succ, List.flatten_cons, ih, List.replicate_succ, List.map_cons]
    rfl
def sp_places_of : Sp := spB (fun (g : Nat × V × List Nat) vs H => vs = [g.2.1] ∧ LN H g.2.1 g.2.2 ∧ Pu.IsLine g.1 g.2.2 ∧ g.1 ≤ 10) (fun g v H => LN H v (Pu.places g.2.2 g.1))
theorem el_rep {σ : L2.St} {H : Hp} {tc : TE} {k : Nat} (h : Ev tc σ H (ni k)) (hk : k ≤ 1000) : EvL (tOp rRep (tLst (tCons (tC (.int 0)) tNil)) tc) σ H ((List.replicate k 0).map ni) := fun H1 e Q q =>
  el_lst (vs := [V.int 0]) (ea_cons ev_c ea_nil) (by show 1 ≤ 100000; omega) H1 e _ fun z H2 hz e2 h2 => h H2 (e.trans e2) _ fun H3 e3 => ⟨z, ((k : Nat) : Int), [V.int 0], rfl, rfl, e3 _ _ h2, by omega, by omega, by
    rw [Int.toNat_natCast]
    exact sz_of (by show 1 * k ≤ 100000; omega), fun p hp => q p _ (fresh_back (e2.trans e3) hp) ((e2.trans e3).trans (Ex.new hp)) (by rw [upd_same, Int.toNat_natCast, flat_rep])⟩
theorem ok_places_of {P : Program} {w : World} {K : PySem.W.Frag} {mg : PySem.Str → Option Value} {base : Heap} (T : Tx K mg base) : Ok P w K mg base 1 "places_of" ["line"] (sp_places_of) := by
  refine ok_of (at_places_of T) sc_places_of (fun _ _ _ _ _ _ us hl => match us, hl with | [_], _ => rfl) (fun vs H Q E h => ?_) (fun f cdv A outer s H vs Q E hr h => ?_)
  · obtain ⟨g, B, ⟨e, _⟩, _⟩ := h
    rw [e] <;> rfl
  · obtain ⟨⟨n, _, l⟩, B, ⟨rfl, ⟨a, rfl, ha⟩, hl, hn⟩, eB, hQ⟩ := h
    (try dsimp only at ha)
    (try dsimp only at hl)
    (try dsimp only at hn)
    (try dsimp only at hQ)
    refine ⟨_, (pss_cons (ps_set (i := 1) sc_places_of.nd rfl (Or.inl rfl) (pe_op op_rep (pe_lst (pa_cons pe_int pa_nil)) (pe_callB call_len_seq (by rfl) T.n_len PySem.boot_len (pa_cons (pv 0) pa_nil))))
      (pss_cons (ps_for PassesOwn.never rfl (pi_enum rfl T.n_enumerate (pa_cons (pv 0) pa_nil)) (pg_tup rfl (pgs_cons (pg_name (i := 2) sc_places_of.nd rfl (Or.inl rfl)) (pgs_cons (pg_name (i := 3) sc_places_of.nd rfl (Or.inl rfl)) pgs_nil))) (pss_one (ps_asg (pv 2) (pg_sub (pv 1) (pv 3) set_list))))
      (pss_one (ps_ret (pv 1))))), ?_⟩
    have hll := hl.len
    refine s_asgL (el_rep (k := n) (ev_is (ev_len (ev_var rfl) (sq_of (eB _ _ ha))) (by rw [List.length_map, hll])) (by omega)) fun u H1 hu e1 h1 => ?_
    have k0 := (Kn.refl eB).up e1
    refine s_forEnumK (a := a) (xs := l.map ni) (ev_var rfl) (sq_of (k0.i _ _ ha)) (fun k σ H' => ∃ x y, σ = [some (.ref a), some (.ref u), x, y] ∧ Kn B H B H' ∧ H' u = some (.lst ((Pu.plPre l n k).map ni)))
      (fun H3 e3 => ⟨none, none, rfl, k0.up e3, e3 _ _ (by rw [Pu.pl_zero]; exact h1)⟩) (fun k σ' H' _ ⟨_, _, _, q, _⟩ => sq_of (q.i _ _ ha)) ?_ ?_
    · rintro k x σ' H' H3 hx ⟨_, _, rfl, q, h3⟩ e3
      obtain ⟨m, hm, rfl⟩ := map_at hx
      have lm : m < n := hl.mem.mp (List.mem_of_getElem? hm)
      refine s_setL (j := m) (e3 _ _ h3) (v := ni k) (ev_var rfl) (ev_var rfl) (ev_var rfl) (by rw [List.length_map, Pu.pl_len]; exact lm) fun H4 e4 => ⟨some (ni k), some (ni m), rfl, (q.up (e3.trans e4)).mut hu (ex_none eB hu), ?_⟩
      rw [upd_same, ← List.map_set, Pu.pl_step hl hm]
    · rintro σ' H' ⟨_, _, rfl, q, h3⟩
      rw [List.length_map, hll, Pu.pl_end hl] at h3
      dsimp only
      exact s_ret (ev_var rfl) fun H4 e4 => hQ _ _ _ ((q.up e4).know hu (e4 _ _ h3)).toGr ⟨u, rfl, upd_same⟩
def sp_before_in_all : Sp := spG (fun (g : Nat × V × List (List Nat) × Nat × Nat) vs H => vs = [g.2.1, ni g.2.2.2.1, ni g.2.2.2.2] ∧ RowsAt H g.2.1 (g.2.2.1.map fun l => Pu.places l g.1) ∧ g.2.2.2.1 < g.1 ∧ g.2.2.2.2 < g.1) (fun g => .bl (inAllOrders g.2.2.1 g.2.2.2.1 g.2.2.2.2))
theorem ok_before_in_all {P : Program} {w : World} {K : PySem.W.Frag} {mg : PySem.Str → Option Value} {base : Heap} (T : Tx K mg base) : Ok P w K mg base 1 "before_in_all" ["tables", "a", "b"] (sp_before_in_all) := by
  refine ok_of (at_before_in_all T) sc_before_in_all (fun _ _ _ _ _ _ us hl => match us, hl with | [_, _, _], _ => rfl) (fun vs H Q E h => ?_) (fun f cdv A outer s H vs Q E hr h => ?_)
  · obtain ⟨g, ⟨e, _⟩, _⟩ := h
    rw [e] <;> rfl
  · obtain ⟨⟨n, _, ll, x, y⟩, ⟨rfl, ⟨a, vs, rfl, ha, hlen, hrow⟩, hx, hy⟩, hQ⟩ := h
    (try dsimp only at ha)
    (try dsimp only at hlen)
    (try dsimp only at hrow)
    (try dsimp only at hx)
    (try dsimp only at hy)
    (try dsimp only at hQ)
    refine ⟨_, (pss_cons (ps_for PassesOwn.never rfl (pi_list (pv 0)) (pg_name (i := 3) sc_before_in_all.nd rfl (Or.inl rfl)) (pss_one (ps_if (pt_cmpR op_gt (pe_ix ix_list (pv 3) (pv 1) (fun _ _ => rfl)) (pe_ix ix_list (pv 3) (pv 2) (fun _ _ => rfl)) (nomark _)) (pss_one (ps_ret pe_bl)) pss_nil)))
      (pss_one (ps_ret pe_bl))), ?_⟩
    refine s_forLst (a := a) (xs := vs) (ev_var rfl) (sq_of ha) (fun i σ H' => ∃ z, σ = [some (.ref a), some (ni x), some (ni y), z] ∧ Ex H H' ∧ inAllOrders (ll.take i) x y = true) (fun H2 e2 => ⟨none, rfl, e2, rfl⟩) (fun i σ' H' _ ⟨_, _, e, _⟩ => sq_of (e _ _ ha)) ?_ ?_
    · rintro i v σ' H' hv ⟨_, rfl, e, hi⟩
      obtain ⟨pl, hpl, b, rfl, hb⟩ := hrow i v hv
      rw [List.getElem?_map] at hpl
      obtain ⟨o, ho, rfl⟩ : ∃ o, ll[i]? = some o ∧ pl = Pu.places o n := by
        cases q : ll[i]? with
        | none => rw [q] at hpl; cases hpl
        | some o => rw [q] at hpl; exact ⟨o, rfl, (Option.some.inj hpl).symm⟩
      have hb' := e _ _ hb
      have hap : inAllOrders (ll.take (i + 1)) x y = decide (o.idxOf x ≤ o.idxOf y) := by
        rw [Pu.take_more ho]
        unfold inAllOrders at hi ⊢
        rw [List.all_append, hi]
        simp
      refine s_if (b := !decide (o.idxOf x ≤ o.idxOf y)) (et_is (et_test (ev_op (ev_ixN (i := x) (ev_var rfl) (ev_var rfl) (sq_of hb') (by rw [Pu.places_len]; exact hx)) (ev_ixN (i := y) (ev_var rfl) (ev_var rfl) (sq_of hb') (by rw [Pu.places_len]; exact hy)) (rv_I0 (g := fun i j => .bl (decide (j < i)))))) ?_) (fun c H3 e3 => ?_) (fun c H3 e3 => ?_)
      · rw [Pu.places_at hx, Pu.places_at hy]
        by_cases c : o.idxOf x ≤ o.idxOf y
        · rw [decide_eq_true c]
          exact decide_eq_false (by omega)
        · rw [decide_eq_false c]
          exact decide_eq_true (by omega)
      · refine s_ret ev_c fun H4 e4 => ?_
        have q := hQ H4 (e.trans (e3.trans e4))
        have z : inAllOrders ll x y = false := by
          unfold inAllOrders
          rw [List.all_eq_false]
          exact ⟨o, List.mem_of_getElem? ho, by simpa using c⟩
        rw [z] at q
        exact q
      · exact ⟨_, rfl, e.trans e3, by rw [hap]; simpa using c⟩
    · rintro σ' H' ⟨_, rfl, e, hi⟩
      rw [hlen, List.length_map, List.take_length] at hi
      dsimp only
      refine s_ret ev_c fun H4 e4 => ?_
      have q := hQ H4 (e.trans e4)
      rw [hi] at q
      exact q
def sp_conflict (K : PySem.W.Frag) : Sp := spB (fun (g : V × Po × V × List (List Nat)) vs H => vs = [g.1, g.2.2.1] ∧ OrdAt K H g.1 g.2.1 ∧ RowsAt H g.2.2.1 g.2.2.2 ∧ (∀ l ∈ g.2.2.2, Pu.IsLine g.2.1.size l) ∧ g.2.2.2.length ≤ 8) (fun g v H => PairOr H v (firstConflict g.2.1 g.2.2.2))
theorem ok_conflict {P : Program} {w : World} {K : PySem.W.Frag} {mg : PySem.Str → Option Value} {base : Heap} (T : Tx K mg base) : Ok P w K mg base 3 "conflict" ["order", "lines"] (sp_conflict K) := by
  refine ok_of (at_conflict T) sc_conflict (fun _ _ _ _ _ _ us hl => match us, hl with | [_, _], _ => rfl) (fun vs H Q E h => ?_) (fun f cdv A outer s H vs Q E hr h => ?_)
  · obtain ⟨g, B, ⟨e, _⟩, _⟩ := h
    rw [e] <;> rfl
  · obtain ⟨⟨o, p, _, ll⟩, B, ⟨rfl, ho, ⟨a, vs, rfl, ha, hlen, hrow⟩, hl, h8⟩, eB, hQ⟩ := h
    (try dsimp only at ho)
    (try dsimp only at ha)
    (try dsimp only at hlen)
    (try dsimp only at hrow)
    (try dsimp only at hl)
    (try dsimp only at h8)
    (try dsimp only at hQ)
    refine ⟨_, (pss_cons (ps_setLc (i := 2) rfl sc_conflict.nd rfl rfl (sw_true rfl rfl rfl (by decide +kernel)) (own := [("line", 5)]) (pi_list (pv 1)) (blkOk_by (N := ["order", "lines", "tables", "a", "b", "line"]) (sc := defScope s_conflict) (by decide +kernel)) (fun _ _ _ _ _ => by exact (pg_name (i := 5) sc_conflict.nd rfl (Or.inl rfl))) (fun _ _ _ _ _ => by exact pts_nil) (fun _ _ _ _ _ => by exact (pe_ok (ok_places_of T) (hr.mono (by decide)) rfl (pa_cons (pv 5) pa_nil))))
      (pss_cons (ps_for PassesOwn.never rfl (pi_range1 rfl T.n_range (pa_cons (pe_fld (pv 0) rfl) pa_nil)) (pg_name (i := 3) sc_conflict.nd rfl (Or.inl rfl)) (pss_one (ps_for PassesOwn.never rfl (pi_range1 rfl T.n_range (pa_cons (pe_fld (pv 0) rfl) pa_nil)) (pg_name (i := 4) sc_conflict.nd rfl (Or.inl rfl)) (pss_one (ps_if (pt_cmpR op_ne (pe_ok (ok_at_most T) (hr.mono (by decide)) rfl (pa_cons (pv 0) (pa_cons (pv 3) (pa_cons (pv 4) pa_nil)))) (pe_ok (ok_before_in_all T) (hr.mono (by decide)) rfl (pa_cons (pv 2) (pa_cons (pv 3) (pa_cons (pv 4) pa_nil)))) (nomark _)) (pss_one (ps_ret (pe_tup (pa_cons (pv 3) (pa_cons (pv 4) pa_nil))))) pss_nil)))))
      (pss_one (ps_ret pe_non)))), ?_⟩
    have h10 := ho.wf.le10
    refine s_asgR eB (er_lcL (a := a) (xs := vs) (fun k y H => ∃ l, (ll.map fun l => Pu.places l p.size)[k]? = some l ∧ LN H y l) (fun k y H H' e ⟨l, h1, h2⟩ => ⟨l, h1, h2.mono e⟩) (ev_var rfl) (sq_of ha) (by omega) (fun x => rfl) (fun k x B1 e1 hk => ?_)) fun v B1 H1 g r => ?_
    · obtain ⟨l, hl1, hl2⟩ := hrow k x hk
      exact er_imp (er_call (p.size, x, l) (ar_of (ea_cons (ev_var rfl) ea_nil) fun H3 e3 => ⟨rfl, hl2.mono (e1.trans e3), hl l (List.mem_of_getElem? hl1), h10⟩) fun _ _ _ e h => LN.mono h e) fun v H3 e3 h => ⟨_, by rw [List.getElem?_map, hl1] <;> rfl, h⟩
    · obtain ⟨tb, ys, rfl, hy1, hy2, hy3⟩ := r
      have hR : RowsAt B1 (.ref tb) (ll.map fun l => Pu.places l p.size) := ⟨tb, ys, rfl, hy1, by rw [hy2, hlen, List.length_map], hy3⟩
      have hR1 := hR.mono g.i
      have ho1 := ho.mono (g.b.trans g.i)
      have k0 := (Kn.refl eB).gr g
      refine s_find2 (n := p.size) (i := 3) (j := 4) (by decide) (fun e => p.le e.1 e.2 != inAllOrders ll e.1 e.2) (ea_cons (ev_size T ho1 (ev_var rfl)) ea_nil) (fun a _ _ H1 e1 => ea_cons (ev_size T (ho1.mono e1) (ev_var rfl)) ea_nil) (by omega) (fun x y _ _ H2 e2 hx hy => ?_) (fun x y _ _ H2 e2 hx hy hF => ?_) (fun _ _ H2 e2 hF => ?_) ⟨none, none, rfl⟩
      · exact et_test (ev_eqB (ev_le (ho1.mono e2) hx (ev_var rfl) (ev_var rfl) (ev_var rfl)) (ev_callG (p.size, V.ref tb, ll, x, y) (ea_cons (ev_var rfl) (ea_cons (ev_var rfl) (ea_cons (ev_var rfl) ea_nil))) fun H3 e3 => ⟨rfl, hR1.mono (e2.trans e3), hx, hy⟩))
      · refine end_some eB (g.h.trans e2) (ev_var rfl) (ev_var rfl) hQ fun v B' h => ?_
        show PairOr _ _ (firstConflict p ll)
        unfold firstConflict
        rw [hF]
        exact h
      · dsimp only
        refine s_ret ev_c fun H3 e3 => end_plain eB (g.h.trans (e2.trans e3)) hQ fun B' _ => ?_
        show PairOr _ _ (firstConflict p ll)
        unfold firstConflict
        rw [hF]
        rfl
def sp_height : Sp := spG (fun (g : V × List Nat × Nat) vs H => vs = [g.1, ni g.2.2] ∧ LN H g.1 g.2.1 ∧ g.2.1.length ≤ 10) (fun g => ni (heightIn g.2.1 g.2.2))
theorem ok_height {P : Program} {w : World} {K : PySem.W.Frag} {mg : PySem.Str → Option Value} {base : Heap} (T : Tx K mg base) : Ok P w K mg base 2 "height" ["line", "lower"] (sp_height) := by
  refine ok_of (at_height T) sc_height (fun _ _ _ _ _ _ us hl => match us, hl with | [_, _], _ => rfl) (fun vs H Q E h => ?_) (fun f cdv A outer s H vs Q E hr h => ?_)
  · obtain ⟨g, ⟨e, _⟩, _⟩ := h
    rw [e] <;> rfl
  · obtain ⟨⟨_, l, s⟩, ⟨rfl, ⟨a, rfl, ha⟩, hn⟩, hQ⟩ := h
    (try dsimp only at ha)
    (try dsimp only at hn)
    (try dsimp only at hQ)
    refine ⟨_, (pss_cons (ps_set (i := 2) sc_height.nd rfl (Or.inl rfl) pe_int)
      (pss_cons (ps_for PassesOwn.never rfl (pi_enum rfl T.n_enumerate (pa_cons (pv 0) pa_nil)) (pg_tup rfl (pgs_cons (pg_name (i := 3) sc_height.nd rfl (Or.inl rfl)) (pgs_cons (pg_name (i := 4) sc_height.nd rfl (Or.inl rfl)) pgs_nil))) (pss_one (ps_if (pt_val (pe_ok (ok_has T) (hr.mono (by decide)) rfl (pa_cons (pv 1) (pa_cons (pv 4) pa_nil)))) (pss_one (ps_set (i := 2) sc_height.nd rfl (Or.inl rfl) (pe_op op_add (pv 3) pe_int))) pss_nil)))
      (pss_one (ps_ret (pv 2))))), ?_⟩
    refine s_asg (v := ni 0) ev_c fun H1 e1 => ?_
    refine s_forEnum (a := a) (xs := l.map ni) (ev_var rfl) (sq_of (e1 _ _ ha)) (fun k σ H' => ∃ x y, σ = [some (.ref a), some (ni s), some (ni (heightIn (l.take k) s)), x, y] ∧ Ex H1 H') (fun H2 e2 => ⟨none, none, rfl, e2⟩) (fun k σ' H' _ ⟨_, _, _, e⟩ => e) ?_ ?_
    · rintro k x σ' H' H2 hx ⟨_, _, rfl, e⟩ e2
      obtain ⟨n, hm, rfl⟩ := map_at hx
      have lk := (List.getElem?_eq_some_iff.mp hm).1
      have hh : heightIn (l.take (k + 1)) s = if s.testBit n then k + 1 else heightIn (l.take k) s := by
        rw [Pu.take_more hm, Pu.height_snoc, List.length_take, Nat.min_eq_left (Nat.le_of_lt lk)]
      refine s_if (et_B (ev_has (m := s) (x := n) (ev_var rfl) (ev_var rfl))) (fun c H3 e3 => ?_) (fun c H3 e3 => ⟨some (ni k), some (ni n), by rw [hh, c] <;> rfl, (e.trans e2).trans e3⟩)
      refine s_asg (ev_addN (a := k) (b := 1) (ev_var rfl) ev_c) fun H4 e4 => ⟨some (ni k), some (ni n), by rw [hh, c] <;> rfl, (e.trans e2).trans (e3.trans e4)⟩
    · rintro σ' H' ⟨_, _, rfl, e⟩
      rw [List.length_map, List.take_length]
      dsimp only
      exact s_ret (ev_var rfl) fun H2 e2 => hQ H2 ((e1.trans e).trans e2)
theorem natpair {i j a b : Nat} (h : ((i : Int), (j : Int)) = ((a : Int), (b : Int))) : i = a ∧ j = b := by
  have h1 := congrArg Prod.fst h
  have h2 := congrArg Prod.snd h
  exact ⟨Int.ofNat.inj h1, Int.ofNat.inj h2⟩
/-- the two numbers of a tuple -/
def keyOf (H : Hp) (x : V) : Int × Int := match x with
  | .ref t => (match H t with
    | some (.tup [.int i, .int j]) => (i, j)
    | _ => (0, 0))
  | _ => (0, 0)
theorem keyOf_at {H : Hp} {t : Addr} {i j : Int} (h : H t = some (.tup [.int i, .int j])) : keyOf H (.ref t) = (i, j) := by
  unfold keyOf
  simp only [h]
theorem range_getD {α : Type} (g : α → V) (d : α) (zs : List α) : (List.range zs.length).map (fun i => g (zs.getD i d)) = zs.map g := by
  apply List.ext_getElem?
  intro i
  rw [List.getElem?_map, List.getElem?_map]
  by_cases c : i < zs.length
  · rw [List.getElem?_range c, List.getElem?_eq_getElem c]
    show some (g (zs.getD i d)) = some (g zs[i])
    rw [List.getD_eq_getElem?_getD, List.getElem?_eq_getElem c]
    rfl
  · rw [List.getElem?_eq_none (by rw [List.length_range]; omega), List.getElem?_eq_none (by omega)]
    rfl
theorem er_cb1 {σ : L2.St} {B : Hp} {te : TE} {r : List V → Hp → VK → Prop} {R S : V → Hp → Prop} (h : EvR te σ B R) (k : ∀ v B1 H2, Ex B1 H2 → R v B1 → ∀ Q : VK, (∀ w H3, Ex H2 H3 → S w (ext B1 H2 H3) → Q w H3) → r [v] H2 Q) : EvR (tCB r (tCons te tNil)) σ B S := fun H1 e Q q =>
  h H1 e _ fun v H2 e2 rv => k v _ H2 (ext_in e e2) rv Q fun w H3 e3 s => q w H3 (e2.trans e3) (by rw [← ext_ext e2 e3]; exact s)
def SortedAt (p : Po) (o : List Nat) (w : V) (H : Hp) : Prop := ∃ q ys, w = .ref q ∧ H q = some (.lst ys) ∧ ys.length = (cutList p).length ∧ ∀ (i : Nat) (y : V), ys[i]? = some y → ∃ t h, y = .ref t ∧ H t = some (.tup [h, ni ((extendOrder p o).getD i 0)])
theorem er_sorted {K : PySem.W.Frag} {σ : L2.St} {B : Hp} {te : TE} {p : Po} {o : List Nat} (h : EvR te σ B (LstR (fun k y H => ∃ t, y = .ref t ∧ H t = some (.tup [ni (heightIn o (cutAt p k)), ni k])) ((cutList p).map ni).length)) : EvR (tCB (rSortedPO K) (tCons te tNil)) σ B (SortedAt p o) := by
  refine er_cb1 h fun v B1 H1 e1 r Q hQ => ?_
  obtain ⟨l, xs, rfl, hl, hxl, hxs⟩ := r
  have hl1 := e1 _ _ hl
  have hkx : ∀ k x, xs[k]? = some x → ∃ t, x = .ref t ∧ H1 t = some (.tup [ni (heightIn o (cutAt p k)), ni k]) ∧ keyOf H1 x = (((heightIn o (cutAt p k) : Nat) : Int), ((k : Nat) : Int)) := fun k x q => by
    obtain ⟨t, rfl, q2⟩ := hxs k x q
    exact ⟨t, rfl, e1 _ _ q2, keyOf_at (e1 _ _ q2)⟩
  refine ⟨l, xs, keyOf H1, rfl, sq_of hl1, fun x hx => ?_, fun ys q hs ht hq => ?_⟩
  · obtain ⟨k, hk, rfl⟩ := List.getElem_of_mem hx
    obtain ⟨t, q1, q2, q3⟩ := hkx k _ (List.getElem?_eq_getElem hk)
    refine ⟨t, q1, ?_⟩
    rw [q3]
    exact q2
  · have hmem : ∀ y ∈ ys, ∃ k t, k < (cutList p).length ∧ y = .ref t ∧ H1 t = some (.tup [ni (heightIn o (cutAt p k)), ni k]) ∧ B1 t = some (.tup [ni (heightIn o (cutAt p k)), ni k]) := fun y hy => by
      have hy' := ht.perm.mem_iff.mp hy
      obtain ⟨k, hk, rfl⟩ := List.getElem_of_mem hy'
      obtain ⟨t, q1, q2⟩ := hxs k _ (List.getElem?_eq_getElem hk)
      rw [hxl, List.length_map] at hk
      exact ⟨k, t, hk, q1, e1 _ _ q2, q2⟩
    have hz : (ys.map fun x => ((keyOf H1 x).1.toNat, (keyOf H1 x).2.toNat)).map (·.2) = extendOrder p o := by
      refine Pu.line_is (List.pairwise_map.mpr (hs.imp_of_mem fun {x y} mx my c => ?_)) ((ht.perm.map _).trans (List.Perm.of_eq ?_))
      · obtain ⟨k, t, _, rfl, q1, _⟩ := hmem x mx
        obtain ⟨k', t', _, rfl, q1', _⟩ := hmem y my
        have c1 : SrtO.lexB (keyOf H1 (.ref t')) (keyOf H1 (.ref t)) = false := c
        have c2 := SrtO.lexB_no.mp c1
        rw [keyOf_at q1, keyOf_at q1'] at c2
        rw [keyOf_at q1, keyOf_at q1']
        unfold Pu.lexlt
        simp only [Int.toNat_natCast] at c2 ⊢
        omega
      · apply List.ext_getElem?
        intro k
        rw [List.getElem?_map, List.getElem?_map]
        by_cases c : k < (cutList p).length
        · have c2 : k < xs.length := by rw [hxl, List.length_map]; exact c
          obtain ⟨t, q1, q2, q3⟩ := hkx k _ (List.getElem?_eq_getElem c2)
          rw [List.getElem?_range c, List.getElem?_eq_getElem c2]
          show some ((keyOf H1 xs[k]).1.toNat, (keyOf H1 xs[k]).2.toNat) = some (heightIn o (cutAt p k), k)
          rw [q3]
          rfl
        · rw [List.getElem?_eq_none (by rw [hxl, List.length_map]; omega), List.getElem?_eq_none (by rw [List.length_range]; omega)]
          rfl
    refine hQ _ _ (Ex.new hq) ⟨q, ys, rfl, by rw [ext_new hq, upd_same], by rw [ht.perm.length_eq, hxl, List.length_map], fun i y hi => ?_⟩
    obtain ⟨k, t, _, rfl, q1, q2⟩ := hmem y (List.mem_of_getElem? hi)
    have e : (extendOrder p o).getD i 0 = k := by
      rw [← hz, List.map_map, List.getD_eq_getElem?_getD, List.getElem?_map, hi]
      show (keyOf H1 (.ref t)).2.toNat = k
      rw [keyOf_at q1]
      rfl
    refine ⟨t, ni (heightIn o (cutAt p k)), rfl, ?_⟩
    rw [e]
    exact ext_ex e1 _ _ q2
def sp_line_of_cuts : Sp := spB (fun (g : V × Po × V × List Nat) vs H => vs = [g.1, g.2.2.1] ∧ LN H g.1 (cutList g.2.1) ∧ LN H g.2.2.1 g.2.2.2 ∧ g.2.1.size ≤ 10 ∧ g.2.2.2.length ≤ 10) (fun g v H => LN H v (extendOrder g.2.1 g.2.2.2))
theorem ok_line_of_cuts {P : Program} {w : World} {K : PySem.W.Frag} {mg : PySem.Str → Option Value} {base : Heap} (T : Tx K mg base) : Ok P w K mg base 3 "line_of_cuts" ["lowers", "line"] (sp_line_of_cuts) := by
  refine ok_of (at_line_of_cuts T) sc_line_of_cuts (fun _ _ _ _ _ _ us hl => match us, hl with | [_, _], _ => rfl) (fun vs H Q E h => ?_) (fun f cdv A outer s H vs Q E hr h => ?_)
  · obtain ⟨g, B, ⟨e, _⟩, _⟩ := h
    rw [e] <;> rfl
  · obtain ⟨⟨_, p, _, o⟩, B, ⟨rfl, ⟨a, rfl, ha⟩, hb, h10, ho10⟩, eB, hQ⟩ := h
    (try dsimp only at ha)
    (try dsimp only at hb)
    (try dsimp only at h10)
    (try dsimp only at ho10)
    (try dsimp only at hQ)
    refine ⟨_, (pss_cons (ps_set (i := 2) sc_line_of_cuts.nd rfl (Or.inl rfl) (pe_callB cr_sortedPO (by rfl) T.n_sorted (by decide +kernel) (pa_cons (pe_lc (own := [("number", 3), ("lower", 4)]) rfl sc_line_of_cuts.nd (pi_enum rfl T.n_enumerate (pa_cons (pv 0) pa_nil)) (blkOk_by (N := ["lowers", "line", "rows", "number", "lower", "row"]) (sc := defScope s_line_of_cuts) (by decide +kernel)) (fun _ _ _ _ _ => by exact (pg_tupK (K := K) (n := 2) rfl rfl (pgs_cons (pg_name (i := 3) sc_line_of_cuts.nd rfl (Or.inl rfl)) (pgs_cons (pg_name (i := 4) sc_line_of_cuts.nd rfl (Or.inl rfl)) pgs_nil)))) (fun _ _ _ _ _ => by exact pts_nil) (fun _ _ _ _ _ => by exact (pe_tup (pa_cons (pe_ok (ok_height T) (hr.mono (by decide)) rfl (pa_cons (pv 1) (pa_cons (pv 4) pa_nil))) (pa_cons (pv 3) pa_nil))))) pa_nil)))
      (pss_one (ps_ret (pe_lc (own := [("row", 5)]) rfl sc_line_of_cuts.nd (pi_list (pv 2)) (blkOk_by (N := ["lowers", "line", "rows", "number", "lower", "row"]) (sc := defScope s_line_of_cuts) (by decide +kernel)) (fun _ _ _ _ _ => by exact (pg_name (i := 5) sc_line_of_cuts.nd rfl (Or.inl rfl))) (fun _ _ _ _ _ => by exact pts_nil) (fun _ _ _ _ _ => by exact (pe_ix (ix_tupK (K := K) rfl) (pv 5) pe_int (fun _ _ => rfl))))))), ?_⟩
    obtain ⟨b, rfl, hb1⟩ := hb
    have hb : LN B (.ref b) o := ⟨b, rfl, hb1⟩
    have hc := Pu.cuts_len p h10
    refine s_asgR eB (er_sorted (p := p) (o := o) (er_lcE (a := a) (xs := (cutList p).map ni) (fun k y H => ∃ t, y = .ref t ∧ H t = some (.tup [ni (heightIn o (cutAt p k)), ni k])) (fun k y H H' e ⟨t, h1, h2⟩ => ⟨t, h1, e _ _ h2⟩) (ev_var rfl) (sq_of ha) (by rw [List.length_map]; omega) (fun x y => rfl) (fun k x B1 e1 hk => ?_))) fun v B1 H1 g1 r => ?_
    · obtain ⟨n, hn, rfl⟩ := map_at hk
      have en : cutAt p k = n := by
        unfold cutAt
        rw [List.getD_eq_getElem?_getD, hn] <;> rfl
      rw [en]
      refine er_tup (S := fun vs _ => vs = [ni (heightIn o n), ni k]) (ar_of (ea_cons (ev_callG (V.ref b, o, n) (ea_cons (ev_var rfl) (ea_cons (ev_var rfl) ea_nil)) fun H3 e3 => ⟨rfl, hb.mono (e1.trans e3), ho10⟩) (ea_cons (ev_var rfl) ea_nil)) fun _ _ => rfl) (fun vs _ e => by rw [e]; show 2 ≤ 100000; omega) fun t vs H3 _ e ht => ⟨t, rfl, by rw [e]; exact upd_same⟩
    · obtain ⟨q, ys, rfl, hq, hyl, hys⟩ := r
      have k1 := (Kn.refl eB).gr g1
      refine s_retR (R := fun v H => LN H v (extendOrder p o)) g1.i (er_L (el_lcL (a := q) (xs := ys) (fun _ => true) (fun i => ni ((extendOrder p o).getD i 0)) (ev_var rfl) (sq_of hq) (by omega) (fun x => rfl) (fun i x H2 e2 hi H3 e3 Q2 q2 => q2 H3 (Ex.refl _)) (fun i x H2 e2 hi _ => ?_)) fun l H2 e2 h2 => ⟨l, rfl, ?_⟩) fun v B2 H2 g r => hQ v B2 H2 (k1.gr g).toGr r
      · obtain ⟨t, h, rfl, ht⟩ := hys i x hi
        exact ev_op (ev_var rfl) ev_c (rv_ixT (st_of (e2 _ _ ht)) (atI_nat (j := 1) rfl))
      · rw [h2, given_all, hyl, ← Pu.ext_len p o, range_getD]
end Cm
end PartF5
section PartF6
set_option Elab.async false
set_option linter.all false
set_option maxRecDepth 100000
set_option maxHeartbeats 4000000
namespace Cm
open PySem PySem.Spec PyProof.Rows L2 Evl
/-! ### values that are handed out -/
def TupAt (H : Hp) (v : V) (xs : List V) : Prop := ∃ t, v = .ref t ∧ H t = some (.tup xs)
theorem TupAt.mono {H H' : Hp} {v : V} {xs : List V} (h : TupAt H v xs) (e : Ex H H') : TupAt H' v xs := by
  obtain ⟨t, h1, h2⟩ := h
  exact ⟨t, h1, e _ _ h2⟩
def octs (s : PySem.Str) : RWire.Text := s.cps.toList.map UInt8.ofNat
mutual
def Out (H : Hp) : RWire.Value → V → Prop
  | .nothing, v => TupAt H v [.int 0, .int 0]
  | .null, v => TupAt H v [.int 1, .int 0]
  | .bool b, v => TupAt H v [.int (if b then 3 else 2), .int 0]
  | .int i, v => ∃ n : Nat, i = (n : Int) ∧ TupAt H v [.int 4, ni n]
  | .big i, v => ∃ n : Nat, i = (n : Int) ∧ TupAt H v [.int 5, ni n]
  | .list l, v => ∃ a vs, TupAt H v [.int 7, .ref a] ∧ H a = some (.lst vs) ∧ OutAll H l vs
  | .record l, v => ∃ a vs, TupAt H v [.int 8, .ref a] ∧ H a = some (.lst vs) ∧ OutEnts H l vs
  | .text _, _ => False
  | .octets _, _ => False
  | .wide _, _ => False
def OutAll (H : Hp) : List RWire.Value → List V → Prop
  | [], vs => vs = []
  | x :: r, vs => ∃ y ys, vs = y :: ys ∧ Out H x y ∧ OutAll H r ys
def OutEnts (H : Hp) : List (RWire.Text × RWire.Value) → List V → Prop
  | [], vs => vs = []
  | e :: r, vs => ∃ t s y ys, vs = t :: ys ∧ TupAt H t [.str s, y] ∧ octs s = e.1 ∧ (∀ c ∈ s.cps.toList, c < 256) ∧ Out H e.2 y ∧ OutEnts H r ys
end
mutual
theorem Out.mono {H H' : Hp} (e : Ex H H') : ∀ (x : RWire.Value) (v : V), Out H x v → Out H' x v
  | .nothing, v, h => by unfold Out at h ⊢; exact h.mono e
  | .null, v, h => by unfold Out at h ⊢; exact h.mono e
  | .bool b, v, h => by unfold Out at h ⊢; exact h.mono e
  | .int i, v, h => by
    unfold Out at h ⊢
    obtain ⟨n, h1, h2⟩ := h
    exact ⟨n, h1, h2.mono e⟩
  | .big i, v, h => by
    unfold Out at h ⊢
    obtain ⟨n, h1, h2⟩ := h
    exact ⟨n, h1, h2.mono e⟩
  | .list l, v, h => by
    unfold Out at h ⊢
    obtain ⟨a, vs, h1, h2, h3⟩ := h
    exact ⟨a, vs, h1.mono e, e _ _ h2, OutAll.mono e l vs h3⟩
  | .record l, v, h => by
    unfold Out at h ⊢
    obtain ⟨a, vs, h1, h2, h3⟩ := h
    exact ⟨a, vs, h1.mono e, e _ _ h2, OutEnts.mono e l vs h3⟩
  | .text _, v, h => by unfold Out at h; exact h.elim
  | .octets _, v, h => by unfold Out at h; exact h.elim
  | .wide _, v, h => by unfold Out at h; exact h.elim
theorem OutAll.mono {H H' : Hp} (e : Ex H H') : ∀ (l : List RWire.Value) (vs : List V), OutAll H l vs → OutAll H' l vs
  | [], vs, h => by unfold OutAll at h ⊢; exact h
  | x :: r, vs, h => by
    unfold OutAll at h ⊢
    obtain ⟨y, ys, h1, h2, h3⟩ := h
    exact ⟨y, ys, h1, Out.mono e x y h2, OutAll.mono e r ys h3⟩
theorem OutEnts.mono {H H' : Hp} (e : Ex H H') : ∀ (l : List (RWire.Text × RWire.Value)) (vs : List V), OutEnts H l vs → OutEnts H' l vs
  | [], vs, h => by unfold OutEnts at h ⊢; exact h
  | x :: r, vs, h => by
    unfold OutEnts at h ⊢
    obtain ⟨t, s, y, ys, h1, h2, h3, h4, h5, h6⟩ := h
    exact ⟨t, s, y, ys, h1, h2.mono e, h3, h4, Out.mono e x.2 y h5, OutEnts.mono e r ys h6⟩
end
theorem out_up (x : RWire.Value) (v : V) : Up fun H => Out H x v := fun _ _ e h => Out.mono e x v h
theorem outAll_of {H : Hp} : ∀ (l : List RWire.Value) (ys : List V), ys.length = l.length → (∀ (k : Nat) (y : V), ys[k]? = some y → ∃ x, l[k]? = some x ∧ Out H x y) → OutAll H l ys
  | [], ys, h, _ => by
    unfold OutAll
    exact List.length_eq_zero_iff.mp h
  | x :: l, [], h, _ => by simp at h
  | x :: l, y :: ys, h, f => by
    unfold OutAll
    refine ⟨y, ys, rfl, ?_, outAll_of l ys (by simpa using h) fun k z hz => ?_⟩
    · obtain ⟨x', h1, h2⟩ := f 0 y rfl
      cases h1
      exact h2
    · obtain ⟨x', h1, h2⟩ := f (k + 1) z (by simpa using hz)
      exact ⟨x', by simpa using h1, h2⟩
/-- (kind, content) -/
theorem er_kind {σ : L2.St} {B : Hp} {ta tb : TE} {x y : V} {R : V → Hp → Prop} (ha : Ev ta σ B x) (hb : Ev tb σ B y) (i : ∀ v H, TupAt H v [x, y] → R v H) : EvR (tTup (tCons ta (tCons tb tNil))) σ B R :=
  er_tup (S := fun vs _ => vs = [x, y]) (ar_of (ea_cons ha (ea_cons hb ea_nil)) fun _ _ => rfl) (fun vs _ e => by rw [e]; show 2 ≤ 100000; omega) fun t vs H3 _ e ht => i _ _ ⟨t, rfl, by rw [e]; exact upd_same⟩
def sp_nothing : Sp := spB (fun (_ : Unit) vs _ => vs = [] ∧ True) (fun _ v H => Out H .nothing v)
theorem ok_nothing {P : Program} {w : World} {K : PySem.W.Frag} {mg : PySem.Str → Option Value} {base : Heap} (T : Tx K mg base) : Ok P w K mg base 1 "nothing" [] (sp_nothing) := by
  refine ok_of (at_nothing T) sc_nothing (fun _ _ _ _ _ _ us hl => match us, hl with | [], _ => rfl) (fun vs H Q E h => ?_) (fun f cdv A outer s H vs Q E hr h => ?_)
  · obtain ⟨g, B, ⟨e, _⟩, _⟩ := h
    rw [e] <;> rfl
  · obtain ⟨g, B, ⟨rfl, _⟩, eB, hQ⟩ := h
    (try dsimp only at hQ)
    refine ⟨_, (pss_one (ps_ret (pe_tup (pa_cons (pe_gi (g_NOTHING T) rfl) (pa_cons pe_int pa_nil))))), ?_⟩
    exact s_retR eB (er_kind (R := fun v H => Out H .nothing v) ev_c ev_c fun v H h => by unfold Out; exact h) hQ
def sp_truth : Sp := spB (fun (b : Bool) vs _ => vs = [.bl b] ∧ True) (fun b v H => Out H (.bool b) v)
theorem ok_truth {P : Program} {w : World} {K : PySem.W.Frag} {mg : PySem.Str → Option Value} {base : Heap} (T : Tx K mg base) : Ok P w K mg base 1 "truth" ["flag"] (sp_truth) := by
  refine ok_of (at_truth T) sc_truth (fun _ _ _ _ _ _ us hl => match us, hl with | [_], _ => rfl) (fun vs H Q E h => ?_) (fun f cdv A outer s H vs Q E hr h => ?_)
  · obtain ⟨g, B, ⟨e, _⟩, _⟩ := h
    rw [e] <;> rfl
  · obtain ⟨b, B, ⟨rfl, _⟩, eB, hQ⟩ := h
    (try dsimp only at hQ)
    refine ⟨_, (pss_cons (ps_if (pt_val (pv 0)) (pss_one (ps_ret (pe_tup (pa_cons (pe_gi (g_TRUE T) rfl) (pa_cons pe_int pa_nil))))) pss_nil)
      (pss_one (ps_ret (pe_tup (pa_cons (pe_gi (g_FALSE T) rfl) (pa_cons pe_int pa_nil)))))), ?_⟩
    cases b with
    | true =>
      refine s_when (b := true) (et_B (ev_var rfl)) (fun _ H1 e1 => ?_) (fun c => by cases c)
      exact s_retR (eB.trans e1) (er_kind (R := fun v H => Out H (.bool true) v) ev_c ev_c fun v H h => by unfold Out; exact h) fun v B1 H2 g r => hQ v B1 H2 (((Kn.refl eB).up e1).gr g).toGr r
    | false =>
      refine s_when (b := false) (et_B (ev_var rfl)) (fun c => by cases c) (fun _ H1 e1 => ?_)
      dsimp only
      exact s_retR (eB.trans e1) (er_kind (R := fun v H => Out H (.bool false) v) ev_c ev_c fun v H h => by unfold Out; exact h) fun v B1 H2 g r => hQ v B1 H2 (((Kn.refl eB).up e1).gr g).toGr r
def sp_integer : Sp := spB (fun (n : Nat) vs _ => vs = [ni n] ∧ True) (fun n v H => Out H (.int (n : Int)) v)
theorem ok_integer {P : Program} {w : World} {K : PySem.W.Frag} {mg : PySem.Str → Option Value} {base : Heap} (T : Tx K mg base) : Ok P w K mg base 1 "integer" ["number"] (sp_integer) := by
  refine ok_of (at_integer T) sc_integer (fun _ _ _ _ _ _ us hl => match us, hl with | [_], _ => rfl) (fun vs H Q E h => ?_) (fun f cdv A outer s H vs Q E hr h => ?_)
  · obtain ⟨g, B, ⟨e, _⟩, _⟩ := h
    rw [e] <;> rfl
  · obtain ⟨n, B, ⟨rfl, _⟩, eB, hQ⟩ := h
    (try dsimp only at hQ)
    refine ⟨_, (pss_one (ps_ret (pe_tup (pa_cons (pe_gi (g_INTEGER T) rfl) (pa_cons (pv 0) pa_nil))))), ?_⟩
    exact s_retR eB (er_kind (R := fun v H => Out H (.int (n : Int)) v) ev_c (ev_var rfl) fun v H h => by unfold Out; exact ⟨n, rfl, h⟩) hQ
def sp_great : Sp := spB (fun (n : Nat) vs _ => vs = [ni n] ∧ True) (fun n v H => Out H (.big (n : Int)) v)
theorem ok_great {P : Program} {w : World} {K : PySem.W.Frag} {mg : PySem.Str → Option Value} {base : Heap} (T : Tx K mg base) : Ok P w K mg base 1 "great" ["number"] (sp_great) := by
  refine ok_of (at_great T) sc_great (fun _ _ _ _ _ _ us hl => match us, hl with | [_], _ => rfl) (fun vs H Q E h => ?_) (fun f cdv A outer s H vs Q E hr h => ?_)
  · obtain ⟨g, B, ⟨e, _⟩, _⟩ := h
    rw [e] <;> rfl
  · obtain ⟨n, B, ⟨rfl, _⟩, eB, hQ⟩ := h
    (try dsimp only at hQ)
    refine ⟨_, (pss_one (ps_ret (pe_tup (pa_cons (pe_gi (g_GREAT T) rfl) (pa_cons (pv 0) pa_nil))))), ?_⟩
    exact s_retR eB (er_kind (R := fun v H => Out H (.big (n : Int)) v) ev_c (ev_var rfl) fun v H h => by unfold Out; exact ⟨n, rfl, h⟩) hQ
def orInt : Option Nat → RWire.Value
  | none => .null
  | some n => .int (n : Int)
def orBig : Option Nat → RWire.Value
  | none => .null
  | some n => .big (n : Int)
def sp_integer_or_null : Sp := spB (fun (o : Option Nat) vs _ => vs = [optN o] ∧ True) (fun o v H => Out H (orInt o) v)
theorem ok_integer_or_null {P : Program} {w : World} {K : PySem.W.Frag} {mg : PySem.Str → Option Value} {base : Heap} (T : Tx K mg base) : Ok P w K mg base 1 "integer_or_null" ["number"] (sp_integer_or_null) := by
  refine ok_of (at_integer_or_null T) sc_integer_or_null (fun _ _ _ _ _ _ us hl => match us, hl with | [_], _ => rfl) (fun vs H Q E h => ?_) (fun f cdv A outer s H vs Q E hr h => ?_)
  · obtain ⟨g, B, ⟨e, _⟩, _⟩ := h
    rw [e] <;> rfl
  · obtain ⟨o, B, ⟨rfl, _⟩, eB, hQ⟩ := h
    (try dsimp only at hQ)
    refine ⟨_, (pss_cons (ps_if (pt_cmpR op_isN (pv 0) pe_non (nomark _)) (pss_one (ps_ret (pe_tup (pa_cons (pe_gi (g_NULL T) rfl) (pa_cons pe_int pa_nil))))) pss_nil)
      (pss_one (ps_ret (pe_tup (pa_cons (pe_gi (g_INTEGER T) rfl) (pa_cons (pv 0) pa_nil)))))), ?_⟩
    cases o with
    | none =>
      refine s_when (b := true) (et_test (ev_op (ev_var (v := .non) rfl) ev_c fun H1 _ Q q => ⟨rfl, q H1 (Ex.refl _)⟩)) (fun _ H1 e1 => ?_) (fun c => by cases c)
      exact s_retR (eB.trans e1) (er_kind (R := fun v H => Out H .null v) ev_c ev_c fun v H h => by unfold Out; exact h) fun v B1 H2 g r => hQ v B1 H2 (((Kn.refl eB).up e1).gr g).toGr r
    | some n =>
      refine s_when (b := false) (et_test (ev_op (ev_var (v := ni n) rfl) ev_c fun H1 _ Q q => ⟨rfl, q H1 (Ex.refl _)⟩)) (fun c => by cases c) (fun _ H1 e1 => ?_)
      dsimp only
      exact s_retR (eB.trans e1) (er_kind (R := fun v H => Out H (.int (n : Int)) v) ev_c (ev_var rfl) fun v H h => by unfold Out; exact ⟨n, rfl, h⟩) fun v B1 H2 g r => hQ v B1 H2 (((Kn.refl eB).up e1).gr g).toGr r
def sp_great_or_null : Sp := spB (fun (o : Option Nat) vs _ => vs = [optN o] ∧ True) (fun o v H => Out H (orBig o) v)
theorem ok_great_or_null {P : Program} {w : World} {K : PySem.W.Frag} {mg : PySem.Str → Option Value} {base : Heap} (T : Tx K mg base) : Ok P w K mg base 1 "great_or_null" ["number"] (sp_great_or_null) := by
  refine ok_of (at_great_or_null T) sc_great_or_null (fun _ _ _ _ _ _ us hl => match us, hl with | [_], _ => rfl) (fun vs H Q E h => ?_) (fun f cdv A outer s H vs Q E hr h => ?_)
  · obtain ⟨g, B, ⟨e, _⟩, _⟩ := h
    rw [e] <;> rfl
  · obtain ⟨o, B, ⟨rfl, _⟩, eB, hQ⟩ := h
    (try dsimp only at hQ)
    refine ⟨_, (pss_cons (ps_if (pt_cmpR op_isN (pv 0) pe_non (nomark _)) (pss_one (ps_ret (pe_tup (pa_cons (pe_gi (g_NULL T) rfl) (pa_cons pe_int pa_nil))))) pss_nil)
      (pss_one (ps_ret (pe_tup (pa_cons (pe_gi (g_GREAT T) rfl) (pa_cons (pv 0) pa_nil)))))), ?_⟩
    cases o with
    | none =>
      refine s_when (b := true) (et_test (ev_op (ev_var (v := .non) rfl) ev_c fun H1 _ Q q => ⟨rfl, q H1 (Ex.refl _)⟩)) (fun _ H1 e1 => ?_) (fun c => by cases c)
      exact s_retR (eB.trans e1) (er_kind (R := fun v H => Out H .null v) ev_c ev_c fun v H h => by unfold Out; exact h) fun v B1 H2 g r => hQ v B1 H2 (((Kn.refl eB).up e1).gr g).toGr r
    | some n =>
      refine s_when (b := false) (et_test (ev_op (ev_var (v := ni n) rfl) ev_c fun H1 _ Q q => ⟨rfl, q H1 (Ex.refl _)⟩)) (fun c => by cases c) (fun _ H1 e1 => ?_)
      dsimp only
      exact s_retR (eB.trans e1) (er_kind (R := fun v H => Out H (.big (n : Int)) v) ev_c (ev_var rfl) fun v H h => by unfold Out; exact ⟨n, rfl, h⟩) fun v B1 H2 g r => hQ v B1 H2 (((Kn.refl eB).up e1).gr g).toGr r
section
variable {K : PySem.W.Frag} {σ : L2.St} {B : Hp} {ta te : TE} {v : V} {n : Nat} {o : Option Nat} {b : Bool} {l : List Nat}
theorem er_nothing : EvR (tCall sp_nothing [] E0 tNil) σ B (fun v H => Out H .nothing v) := er_call () (ar_nil ⟨rfl, trivial⟩) (out_up _)
theorem er_truth (h : Ev ta σ B (.bl b)) : EvR (tCall sp_truth [] E0 (tCons ta tNil)) σ B (fun v H => Out H (.bool b) v) := er_call b (ar_of (ea_cons h ea_nil) fun _ _ => ⟨rfl, trivial⟩) (out_up _)
theorem er_integer (h : Ev ta σ B (ni n)) : EvR (tCall sp_integer [] E0 (tCons ta tNil)) σ B (fun v H => Out H (.int (n : Int)) v) := er_call n (ar_of (ea_cons h ea_nil) fun _ _ => ⟨rfl, trivial⟩) (out_up _)
theorem er_great (h : Ev ta σ B (ni n)) : EvR (tCall sp_great [] E0 (tCons ta tNil)) σ B (fun v H => Out H (.big (n : Int)) v) := er_call n (ar_of (ea_cons h ea_nil) fun _ _ => ⟨rfl, trivial⟩) (out_up _)
theorem er_orInt (h : Ev ta σ B (optN o)) : EvR (tCall sp_integer_or_null [] E0 (tCons ta tNil)) σ B (fun v H => Out H (orInt o) v) := er_call o (ar_of (ea_cons h ea_nil) fun _ _ => ⟨rfl, trivial⟩) (out_up _)
theorem er_orBig (h : Ev ta σ B (optN o)) : EvR (tCall sp_great_or_null [] E0 (tCons ta tNil)) σ B (fun v H => Out H (orBig o) v) := er_call o (ar_of (ea_cons h ea_nil) fun _ _ => ⟨rfl, trivial⟩) (out_up _)
end
def oInts (l : List Nat) : RWire.Value := .list (l.map fun (n : Nat) => .int (n : Int))
def oBigs (l : List Nat) : RWire.Value := .list (l.map fun (n : Nat) => .big (n : Int))
def sp_integers : Sp := spB (fun (g : V × List Nat) vs H => vs = [g.1] ∧ LN H g.1 g.2 ∧ g.2.length ≤ 40000) (fun g v H => Out H (oInts g.2) v)
theorem ok_integers {P : Program} {w : World} {K : PySem.W.Frag} {mg : PySem.Str → Option Value} {base : Heap} (T : Tx K mg base) : Ok P w K mg base 2 "integers" ["numbers"] (sp_integers) := by
  refine ok_of (at_integers T) sc_integers (fun _ _ _ _ _ _ us hl => match us, hl with | [_], _ => rfl) (fun vs H Q E h => ?_) (fun f cdv A outer s H vs Q E hr h => ?_)
  · obtain ⟨g, B, ⟨e, _⟩, _⟩ := h
    rw [e] <;> rfl
  · obtain ⟨⟨_, l⟩, B, ⟨rfl, ⟨a, rfl, ha⟩, hn⟩, eB, hQ⟩ := h
    (try dsimp only at ha)
    (try dsimp only at hn)
    (try dsimp only at hQ)
    refine ⟨_, (pss_one (ps_ret (pe_tup (pa_cons (pe_gi (g_LIST T) rfl) (pa_cons (pe_lc (own := [("number", 1)]) rfl sc_integers.nd (pi_list (pv 0)) (blkOk_by (N := ["numbers", "number"]) (sc := defScope s_integers) (by decide +kernel)) (fun _ _ _ _ _ => by exact (pg_name (i := 1) sc_integers.nd rfl (Or.inl rfl))) (fun _ _ _ _ _ => by exact pts_nil) (fun _ _ _ _ _ => by exact (pe_ok (ok_integer T) (hr.mono (by decide)) rfl (pa_cons (pv 1) pa_nil)))) pa_nil))))), ?_⟩
    refine s_retR eB (er_tup (S := fun vs H => ∃ p ys, vs = [.int 7, .ref p] ∧ H p = some (.lst ys) ∧ OutAll H (l.map fun (n : Nat) => .int (n : Int)) ys) (ar_consV ev_c fun H1 e1 => ar_one (er_lcL (a := a) (xs := l.map ni) (fun k y H => ∃ n, l[k]? = some n ∧ Out H (.int (n : Int)) y) (fun k y H H' e ⟨n, h1, h2⟩ => ⟨n, h1, Out.mono e _ _ h2⟩) (ev_var rfl) (sq_of (e1 _ _ ha)) (by rw [List.length_map]; exact hn) (fun x => rfl) (fun k x B1 e hk => ?_)) fun v H2 e2 r => ?_) (fun vs H ⟨p, ys, h, _⟩ => by rw [h]; show 2 ≤ 100000; omega) fun t vs H2 e2 ⟨p, ys, h1, h2, h3⟩ ht => ?_) hQ
    · obtain ⟨n, hn, rfl⟩ := map_at hk
      exact er_imp (er_integer (ev_var rfl)) fun v H3 e3 h => ⟨n, hn, h⟩
    · obtain ⟨p, ys, rfl, h1, h2, h3⟩ := r
      refine ⟨p, ys, rfl, h1, outAll_of _ _ (by rw [h2, List.length_map, List.length_map]) fun k y hy => ?_⟩
      obtain ⟨n, q1, q2⟩ := h3 k y hy
      exact ⟨_, by rw [List.getElem?_map, q1] <;> rfl, q2⟩
    · show Out _ (oInts l) _
      unfold oInts Out
      exact ⟨p, ys, ⟨t, rfl, by rw [upd_same, h1]⟩, Ex.new ht _ _ h2, OutAll.mono (Ex.new ht) _ _ h3⟩
def sp_greats : Sp := spB (fun (g : V × List Nat) vs H => vs = [g.1] ∧ LN H g.1 g.2 ∧ g.2.length ≤ 40000) (fun g v H => Out H (oBigs g.2) v)
theorem ok_greats {P : Program} {w : World} {K : PySem.W.Frag} {mg : PySem.Str → Option Value} {base : Heap} (T : Tx K mg base) : Ok P w K mg base 2 "greats" ["numbers"] (sp_greats) := by
  refine ok_of (at_greats T) sc_greats (fun _ _ _ _ _ _ us hl => match us, hl with | [_], _ => rfl) (fun vs H Q E h => ?_) (fun f cdv A outer s H vs Q E hr h => ?_)
  · obtain ⟨g, B, ⟨e, _⟩, _⟩ := h
    rw [e] <;> rfl
  · obtain ⟨⟨_, l⟩, B, ⟨rfl, ⟨a, rfl, ha⟩, hn⟩, eB, hQ⟩ := h
    (try dsimp only at ha)
    (try dsimp only at hn)
    (try dsimp only at hQ)
    refine ⟨_, (pss_one (ps_ret (pe_tup (pa_cons (pe_gi (g_LIST T) rfl) (pa_cons (pe_lc (own := [("number", 1)]) rfl sc_greats.nd (pi_list (pv 0)) (blkOk_by (N := ["numbers", "number"]) (sc := defScope s_greats) (by decide +kernel)) (fun _ _ _ _ _ => by exact (pg_name (i := 1) sc_greats.nd rfl (Or.inl rfl))) (fun _ _ _ _ _ => by exact pts_nil) (fun _ _ _ _ _ => by exact (pe_ok (ok_great T) (hr.mono (by decide)) rfl (pa_cons (pv 1) pa_nil)))) pa_nil))))), ?_⟩
    refine s_retR eB (er_tup (S := fun vs H => ∃ p ys, vs = [.int 7, .ref p] ∧ H p = some (.lst ys) ∧ OutAll H (l.map fun (n : Nat) => .big (n : Int)) ys) (ar_consV ev_c fun H1 e1 => ar_one (er_lcL (a := a) (xs := l.map ni) (fun k y H => ∃ n, l[k]? = some n ∧ Out H (.big (n : Int)) y) (fun k y H H' e ⟨n, h1, h2⟩ => ⟨n, h1, Out.mono e _ _ h2⟩) (ev_var rfl) (sq_of (e1 _ _ ha)) (by rw [List.length_map]; exact hn) (fun x => rfl) (fun k x B1 e hk => ?_)) fun v H2 e2 r => ?_) (fun vs H ⟨p, ys, h, _⟩ => by rw [h]; show 2 ≤ 100000; omega) fun t vs H2 e2 ⟨p, ys, h1, h2, h3⟩ ht => ?_) hQ
    · obtain ⟨n, hn, rfl⟩ := map_at hk
      exact er_imp (er_great (ev_var rfl)) fun v H3 e3 h => ⟨n, hn, h⟩
    · obtain ⟨p, ys, rfl, h1, h2, h3⟩ := r
      refine ⟨p, ys, rfl, h1, outAll_of _ _ (by rw [h2, List.length_map, List.length_map]) fun k y hy => ?_⟩
      obtain ⟨n, q1, q2⟩ := h3 k y hy
      exact ⟨_, by rw [List.getElem?_map, q1] <;> rfl, q2⟩
    · show Out _ (oBigs l) _
      unfold oBigs Out
      exact ⟨p, ys, ⟨t, rfl, by rw [upd_same, h1]⟩, Ex.new ht _ _ h2, OutAll.mono (Ex.new ht) _ _ h3⟩
/-- a list of values that are handed out -/
def OutL (H : Hp) (l : List RWire.Value) (v : V) : Prop := ∃ a vs, v = .ref a ∧ H a = some (.lst vs) ∧ OutAll H l vs
def OutE (H : Hp) (l : List (RWire.Text × RWire.Value)) (v : V) : Prop := ∃ a vs, v = .ref a ∧ H a = some (.lst vs) ∧ OutEnts H l vs
theorem OutL.mono {H H' : Hp} {l : List RWire.Value} {v : V} (h : OutL H l v) (e : Ex H H') : OutL H' l v := by
  obtain ⟨a, vs, h1, h2, h3⟩ := h
  exact ⟨a, vs, h1, e _ _ h2, OutAll.mono e _ _ h3⟩
theorem OutE.mono {H H' : Hp} {l : List (RWire.Text × RWire.Value)} {v : V} (h : OutE H l v) (e : Ex H H') : OutE H' l v := by
  obtain ⟨a, vs, h1, h2, h3⟩ := h
  exact ⟨a, vs, h1, e _ _ h2, OutEnts.mono e _ _ h3⟩
def sp_listed : Sp := spB (fun (g : V × List RWire.Value) vs H => vs = [g.1] ∧ OutL H g.2 g.1) (fun g v H => Out H (.list g.2) v)
theorem ok_listed {P : Program} {w : World} {K : PySem.W.Frag} {mg : PySem.Str → Option Value} {base : Heap} (T : Tx K mg base) : Ok P w K mg base 1 "listed" ["values"] (sp_listed) := by
  refine ok_of (at_listed T) sc_listed (fun _ _ _ _ _ _ us hl => match us, hl with | [_], _ => rfl) (fun vs H Q E h => ?_) (fun f cdv A outer s H vs Q E hr h => ?_)
  · obtain ⟨g, B, ⟨e, _⟩, _⟩ := h
    rw [e] <;> rfl
  · obtain ⟨⟨_, l⟩, B, ⟨rfl, ⟨a, vs, rfl, ha, hl⟩⟩, eB, hQ⟩ := h
    (try dsimp only at ha)
    (try dsimp only at hl)
    (try dsimp only at hQ)
    refine ⟨_, (pss_one (ps_ret (pe_tup (pa_cons (pe_gi (g_LIST T) rfl) (pa_cons (pv 0) pa_nil))))), ?_⟩
    exact s_retR eB (er_tup (S := fun ws H => ws = [.int 7, .ref a] ∧ H a = some (.lst vs) ∧ OutAll H l vs) (ar_of (ea_cons ev_c (ea_cons (ev_var rfl) ea_nil)) fun H1 e => ⟨rfl, e _ _ ha, OutAll.mono e _ _ hl⟩) (fun ws H h => by rw [h.1]; show 2 ≤ 100000; omega) fun t ws H2 e2 h ht => (by
      show Out _ (.list l) _
      unfold Out
      exact ⟨a, vs, ⟨t, rfl, by rw [upd_same, h.1]⟩, Ex.new ht _ _ h.2.1, OutAll.mono (Ex.new ht) _ _ h.2.2⟩)) hQ
def sp_record : Sp := spB (fun (g : V × List (RWire.Text × RWire.Value)) vs H => vs = [g.1] ∧ OutE H g.2 g.1) (fun g v H => Out H (.record g.2) v)
theorem ok_record {P : Program} {w : World} {K : PySem.W.Frag} {mg : PySem.Str → Option Value} {base : Heap} (T : Tx K mg base) : Ok P w K mg base 1 "record" ["members"] (sp_record) := by
  refine ok_of (at_record T) sc_record (fun _ _ _ _ _ _ us hl => match us, hl with | [_], _ => rfl) (fun vs H Q E h => ?_) (fun f cdv A outer s H vs Q E hr h => ?_)
  · obtain ⟨g, B, ⟨e, _⟩, _⟩ := h
    rw [e] <;> rfl
  · obtain ⟨⟨_, l⟩, B, ⟨rfl, ⟨a, vs, rfl, ha, hl⟩⟩, eB, hQ⟩ := h
    (try dsimp only at ha)
    (try dsimp only at hl)
    (try dsimp only at hQ)
    refine ⟨_, (pss_one (ps_ret (pe_tup (pa_cons (pe_gi (g_RECORD T) rfl) (pa_cons (pv 0) pa_nil))))), ?_⟩
    exact s_retR eB (er_tup (S := fun ws H => ws = [.int 8, .ref a] ∧ H a = some (.lst vs) ∧ OutEnts H l vs) (ar_of (ea_cons ev_c (ea_cons (ev_var rfl) ea_nil)) fun H1 e => ⟨rfl, e _ _ ha, OutEnts.mono e _ _ hl⟩) (fun ws H h => by rw [h.1]; show 2 ≤ 100000; omega) fun t ws H2 e2 h ht => (by
      show Out _ (.record l) _
      unfold Out
      exact ⟨a, vs, ⟨t, rfl, by rw [upd_same, h.1]⟩, Ex.new ht _ _ h.2.1, OutEnts.mono (Ex.new ht) _ _ h.2.2⟩)) hQ
section
variable {σ : L2.St} {B : Hp} {te : TE}
theorem er_integers {l : List Nat} (h : EvR te σ B (fun v H => LN H v l)) (hn : l.length ≤ 40000) : EvR (tCall sp_integers [] E0 (tCons te tNil)) σ B (fun v H => Out H (oInts l) v) := fun H1 e Q q =>
  h H1 e _ fun v H2 e2 r => er_call (σ := σ) (A := fun (g : V × List Nat) vs H => vs = [g.1] ∧ LN H g.1 g.2 ∧ g.2.length ≤ 40000) (S := fun g v H => Out H (oInts g.2) v) (tr := fun σ H Q => Q [v] H) (v, l) (fun H3 e3 Q3 q3 => q3 [v] H3 (Ex.refl _) ⟨rfl, r.mono (by rw [ext_same e3]; exact Ex.refl _), hn⟩) (fun w => out_up _ w) H2 (ext_in e e2) Q fun w H3 e3 s => q w H3 (e2.trans e3) (by rw [← ext_ext e2 e3]; exact s)
end
end Cm
end PartF6
section PartF7
set_option Elab.async false
set_option linter.all false
set_option maxRecDepth 100000
set_option maxHeartbeats 4000000
namespace Cm
open PySem PySem.Spec PyProof.Rows L2 Evl
abbrev ob (b : UInt8) : V := ni b.toNat
/-- a def that writes octets behind a list that is not known -/
def spW {α : Type} (A : α → List V → Hp → Prop) (oct : α → RWire.Octets) : Sp := fun vs H Q _ => ∃ (g : α) (B : Hp) (l : Addr) (xs rest : List V), vs = .ref l :: rest ∧ A g rest B ∧ Ex B H ∧ B l = none ∧ H l = some (.lst xs) ∧ xs.length + (oct g).length ≤ 90000 ∧
  ∀ H', Ex B H' → H' l = some (.lst (xs ++ (oct g).map ob)) → Q .non H'
section
variable {K : PySem.W.Frag} {σ : L2.St} {B H : Hp} {ta tb te tx : TE} {v : V} {D : Ends} {l : Addr} {xs : List V}
theorem s_put {α : Type} {A : α → List V → Hp → Prop} {oct : α → RWire.Octets} {tr : TA} {rest : List V} (g : α) (eB : Ex B H) (hB : B l = none) (hl : H l = some (.lst xs)) (ha : Ev ta σ H (.ref l)) (hr : EvA tr σ H rest) (hA : A g rest B) (hz : xs.length + (oct g).length ≤ 90000)
    (k : ∀ H', Ex B H' → H' l = some (.lst (xs ++ (oct g).map ob)) → D.nx σ H') : tDrop (tCall (spW A oct) [] E0 (tCons ta tr)) D σ H :=
  ha H (Ex.refl _) _ fun H1 e1 => hr H1 e1 _ fun H2 e2 => ⟨g, B, l, xs, rest, by rw [List.append_nil], hA, eB.trans (e1.trans e2), hB, e2 _ _ (e1 _ _ hl), hz, fun H' e h => k H' e h⟩
theorem s_app1 {x : V} (eB : Ex B H) (hB : B l = none) (hl : H l = some (.lst xs)) (ha : Ev ta σ H (.ref l)) (h : Ev te σ H x) (hz : xs.length < 100000) (k : ∀ H', Ex B H' → H' l = some (.lst (xs ++ [x])) → D.nx σ H') : tDrop (tBM K "list" rAppend ta (tCons te tNil)) D σ H :=
  s_app hl ha h hz fun H1 e1 => k _ (Ex.mut (eB.trans e1) hB) upd_same
theorem ev_mulN {a b : Nat} (ha : Ev ta σ H (ni a)) (hb : Ev tb σ H (ni b)) (h : a < 2 ^ 63) : Ev (tOp (rI CMul fun i j => .int (i * j)) ta tb) σ H (ni (a * b)) :=
  ev_is (ev_op ha hb (rv_I (g := fun i j => .int (i * j)) (.inl ⟨by omega, by omega⟩))) (congrArg V.int (by rw [Int.natCast_mul]))
theorem ev_shrN {m x : Nat} (ha : Ev ta σ H (ni m)) (hb : Ev tb σ H (ni x)) : Ev (tOp (rI (fun _ j => 0 ≤ j) fun i j => .int (i / 2 ^ j.toNat)) ta tb) σ H (ni (m >>> x)) :=
  ev_is (ev_op ha hb (rv_I (g := fun i j => .int (i / 2 ^ j.toNat)) (Int.natCast_nonneg _))) (congrArg V.int (shrN m x))
end
def sp_put_number : Sp := spW (fun (g : Nat × Nat) rest _ => rest = [ni g.1, ni g.2]) (fun g => RWire.low g.2 g.1)
theorem ok_put_number {P : Program} {w : World} {K : PySem.W.Frag} {mg : PySem.Str → Option Value} {base : Heap} (T : Tx K mg base) : Ok P w K mg base 1 "put_number" ["out", "number", "many"] (sp_put_number) := by
  refine ok_of (at_put_number T) sc_put_number (fun _ _ _ _ _ _ us hl => match us, hl with | [_, _, _], _ => rfl) (fun vs H Q E h => ?_) (fun f cdv A outer s H vs Q E hr h => ?_)
  · obtain ⟨⟨n, k⟩, B, l, xs, _, rfl, rfl, eB, hB, hl, hz, hQ⟩ := h
    rfl
  · obtain ⟨⟨n, k⟩, B, l, xs, _, rfl, rfl, eB, hB, hl, hz, hQ⟩ := h
    (try dsimp only at hB)
    (try dsimp only at hl)
    (try dsimp only at hz)
    (try dsimp only at hQ)
    refine ⟨_, (pss_one (ps_for PassesOwn.never rfl (pi_range1 rfl T.n_range (pa_cons (pv 2) pa_nil)) (pg_name (i := 3) sc_put_number.nd rfl (Or.inl rfl)) (pss_one (ps_expr (pe_bm PySem.F.plainAttrs_list PySem.F.slot_list_append PySem.F.type_list_append mt_append (pv 0) (pa_cons (pe_op op_and (pe_op op_shr (pv 1) (pe_op op_mul pe_int (pv 3))) pe_int) pa_nil)))))), ?_⟩
    have hk : k ≤ 90000 := by
      have := Pu.low_len k n
      omega
    refine s_forR1 (n := (k : Int)) (ea_cons (ev_var rfl) ea_nil) (by omega) (fun i σ H' => ∃ x, σ = [some (.ref l), some (ni n), some (ni k), x] ∧ Ex B H' ∧ H' l = some (.lst (xs ++ (RWire.low i n).map ob))) (fun H1 e1 => ⟨none, rfl, eB.trans e1, by rw [e1 _ _ hl]; show _ = some (HO.lst (xs ++ [])); rw [List.append_nil]⟩) ?_ ?_
    · rintro i σ' H' hi ⟨_, rfl, e, hl2⟩
      have hi' : i < k := by omega
      refine s_app1 e hB hl2 (ev_var rfl) (ev_and (b := 255) (ev_shrN (m := n) (x := 8 * i) (ev_var rfl) (ev_mulN (a := 8) (b := i) ev_c (ev_var rfl) (by decide))) ev_c) (by
        rw [List.length_append, List.length_map, Pu.low_len]
        have := Pu.low_len k n
        omega) fun H1 e1 h1 => ⟨_, rfl, e1, ?_⟩
      rw [h1, Pu.low_snoc, List.map_append, Pu.oct_at, List.append_assoc]
      rfl
    · rintro σ' H' ⟨_, rfl, e, hl2⟩
      exact hQ H' e hl2
section
variable {σ : L2.St} {H : Hp} {ta tb : TE}
theorem ev_lenS {s : PySem.Str} (h : Ev ta σ H (.str s)) (hz : s.length ≤ 100000) : Ev (tCB (fun xs H Q => ∃ z, xs = [.str z] ∧ z.length ≤ sizeLine ∧ Q (.int z.length) H) (tCons ta tNil)) σ H (ni s.length) := fun H1 e Q q =>
  h H1 e _ fun H2 e2 => ⟨s, rfl, sz_of hz, q H2 e2⟩
theorem ev_ordS {c : Nat} (h : Ev ta σ H (.str ⟨#[c]⟩)) : Ev (tCB (fun xs H Q => ∃ x, xs = [.str x] ∧ x.length = 1 ∧ Q (.int (x.cps.getD 0 0 : Nat)) H) (tCons ta tNil)) σ H (ni c) := fun H1 e Q q =>
  h H1 e _ fun H2 e2 => ⟨_, rfl, rfl, q H2 e2⟩
theorem ev_absN {n : Nat} (h : Ev ta σ H (ni n)) : Ev (tCB (fun xs H Q => ∃ i, xs = [.int i] ∧ Q (.int (if i < 0 then -i else i)) H) (tCons ta tNil)) σ H (ni n) := fun H1 e Q q =>
  h H1 e _ fun H2 e2 => ⟨(n : Int), rfl, by rw [if_neg (by omega)]; exact q H2 e2⟩
theorem ev_bitsN {n : Nat} (h : Ev ta σ H (ni n)) : Ev (tBits ta) σ H (ni (Pu.bitsN n)) := fun H1 e Q q =>
  h H1 e _ fun H2 e2 => ⟨(n : Int), rfl, by
    have eb : Builtin.Int.intBits (n : Int) = Pu.bitsN n := by
      unfold Builtin.Int.intBits Pu.bitsN
      by_cases c : n = 0
      · subst c
        rfl
      · rw [if_neg c, if_neg (by simp; omega), Int.natAbs_natCast]
    rw [eb]
    exact q H2 e2⟩
theorem ev_div8 {n : Nat} (h : Ev ta σ H (ni n)) : Ev (tOp (rI CDiv fun i j => .int (i / j)) ta (tC (.int 8))) σ H (ni (n / 8)) :=
  ev_is (ev_op h ev_c (rv_I (g := fun i j => .int (i / j)) ⟨by decide, by decide⟩)) (congrArg V.int (by omega))
theorem ev_sign {n : Nat} {tt tf : TE} (h : Ev ta σ H (ni n)) (h1 : Ev tf σ H (.int 0)) : Ev (tIf (tTest (tOp (rI0 fun i j => .bl (decide (i < j))) ta (tC (.int 0)))) tt tf) σ H (.int 0) :=
  ev_if (b := false) (et_is (et_test (ev_op h ev_c (rv_I0 (g := fun i j => .bl (decide (i < j)))))) (decide_eq_false (by omega))) (fun c => by cases c) fun _ => h1
end
def sp_put_text : Sp := spW (fun (g : PySem.Str) rest _ => rest = [.str g] ∧ ∀ c ∈ g.cps.toList, c < 256) (fun g => RWire.writeText (octs g))
theorem ok_put_text {P : Program} {w : World} {K : PySem.W.Frag} {mg : PySem.Str → Option Value} {base : Heap} (T : Tx K mg base) : Ok P w K mg base 2 "put_text" ["out", "text"] (sp_put_text) := by
  refine ok_of (at_put_text T) sc_put_text (fun _ _ _ _ _ _ us hl => match us, hl with | [_, _], _ => rfl) (fun vs H Q E h => ?_) (fun f cdv A outer s H vs Q E hr h => ?_)
  · obtain ⟨s, B, l, xs, _, rfl, ⟨rfl, hc⟩, eB, hB, hl, hz, hQ⟩ := h
    rfl
  · obtain ⟨s, B, l, xs, _, rfl, ⟨rfl, hc⟩, eB, hB, hl, hz, hQ⟩ := h
    (try dsimp only at hc)
    (try dsimp only at hB)
    (try dsimp only at hl)
    (try dsimp only at hz)
    (try dsimp only at hQ)
    refine ⟨_, (pss_cons (ps_expr (pe_ok (ok_put_number T) (hr.mono (by decide)) rfl (pa_cons (pv 0) (pa_cons (pe_callB call_len_str (by rfl) T.n_len PySem.boot_len (pa_cons (pv 1) pa_nil)) (pa_cons pe_int pa_nil)))))
      (pss_one (ps_for PassesOwn.never rfl (pi_str (pv 1)) (pg_name (i := 2) sc_put_text.nd rfl (Or.inl rfl)) (pss_one (ps_expr (pe_bm PySem.F.plainAttrs_list PySem.F.slot_list_append PySem.F.type_list_append mt_append (pv 0) (pa_cons (pe_callB call_ord (by rfl) T.n_ord (by decide +kernel) (pa_cons (pv 2) pa_nil)) pa_nil))))))), ?_⟩
    have hlen : (octs s).length = s.length := by
      unfold octs
      rw [List.length_map]
      rfl
    have hz2 : (RWire.writeText (octs s)).length = 4 + s.length := by
      unfold RWire.writeText RWire.writeCount
      rw [List.length_append, Pu.low_len, hlen]
    simp only [hz2] at hz
    refine s_put (s.length, 4) eB hB hl (ev_var rfl) (ea_cons (ev_lenS (ev_var rfl) (by omega)) (ea_cons ev_c ea_nil)) rfl (by simp only [Pu.low_len]; omega) fun H1 e1 h1 => ?_
    refine ⟨_, rfl, s, rfl, for_it (walk_str (z := s)) (fun i σ H' => ∃ x, σ = [some (.ref l), some (.str s), x] ∧ Ex B H' ∧ H' l = some (.lst ((xs ++ (RWire.low 4 s.length).map ob) ++ ((octs s).take i).map ob))) ⟨none, rfl, e1, by rw [h1]; show _ = some (HO.lst (_ ++ [])); rw [List.append_nil]⟩ (fun _ _ _ _ _ => trivial) ?_ ?_⟩
    · rintro i x σ' H' H2 hi ⟨_, rfl, e, h2⟩ ⟨rfl, c, hci, rfl⟩
      have hoct : (octs s)[i]? = some (UInt8.ofNat c) := by
        unfold octs
        rw [List.getElem?_map, Array.getElem?_toList, hci]
        rfl
      have hc256 : c < 256 := hc c (by
        rw [← Array.getElem?_toList] at hci
        exact List.mem_of_getElem? hci)
      refine s_app1 e hB h2 (ev_var rfl) (x := ni c) (ev_ordS (ev_var rfl)) (by
        rw [List.length_append, List.length_append, List.length_map, List.length_map, Pu.low_len, List.length_take, hlen]
        omega) fun H3 e3 h3 => ⟨_, rfl, e3, ?_⟩
      have eo : ob (UInt8.ofNat c) = ni c := by
        show ni (UInt8.ofNat c).toNat = ni c
        rw [UInt8.toNat_ofNat', Nat.mod_eq_of_lt hc256]
      rw [h3, Pu.take_more hoct, List.map_append, ← List.append_assoc, List.map_cons, List.map_nil, eo]
    · rintro σ' H' ⟨_, rfl, e, h2⟩
      refine hQ H' e ?_
      have et : (octs s).take s.cps.size = octs s := List.take_of_length_le (by rw [hlen]; exact Nat.le_refl _)
      rw [h2, et, List.append_assoc, ← List.map_append]
      unfold RWire.writeText RWire.writeCount
      rw [hlen]
def sp_put_great : Sp := spW (fun (n : Nat) rest _ => rest = [ni n]) (fun n => RWire.writeBig (n : Int))
theorem ok_put_great {P : Program} {w : World} {K : PySem.W.Frag} {mg : PySem.Str → Option Value} {base : Heap} (T : Tx K mg base) : Ok P w K mg base 2 "put_great" ["out", "number"] (sp_put_great) := by
  refine ok_of (at_put_great T) sc_put_great (fun _ _ _ _ _ _ us hl => match us, hl with | [_, _], _ => rfl) (fun vs H Q E h => ?_) (fun f cdv A outer s H vs Q E hr h => ?_)
  · obtain ⟨n, B, l, xs, _, rfl, rfl, eB, hB, hl, hz, hQ⟩ := h
    rfl
  · obtain ⟨n, B, l, xs, _, rfl, rfl, eB, hB, hl, hz, hQ⟩ := h
    (try dsimp only at hB)
    (try dsimp only at hl)
    (try dsimp only at hz)
    (try dsimp only at hQ)
    refine ⟨_, (pss_cons (ps_set (i := 2) sc_put_great.nd rfl (Or.inl rfl) (pe_callB call_abs (by rfl) T.n_abs (by decide +kernel) (pa_cons (pv 1) pa_nil)))
      (pss_cons (ps_set (i := 3) sc_put_great.nd rfl (Or.inl rfl) (pe_op op_fdiv (pe_op op_add (pe_bits (pv 2)) pe_int) pe_int))
      (pss_cons (ps_expr (pe_bm PySem.F.plainAttrs_list PySem.F.slot_list_append PySem.F.type_list_append mt_append (pv 0) (pa_cons (pe_ifExp (pt_cmpR op_lt (pv 1) pe_int (nomark _)) pe_int pe_int) pa_nil)))
      (pss_cons (ps_expr (pe_ok (ok_put_number T) (hr.mono (by decide)) rfl (pa_cons (pv 0) (pa_cons (pv 3) (pa_cons pe_int pa_nil)))))
      (pss_one (ps_expr (pe_ok (ok_put_number T) (hr.mono (by decide)) rfl (pa_cons (pv 0) (pa_cons (pv 2) (pa_cons (pv 3) pa_nil)))))))))), ?_⟩
    have hw : RWire.writeBig (n : Int) = 0 :: (RWire.low 4 ((Pu.bitsN n + 7) / 8) ++ RWire.low ((Pu.bitsN n + 7) / 8) n) := by
      unfold RWire.writeBig RWire.writeCount
      rw [if_neg (by simp), Int.natAbs_natCast, Pu.size_low n n (Nat.le_refl _), Pu.low_len]
    have hwl : (RWire.writeBig (n : Int)).length = 1 + 4 + (Pu.bitsN n + 7) / 8 := by
      rw [hw, List.length_cons, List.length_append, Pu.low_len, Pu.low_len]
      omega
    simp only [hwl] at hz
    refine s_asg (ev_absN (ev_var rfl)) fun H1 e1 => ?_
    refine s_asg (ev_div8 (n := Pu.bitsN n + 7) (ev_addN (a := Pu.bitsN n) (b := 7) (ev_bitsN (ev_var rfl)) ev_c)) fun H2 e2 => ?_
    refine s_app1 (eB.trans (e1.trans e2)) hB (e2 _ _ (e1 _ _ hl)) (ev_var rfl) (x := .int 0) (ev_sign (ev_var rfl) ev_c) (by omega) fun H3 e3 h3 => ?_
    refine s_put ((Pu.bitsN n + 7) / 8, 4) e3 hB h3 (ev_var rfl) (ea_cons (ev_var rfl) (ea_cons ev_c ea_nil)) rfl (by simp only [Pu.low_len, List.length_append, List.length_cons, List.length_nil]; omega) fun H4 e4 h4 => ?_
    refine s_put (n, (Pu.bitsN n + 7) / 8) e4 hB h4 (ev_var rfl) (ea_cons (ev_var rfl) (ea_cons (ev_var rfl) ea_nil)) rfl (by simp only [Pu.low_len, List.length_append, List.length_map, List.length_cons, List.length_nil]; omega) fun H5 e5 h5 => ?_
    refine hQ H5 e5 ?_
    rw [h5, hw, List.append_assoc, List.append_assoc, List.map_cons, List.map_append]
    rfl
theorem outAll_at {H : Hp} : ∀ {l : List RWire.Value} {vs : List V}, OutAll H l vs → vs.length = l.length ∧ ∀ (i : Nat) (y : V), vs[i]? = some y → ∃ x, l[i]? = some x ∧ Out H x y
  | [], vs, h => by
    unfold OutAll at h
    subst h
    exact ⟨rfl, fun i y q => by simp at q⟩
  | x :: l, vs, h => by
    unfold OutAll at h
    obtain ⟨y, ys, rfl, h1, h2⟩ := h
    obtain ⟨a, b⟩ := outAll_at h2
    refine ⟨by simp [a], fun i z q => ?_⟩
    cases i with
    | zero =>
      cases q
      exact ⟨x, rfl, h1⟩
    | succ i =>
      obtain ⟨x', q1, q2⟩ := b i z (by simpa using q)
      exact ⟨x', by simpa using q1, q2⟩
def EntAt (H : Hp) (e : RWire.Text × RWire.Value) (t : V) : Prop := ∃ s y, TupAt H t [.str s, y] ∧ octs s = e.1 ∧ (∀ c ∈ s.cps.toList, c < 256) ∧ Out H e.2 y
theorem outEnts_at {H : Hp} : ∀ {l : List (RWire.Text × RWire.Value)} {vs : List V}, OutEnts H l vs → vs.length = l.length ∧ ∀ (i : Nat) (y : V), vs[i]? = some y → ∃ x, l[i]? = some x ∧ EntAt H x y
  | [], vs, h => by
    unfold OutEnts at h
    subst h
    exact ⟨rfl, fun i y q => by simp at q⟩
  | x :: l, vs, h => by
    unfold OutEnts at h
    obtain ⟨t, s, y, ys, rfl, h1, h2, h3, h4, h5⟩ := h
    obtain ⟨a, b⟩ := outEnts_at h5
    refine ⟨by simp [a], fun i z q => ?_⟩
    cases i with
    | zero =>
      cases q
      exact ⟨x, rfl, s, y, h1, h2, h3, h4⟩
    | succ i =>
      obtain ⟨x', q1, q2⟩ := b i z (by simpa using q)
      exact ⟨x', by simpa using q1, q2⟩
theorem many_snoc : ∀ (l : List RWire.Value) (x : RWire.Value), RWire.writeMany (l ++ [x]) = RWire.writeMany l ++ RWire.write x
  | [], x => by simp [RWire.writeMany]
  | y :: l, x => by
    show RWire.write y ++ RWire.writeMany (l ++ [x]) = (RWire.write y ++ RWire.writeMany l) ++ RWire.write x
    rw [many_snoc l x, List.append_assoc]
theorem ents_snoc : ∀ (l : List (RWire.Text × RWire.Value)) (x : RWire.Text × RWire.Value), RWire.writeEntries (l ++ [x]) = RWire.writeEntries l ++ (RWire.writeText x.1 ++ RWire.write x.2)
  | [], x => by simp [RWire.writeEntries]
  | y :: l, x => by
    show RWire.writeText y.1 ++ (RWire.write y.2 ++ RWire.writeEntries (l ++ [x])) = (RWire.writeText y.1 ++ (RWire.write y.2 ++ RWire.writeEntries l)) ++ _
    rw [ents_snoc l x]
    simp only [List.append_assoc]
theorem many_take (l : List RWire.Value) (i : Nat) : (RWire.writeMany (l.take i)).length ≤ (RWire.writeMany l).length := by
  induction i with
  | zero => exact Nat.zero_le _
  | succ i ih =>
    by_cases c : i < l.length
    · have e : l = l.take (i + 1) ++ l.drop (i + 1) := (List.take_append_drop _ _).symm
      have app : ∀ a b : List RWire.Value, RWire.writeMany (a ++ b) = RWire.writeMany a ++ RWire.writeMany b := fun a b => by
        induction a with
        | nil => rfl
        | cons x a ih => show RWire.write x ++ RWire.writeMany (a ++ b) = (RWire.write x ++ RWire.writeMany a) ++ _; rw [ih, List.append_assoc]
      have q := congrArg (fun z => (RWire.writeMany z).length) e
      simp only [app, List.length_append] at q
      omega
    · rw [List.take_of_length_le (by omega)]
      exact Nat.le_refl _
theorem ents_take (l : List (RWire.Text × RWire.Value)) (i : Nat) : (RWire.writeEntries (l.take i)).length ≤ (RWire.writeEntries l).length := by
  have app : ∀ a b : List (RWire.Text × RWire.Value), RWire.writeEntries (a ++ b) = RWire.writeEntries a ++ RWire.writeEntries b := fun a b => by
    induction a with
    | nil => rfl
    | cons x a ih => show RWire.writeText x.1 ++ (RWire.write x.2 ++ RWire.writeEntries (a ++ b)) = (RWire.writeText x.1 ++ (RWire.write x.2 ++ RWire.writeEntries a)) ++ _; rw [ih]; simp only [List.append_assoc]
  have e : l = l.take i ++ l.drop i := (List.take_append_drop _ _).symm
  have q := congrArg (fun z => (RWire.writeEntries z).length) e
  simp only [app, List.length_append] at q
  omega
theorem depth_mem : ∀ {l : List RWire.Value} {x : RWire.Value}, x ∈ l → RWire.depth x ≤ RWire.depthMany l
  | y :: l, x, h => by
    unfold RWire.depthMany
    rcases List.mem_cons.mp h with rfl | h
    · exact Nat.le_max_left _ _
    · exact Nat.le_trans (depth_mem h) (Nat.le_max_right _ _)
theorem depth_ent : ∀ {l : List (RWire.Text × RWire.Value)} {x : RWire.Text × RWire.Value}, x ∈ l → RWire.depth x.2 ≤ RWire.depthEntries l
  | y :: l, x, h => by
    unfold RWire.depthEntries
    rcases List.mem_cons.mp h with rfl | h
    · exact Nat.le_max_left _ _
    · exact Nat.le_trans (depth_ent h) (Nat.le_max_right _ _)
theorem depth_pos : ∀ x : RWire.Value, 1 ≤ RWire.depth x
  | .nothing => by unfold RWire.depth; exact Nat.le_refl _
  | .null => by unfold RWire.depth; exact Nat.le_refl _
  | .bool _ => by unfold RWire.depth; exact Nat.le_refl _
  | .int _ => by unfold RWire.depth; exact Nat.le_refl _
  | .big _ => by unfold RWire.depth; exact Nat.le_refl _
  | .text _ => by unfold RWire.depth; exact Nat.le_refl _
  | .octets _ => by unfold RWire.depth; exact Nat.le_refl _
  | .wide _ => by unfold RWire.depth; exact Nat.le_refl _
  | .list _ => by unfold RWire.depth; omega
  | .record _ => by unfold RWire.depth; omega
theorem s_kindNo {σ : L2.St} {H : Hp} {D : Ends} {tu : TS} {i : Nat} {k c : Int} (h : σ[i]? = some (some (.int k))) (hk : k ≠ c) (n : D.nx σ H) : tIfS (tTest (tOp rEq (tVar i) (tC (.int c)))) tu tNext D σ H := by
  have e : decide (V.int k = V.int c) = false := decide_eq_false fun z => hk (V.int.inj z)
  refine ⟨_, h, rfl, _, rfl, ?_⟩
  rw [e]
  exact n
theorem s_kindYes {σ : L2.St} {H : Hp} {D : Ends} {tu : TS} {i : Nat} {k c : Int} (h : σ[i]? = some (some (.int k))) (hk : k = c) (n : tu D σ H) : tIfS (tTest (tOp rEq (tVar i) (tC (.int c)))) tu tNext D σ H := by
  have e : decide (V.int k = V.int c) = true := decide_eq_true (congrArg V.int hk)
  refine ⟨_, h, rfl, _, rfl, ?_⟩
  rw [e]
  exact n
def sp_putV (n : Nat) : Sp := spW (fun (x : RWire.Value) rest B => (∃ v, rest = [v] ∧ Out B x v) ∧ RWire.depth x ≤ n) RWire.write
theorem step_put_value {P : Program} {w : World} {K : PySem.W.Frag} {mg : PySem.Str → Option Value} {base : Heap} (T : Tx K mg base) {n : Nat} (G : Ok P w K mg base (n + 3) "put_value" ["out", "value"] (sp_putV n)) : Ok P w K mg base (n + 3 + 1) "put_value" ["out", "value"] (sp_putV (n + 1)) := by
  refine ok_of (at_put_value T) sc_put_value (fun _ _ _ _ _ _ us hl => match us, hl with | [_, _], _ => rfl) (fun vs H Q E h => ?_) (fun f cdv A outer s H vs Q E hr h => ?_)
  · obtain ⟨x, B, l, xs, _, rfl, ⟨⟨v, rfl, hv⟩, hd⟩, eB, hB, hl, hz, hQ⟩ := h
    rfl
  · obtain ⟨x, B, l, xs, _, rfl, ⟨⟨v, rfl, hv⟩, hd⟩, eB, hB, hl, hz, hQ⟩ := h
    (try dsimp only at hv)
    (try dsimp only at hd)
    (try dsimp only at hB)
    (try dsimp only at hl)
    (try dsimp only at hz)
    (try dsimp only at hQ)
    refine ⟨_, (pss_cons (ps_asg (pv 1) (pg_tup rfl (pgs_cons (pg_name (i := 2) sc_put_value.nd rfl (Or.inl rfl)) (pgs_cons (pg_name (i := 3) sc_put_value.nd rfl (Or.inl rfl)) pgs_nil))))
      (pss_cons (ps_expr (pe_bm PySem.F.plainAttrs_list PySem.F.slot_list_append PySem.F.type_list_append mt_append (pv 0) (pa_cons (pv 2) pa_nil)))
      (pss_cons (ps_if (pt_cmpR op_eq (pv 2) (pe_gi (g_INTEGER T) rfl) (nomark _)) (pss_one (ps_expr (pe_ok (ok_put_number T) (hr.mono (by omega)) rfl (pa_cons (pv 0) (pa_cons (pv 3) (pa_cons pe_int pa_nil)))))) pss_nil)
      (pss_cons (ps_if (pt_cmpR op_eq (pv 2) (pe_gi (g_GREAT T) rfl) (nomark _)) (pss_one (ps_expr (pe_ok (ok_put_great T) (hr.mono (by omega)) rfl (pa_cons (pv 0) (pa_cons (pv 3) pa_nil))))) pss_nil)
      (pss_cons (ps_if (pt_cmpR op_eq (pv 2) (pe_gi (g_LIST T) rfl) (nomark _)) (pss_cons (ps_expr (pe_ok (ok_put_number T) (hr.mono (by omega)) rfl (pa_cons (pv 0) (pa_cons (pe_callB call_len_seq (by rfl) T.n_len PySem.boot_len (pa_cons (pv 3) pa_nil)) (pa_cons pe_int pa_nil)))))
      (pss_one (ps_for PassesOwn.never rfl (pi_list (pv 3)) (pg_name (i := 4) sc_put_value.nd rfl (Or.inl rfl)) (pss_one (ps_expr (pe_ok G (hr.mono (by omega)) rfl (pa_cons (pv 0) (pa_cons (pv 4) pa_nil)))))))) pss_nil)
      (pss_one (ps_if (pt_cmpR op_eq (pv 2) (pe_gi (g_RECORD T) rfl) (nomark _)) (pss_cons (ps_expr (pe_ok (ok_put_number T) (hr.mono (by omega)) rfl (pa_cons (pv 0) (pa_cons (pe_callB call_len_seq (by rfl) T.n_len PySem.boot_len (pa_cons (pv 3) pa_nil)) (pa_cons pe_int pa_nil)))))
      (pss_one (ps_for PassesOwn.never rfl (pi_list (pv 3)) (pg_tup rfl (pgs_cons (pg_name (i := 5) sc_put_value.nd rfl (Or.inl rfl)) (pgs_cons (pg_name (i := 4) sc_put_value.nd rfl (Or.inl rfl)) pgs_nil))) (pss_cons (ps_expr (pe_ok (ok_put_text T) (hr.mono (by omega)) rfl (pa_cons (pv 0) (pa_cons (pv 5) pa_nil))))
      (pss_one (ps_expr (pe_ok G (hr.mono (by omega)) rfl (pa_cons (pv 0) (pa_cons (pv 4) pa_nil))))))))) pss_nil))))))), ?_⟩
    have hz0 : xs.length < 90000 := by
      have : 0 < (RWire.write x).length := by
        cases x <;> simp [RWire.write]
      omega
    cases x with
    | nothing =>
      unfold Out at hv
      obtain ⟨t, rfl, ht⟩ := hv
      refine ⟨_, rfl, t, _, rfl, st_of (eB _ _ ht), rfl, _, _, rfl, _, _, rfl, rfl, ?_⟩
      refine s_app1 eB hB hl (ev_var rfl) (ev_var rfl) (by omega) fun H1 e1 h1 => ?_
      refine s_kindNo rfl (by decide) ?_
      refine s_kindNo rfl (by decide) ?_
      refine s_kindNo rfl (by decide) ?_
      refine s_kindNo rfl (by decide) ?_
      exact hQ H1 e1 (by rw [h1] <;> rfl)
    | null =>
      unfold Out at hv
      obtain ⟨t, rfl, ht⟩ := hv
      refine ⟨_, rfl, t, _, rfl, st_of (eB _ _ ht), rfl, _, _, rfl, _, _, rfl, rfl, ?_⟩
      refine s_app1 eB hB hl (ev_var rfl) (ev_var rfl) (by omega) fun H1 e1 h1 => ?_
      refine s_kindNo rfl (by decide) ?_
      refine s_kindNo rfl (by decide) ?_
      refine s_kindNo rfl (by decide) ?_
      refine s_kindNo rfl (by decide) ?_
      exact hQ H1 e1 (by rw [h1] <;> rfl)
    | bool b =>
      unfold Out at hv
      obtain ⟨t, rfl, ht⟩ := hv
      refine ⟨_, rfl, t, _, rfl, st_of (eB _ _ ht), rfl, _, _, rfl, _, _, rfl, rfl, ?_⟩
      refine s_app1 eB hB hl (ev_var rfl) (ev_var rfl) (by omega) fun H1 e1 h1 => ?_
      refine s_kindNo rfl (by cases b <;> decide) ?_
      refine s_kindNo rfl (by cases b <;> decide) ?_
      refine s_kindNo rfl (by cases b <;> decide) ?_
      refine s_kindNo rfl (by cases b <;> decide) ?_
      exact hQ H1 e1 (by rw [h1]; cases b <;> rfl)
    | int i =>
      unfold Out at hv
      obtain ⟨m, rfl, t, rfl, ht⟩ := hv
      refine ⟨_, rfl, t, _, rfl, st_of (eB _ _ ht), rfl, _, _, rfl, _, _, rfl, rfl, ?_⟩
      refine s_app1 eB hB hl (ev_var rfl) (ev_var rfl) (by omega) fun H1 e1 h1 => ?_
      refine s_kindYes rfl rfl ?_
      have hw : RWire.write (.int (m : Int)) = 4 :: RWire.low 8 m := congrArg (List.cons 4) (Pu.writeInt_nat m)
      simp only [hw, List.length_cons, Pu.low_len] at hz
      refine s_put (m, 8) e1 hB h1 (ev_var rfl) (ea_cons (ev_var rfl) (ea_cons ev_c ea_nil)) rfl (by simp only [Pu.low_len, List.length_append, List.length_cons, List.length_nil]; omega) fun H2 e2 h2 => ?_
      refine s_kindNo rfl (by decide) ?_
      refine s_kindNo rfl (by decide) ?_
      refine s_kindNo rfl (by decide) ?_
      exact hQ H2 e2 (by rw [h2, hw, List.append_assoc] <;> rfl)
    | big i =>
      unfold Out at hv
      obtain ⟨m, rfl, t, rfl, ht⟩ := hv
      refine ⟨_, rfl, t, _, rfl, st_of (eB _ _ ht), rfl, _, _, rfl, _, _, rfl, rfl, ?_⟩
      refine s_app1 eB hB hl (ev_var rfl) (ev_var rfl) (by omega) fun H1 e1 h1 => ?_
      refine s_kindNo rfl (by decide) ?_
      refine s_kindYes rfl rfl ?_
      have hw : RWire.write (.big (m : Int)) = 5 :: RWire.writeBig (m : Int) := rfl
      simp only [hw, List.length_cons] at hz
      refine s_put m e1 hB h1 (ev_var rfl) (ea_cons (ev_var rfl) ea_nil) rfl (by simp only [List.length_append, List.length_cons, List.length_nil]; omega) fun H2 e2 h2 => ?_
      refine s_kindNo rfl (by decide) ?_
      refine s_kindNo rfl (by decide) ?_
      exact hQ H2 e2 (by rw [h2, hw, List.append_assoc] <;> rfl)
    | list ll =>
      unfold Out at hv
      obtain ⟨a, vs, ⟨t, rfl, ht⟩, ha, hall⟩ := hv
      obtain ⟨hlen, hat⟩ := outAll_at hall
      have hw : RWire.write (.list ll) = 7 :: (RWire.low 4 ll.length ++ RWire.writeMany ll) := rfl
      simp only [hw, List.length_cons, List.length_append, Pu.low_len] at hz
      have hd2 : RWire.depthMany ll ≤ n := by
        unfold RWire.depth at hd
        omega
      refine ⟨_, rfl, t, _, rfl, st_of (eB _ _ ht), rfl, _, _, rfl, _, _, rfl, rfl, ?_⟩
      refine s_app1 eB hB hl (ev_var rfl) (ev_var rfl) (by omega) fun H1 e1 h1 => ?_
      refine s_kindNo rfl (by decide) ?_
      refine s_kindNo rfl (by decide) ?_
      refine s_kindYes rfl rfl ?_
      refine s_put (ll.length, 4) e1 hB h1 (ev_var rfl) (ea_cons (ev_is (ev_len (ev_var rfl) (sq_of (e1 _ _ ha))) (by rw [hlen])) (ea_cons ev_c ea_nil)) rfl (by simp only [Pu.low_len, List.length_append, List.length_cons, List.length_nil]; omega) fun H2 e2 h2 => ?_
      refine s_forLst (a := a) (xs := vs) (ev_var rfl) (sq_of (e2 _ _ ha)) (fun i σ H' => ∃ x, σ = [some (.ref l), some (.ref t), some (.int 7), some (.ref a), x, none] ∧ Ex B H' ∧ H' l = some (.lst ((xs ++ [V.int 7] ++ (RWire.low 4 ll.length).map ob) ++ (RWire.writeMany (ll.take i)).map ob)))
        (fun H3 e3 => ⟨none, rfl, e2.trans e3, by rw [e3 _ _ h2]; show _ = some (HO.lst (_ ++ [])); rw [List.append_nil]⟩) (fun i σ' H' _ ⟨_, _, e, _⟩ => sq_of (e _ _ ha)) ?_ ?_
      · rintro i y σ' H' hy ⟨_, rfl, e, h3⟩
        obtain ⟨x, hx, hxo⟩ := hat i y hy
        have h5 := many_take ll (i + 1)
        rw [Pu.take_more hx, many_snoc, List.length_append] at h5
        refine s_put x e hB h3 (ev_var rfl) (ea_cons (ev_var rfl) ea_nil) ⟨⟨y, rfl, hxo⟩, Nat.le_trans (depth_mem (List.mem_of_getElem? hx)) hd2⟩ (by simp only [Pu.low_len, List.length_append, List.length_map, List.length_cons, List.length_nil]; omega) fun H4 e4 h4 => ⟨_, rfl, e4, ?_⟩
        rw [h4, Pu.take_more hx, many_snoc, List.map_append, List.append_assoc]
      · rintro σ' H' ⟨_, rfl, e, h3⟩
        rw [hlen, List.take_length] at h3
        refine s_kindNo rfl (by decide) ?_
        exact hQ H' e (by
          rw [h3, hw, List.map_cons, List.map_append]
          simp only [List.append_assoc]
          rfl)
    | record ll =>
      unfold Out at hv
      obtain ⟨a, vs, ⟨t, rfl, ht⟩, ha, hall⟩ := hv
      obtain ⟨hlen, hat⟩ := outEnts_at hall
      have hw : RWire.write (.record ll) = 8 :: (RWire.low 4 ll.length ++ RWire.writeEntries ll) := rfl
      simp only [hw, List.length_cons, List.length_append, Pu.low_len] at hz
      have hd2 : RWire.depthEntries ll ≤ n := by
        unfold RWire.depth at hd
        omega
      refine ⟨_, rfl, t, _, rfl, st_of (eB _ _ ht), rfl, _, _, rfl, _, _, rfl, rfl, ?_⟩
      refine s_app1 eB hB hl (ev_var rfl) (ev_var rfl) (by omega) fun H1 e1 h1 => ?_
      refine s_kindNo rfl (by decide) ?_
      refine s_kindNo rfl (by decide) ?_
      refine s_kindNo rfl (by decide) ?_
      refine s_kindYes rfl rfl ?_
      refine s_put (ll.length, 4) e1 hB h1 (ev_var rfl) (ea_cons (ev_is (ev_len (ev_var rfl) (sq_of (e1 _ _ ha))) (by rw [hlen])) (ea_cons ev_c ea_nil)) rfl (by simp only [Pu.low_len, List.length_append, List.length_cons, List.length_nil]; omega) fun H2 e2 h2 => ?_
      refine s_forLst (a := a) (xs := vs) (ev_var rfl) (sq_of (e2 _ _ ha)) (fun i σ H' => ∃ x z, σ = [some (.ref l), some (.ref t), some (.int 8), some (.ref a), x, z] ∧ Ex B H' ∧ H' l = some (.lst ((xs ++ [V.int 8] ++ (RWire.low 4 ll.length).map ob) ++ (RWire.writeEntries (ll.take i)).map ob)))
        (fun H3 e3 => ⟨none, none, rfl, e2.trans e3, by rw [e3 _ _ h2]; show _ = some (HO.lst (_ ++ [])); rw [List.append_nil]⟩) (fun i σ' H' _ ⟨_, _, _, e, _⟩ => sq_of (e _ _ ha)) ?_ ?_
      · rintro i y σ' H' hy ⟨_, _, rfl, e, h3⟩
        obtain ⟨x, hx, s', y', ⟨t', rfl, ht'⟩, hs1, hs2, hxo⟩ := hat i y hy
        have h5 := ents_take ll (i + 1)
        rw [Pu.take_more hx, ents_snoc, List.length_append, List.length_append] at h5
        refine ⟨t', _, rfl, st_of (e _ _ ht'), rfl, _, _, rfl, _, _, rfl, rfl, ?_⟩
        refine s_put s' e hB h3 (ev_var rfl) (ea_cons (ev_var rfl) ea_nil) ⟨rfl, hs2⟩ (by simp only [hs1, Pu.low_len, List.length_append, List.length_map, List.length_cons, List.length_nil]; omega) fun H4 e4 h4 => ?_
        refine s_put x.2 e4 hB h4 (ev_var rfl) (ea_cons (ev_var rfl) ea_nil) ⟨⟨y', rfl, hxo⟩, Nat.le_trans (depth_ent (List.mem_of_getElem? hx)) hd2⟩ (by simp only [hs1, Pu.low_len, List.length_append, List.length_map, List.length_cons, List.length_nil]; omega) fun H5 e5 h6 => ⟨_, _, rfl, e5, ?_⟩
        rw [h6, hs1, Pu.take_more hx, ents_snoc, List.map_append, List.map_append]
        simp only [List.append_assoc]
      · rintro σ' H' ⟨_, _, rfl, e, h3⟩
        rw [hlen, List.take_length] at h3
        exact hQ H' e (by
          rw [h3, hw, List.map_cons, List.map_append]
          simp only [List.append_assoc]
          rfl)
    | text _ =>
      unfold Out at hv
      exact hv.elim
    | octets _ =>
      unfold Out at hv
      exact hv.elim
    | wide _ =>
      unfold Out at hv
      exact hv.elim
theorem put_all {P : Program} {w : World} {K : PySem.W.Frag} {mg : PySem.Str → Option Value} {base : Heap} (T : Tx K mg base) : ∀ n : Nat, Ok P w K mg base (n + 3) "put_value" ["out", "value"] (sp_putV n)
  | 0 => by
    obtain ⟨f, fd, hm, F⟩ := (at_put_value T).ex
    have no : ∀ vs H Q E, ¬ sp_putV 0 vs H Q E := fun vs H Q E h => by
      obtain ⟨x, B, l, xs, rest, _, ⟨_, hd⟩, _⟩ := h
      have := depth_pos x
      omega
    exact ⟨f, fd, ⟨fun vs H Q E h => absurd h (no vs H Q E), fun A outer s H args us vs Q E _ _ _ _ h => absurd h (no vs H Q E)⟩, hm, F.kp, F.bindsN (ps := ["out", "value"]) fun _ _ _ _ _ _ us hl => match us, hl with | [_, _], _ => rfl⟩
  | n + 1 => step_put_value T (put_all T n)
def sp_put_value : Sp := sp_putV 32
theorem ok_put_value {P : Program} {w : World} {K : PySem.W.Frag} {mg : PySem.Str → Option Value} {base : Heap} (T : Tx K mg base) : Ok P w K mg base 40 "put_value" ["out", "value"] sp_put_value := (put_all T 32).mono (by decide)
/-- octets as a list of numbers -/
def BytesAt (H : Hp) (v : V) (l : RWire.Octets) : Prop := ∃ a, v = .ref a ∧ H a = some (.lst (l.map ob))
theorem bytes_up (l : RWire.Octets) (v : V) : Up fun H => BytesAt H v l := fun _ _ e ⟨a, h1, h2⟩ => ⟨a, h1, e _ _ h2⟩
def sp_returned : Sp := spB (fun (g : V × RWire.Value) vs H => vs = [g.1] ∧ Out H g.2 g.1 ∧ RWire.depth g.2 ≤ 32 ∧ (RWire.write g.2).length ≤ 80000) (fun g v H => BytesAt H v (0 :: RWire.write g.2))
theorem ok_returned {P : Program} {w : World} {K : PySem.W.Frag} {mg : PySem.Str → Option Value} {base : Heap} (T : Tx K mg base) : Ok P w K mg base 41 "returned" ["value"] (sp_returned) := by
  refine ok_of (at_returned T) sc_returned (fun _ _ _ _ _ _ us hl => match us, hl with | [_], _ => rfl) (fun vs H Q E h => ?_) (fun f cdv A outer s H vs Q E hr h => ?_)
  · obtain ⟨g, B, ⟨e, _⟩, _⟩ := h
    rw [e] <;> rfl
  · obtain ⟨⟨v, x⟩, B, ⟨rfl, hv, hd, hz⟩, eB, hQ⟩ := h
    (try dsimp only at hv)
    (try dsimp only at hd)
    (try dsimp only at hz)
    (try dsimp only at hQ)
    refine ⟨_, (pss_cons (ps_set (i := 1) sc_returned.nd rfl (Or.inl rfl) (pe_lst (pa_cons pe_int pa_nil)))
      (pss_cons (ps_expr (pe_ok (ok_put_value T) (hr.mono (by decide)) rfl (pa_cons (pv 1) (pa_cons (pv 0) pa_nil))))
      (pss_one (ps_ret (pv 1))))), ?_⟩
    refine s_asgL (el_lst (vs := [.int 0]) (ea_cons ev_c ea_nil) (by show 1 ≤ 100000; omega)) fun l H1 hl e1 h1 => ?_
    refine s_put x e1 hl h1 (ev_var rfl) (ea_cons (ev_var rfl) ea_nil) ⟨⟨v, rfl, Out.mono eB _ _ hv⟩, hd⟩ (by show 1 + _ ≤ 90000; omega) fun H2 e2 h2 => ?_
    exact s_ret (ev_var rfl) fun H3 e3 => hQ _ _ _ (((Kn.refl eB).up (e2.trans e3)).know hl (e3 _ _ h2)).toGr ⟨l, rfl, upd_same⟩
def sp_refused : Sp := spB (fun (g : Nat × PySem.Str) vs _ => vs = [ni g.1, .str g.2] ∧ g.1 < 256 ∧ (∀ c ∈ g.2.cps.toList, c < 256) ∧ g.2.length ≤ 200) (fun g v H => BytesAt H v (1 :: UInt8.ofNat g.1 :: RWire.writeText (octs g.2)))
theorem ok_refused {P : Program} {w : World} {K : PySem.W.Frag} {mg : PySem.Str → Option Value} {base : Heap} (T : Tx K mg base) : Ok P w K mg base 3 "refused" ["sort", "message"] (sp_refused) := by
  refine ok_of (at_refused T) sc_refused (fun _ _ _ _ _ _ us hl => match us, hl with | [_, _], _ => rfl) (fun vs H Q E h => ?_) (fun f cdv A outer s H vs Q E hr h => ?_)
  · obtain ⟨g, B, ⟨e, _⟩, _⟩ := h
    rw [e] <;> rfl
  · obtain ⟨⟨n, s'⟩, B, ⟨rfl, hn, hc, hz⟩, eB, hQ⟩ := h
    (try dsimp only at hn)
    (try dsimp only at hc)
    (try dsimp only at hz)
    (try dsimp only at hQ)
    refine ⟨_, (pss_cons (ps_set (i := 2) sc_refused.nd rfl (Or.inl rfl) (pe_lst (pa_cons pe_int (pa_cons (pv 0) pa_nil))))
      (pss_cons (ps_expr (pe_ok (ok_put_text T) (hr.mono (by decide)) rfl (pa_cons (pv 2) (pa_cons (pv 1) pa_nil))))
      (pss_one (ps_ret (pv 2))))), ?_⟩
    have hlen : (RWire.writeText (octs s')).length ≤ 204 := by
      unfold RWire.writeText RWire.writeCount octs
      rw [List.length_append, Pu.low_len, List.length_map]
      have : s'.cps.toList.length = s'.length := rfl
      omega
    refine s_asgL (el_lst (vs := [.int 1, ni n]) (ea_cons ev_c (ea_cons (ev_var rfl) ea_nil)) (by show 2 ≤ 100000; omega)) fun l H1 hl e1 h1 => ?_
    refine s_put s' e1 hl h1 (ev_var rfl) (ea_cons (ev_var rfl) ea_nil) ⟨rfl, hc⟩ (by show 2 + _ ≤ 90000; omega) fun H2 e2 h2 => ?_
    refine s_ret (ev_var rfl) fun H3 e3 => hQ _ _ _ (((Kn.refl eB).up (e2.trans e3)).know hl (e3 _ _ h2)).toGr ⟨l, rfl, ?_⟩
    have eo : ob (UInt8.ofNat n) = ni n := by
      show ni (UInt8.ofNat n).toNat = ni n
      rw [UInt8.toNat_ofNat', Nat.mod_eq_of_lt hn]
    rw [upd_same, List.map_cons, List.map_cons, eo]
    rfl
def sp_wrong_kind : Sp := spB (fun (s : PySem.Str) vs _ => vs = [.str s] ∧ (∀ c ∈ s.cps.toList, c < 256) ∧ s.length ≤ 200) (fun s v H => BytesAt H v (1 :: 1 :: RWire.writeText (octs s)))
theorem ok_wrong_kind {P : Program} {w : World} {K : PySem.W.Frag} {mg : PySem.Str → Option Value} {base : Heap} (T : Tx K mg base) : Ok P w K mg base 4 "wrong_kind" ["message"] (sp_wrong_kind) := by
  refine ok_of (at_wrong_kind T) sc_wrong_kind (fun _ _ _ _ _ _ us hl => match us, hl with | [_], _ => rfl) (fun vs H Q E h => ?_) (fun f cdv A outer s H vs Q E hr h => ?_)
  · obtain ⟨g, B, ⟨e, _⟩, _⟩ := h
    rw [e] <;> rfl
  · obtain ⟨s', B, ⟨rfl, hc, hz⟩, eB, hQ⟩ := h
    (try dsimp only at hc)
    (try dsimp only at hz)
    (try dsimp only at hQ)
    refine ⟨_, (pss_one (ps_ret (pe_ok (ok_refused T) (hr.mono (by decide)) rfl (pa_cons (pe_gi (g_WRONG_KIND T) rfl) (pa_cons (pv 0) pa_nil))))), ?_⟩
    exact s_retR eB (er_call (1, s') (ar_of (ea_cons ev_c (ea_cons (ev_var rfl) ea_nil)) fun H1 e1 => ⟨rfl, by show 1 < 256; omega, hc, hz⟩) (bytes_up _)) fun v B1 H1 g r => hQ v B1 H1 g r
def sp_out_of_range : Sp := spB (fun (s : PySem.Str) vs _ => vs = [.str s] ∧ (∀ c ∈ s.cps.toList, c < 256) ∧ s.length ≤ 200) (fun s v H => BytesAt H v (1 :: 2 :: RWire.writeText (octs s)))
theorem ok_out_of_range {P : Program} {w : World} {K : PySem.W.Frag} {mg : PySem.Str → Option Value} {base : Heap} (T : Tx K mg base) : Ok P w K mg base 4 "out_of_range" ["message"] (sp_out_of_range) := by
  refine ok_of (at_out_of_range T) sc_out_of_range (fun _ _ _ _ _ _ us hl => match us, hl with | [_], _ => rfl) (fun vs H Q E h => ?_) (fun f cdv A outer s H vs Q E hr h => ?_)
  · obtain ⟨g, B, ⟨e, _⟩, _⟩ := h
    rw [e] <;> rfl
  · obtain ⟨s', B, ⟨rfl, hc, hz⟩, eB, hQ⟩ := h
    (try dsimp only at hc)
    (try dsimp only at hz)
    (try dsimp only at hQ)
    refine ⟨_, (pss_one (ps_ret (pe_ok (ok_refused T) (hr.mono (by decide)) rfl (pa_cons (pe_gi (g_OUT_OF_RANGE T) rfl) (pa_cons (pv 0) pa_nil))))), ?_⟩
    exact s_retR eB (er_call (2, s') (ar_of (ea_cons ev_c (ea_cons (ev_var rfl) ea_nil)) fun H1 e1 => ⟨rfl, by show 2 < 256; omega, hc, hz⟩) (bytes_up _)) fun v B1 H1 g r => hQ v B1 H1 g r
end Cm
end PartF7
section PartF8
set_option Elab.async false
set_option linter.all false
set_option maxRecDepth 100000
set_option maxHeartbeats 4000000
namespace Cm
open PySem PySem.Spec PyProof.Rows L2 Evl
open Pu (nb wholeB belowB natsOf natOf natListB listOf pairB pairsB lineB linesB rowOf rowsOf)
/-! ### values that are handed in -/
mutual
def Rep (H : Hp) : RWire.Value → V → Prop
  | .nothing, v => TupAt H v [.int 0, .int 0]
  | .null, v => TupAt H v [.int 1, .int 0]
  | .bool b, v => TupAt H v [.int (if b then 3 else 2), .int 0]
  | .int i, v => TupAt H v [.int 4, .int i]
  | .big i, v => TupAt H v [.int 5, .int i]
  | .text _, v => ∃ c, TupAt H v [.int 6, c]
  | .list l, v => ∃ a vs, TupAt H v [.int 7, .ref a] ∧ H a = some (.lst vs) ∧ RepAll H l vs
  | .record _, v => ∃ c, TupAt H v [.int 8, c]
  | .octets _, _ => False
  | .wide _, _ => False
def RepAll (H : Hp) : List RWire.Value → List V → Prop
  | [], vs => vs = []
  | x :: r, vs => ∃ y ys, vs = y :: ys ∧ Rep H x y ∧ RepAll H r ys
end
mutual
theorem Rep.mono {H H' : Hp} (e : Ex H H') : ∀ (x : RWire.Value) (v : V), Rep H x v → Rep H' x v
  | .nothing, v, h => by unfold Rep at h ⊢; exact h.mono e
  | .null, v, h => by unfold Rep at h ⊢; exact h.mono e
  | .bool b, v, h => by unfold Rep at h ⊢; exact h.mono e
  | .int i, v, h => by unfold Rep at h ⊢; exact h.mono e
  | .big i, v, h => by unfold Rep at h ⊢; exact h.mono e
  | .text _, v, h => by
    unfold Rep at h ⊢
    obtain ⟨c, h1⟩ := h
    exact ⟨c, h1.mono e⟩
  | .list l, v, h => by
    unfold Rep at h ⊢
    obtain ⟨a, vs, h1, h2, h3⟩ := h
    exact ⟨a, vs, h1.mono e, e _ _ h2, RepAll.mono e l vs h3⟩
  | .record _, v, h => by
    unfold Rep at h ⊢
    obtain ⟨c, h1⟩ := h
    exact ⟨c, h1.mono e⟩
  | .octets _, v, h => by unfold Rep at h; exact h.elim
  | .wide _, v, h => by unfold Rep at h; exact h.elim
theorem RepAll.mono {H H' : Hp} (e : Ex H H') : ∀ (l : List RWire.Value) (vs : List V), RepAll H l vs → RepAll H' l vs
  | [], vs, h => by unfold RepAll at h ⊢; exact h
  | x :: r, vs, h => by
    unfold RepAll at h ⊢
    obtain ⟨y, ys, h1, h2, h3⟩ := h
    exact ⟨y, ys, h1, Rep.mono e x y h2, RepAll.mono e r ys h3⟩
end
theorem rep_up (x : RWire.Value) (v : V) : Up fun H => Rep H x v := fun _ _ e h => Rep.mono e x v h
theorem repAll_at {H : Hp} : ∀ {l : List RWire.Value} {vs : List V}, RepAll H l vs → vs.length = l.length ∧ ∀ (i : Nat) (y : V), vs[i]? = some y → ∃ x, l[i]? = some x ∧ Rep H x y
  | [], vs, h => by
    unfold RepAll at h
    subst h
    exact ⟨rfl, fun i y q => by simp at q⟩
  | x :: l, vs, h => by
    unfold RepAll at h
    obtain ⟨y, ys, rfl, h1, h2⟩ := h
    obtain ⟨a, b⟩ := repAll_at h2
    refine ⟨by simp [a], fun i z q => ?_⟩
    cases i with
    | zero =>
      cases q
      exact ⟨x, rfl, h1⟩
    | succ i =>
      obtain ⟨x', q1, q2⟩ := b i z (by simpa using q)
      exact ⟨x', by simpa using q1, q2⟩
theorem repAll_of {H : Hp} : ∀ (l : List RWire.Value) (ys : List V), ys.length = l.length → (∀ (k : Nat) (y : V), ys[k]? = some y → ∃ x, l[k]? = some x ∧ Rep H x y) → RepAll H l ys
  | [], ys, h, _ => by
    unfold RepAll
    exact List.length_eq_zero_iff.mp h
  | x :: l, [], h, _ => by simp at h
  | x :: l, y :: ys, h, f => by
    unfold RepAll
    refine ⟨y, ys, rfl, ?_, repAll_of l ys (by simpa using h) fun k z hz => ?_⟩
    · obtain ⟨x', h1, h2⟩ := f 0 y rfl
      cases h1
      exact h2
    · obtain ⟨x', h1, h2⟩ := f (k + 1) z (by simpa using hz)
      exact ⟨x', by simpa using h1, h2⟩
def RepL (H : Hp) (l : List RWire.Value) (v : V) : Prop := ∃ a vs, v = .ref a ∧ H a = some (.lst vs) ∧ RepAll H l vs
theorem RepL.mono {H H' : Hp} {l : List RWire.Value} {v : V} (h : RepL H l v) (e : Ex H H') : RepL H' l v := by
  obtain ⟨a, vs, h1, h2, h3⟩ := h
  exact ⟨a, vs, h1, e _ _ h2, RepAll.mono e _ _ h3⟩
def kindOf : RWire.Value → Int
  | .nothing => 0
  | .null => 1
  | .bool b => if b then 3 else 2
  | .int _ => 4
  | .big _ => 5
  | .text _ => 6
  | .list _ => 7
  | .record _ => 8
  | .octets _ => 10
  | .wide _ => 11
theorem rep_kind {H : Hp} : ∀ {x : RWire.Value} {v : V}, Rep H x v → ∃ t c, v = .ref t ∧ H t = some (.tup [.int (kindOf x), c])
  | .nothing, v, h => by
    unfold Rep at h
    obtain ⟨t, h1, h2⟩ := h
    exact ⟨t, _, h1, h2⟩
  | .null, v, h => by
    unfold Rep at h
    obtain ⟨t, h1, h2⟩ := h
    exact ⟨t, _, h1, h2⟩
  | .bool b, v, h => by
    unfold Rep at h
    obtain ⟨t, h1, h2⟩ := h
    exact ⟨t, _, h1, h2⟩
  | .int i, v, h => by
    unfold Rep at h
    obtain ⟨t, h1, h2⟩ := h
    exact ⟨t, _, h1, h2⟩
  | .big i, v, h => by
    unfold Rep at h
    obtain ⟨t, h1, h2⟩ := h
    exact ⟨t, _, h1, h2⟩
  | .text _, v, h => by
    unfold Rep at h
    obtain ⟨c, t, h1, h2⟩ := h
    exact ⟨t, _, h1, h2⟩
  | .list l, v, h => by
    unfold Rep at h
    obtain ⟨a, vs, ⟨t, h1, h2⟩, _⟩ := h
    exact ⟨t, _, h1, h2⟩
  | .record _, v, h => by
    unfold Rep at h
    obtain ⟨c, t, h1, h2⟩ := h
    exact ⟨t, _, h1, h2⟩
  | .octets _, v, h => by unfold Rep at h; exact h.elim
  | .wide _, v, h => by unfold Rep at h; exact h.elim
theorem rep_int {H : Hp} {i : Int} {v : V} (h : Rep H (.int i) v) : ∃ t, v = .ref t ∧ H t = some (.tup [.int 4, .int i]) := by
  unfold Rep at h
  exact h
theorem rep_big {H : Hp} {i : Int} {v : V} (h : Rep H (.big i) v) : ∃ t, v = .ref t ∧ H t = some (.tup [.int 5, .int i]) := by
  unfold Rep at h
  exact h
theorem rep_list {H : Hp} {l : List RWire.Value} {v : V} (h : Rep H (.list l) v) : ∃ t a vs, v = .ref t ∧ H t = some (.tup [.int 7, .ref a]) ∧ H a = some (.lst vs) ∧ RepAll H l vs := by
  unfold Rep at h
  obtain ⟨a, vs, ⟨t, h1, h2⟩, h3, h4⟩ := h
  exact ⟨t, a, vs, h1, h2, h3, h4⟩
section
variable {K : PySem.W.Frag} {σ : L2.St} {H : Hp} {ta tb te : TE} {v c : V} {x : RWire.Value} {t : Addr}
theorem ev_tup0 {k : V} (ha : Ev ta σ H (.ref t)) (h : H t = some (.tup [k, c])) : Ev (tOp (rIxT K) ta (tC (.int 0))) σ H k := ev_op ha ev_c (rv_ixT (st_of h) (atI_nat (j := 0) rfl))
theorem ev_tup1 {k : V} (ha : Ev ta σ H (.ref t)) (h : H t = some (.tup [k, c])) : Ev (tOp (rIxT K) ta (tC (.int 1))) σ H c := ev_op ha ev_c (rv_ixT (st_of h) (atI_nat (j := 1) rfl))
/-- value[0] == KIND -/
theorem ev_isKind {k : Int} (ha : Ev ta σ H v) (h : Rep H x v) : Ev (tOp rEq (tOp (rIxT K) ta (tC (.int 0))) (tC (.int k))) σ H (.bl (decide (kindOf x = k))) := by
  obtain ⟨t, c, rfl, h2⟩ := rep_kind h
  refine ev_is (ev_op (ev_tup0 ha h2) ev_c (rv_eq rfl)) (congrArg V.bl ?_)
  by_cases e : kindOf x = k
  · rw [e]
    simp
  · rw [decide_eq_false e]
    exact decide_eq_false fun z => e (V.int.inj z)
end
theorem kind_int {x : RWire.Value} (h : kindOf x = 4) : ∃ i, x = .int i := by
  cases x with
  | int i => exact ⟨i, rfl⟩
  | bool b => cases b <;> simp [kindOf] at h
  | _ => simp [kindOf] at h
theorem kind_list {x : RWire.Value} (h : kindOf x = 7) : ∃ l, x = .list l := by
  cases x with
  | list l => exact ⟨l, rfl⟩
  | bool b => cases b <;> simp [kindOf] at h
  | _ => simp [kindOf] at h
def sp_is_whole : Sp := spG (fun (g : V × RWire.Value × Int × Int) vs H => vs = [g.1, .int g.2.2.1, .int g.2.2.2] ∧ Rep H g.2.1 g.1) (fun g => .bl (wholeB g.2.1 g.2.2.1 g.2.2.2))
theorem ok_is_whole {P : Program} {w : World} {K : PySem.W.Frag} {mg : PySem.Str → Option Value} {base : Heap} (T : Tx K mg base) : Ok P w K mg base 1 "is_whole" ["value", "least", "most"] (sp_is_whole) := by
  refine ok_of (at_is_whole T) sc_is_whole (fun _ _ _ _ _ _ us hl => match us, hl with | [_, _, _], _ => rfl) (fun vs H Q E h => ?_) (fun f cdv A outer s H vs Q E hr h => ?_)
  · obtain ⟨g, ⟨e, _⟩, _⟩ := h
    rw [e] <;> rfl
  · obtain ⟨⟨v, x, lo, hi⟩, ⟨rfl, hv⟩, hQ⟩ := h
    (try dsimp only at hi)
    (try dsimp only at hv)
    (try dsimp only at hQ)
    refine ⟨_, (pss_one (ps_ret (pe_and (pe_cmpR op_eq (pe_ix ix_tup (pv 0) pe_int (fun _ _ => rfl)) (pe_gi (g_INTEGER T) rfl) (nomark _)) (pe_and (pe_cmpR op_le (pv 1) (pe_ix ix_tup (pv 0) pe_int (fun _ _ => rfl)) (nomark _)) (pe_one (pe_cmpR op_le (pe_ix ix_tup (pv 0) pe_int (fun _ _ => rfl)) (pv 2) (nomark _))))))), ?_⟩
    by_cases c : kindOf x = 4
    · obtain ⟨i, rfl⟩ := kind_int c
      obtain ⟨t, rfl, ht⟩ := rep_int hv
      refine s_ret (v := .bl (true && (decide (lo ≤ i) && decide (i ≤ hi)))) (ev_andV (ev_is (ev_isKind (ev_var rfl) hv) rfl) fun _ => ev_andV (ev_op (ev_var rfl) (ev_tup1 (ev_var rfl) ht) (rv_I0 (g := fun i j => .bl (decide (i ≤ j))))) fun _ => (ev_op (ev_tup1 (ev_var rfl) ht) (ev_var rfl) (rv_I0 (g := fun i j => .bl (decide (i ≤ j)))))) fun H1 e => hQ H1 e
    · have e : wholeB x lo hi = false := by
        cases x with
        | int i => exact absurd rfl c
        | _ => rfl
      rw [e] at hQ
      refine s_ret (v := .bl (false && true)) (ev_andV (ev_is (ev_isKind (ev_var rfl) hv) (congrArg V.bl (decide_eq_false c))) fun z => by cases z) fun H1 e => hQ H1 e
theorem ev_whole {σ : L2.St} {H : Hp} {ta tb tc : TE} {v : V} {x : RWire.Value} {lo hi : Int} (h : Rep H x v) (ha : Ev ta σ H v) (hb : Ev tb σ H (.int lo)) (hc : Ev tc σ H (.int hi)) : Ev (tCall sp_is_whole [] E0 (tCons ta (tCons tb (tCons tc tNil)))) σ H (.bl (wholeB x lo hi)) :=
  ev_callG (v, x, lo, hi) (ea_cons ha (ea_cons hb (ea_cons hc ea_nil))) fun _ e => ⟨rfl, Rep.mono e _ _ h⟩
def sp_are_below : Sp := spG (fun (g : V × List RWire.Value × Nat) vs H => vs = [g.1, ni g.2.2] ∧ RepL H g.2.1 g.1) (fun g => .bl (g.2.1.all (belowB g.2.2)))
theorem ok_are_below {P : Program} {w : World} {K : PySem.W.Frag} {mg : PySem.Str → Option Value} {base : Heap} (T : Tx K mg base) : Ok P w K mg base 2 "are_below" ["values", "size"] (sp_are_below) := by
  refine ok_of (at_are_below T) sc_are_below (fun _ _ _ _ _ _ us hl => match us, hl with | [_, _], _ => rfl) (fun vs H Q E h => ?_) (fun f cdv A outer s H vs Q E hr h => ?_)
  · obtain ⟨g, ⟨e, _⟩, _⟩ := h
    rw [e] <;> rfl
  · obtain ⟨⟨_, l, n⟩, ⟨rfl, a, vs, rfl, ha, hl⟩, hQ⟩ := h
    (try dsimp only at ha)
    (try dsimp only at hl)
    (try dsimp only at hQ)
    refine ⟨_, (pss_cons (ps_for PassesOwn.never rfl (pi_list (pv 0)) (pg_name (i := 2) sc_are_below.nd rfl (Or.inl rfl)) (pss_one (ps_if (pt_not (pt_val (pe_ok (ok_is_whole T) (hr.mono (by decide)) rfl (pa_cons (pv 2) (pa_cons pe_int (pa_cons (pe_op op_sub (pv 1) pe_int) pa_nil)))))) (pss_one (ps_ret pe_bl)) pss_nil)))
      (pss_one (ps_ret pe_bl))), ?_⟩
    obtain ⟨hlen, hat⟩ := repAll_at hl
    refine s_forLst (a := a) (xs := vs) (ev_var rfl) (sq_of ha) (fun i σ H' => ∃ z, σ = [some (.ref a), some (ni n), z] ∧ Ex H H' ∧ (l.take i).all (belowB n) = true) (fun H2 e2 => ⟨none, rfl, e2, rfl⟩) (fun i σ' H' _ ⟨_, _, e, _⟩ => sq_of (e _ _ ha)) ?_ ?_
    · rintro i v σ' H' hv ⟨_, rfl, e, hi⟩
      obtain ⟨x, hx, hxr⟩ := hat i v hv
      refine s_if (b := !belowB n x) (et_not (et_B (ev_is (ev_whole (lo := 0) (hi := (n : Int) - 1) (Rep.mono e _ _ hxr) (ev_var rfl) ev_c (ev_op (ev_var rfl) ev_c (rv_I0 (g := fun i j => .int (i - j))))) (by rw [Pu.nb_whole]; rfl)))) (fun c H3 e3 => ?_) (fun c H3 e3 => ?_)
      · refine s_ret ev_c fun H4 e4 => ?_
        have q := hQ H4 (e.trans (e3.trans e4))
        have z : l.all (belowB n) = false := by
          rw [List.all_eq_false]
          exact ⟨x, List.mem_of_getElem? hx, by simpa using c⟩
        rw [z] at q
        exact q
      · refine ⟨_, rfl, e.trans e3, ?_⟩
        rw [Pu.take_more hx, List.all_append, hi]
        simpa using c
    · rintro σ' H' ⟨_, rfl, e, hi⟩
      rw [hlen, List.take_length] at hi
      dsimp only
      refine s_ret ev_c fun H4 e4 => ?_
      have q := hQ H4 (e.trans e4)
      rw [hi] at q
      exact q
section
variable {K : PySem.W.Frag} {σ : L2.St} {H : Hp} {ta tb te : TE} {v : V} {x : RWire.Value} {l : List RWire.Value} {n : Nat}
theorem ev_below (h : RepL H l v) (ha : Ev ta σ H v) (hb : Ev tb σ H (ni n)) : Ev (tCall sp_are_below [] E0 (tCons ta (tCons tb tNil))) σ H (.bl (l.all (belowB n))) :=
  ev_callG (v, l, n) (ea_cons ha (ea_cons hb ea_nil)) fun _ e => ⟨rfl, h.mono e⟩
theorem ev_lenN2 {a : Addr} {vs : List V} (ha : Ev ta σ H (.ref a)) (h : H a = some (.lst vs)) (hl : vs.length = n) : Ev (tCB (rLenS K) (tCons ta tNil)) σ H (ni n) := ev_is (ev_len ha (sq_of h)) (by rw [hl])
end
def isBig : RWire.Value → Bool
  | .big _ => true
  | _ => false
def sp_is_set : Sp := spG (fun (g : V × RWire.Value) vs H => vs = [g.1] ∧ Rep H g.2 g.1) (fun g => .bl (isBig g.2))
theorem ok_is_set {P : Program} {w : World} {K : PySem.W.Frag} {mg : PySem.Str → Option Value} {base : Heap} (T : Tx K mg base) : Ok P w K mg base 1 "is_set" ["value"] (sp_is_set) := by
  refine ok_of (at_is_set T) sc_is_set (fun _ _ _ _ _ _ us hl => match us, hl with | [_], _ => rfl) (fun vs H Q E h => ?_) (fun f cdv A outer s H vs Q E hr h => ?_)
  · obtain ⟨g, ⟨e, _⟩, _⟩ := h
    rw [e] <;> rfl
  · obtain ⟨⟨v, x⟩, ⟨rfl, hv⟩, hQ⟩ := h
    (try dsimp only at hv)
    (try dsimp only at hQ)
    refine ⟨_, (pss_one (ps_ret (pe_cmpR op_eq (pe_ix ix_tup (pv 0) pe_int (fun _ _ => rfl)) (pe_gi (g_GREAT T) rfl) (nomark _)))), ?_⟩
    refine s_ret (ev_is (ev_isKind (k := 5) (ev_var rfl) hv) (congrArg V.bl ?_)) fun H1 e => hQ H1 e
    cases x with
    | bool b => cases b <;> rfl
    | _ => rfl
def sp_set_of (K : PySem.W.Frag) : Sp := spG (fun (g : V × Po × V × Int) vs H => vs = [g.1, g.2.2.1] ∧ OrdAt K H g.1 g.2.1 ∧ Rep H (.big g.2.2.2) g.2.2.1) (fun g => ni (g.2.2.2 % (2 ^ g.2.1.size : Int)).toNat)
theorem ok_set_of {P : Program} {w : World} {K : PySem.W.Frag} {mg : PySem.Str → Option Value} {base : Heap} (T : Tx K mg base) : Ok P w K mg base 1 "set_of" ["order", "value"] (sp_set_of K) := by
  refine ok_of (at_set_of T) sc_set_of (fun _ _ _ _ _ _ us hl => match us, hl with | [_, _], _ => rfl) (fun vs H Q E h => ?_) (fun f cdv A outer s H vs Q E hr h => ?_)
  · obtain ⟨g, ⟨e, _⟩, _⟩ := h
    rw [e] <;> rfl
  · obtain ⟨⟨o, p, v, i⟩, ⟨rfl, ho, hv⟩, hQ⟩ := h
    (try dsimp only at ho)
    (try dsimp only at hv)
    (try dsimp only at hQ)
    refine ⟨_, (pss_one (ps_ret (pe_op op_mod (pe_ix ix_tup (pv 1) pe_int (fun _ _ => rfl)) (pe_op op_shl pe_int (pe_fld (pv 0) rfl))))), ?_⟩
    obtain ⟨t, rfl, ht⟩ := rep_big hv
    have h10 := ho.wf.le10
    have hp : (0 : Int) < ((2 ^ p.size : Nat) : Int) := by
      have := Nat.two_pow_pos p.size
      omega
    refine s_ret (ev_is (ev_op (ev_tup1 (ev_var rfl) ht) (ev_shl1 (ev_size T ho (ev_var rfl)) (by omega)) (rv_I (g := fun i j => .int (i % j)) hp)) (congrArg V.int ?_)) fun H1 e => hQ H1 e
    have e : ((2 ^ p.size : Nat) : Int) = (2 ^ p.size : Int) := by simp
    rw [e] at hp ⊢
    exact (Int.toNat_of_nonneg (Int.emod_nonneg _ (by omega))).symm
def sp_is_pair : Sp := spG (fun (g : V × RWire.Value × Nat) vs H => vs = [g.1, ni g.2.2] ∧ Rep H g.2.1 g.1) (fun g => .bl (pairB g.2.2 g.2.1))
theorem ok_is_pair {P : Program} {w : World} {K : PySem.W.Frag} {mg : PySem.Str → Option Value} {base : Heap} (T : Tx K mg base) : Ok P w K mg base 3 "is_pair" ["value", "size"] (sp_is_pair) := by
  refine ok_of (at_is_pair T) sc_is_pair (fun _ _ _ _ _ _ us hl => match us, hl with | [_, _], _ => rfl) (fun vs H Q E h => ?_) (fun f cdv A outer s H vs Q E hr h => ?_)
  · obtain ⟨g, ⟨e, _⟩, _⟩ := h
    rw [e] <;> rfl
  · obtain ⟨⟨v, x, n⟩, ⟨rfl, hv⟩, hQ⟩ := h
    (try dsimp only at hv)
    (try dsimp only at hQ)
    refine ⟨_, (pss_one (ps_ret (pe_and (pe_cmpR op_eq (pe_ix ix_tup (pv 0) pe_int (fun _ _ => rfl)) (pe_gi (g_LIST T) rfl) (nomark _)) (pe_and (pe_cmpR op_eq (pe_callB call_len_seq (by rfl) T.n_len PySem.boot_len (pa_cons (pe_ix ix_tup (pv 0) pe_int (fun _ _ => rfl)) pa_nil)) pe_int (nomark _)) (pe_one (pe_ok (ok_are_below T) (hr.mono (by decide)) rfl (pa_cons (pe_ix ix_tup (pv 0) pe_int (fun _ _ => rfl)) (pa_cons (pv 1) pa_nil)))))))), ?_⟩
    by_cases c : kindOf x = 7
    · obtain ⟨l, rfl⟩ := kind_list c
      obtain ⟨t, a, vs, rfl, ht, ha, hl⟩ := rep_list hv
      refine s_ret (v := .bl (true && (decide (l.length = 2) && l.all (belowB n)))) (ev_andV (ev_is (ev_isKind (ev_var rfl) hv) rfl) fun _ => ev_andV (ev_eqN (b := 2) (ev_lenN2 (ev_tup1 (ev_var rfl) ht) ha (repAll_at hl).1) ev_c) fun _ => ev_below ⟨a, vs, rfl, ha, hl⟩ (ev_tup1 (ev_var rfl) ht) (ev_var rfl)) fun H1 e => hQ H1 e
    · have e : pairB n x = false := by
        cases x with
        | list l => exact absurd rfl c
        | _ => rfl
      rw [e] at hQ
      exact s_ret (v := .bl (false && true)) (ev_andV (ev_is (ev_isKind (ev_var rfl) hv) (congrArg V.bl (decide_eq_false c))) fun z => by cases z) fun H1 e => hQ H1 e
def sp_is_images : Sp := spG (fun (g : V × RWire.Value × Nat × Nat) vs H => vs = [g.1, ni g.2.2.1, ni g.2.2.2] ∧ Rep H g.2.1 g.1) (fun g => .bl (natListB g.2.2.2 (fun k => decide (k = g.2.2.1)) g.2.1))
theorem ok_is_images {P : Program} {w : World} {K : PySem.W.Frag} {mg : PySem.Str → Option Value} {base : Heap} (T : Tx K mg base) : Ok P w K mg base 3 "is_images" ["value", "size", "target_size"] (sp_is_images) := by
  refine ok_of (at_is_images T) sc_is_images (fun _ _ _ _ _ _ us hl => match us, hl with | [_, _, _], _ => rfl) (fun vs H Q E h => ?_) (fun f cdv A outer s H vs Q E hr h => ?_)
  · obtain ⟨g, ⟨e, _⟩, _⟩ := h
    rw [e] <;> rfl
  · obtain ⟨⟨v, x, n, m⟩, ⟨rfl, hv⟩, hQ⟩ := h
    (try dsimp only at hv)
    (try dsimp only at hQ)
    refine ⟨_, (pss_one (ps_ret (pe_and (pe_cmpR op_eq (pe_ix ix_tup (pv 0) pe_int (fun _ _ => rfl)) (pe_gi (g_LIST T) rfl) (nomark _)) (pe_and (pe_cmpR op_eq (pe_callB call_len_seq (by rfl) T.n_len PySem.boot_len (pa_cons (pe_ix ix_tup (pv 0) pe_int (fun _ _ => rfl)) pa_nil)) (pv 1) (nomark _)) (pe_one (pe_ok (ok_are_below T) (hr.mono (by decide)) rfl (pa_cons (pe_ix ix_tup (pv 0) pe_int (fun _ _ => rfl)) (pa_cons (pv 2) pa_nil)))))))), ?_⟩
    by_cases c : kindOf x = 7
    · obtain ⟨l, rfl⟩ := kind_list c
      obtain ⟨t, a, vs, rfl, ht, ha, hl⟩ := rep_list hv
      refine s_ret (v := .bl (true && (decide (l.length = n) && l.all (belowB m)))) (ev_andV (ev_is (ev_isKind (ev_var rfl) hv) rfl) fun _ => ev_andV (ev_eqN (b := n) (ev_lenN2 (ev_tup1 (ev_var rfl) ht) ha (repAll_at hl).1) (ev_var rfl)) fun _ => ev_below ⟨a, vs, rfl, ha, hl⟩ (ev_tup1 (ev_var rfl) ht) (ev_var rfl)) fun H1 e => hQ H1 e
    · have e : natListB m (fun k => decide (k = n)) x = false := by
        cases x with
        | list l => exact absurd rfl c
        | _ => rfl
      rw [e] at hQ
      exact s_ret (v := .bl (false && true)) (ev_andV (ev_is (ev_isKind (ev_var rfl) hv) (congrArg V.bl (decide_eq_false c))) fun z => by cases z) fun H1 e => hQ H1 e
theorem ev_leN {σ : L2.St} {H : Hp} {ta tb : TE} {a b : Nat} (ha : Ev ta σ H (ni a)) (hb : Ev tb σ H (ni b)) : Ev (tOp (rI0 fun i j => .bl (decide (i ≤ j))) ta tb) σ H (.bl (decide (a ≤ b))) :=
  ev_is (ev_op ha hb (rv_I0 (g := fun i j => .bl (decide (i ≤ j))))) (congrArg V.bl (by
    by_cases c : a ≤ b
    · rw [decide_eq_true c]
      exact decide_eq_true (by omega)
    · rw [decide_eq_false c]
      exact decide_eq_false (by omega)))
theorem ev_gtN {σ : L2.St} {H : Hp} {ta tb : TE} {a b : Nat} (ha : Ev ta σ H (ni a)) (hb : Ev tb σ H (ni b)) : Ev (tOp (rI0 fun i j => .bl (decide (j < i))) ta tb) σ H (.bl (!decide (a ≤ b))) :=
  ev_is (ev_op ha hb (rv_I0 (g := fun i j => .bl (decide (j < i))))) (congrArg V.bl (by
    by_cases c : a ≤ b
    · rw [decide_eq_true c]
      exact decide_eq_false (by omega)
    · rw [decide_eq_false c]
      exact decide_eq_true (by omega)))
def sp_is_cuts : Sp := spG (fun (g : V × RWire.Value × Nat) vs H => vs = [g.1, ni g.2.2] ∧ Rep H g.2.1 g.1) (fun g => .bl (natListB g.2.2 (fun k => decide (k ≤ 20)) g.2.1))
theorem ok_is_cuts {P : Program} {w : World} {K : PySem.W.Frag} {mg : PySem.Str → Option Value} {base : Heap} (T : Tx K mg base) : Ok P w K mg base 3 "is_cuts" ["value", "many"] (sp_is_cuts) := by
  refine ok_of (at_is_cuts T) sc_is_cuts (fun _ _ _ _ _ _ us hl => match us, hl with | [_, _], _ => rfl) (fun vs H Q E h => ?_) (fun f cdv A outer s H vs Q E hr h => ?_)
  · obtain ⟨g, ⟨e, _⟩, _⟩ := h
    rw [e] <;> rfl
  · obtain ⟨⟨v, x, m⟩, ⟨rfl, hv⟩, hQ⟩ := h
    (try dsimp only at hv)
    (try dsimp only at hQ)
    refine ⟨_, (pss_one (ps_ret (pe_and (pe_cmpR op_eq (pe_ix ix_tup (pv 0) pe_int (fun _ _ => rfl)) (pe_gi (g_LIST T) rfl) (nomark _)) (pe_and (pe_cmpR op_le (pe_callB call_len_seq (by rfl) T.n_len PySem.boot_len (pa_cons (pe_ix ix_tup (pv 0) pe_int (fun _ _ => rfl)) pa_nil)) (pe_gi (g_MOST_CUTS T) rfl) (nomark _)) (pe_one (pe_ok (ok_are_below T) (hr.mono (by decide)) rfl (pa_cons (pe_ix ix_tup (pv 0) pe_int (fun _ _ => rfl)) (pa_cons (pv 1) pa_nil)))))))), ?_⟩
    by_cases c : kindOf x = 7
    · obtain ⟨l, rfl⟩ := kind_list c
      obtain ⟨t, a, vs, rfl, ht, ha, hl⟩ := rep_list hv
      refine s_ret (v := .bl (true && (decide (l.length ≤ 20) && l.all (belowB m)))) (ev_andV (ev_is (ev_isKind (ev_var rfl) hv) rfl) fun _ => ev_andV (ev_leN (b := 20) (ev_lenN2 (ev_tup1 (ev_var rfl) ht) ha (repAll_at hl).1) ev_c) fun _ => ev_below ⟨a, vs, rfl, ha, hl⟩ (ev_tup1 (ev_var rfl) ht) (ev_var rfl)) fun H1 e => hQ H1 e
    · have e : natListB m (fun k => decide (k ≤ 20)) x = false := by
        cases x with
        | list l => exact absurd rfl c
        | _ => rfl
      rw [e] at hQ
      exact s_ret (v := .bl (false && true)) (ev_andV (ev_is (ev_isKind (ev_var rfl) hv) (congrArg V.bl (decide_eq_false c))) fun z => by cases z) fun H1 e => hQ H1 e
/-- a for over parts, that leaves with False -/
theorem s_allParts {K : PySem.W.Frag} {σ : L2.St} {H : Hp} {D : Ends} {tl : TE} {t : TT} {j : Nat} {l : List RWire.Value} {a : Addr} {vs : List V} (f : RWire.Value → Bool) (h : Ev tl σ H (.ref a)) (ha : H a = some (.lst vs)) (hl : RepAll H l vs) (hj : ∃ x, σ = σ.set j x)
    (ht : ∀ y x z H1, Ex H H1 → Rep H1 x y → EvT t ((σ.set j z).set j (some y)) H1 (f x)) (hr : l.all f = false → ∀ H1, Ex H H1 → D.rt (.bl false) H1) (hd : l.all f = true → ∀ z H1, Ex H H1 → D.nx (σ.set j z) H1) :
    tFor (iList K tl) (gName j) (tIfS (tNot t) (tRet (tC (.bl false))) tNext) D σ H := by
  obtain ⟨hlen, hat⟩ := repAll_at hl
  refine s_forLst (a := a) (xs := vs) h (sq_of ha) (fun i σ' H' => ∃ z, σ' = σ.set j z ∧ Ex H H' ∧ (l.take i).all f = true) (fun H2 e2 => ?_) (fun i σ' H' _ ⟨_, _, e, _⟩ => sq_of (e _ _ ha)) ?_ ?_
  · obtain ⟨x, hx⟩ := hj
    exact ⟨x, hx, e2, rfl⟩
  · rintro i v σ' H' hv ⟨z, rfl, e, hi⟩
    obtain ⟨x, hx, hxr⟩ := hat i v hv
    refine s_if (b := !f x) (et_not (ht v x z H' e (Rep.mono e _ _ hxr))) (fun c H3 e3 => ?_) (fun c H3 e3 => ?_)
    · refine hr ?_ H3 (e.trans e3)
      rw [List.all_eq_false]
      exact ⟨x, List.mem_of_getElem? hx, by simpa using c⟩
    · refine ⟨some v, by rw [List.set_set], e.trans e3, ?_⟩
      rw [Pu.take_more hx, List.all_append, hi]
      simpa using c
  · rintro σ' H' ⟨z, rfl, e, hi⟩
    rw [hlen, List.take_length] at hi
    exact hd hi z H' e
def sp_is_pairs : Sp := spG (fun (g : V × RWire.Value × Nat) vs H => vs = [g.1, ni g.2.2] ∧ Rep H g.2.1 g.1) (fun g => .bl (pairsB g.2.2 g.2.1))
theorem ev_neK {K : PySem.W.Frag} {σ : L2.St} {H : Hp} {ta : TE} {v : V} {x : RWire.Value} {k : Int} (ha : Ev ta σ H v) (h : Rep H x v) : Ev (tOp rNe (tOp (rIxT K) ta (tC (.int 0))) (tC (.int k))) σ H (.bl (!decide (kindOf x = k))) := by
  obtain ⟨t, c, rfl, h2⟩ := rep_kind h
  refine ev_is (ev_op (ev_tup0 ha h2) ev_c (rv_ne rfl)) (congrArg V.bl ?_)
  by_cases e : kindOf x = k
  · rw [e]
    simp
  · rw [decide_eq_false e]
    exact congrArg Bool.not (decide_eq_false fun z => e (V.int.inj z))
theorem ok_is_pairs {P : Program} {w : World} {K : PySem.W.Frag} {mg : PySem.Str → Option Value} {base : Heap} (T : Tx K mg base) : Ok P w K mg base 4 "is_pairs" ["value", "size"] (sp_is_pairs) := by
  refine ok_of (at_is_pairs T) sc_is_pairs (fun _ _ _ _ _ _ us hl => match us, hl with | [_, _], _ => rfl) (fun vs H Q E h => ?_) (fun f cdv A outer s H vs Q E hr h => ?_)
  · obtain ⟨g, ⟨e, _⟩, _⟩ := h
    rw [e] <;> rfl
  · obtain ⟨⟨v, x, n⟩, ⟨rfl, hv⟩, hQ⟩ := h
    (try dsimp only at hv)
    (try dsimp only at hQ)
    refine ⟨_, (pss_cons (ps_if (PW.pt (pw_or (pt_cmpR op_ne (pe_ix ix_tup (pv 0) pe_int (fun _ _ => rfl)) (pe_gi (g_LIST T) rfl) (nomark _)) (pw_or1 (pt_cmpR op_gt (pe_callB call_len_seq (by rfl) T.n_len PySem.boot_len (pa_cons (pe_ix ix_tup (pv 0) pe_int (fun _ _ => rfl)) pa_nil)) (pe_gi (g_MOST_PAIRS T) rfl) (nomark _))))) (pss_one (ps_ret pe_bl)) pss_nil)
      (pss_cons (ps_for PassesOwn.never rfl (pi_list (pe_ix ix_tup (pv 0) pe_int (fun _ _ => rfl))) (pg_name (i := 2) sc_is_pairs.nd rfl (Or.inl rfl)) (pss_one (ps_if (pt_not (pt_val (pe_ok (ok_is_pair T) (hr.mono (by decide)) rfl (pa_cons (pv 2) (pa_cons (pv 1) pa_nil))))) (pss_one (ps_ret pe_bl)) pss_nil)))
      (pss_one (ps_ret pe_bl)))), ?_⟩
    by_cases c : kindOf x = 7
    · obtain ⟨l, rfl⟩ := kind_list c
      obtain ⟨t, a, vs, rfl, ht, ha, hl⟩ := rep_list hv
      refine s_when (b := (false || !decide (l.length ≤ 100))) (et_or (et_test (ev_is (ev_neK (ev_var rfl) hv) rfl)) fun _ => et_test (ev_gtN (b := 100) (ev_lenN2 (ev_tup1 (ev_var rfl) ht) ha (repAll_at hl).1) ev_c)) (fun d H1 e1 => ?_) (fun d H1 e1 => ?_)
      · refine s_ret ev_c fun H2 e2 => ?_
        have q := hQ H2 (e1.trans e2)
        have z : pairsB n (.list l) = false := by
          show (decide (l.length ≤ 100) && l.all (pairB n)) = false
          rw [Bool.false_or, Bool.not_eq_true'] at d
          rw [d, Bool.false_and]
        rw [z] at q
        exact q
      · have hz : pairsB n (.list l) = l.all (pairB n) := by
          show (decide (l.length ≤ 100) && l.all (pairB n)) = l.all (pairB n)
          rw [Bool.false_or, Bool.not_eq_false'] at d
          rw [d, Bool.true_and]
        rw [hz] at hQ
        refine s_allParts (l := l) (a := a) (vs := vs) (pairB n) (ev_tup1 (ev_var rfl) (e1 _ _ ht)) (e1 _ _ ha) (RepAll.mono e1 _ _ hl) ⟨none, rfl⟩ (fun y x z H2 e2 hx => et_B (ev_callG (y, x, n) (ea_cons (ev_var rfl) (ea_cons (ev_var rfl) ea_nil)) fun _ e => ⟨rfl, Rep.mono e _ _ hx⟩)) (fun w H2 e2 => ?_) (fun w z H2 e2 => ?_)
        · have q := hQ H2 (e1.trans e2)
          rw [w] at q
          exact q
        · dsimp only
          refine s_ret ev_c fun H3 e3 => ?_
          have q := hQ H3 (e1.trans (e2.trans e3))
          rw [w] at q
          exact q
    · have e : pairsB n x = false := by
        cases x with
        | list l => exact absurd rfl c
        | _ => rfl
      rw [e] at hQ
      refine s_when (b := (true || false)) (et_or (et_test (ev_is (ev_neK (ev_var rfl) hv) (by rw [decide_eq_false c] <;> rfl))) fun z => by cases z) (fun d H1 e1 => s_ret ev_c fun H2 e2 => hQ H2 (e1.trans e2)) (fun d => by cases d)
theorem below_at {n : Nat} {l : List RWire.Value} {k : Nat} {x : RWire.Value} (h : l.all (belowB n) = true) (hk : l[k]? = some x) : x = .int ((natOf x : Nat) : Int) ∧ (natsOf l)[k]? = some (natOf x) :=
  ⟨(Pu.below_int (List.all_eq_true.mp h x (List.mem_of_getElem? hk))).1, by unfold Pu.natsOf; rw [List.getElem?_map, hk] <;> rfl⟩
def sp_numbers_of : Sp := spB (fun (g : V × List RWire.Value × Nat) vs H => vs = [g.1] ∧ Rep H (.list g.2.1) g.1 ∧ g.2.1.all (belowB g.2.2) = true ∧ g.2.1.length ≤ 40000) (fun g v H => LN H v (natsOf g.2.1))
theorem ok_numbers_of {P : Program} {w : World} {K : PySem.W.Frag} {mg : PySem.Str → Option Value} {base : Heap} (T : Tx K mg base) : Ok P w K mg base 1 "numbers_of" ["value"] (sp_numbers_of) := by
  refine ok_of (at_numbers_of T) sc_numbers_of (fun _ _ _ _ _ _ us hl => match us, hl with | [_], _ => rfl) (fun vs H Q E h => ?_) (fun f cdv A outer s H vs Q E hr h => ?_)
  · obtain ⟨g, B, ⟨e, _⟩, _⟩ := h
    rw [e] <;> rfl
  · obtain ⟨⟨v, l, n⟩, B, ⟨rfl, hv, hb, hz⟩, eB, hQ⟩ := h
    (try dsimp only at hv)
    (try dsimp only at hb)
    (try dsimp only at hz)
    (try dsimp only at hQ)
    refine ⟨_, (pss_one (ps_ret (pe_lc (own := [("part", 1)]) rfl sc_numbers_of.nd (pi_list (pe_ix ix_tup (pv 0) pe_int (fun _ _ => rfl))) (blkOk_by (N := ["value", "part"]) (sc := defScope s_numbers_of) (by decide +kernel)) (fun _ _ _ _ _ => by exact (pg_name (i := 1) sc_numbers_of.nd rfl (Or.inl rfl))) (fun _ _ _ _ _ => by exact pts_nil) (fun _ _ _ _ _ => by exact (pe_ix (ix_tupK (K := K) rfl) (pv 1) pe_int (fun _ _ => rfl)))))), ?_⟩
    obtain ⟨t, a, vs, rfl, ht, ha, hl⟩ := rep_list hv
    obtain ⟨hlen, hat⟩ := repAll_at hl
    refine s_retR eB (er_L (el_lcL (a := a) (xs := vs) (fun _ => true) (fun i => ni ((natsOf l).getD i 0)) (ev_tup1 (ev_var rfl) ht) (sq_of ha) (by omega) (fun x => rfl) (fun i x H2 e2 hi H3 e3 Q2 q2 => q2 H3 (Ex.refl _)) (fun i x H2 e2 hi _ => ?_)) fun q H2 e2 h2 => ⟨q, rfl, ?_⟩) hQ
    · obtain ⟨y, hy, hyr⟩ := hat i x hi
      obtain ⟨e1, e3⟩ := below_at hb hy
      rw [e1] at hyr
      obtain ⟨t', rfl, ht'⟩ := rep_int hyr
      have e4 : (natsOf l).getD i 0 = natOf y := by rw [List.getD_eq_getElem?_getD, e3] <;> rfl
      rw [e4]
      exact ev_tup1 (ev_var rfl) (e2 _ _ ht')
    · rw [h2, given_all, hlen, ← Pu.nats_len l, range_getD]
def sp_rows_of : Sp := spB (fun (g : V × List RWire.Value × Nat) vs H => vs = [g.1] ∧ Rep H (.list g.2.1) g.1 ∧ (∀ x ∈ g.2.1, ∃ l, x = .list l ∧ l.all (belowB g.2.2) = true ∧ l.length ≤ 40000) ∧ g.2.1.length ≤ 40000) (fun g v H => RowsAt H v (g.2.1.map rowOf))
theorem ok_rows_of {P : Program} {w : World} {K : PySem.W.Frag} {mg : PySem.Str → Option Value} {base : Heap} (T : Tx K mg base) : Ok P w K mg base 2 "rows_of" ["value"] (sp_rows_of) := by
  refine ok_of (at_rows_of T) sc_rows_of (fun _ _ _ _ _ _ us hl => match us, hl with | [_], _ => rfl) (fun vs H Q E h => ?_) (fun f cdv A outer s H vs Q E hr h => ?_)
  · obtain ⟨g, B, ⟨e, _⟩, _⟩ := h
    rw [e] <;> rfl
  · obtain ⟨⟨v, l, n⟩, B, ⟨rfl, hv, hb, hz⟩, eB, hQ⟩ := h
    (try dsimp only at hv)
    (try dsimp only at hb)
    (try dsimp only at hz)
    (try dsimp only at hQ)
    refine ⟨_, (pss_one (ps_ret (pe_lc (own := [("part", 1)]) rfl sc_rows_of.nd (pi_list (pe_ix ix_tup (pv 0) pe_int (fun _ _ => rfl))) (blkOk_by (N := ["value", "part"]) (sc := defScope s_rows_of) (by decide +kernel)) (fun _ _ _ _ _ => by exact (pg_name (i := 1) sc_rows_of.nd rfl (Or.inl rfl))) (fun _ _ _ _ _ => by exact pts_nil) (fun _ _ _ _ _ => by exact (pe_ok (ok_numbers_of T) (hr.mono (by decide)) rfl (pa_cons (pv 1) pa_nil)))))), ?_⟩
    obtain ⟨t, a, vs, rfl, ht, ha, hl⟩ := rep_list hv
    obtain ⟨hlen, hat⟩ := repAll_at hl
    refine s_retR eB (er_imp (er_lcL (a := a) (xs := vs) (fun k y H => ∃ x, l[k]? = some x ∧ LN H y (rowOf x)) (fun k y H H' e ⟨x, h1, h2⟩ => ⟨x, h1, h2.mono e⟩) (ev_tup1 (ev_var rfl) ht) (sq_of ha) (by omega) (fun x => rfl) (fun k x B1 e1 hk => ?_)) fun v H1 e1 r => ?_) hQ
    · obtain ⟨y, hy, hyr⟩ := hat k x hk
      obtain ⟨l', rfl, q1, q2⟩ := hb y (List.mem_of_getElem? hy)
      exact er_imp (er_call (x, l', n) (ar_of (ea_cons (ev_var rfl) ea_nil) fun H3 e3 => ⟨rfl, Rep.mono (e1.trans e3) _ _ hyr, q1, q2⟩) fun _ _ _ e h => LN.mono h e) fun w H3 e3 h => ⟨_, hy, h⟩
    · obtain ⟨p, ys, rfl, h1, h2, h3⟩ := r
      refine ⟨p, ys, rfl, h1, by rw [h2, hlen, List.length_map], fun i y hi => ?_⟩
      obtain ⟨x, q1, q2⟩ := h3 i y hi
      exact ⟨_, by rw [List.getElem?_map, q1] <;> rfl, q2⟩
theorem dp_ints {K : PySem.W.Frag} {H : Hp} : ∀ ns : List Int, DpAll K H (ns.map V.int) (ns.map PyData.int)
  | [] => .nil
  | n :: ns => .cons (.int n) (dp_ints ns)
theorem can_ints : ∀ ns : List Int, PyData.canLayAll0 (ns.map PyData.int) = true
  | [] => rfl
  | n :: ns => by
    show (PyData.canLay0 (.int n) && PyData.canLayAll0 (ns.map PyData.int)) = true
    rw [can_ints ns]
    rfl
theorem depth_ints : ∀ ns : List Int, PyData.depthAll (ns.map PyData.int) ≤ 1
  | [] => by simp [PyData.depthAll]
  | n :: ns => by
    have := depth_ints ns
    simp only [List.map_cons, PyData.depthAll, PyData.depth]
    omega
theorem shaped_ints (ns : List Int) : SeqAt.shaped (.list (ns.map PyData.int)) = true := by
  unfold SeqAt.shaped
  have h1 : PyData.canLay0 (.list (ns.map PyData.int)) = true := can_ints ns
  have h2 : PyData.depth (.list (ns.map PyData.int)) ≤ 64 := by
    have := depth_ints ns
    simp only [PyData.depth]
    omega
  rw [h1, decide_eq_true h2]
  rfl
theorem eqv_ints : ∀ a b : List Int, PyData.eqvAll (a.map PyData.int) (b.map PyData.int) = decide (a = b)
  | [], [] => by simp [PyData.eqvAll]
  | [], _ :: _ => by simp [PyData.eqvAll]
  | _ :: _, [] => by simp [PyData.eqvAll]
  | x :: a, y :: b => by
    simp only [List.map_cons, PyData.eqvAll, PyData.eqv]
    rw [eqv_ints a b]
    by_cases c : x = y
    · subst c
      by_cases d : a = b
      · subst d
        simp
      · simp [d]
    · simp [c]
theorem map_ni (l : List Nat) : l.map ni = (Pu.castI l).map V.int := by
  unfold Pu.castI
  rw [List.map_map]
  rfl
theorem rg_ni (n : Nat) : rgV 0 (n : Int) = (Pu.castI (List.range n)).map V.int := by
  unfold rgV Pu.castI
  rw [List.map_map]
  have e : ((n : Int) - 0).toNat = n := by omega
  rw [e]
  apply List.map_congr_left
  intro i _
  show V.int (0 + ((i : Nat) : Int)) = V.int ((i : Nat) : Int)
  rw [Int.zero_add]
/-- sorted(numbers) == list(range(n)) -/
theorem ev_sortedIs {K : PySem.W.Frag} {σ : L2.St} {B : Hp} {te tb : TE} {l : List Nat} {n : Nat} (h : EvR te σ B (fun v H => LN H v l)) (hb : ∀ H1, Ex B H1 → Ev tb σ H1 (ni n)) (hn : n ≤ 1000) :
    Ev (tOp (rEqD K) (tCB (rSortedI K) (tCons te tNil)) (tLstRg (tRg1 tb))) σ B (.bl (decide (Pu.IsLine n l))) := fun H1 e Q q =>
  h H1 e _ fun v H2 e2 r => by
    obtain ⟨a, rfl, ha⟩ := r
    have ha2 := ext_in e e2 _ _ ha
    refine ⟨a, Pu.castI l, rfl, by rw [← map_ni]; exact sq_of ha2, fun ns p hp hs hn0 => ?_⟩
    refine hb H2 (e.trans e2) _ (Ex.new (o := .lst (ns.map V.int)) hn0) _ fun H3 e3 => ⟨(n : Int), rfl, ⟨by omega, by omega, by omega, by omega, by omega⟩, fun z hz => ⟨.list (ns.map PyData.int), .list ((Pu.castI (List.range n)).map PyData.int), .lst (sq_of (Ex.new hz _ _ (e3 _ _ upd_same))) (dp_ints ns), .lst (sq_of (by rw [upd_same, rg_ni])) (dp_ints _), shaped_ints _, shaped_ints _, ?_⟩⟩
    have e4 : PyData.eqv (.list (ns.map PyData.int)) (.list ((Pu.castI (List.range n)).map PyData.int)) = decide (Pu.IsLine n l) := by
      show PyData.eqvAll _ _ = _
      rw [eqv_ints]
      by_cases c : Pu.IsLine n l
      · rw [decide_eq_true c, decide_eq_true ((Pu.sorted_line hp hs).mpr c)]
      · rw [decide_eq_false c, decide_eq_false fun z => c ((Pu.sorted_line hp hs).mp z)]
    rw [e4]
    exact q _ (e2.trans ((Ex.new hn0).trans (e3.trans (Ex.new hz))))
def sp_is_line : Sp := spG (fun (g : V × RWire.Value × Nat) vs H => vs = [g.1, ni g.2.2] ∧ Rep H g.2.1 g.1 ∧ g.2.2 ≤ 10) (fun g => .bl (lineB g.2.2 g.2.1))
theorem ok_is_line {P : Program} {w : World} {K : PySem.W.Frag} {mg : PySem.Str → Option Value} {base : Heap} (T : Tx K mg base) : Ok P w K mg base 3 "is_line" ["value", "size"] (sp_is_line) := by
  refine ok_of (at_is_line T) sc_is_line (fun _ _ _ _ _ _ us hl => match us, hl with | [_, _], _ => rfl) (fun vs H Q E h => ?_) (fun f cdv A outer s H vs Q E hr h => ?_)
  · obtain ⟨g, ⟨e, _⟩, _⟩ := h
    rw [e] <;> rfl
  · obtain ⟨⟨v, x, n⟩, ⟨rfl, hv, hn⟩, hQ⟩ := h
    (try dsimp only at hv)
    (try dsimp only at hn)
    (try dsimp only at hQ)
    refine ⟨_, (pss_cons (ps_if (PW.pt (pw_or (pt_cmpR op_ne (pe_ix ix_tup (pv 0) pe_int (fun _ _ => rfl)) (pe_gi (g_LIST T) rfl) (nomark _)) (pw_or (pt_cmpR op_ne (pe_callB call_len_seq (by rfl) T.n_len PySem.boot_len (pa_cons (pe_ix ix_tup (pv 0) pe_int (fun _ _ => rfl)) pa_nil)) (pv 1) (nomark _)) (pw_or1 (pt_not (pt_val (pe_ok (ok_are_below T) (hr.mono (by decide)) rfl (pa_cons (pe_ix ix_tup (pv 0) pe_int (fun _ _ => rfl)) (pa_cons (pv 1) pa_nil))))))))) (pss_one (ps_ret pe_bl)) pss_nil)
      (pss_one (ps_ret (pe_cmpR (op_eqD hr.units) (pe_callB cr_sortedI (by rfl) T.n_sorted (by decide +kernel) (pa_cons (pe_ok (ok_numbers_of T) (hr.mono (by decide)) rfl (pa_cons (pv 0) pa_nil)) pa_nil)) (pe_listRg rfl rfl T.n_list (prg_1 rfl T.n_range (pv 1))) (nomark _))))), ?_⟩
    by_cases c : kindOf x = 7
    · obtain ⟨l, rfl⟩ := kind_list c
      obtain ⟨t, a, vs, rfl, ht, ha, hl⟩ := rep_list hv
      have hL : lineB n (.list l) = (decide (l.length = n) && l.all (belowB n) && decide (Pu.IsLine n (natsOf l))) := rfl
      refine s_when (b := (false || (decide (l.length ≠ n) || !l.all (belowB n)))) (et_or (et_test (ev_is (ev_neK (ev_var rfl) hv) rfl)) fun _ => et_or (et_test (ev_neN (ev_lenN2 (ev_tup1 (ev_var rfl) ht) ha (repAll_at hl).1) (ev_var rfl))) fun _ => et_not (et_B (ev_below ⟨a, vs, rfl, ha, hl⟩ (ev_tup1 (ev_var rfl) ht) (ev_var rfl)))) (fun d H1 e1 => ?_) (fun d H1 e1 => ?_)
      · refine s_ret ev_c fun H2 e2 => ?_
        have q := hQ H2 (e1.trans e2)
        have z : lineB n (.list l) = false := by
          rw [hL]
          by_cases c1 : l.length = n
          · cases c2 : l.all (belowB n) with
            | false => simp
            | true => simp [c1, c2] at d
          · simp [c1]
        rw [z] at q
        exact q
      · have c1 : l.length = n := by
          by_cases c1 : l.length = n
          · exact c1
          · simp [c1] at d
        have c2 : l.all (belowB n) = true := by
          cases c2 : l.all (belowB n) with
          | false => simp [c2] at d
          | true => rfl
        have hz : lineB n (.list l) = decide (Pu.IsLine n (natsOf l)) := by
          rw [hL, c2, decide_eq_true c1]
          rfl
        rw [hz] at hQ
        dsimp only
        refine s_ret (ev_sortedIs (er_call (.ref t, l, n) (ar_of (ea_cons (ev_var rfl) ea_nil) fun H3 e3 => ⟨rfl, Rep.mono (e1.trans e3) _ _ hv, c2, by show l.length ≤ 40000; omega⟩) fun _ _ _ e h => LN.mono h e) (fun H3 e3 => ev_var rfl) (by omega)) fun H2 e2 => hQ H2 (e1.trans e2)
    · have e : lineB n x = false := by
        cases x with
        | list l => exact absurd rfl c
        | _ => rfl
      rw [e] at hQ
      refine s_when (b := (true || (false || false))) (et_or (et_test (ev_is (ev_neK (ev_var rfl) hv) (by rw [decide_eq_false c] <;> rfl))) fun z => by cases z) (fun d H1 e1 => s_ret ev_c fun H2 e2 => hQ H2 (e1.trans e2)) (fun d => by cases d)
def sp_is_lines : Sp := spG (fun (g : V × RWire.Value × Nat) vs H => vs = [g.1, ni g.2.2] ∧ Rep H g.2.1 g.1 ∧ g.2.2 ≤ 10) (fun g => .bl (linesB g.2.2 g.2.1))
theorem ok_is_lines {P : Program} {w : World} {K : PySem.W.Frag} {mg : PySem.Str → Option Value} {base : Heap} (T : Tx K mg base) : Ok P w K mg base 4 "is_lines" ["value", "size"] (sp_is_lines) := by
  refine ok_of (at_is_lines T) sc_is_lines (fun _ _ _ _ _ _ us hl => match us, hl with | [_, _], _ => rfl) (fun vs H Q E h => ?_) (fun f cdv A outer s H vs Q E hr h => ?_)
  · obtain ⟨g, ⟨e, _⟩, _⟩ := h
    rw [e] <;> rfl
  · obtain ⟨⟨v, x, n⟩, ⟨rfl, hv, hn⟩, hQ⟩ := h
    (try dsimp only at hv)
    (try dsimp only at hn)
    (try dsimp only at hQ)
    refine ⟨_, (pss_cons (ps_if (PW.pt (pw_or (pt_cmpR op_ne (pe_ix ix_tup (pv 0) pe_int (fun _ _ => rfl)) (pe_gi (g_LIST T) rfl) (nomark _)) (pw_or1 (pt_cmpR op_gt (pe_callB call_len_seq (by rfl) T.n_len PySem.boot_len (pa_cons (pe_ix ix_tup (pv 0) pe_int (fun _ _ => rfl)) pa_nil)) (pe_gi (g_MOST_ORDERS T) rfl) (nomark _))))) (pss_one (ps_ret pe_bl)) pss_nil)
      (pss_cons (ps_for PassesOwn.never rfl (pi_list (pe_ix ix_tup (pv 0) pe_int (fun _ _ => rfl))) (pg_name (i := 2) sc_is_lines.nd rfl (Or.inl rfl)) (pss_one (ps_if (pt_not (pt_val (pe_ok (ok_is_line T) (hr.mono (by decide)) rfl (pa_cons (pv 2) (pa_cons (pv 1) pa_nil))))) (pss_one (ps_ret pe_bl)) pss_nil)))
      (pss_one (ps_ret pe_bl)))), ?_⟩
    by_cases c : kindOf x = 7
    · obtain ⟨l, rfl⟩ := kind_list c
      obtain ⟨t, a, vs, rfl, ht, ha, hl⟩ := rep_list hv
      refine s_when (b := (false || !decide (l.length ≤ 8))) (et_or (et_test (ev_is (ev_neK (ev_var rfl) hv) rfl)) fun _ => et_test (ev_gtN (b := 8) (ev_lenN2 (ev_tup1 (ev_var rfl) ht) ha (repAll_at hl).1) ev_c)) (fun d H1 e1 => ?_) (fun d H1 e1 => ?_)
      · refine s_ret ev_c fun H2 e2 => ?_
        have q := hQ H2 (e1.trans e2)
        have z : linesB n (.list l) = false := by
          show (decide (l.length ≤ 8) && l.all (lineB n)) = false
          rw [Bool.false_or, Bool.not_eq_true'] at d
          rw [d, Bool.false_and]
        rw [z] at q
        exact q
      · have hz : linesB n (.list l) = l.all (lineB n) := by
          show (decide (l.length ≤ 8) && l.all (lineB n)) = l.all (lineB n)
          rw [Bool.false_or, Bool.not_eq_false'] at d
          rw [d, Bool.true_and]
        rw [hz] at hQ
        refine s_allParts (l := l) (a := a) (vs := vs) (lineB n) (ev_tup1 (ev_var rfl) (e1 _ _ ht)) (e1 _ _ ha) (RepAll.mono e1 _ _ hl) ⟨none, rfl⟩ (fun y x z H2 e2 hx => et_B (ev_callG (y, x, n) (ea_cons (ev_var rfl) (ea_cons (ev_var rfl) ea_nil)) fun _ e => ⟨rfl, Rep.mono e _ _ hx, hn⟩)) (fun w H2 e2 => ?_) (fun w z H2 e2 => ?_)
        · have q := hQ H2 (e1.trans e2)
          rw [w] at q
          exact q
        · dsimp only
          refine s_ret ev_c fun H3 e3 => ?_
          have q := hQ H3 (e1.trans (e2.trans e3))
          rw [w] at q
          exact q
    · have e : linesB n x = false := by
        cases x with
        | list l => exact absurd rfl c
        | _ => rfl
      rw [e] at hQ
      refine s_when (b := (true || false)) (et_or (et_test (ev_is (ev_neK (ev_var rfl) hv) (by rw [decide_eq_false c] <;> rfl))) fun z => by cases z) (fun d H1 e1 => s_ret ev_c fun H2 e2 => hQ H2 (e1.trans e2)) (fun d => by cases d)
end Cm
end PartF8
section PartF9
set_option Elab.async false
set_option linter.all false
set_option maxRecDepth 100000
set_option maxHeartbeats 4000000
namespace Cm
open PySem PySem.Spec PyProof.Rows L2 Evl
/-! ### the calls, read from a place on -/
structure Tape where
  a : Addr
  ns : List Int
  rest : List Int
  i : Nat
  b : RWire.Octets
structure TapeAt (K : PySem.W.Frag) (H : Hp) (t : Tape) : Prop where
  l : SqL K H t.a (t.ns.map V.int)
  at_ : Pu.At t.ns t.rest t.i t.b
  sz : t.ns.length ≤ 61000
def Tape.go (t : Tape) (k : Nat) : Tape := { t with i := t.i + k, b := t.b.drop k }
section
variable {K : PySem.W.Frag} {σ : L2.St} {B H H' : Hp} {ta tb tc te : TE} {t : Tape}
theorem TapeAt.go (h : TapeAt K H t) {k : Nat} (hk : k ≤ t.b.length) : TapeAt K H (t.go k) := ⟨h.l, h.at_.drop hk, h.sz⟩
theorem TapeAt.to (h : TapeAt K H t) {j : Nat} {y : RWire.Octets} (hy : Pu.At t.ns t.rest j y) : TapeAt K H { t with i := j, b := y } := ⟨h.l, hy, h.sz⟩
theorem TapeAt.up (h : TapeAt K H t) (e : Ex H H') : TapeAt K H' t := ⟨ex_l e h.l, h.at_, h.sz⟩
theorem TapeAt.len (h : TapeAt K H t) : t.i + t.b.length ≤ 61000 := by
  have := h.at_.len
  have := h.sz
  omega
theorem ev_oct {k : Nat} {u : UInt8} (h : TapeAt K H t) (ha : Ev ta σ H (.ref t.a)) (hb : Ev tb σ H (ni (t.i + k))) (hk : t.b[k]? = some u) : Ev (tOp (rIxL K) ta tb) σ H (ob u) :=
  ev_op ha hb (rv_ixL h.l (atI_nat (by rw [List.getElem?_map, h.at_.get hk] <;> rfl)))
/-- ((kind, content), place) -/
theorem er_read {k c : V} {j : Nat} (ha : Ev ta σ B k) (hb : Ev tb σ B c) (hc : Ev tc σ B (ni j)) : EvR (tTup (tCons (tTup (tCons ta (tCons tb tNil))) (tCons tc tNil))) σ B (fun v H => ∃ x, TupAt H v [x, ni j] ∧ TupAt H x [k, c]) :=
  er_tup (S := fun vs H => ∃ x, vs = [x, ni j] ∧ TupAt H x [k, c]) (ar_cons (R := fun x H => TupAt H x [k, c]) (er_tup (S := fun vs _ => vs = [k, c]) (ar_of (ea_cons ha (ea_cons hb ea_nil)) fun _ _ => rfl) (fun vs H1 e => by rw [e]; show 2 ≤ 100000; omega) fun p vs H1 e s hp => by
      subst s
      exact ⟨p, rfl, upd_same⟩) fun x H1 e r => ar_of (ea_cons (fun H2 e2 => hc H2 (e.trans e2)) ea_nil) fun H2 e2 => ⟨x, rfl, r.mono e2⟩)
    (fun vs H1 ⟨x, e, _⟩ => by rw [e]; show 2 ≤ 100000; omega) fun p vs H1 e ⟨x, s, r⟩ hp => by
      subst s
      exact ⟨x, ⟨p, rfl, upd_same⟩, r.mono (Ex.new hp)⟩
end
def sp_number_at (K : PySem.W.Frag) : Sp := spG (fun (g : Tape × Nat) vs H => vs = [.ref g.1.a, ni g.1.i, ni g.2] ∧ TapeAt K H g.1 ∧ g.2 ≤ g.1.b.length) (fun g => ni (RWire.numOf (g.1.b.take g.2)))
theorem ok_number_at {P : Program} {w : World} {K : PySem.W.Frag} {mg : PySem.Str → Option Value} {base : Heap} (T : Tx K mg base) : Ok P w K mg base 1 "number_at" ["octets", "at", "many"] (sp_number_at K) := by
  refine ok_of (at_number_at T) sc_number_at (fun _ _ _ _ _ _ us hl => match us, hl with | [_, _, _], _ => rfl) (fun vs H Q E h => ?_) (fun f cdv A outer s H vs Q E hr h => ?_)
  · obtain ⟨g, ⟨e, _⟩, _⟩ := h
    rw [e] <;> rfl
  · obtain ⟨⟨t, k⟩, ⟨rfl, ht, hk⟩, hQ⟩ := h
    (try dsimp only at ht)
    (try dsimp only at hk)
    (try dsimp only at hQ)
    refine ⟨_, (pss_cons (ps_set (i := 3) sc_number_at.nd rfl (Or.inl rfl) pe_int)
      (pss_cons (ps_for PassesOwn.never rfl (pi_range1 rfl T.n_range (pa_cons (pv 2) pa_nil)) (pg_name (i := 4) sc_number_at.nd rfl (Or.inl rfl)) (pss_one (ps_aug (i := 3) sc_number_at.nd rfl (Or.inl rfl) (pe_op op_shl (pe_ix ix_list (pv 0) (pe_op op_add (pv 1) (pv 4)) (fun _ _ => rfl)) (pe_op op_mul pe_int (pv 4))) ip_add)))
      (pss_one (ps_ret (pv 3))))), ?_⟩
    have hl := ht.len
    refine s_asg ev_c fun H1 e1 => ?_
    refine s_forR1 (n := (k : Int)) (ea_cons (ev_var rfl) ea_nil) (by omega) (fun i σ H' => ∃ x, σ = [some (.ref t.a), some (ni t.i), some (ni k), some (ni (RWire.numOf (t.b.take i))), x] ∧ Ex H H') (fun H2 e2 => ⟨none, rfl, e1.trans e2⟩) ?_ ?_
    · rintro i σ' H' hi ⟨_, rfl, e⟩
      have hi' : i < k := by omega
      have hu : t.b[i]? = some (t.b[i]'(by omega)) := List.getElem?_eq_getElem _
      generalize t.b[i]'(by omega) = u at hu
      have hsh : ((u.toNat : Nat) : Int) * 2 ^ ((8 * i : Nat) : Int).toNat = ((u.toNat * 256 ^ i : Nat) : Int) := by
        have e0 : (256 : Nat) = 2 ^ 8 := rfl
        rw [Int.toNat_natCast, e0, ← Nat.pow_mul]
        simp
      have hnew : RWire.numOf (t.b.take i) + u.toNat * 256 ^ i = RWire.numOf (t.b.take (i + 1)) := by
        rw [Pu.take_more hu, Pu.numOf_snoc, List.length_take, Nat.min_eq_left (by omega)]
      have hev : Ev (tOp (rI CPow fun i j => .int (i * 2 ^ j.toNat)) (tOp (rIxL K) (tVar 0) (tOp (rI0 fun i j => .int (i + j)) (tVar 1) (tVar 4))) (tOp (rI CMul fun i j => .int (i * j)) (tC (.int 8)) (tVar 4))) [some (.ref t.a), some (ni t.i), some (ni k), some (ni (RWire.numOf (t.b.take i))), some (ni i)] H' (ni (u.toNat * 256 ^ i)) :=
        ev_is (ev_op (ev_oct (k := i) (ht.up e) (ev_var rfl) (ev_addN (a := t.i) (b := i) (ev_var rfl) (ev_var rfl)) hu) (ev_mulN (a := 8) (b := i) ev_c (ev_var rfl) (by decide)) (rv_I (g := fun i j => .int (i * 2 ^ j.toNat)) ⟨Int.natCast_nonneg _, by omega, by have := u.toNat_lt; omega⟩)) (congrArg V.int hsh)
      refine s_augR rfl hev (c := ni (RWire.numOf (t.b.take (i + 1)))) (fun H1 _ Q q => ⟨_, _, rfl, rfl, ?_⟩) fun H3 e3 => ⟨_, rfl, e.trans e3⟩
      have e9 : ((RWire.numOf (t.b.take i) : Nat) : Int) + ((u.toNat * 256 ^ i : Nat) : Int) = ((RWire.numOf (t.b.take (i + 1)) : Nat) : Int) := by
        rw [← hnew]
        exact (Int.natCast_add _ _).symm
      show Q (V.int (((RWire.numOf (t.b.take i) : Nat) : Int) + ((u.toNat * 256 ^ i : Nat) : Int))) _
      rw [e9]
      exact q
    · rintro σ' H' ⟨_, rfl, e⟩
      exact s_ret (ev_var rfl) fun H1 e1 => hQ H1 (e.trans e1)
section
variable {K : PySem.W.Frag} {σ : L2.St} {B H H' : Hp} {ta tb tc te : TE} {t : Tape}
theorem ev_number {k m : Nat} (h : TapeAt K H t) (ha : Ev ta σ H (.ref t.a)) (hb : Ev tb σ H (ni (t.i + m))) (hc : Ev tc σ H (ni k)) (hk : m + k ≤ t.b.length) : Ev (tCall (sp_number_at K) [] E0 (tCons ta (tCons tb (tCons tc tNil)))) σ H (ni (RWire.numOf ((t.b.drop m).take k))) :=
  ev_callG (A := fun (g : Tape × Nat) vs H => vs = [.ref g.1.a, ni g.1.i, ni g.2] ∧ TapeAt K H g.1 ∧ g.2 ≤ g.1.b.length) (f := fun g => ni (RWire.numOf (g.1.b.take g.2))) (t.go m, k) (ea_cons ha (ea_cons hb (ea_cons hc ea_nil))) fun H1 e => ⟨rfl, (h.up e).go (by omega), by
    show k ≤ (t.b.drop m).length
    rw [List.length_drop]
    omega⟩
theorem ev_number0 {k : Nat} (h : TapeAt K H t) (ha : Ev ta σ H (.ref t.a)) (hb : Ev tb σ H (ni t.i)) (hc : Ev tc σ H (ni k)) (hk : k ≤ t.b.length) : Ev (tCall (sp_number_at K) [] E0 (tCons ta (tCons tb (tCons tc tNil)))) σ H (ni (RWire.numOf (t.b.take k))) :=
  ev_number (m := 0) h ha hb hc (by omega)
end
/-- what a reader hands back: the value and the place behind it -/
def ReadAt (t : Tape) (x : RWire.Value) (y : RWire.Octets) (v : V) (H : Hp) : Prop := ∃ j w, TupAt H v [w, ni j] ∧ Pu.At t.ns t.rest j y ∧ Rep H x w
theorem readAt_up (t : Tape) (x : RWire.Value) (y : RWire.Octets) (v : V) : Up (ReadAt t x y v) := fun _ _ e ⟨j, z, h1, h2, h3⟩ => ⟨j, z, h1.mono e, h2, Rep.mono e _ _ h3⟩
def sp_read_integer (K : PySem.W.Frag) : Sp := spB (fun (g : Tape × RWire.Value × RWire.Octets) vs H => vs = [.ref g.1.a, ni g.1.i] ∧ TapeAt K H g.1 ∧ RWire.readInt g.1.b = some (g.2.1, g.2.2)) (fun g v H => ReadAt g.1 g.2.1 g.2.2 v H)
theorem ok_read_integer {P : Program} {w : World} {K : PySem.W.Frag} {mg : PySem.Str → Option Value} {base : Heap} (T : Tx K mg base) : Ok P w K mg base 2 "read_integer" ["octets", "at"] (sp_read_integer K) := by
  refine ok_of (at_read_integer T) sc_read_integer (fun _ _ _ _ _ _ us hl => match us, hl with | [_, _], _ => rfl) (fun vs H Q E h => ?_) (fun f cdv A outer s H vs Q E hr h => ?_)
  · obtain ⟨g, B, ⟨e, _⟩, _⟩ := h
    rw [e] <;> rfl
  · obtain ⟨⟨t, x, y⟩, B, ⟨rfl, ht, hx⟩, eB, hQ⟩ := h
    (try dsimp only at ht)
    (try dsimp only at hx)
    (try dsimp only at hQ)
    refine ⟨_, (pss_cons (ps_set (i := 2) sc_read_integer.nd rfl (Or.inl rfl) (pe_ok (ok_number_at T) (hr.mono (by decide)) rfl (pa_cons (pv 0) (pa_cons (pv 1) (pa_cons pe_int pa_nil)))))
      (pss_cons (ps_if (pt_cmpR op_ge (pv 2) (pe_op op_shl pe_int pe_int) (nomark _)) (pss_one (ps_aug (i := 2) sc_read_integer.nd rfl (Or.inl rfl) (pe_op op_shl pe_int pe_int) ip_sub)) pss_nil)
      (pss_one (ps_ret (pe_tup (pa_cons (pe_tup (pa_cons (pe_gi (g_INTEGER T) rfl) (pa_cons (pv 2) pa_nil))) (pa_cons (pe_op op_add (pv 1) pe_int) pa_nil))))))), ?_⟩
    obtain ⟨h8, rfl, rfl⟩ := Pu.int_some hx
    have ht' := ht.up eB
    refine s_asg (ev_number0 (k := 8) ht' (ev_var rfl) (ev_var rfl) ev_c h8) fun H1 e1 => ?_
    have hfin : ∀ H2, Ex H H2 → tRet (tTup (tCons (tTup (tCons (tC (.int 4)) (tCons (tVar 2) tNil))) (tCons (tOp (rI0 fun i j => .int (i + j)) (tVar 1) (tC (.int 8))) tNil))) { nx := fun _ H' => Q .non H', rt := Q } [some (.ref t.a), some (ni t.i), some (.int (RWire.intOf (RWire.numOf (t.b.take 8))))] H2 := fun H2 e2 =>
      s_retR (eB.trans e2) (er_read (c := .int (RWire.intOf (RWire.numOf (t.b.take 8)))) ev_c (ev_var rfl) (ev_addN (a := t.i) (b := 8) (ev_var rfl) ev_c)) fun v B1 H3 g ⟨z, r1, r2⟩ => hQ _ _ _ (((Kn.refl eB).up e2).gr g).toGr ⟨t.i + 8, z, r1, ht.at_.drop h8, by unfold Rep; exact r2⟩
    by_cases c : RWire.numOf (t.b.take 8) < 9223372036854775808
    · refine s_when (b := false) (et_is (et_test (ev_op (ev_var rfl) (ev_shl1 (x := 63) ev_c (by decide)) (rv_I0 (g := fun i j => .bl (decide (j ≤ i)))))) (decide_eq_false (by
        have e : ((2 ^ 63 : Nat) : Int) = 9223372036854775808 := by decide
        omega))) (fun z => by cases z) fun _ H2 e2 => ?_
      have e0 : RWire.intOf (RWire.numOf (t.b.take 8)) = ((RWire.numOf (t.b.take 8) : Nat) : Int) := by
        unfold RWire.intOf
        rw [decide_eq_true c] <;> rfl
      rw [e0] at hfin
      exact hfin H2 (e1.trans e2)
    · refine s_when (b := true) (et_is (et_test (ev_op (ev_var rfl) (ev_shl1 (x := 63) ev_c (by decide)) (rv_I0 (g := fun i j => .bl (decide (j ≤ i)))))) (decide_eq_true (by
        have e : ((2 ^ 63 : Nat) : Int) = 9223372036854775808 := by decide
        omega))) (fun _ H2 e2 => ?_) (fun z => by cases z)
      have e0 : RWire.intOf (RWire.numOf (t.b.take 8)) = ((RWire.numOf (t.b.take 8) : Nat) : Int) - ((2 ^ 64 : Nat) : Int) := by
        unfold RWire.intOf
        rw [decide_eq_false c] <;> rfl
      rw [e0] at hfin
      exact s_augR rfl (ev_shl1 (x := 64) ev_c (by decide)) (fun H1 _ Q q => ⟨_, _, rfl, rfl, q⟩) fun H3 e3 => hfin H3 (e1.trans (e2.trans e3))
def sp_read_great (K : PySem.W.Frag) : Sp := spB (fun (g : Tape × RWire.Value × RWire.Octets) vs H => vs = [.ref g.1.a, ni g.1.i] ∧ TapeAt K H g.1 ∧ RWire.readBig g.1.b = some (g.2.1, g.2.2)) (fun g v H => ReadAt g.1 g.2.1 g.2.2 v H)
theorem ok_read_great {P : Program} {w : World} {K : PySem.W.Frag} {mg : PySem.Str → Option Value} {base : Heap} (T : Tx K mg base) : Ok P w K mg base 2 "read_great" ["octets", "at"] (sp_read_great K) := by
  refine ok_of (at_read_great T) sc_read_great (fun _ _ _ _ _ _ us hl => match us, hl with | [_, _], _ => rfl) (fun vs H Q E h => ?_) (fun f cdv A outer s H vs Q E hr h => ?_)
  · obtain ⟨g, B, ⟨e, _⟩, _⟩ := h
    rw [e] <;> rfl
  · obtain ⟨⟨t, x, y⟩, B, ⟨rfl, ht, hx⟩, eB, hQ⟩ := h
    (try dsimp only at ht)
    (try dsimp only at hx)
    (try dsimp only at hQ)
    refine ⟨_, (pss_cons (ps_set (i := 2) sc_read_great.nd rfl (Or.inl rfl) (pe_ok (ok_number_at T) (hr.mono (by decide)) rfl (pa_cons (pv 0) (pa_cons (pe_op op_add (pv 1) pe_int) (pa_cons pe_int pa_nil)))))
      (pss_cons (ps_set (i := 3) sc_read_great.nd rfl (Or.inl rfl) (pe_ok (ok_number_at T) (hr.mono (by decide)) rfl (pa_cons (pv 0) (pa_cons (pe_op op_add (pv 1) pe_int) (pa_cons (pv 2) pa_nil)))))
      (pss_cons (ps_if (pt_cmpR op_eq (pe_ix ix_list (pv 0) (pv 1) (fun _ _ => rfl)) pe_int (nomark _)) (pss_one (ps_set (i := 3) sc_read_great.nd rfl (Or.inl rfl) (pe_un un_neg (pv 3)))) pss_nil)
      (pss_one (ps_ret (pe_tup (pa_cons (pe_tup (pa_cons (pe_gi (g_GREAT T) rfl) (pa_cons (pv 3) pa_nil))) (pa_cons (pe_op op_add (pe_op op_add (pv 1) pe_int) (pv 2)) pa_nil)))))))), ?_⟩
    obtain ⟨sg, r, hb⟩ : ∃ sg r, t.b = sg :: r := by
      cases hb : t.b with
      | nil => rw [hb] at hx; cases hx
      | cons sg r => exact ⟨sg, r, rfl⟩
    rw [hb] at hx
    obtain ⟨h4, hm, rfl, rfl⟩ := Pu.big_some hx
    have ht' := ht.up eB
    have hd1 : t.b.drop 1 = r := by rw [hb] <;> rfl
    have hd5 : t.b.drop 5 = r.drop 4 := by rw [hb] <;> rfl
    have hlb : t.b.length = r.length + 1 := by rw [hb] <;> rfl
    have n1 := ev_number (ta := tVar 0) (tb := tOp (rI0 fun i j => .int (i + j)) (tVar 1) (tC (.int 1))) (tc := tC (.int 4)) (σ := start ["octets", "at", "many", "found"] [.ref t.a, ni t.i]) (k := 4) (m := 1) ht' (ev_var rfl) (ev_addN (a := t.i) (b := 1) (ev_var rfl) ev_c) ev_c (by omega)
    rw [hd1] at n1
    refine s_asg n1 fun H1 e1 => ?_
    generalize hmany : RWire.numOf (r.take 4) = many at *
    have n2 := ev_number (ta := tVar 0) (tb := tOp (rI0 fun i j => .int (i + j)) (tVar 1) (tC (.int 5))) (tc := tVar 2) (σ := [some (.ref t.a), some (ni t.i), some (ni many), none]) (k := many) (m := 5) (ht'.up e1) (ev_var rfl) (ev_addN (a := t.i) (b := 5) (ev_var rfl) ev_c) (ev_var rfl) (by
      rw [List.length_drop] at hm
      omega)
    rw [hd5] at n2
    refine s_asg n2 fun H2 e2 => ?_
    have hfin : ∀ (c : Int) H3, Ex H H3 → c = (if sg.toNat = 1 then -(RWire.numOf ((r.drop 4).take many) : Int) else (RWire.numOf ((r.drop 4).take many) : Int)) → tRet (tTup (tCons (tTup (tCons (tC (.int 5)) (tCons (tVar 3) tNil))) (tCons (tOp (rI0 fun i j => .int (i + j)) (tOp (rI0 fun i j => .int (i + j)) (tVar 1) (tC (.int 5))) (tVar 2)) tNil))) { nx := fun _ H' => Q .non H', rt := Q } [some (.ref t.a), some (ni t.i), some (ni many), some (.int c)] H3 := fun c H3 e3 hc =>
      s_retR (eB.trans e3) (er_read (c := .int c) ev_c (ev_var rfl) (ev_addN (a := t.i + 5) (b := many) (ev_addN (a := t.i) (b := 5) (ev_var rfl) ev_c) (ev_var rfl))) fun v B1 H4 g ⟨z, r1, r2⟩ => hQ _ _ _ (((Kn.refl eB).up e3).gr g).toGr ⟨t.i + 5 + many, z, r1, by
        have q := ht.at_.drop (k := 5) (by omega)
        rw [hd5] at q
        exact q.drop hm, by
          unfold Rep
          rw [← hc]
          exact r2⟩
    have hs0 : t.b[0]? = some sg := by rw [hb] <;> rfl
    by_cases c : sg.toNat = 1
    · refine s_when (b := true) (et_is (et_test (ev_eqN (a := sg.toNat) (b := 1) (ev_oct (k := 0) (ht'.up (e1.trans e2)) (ev_var rfl) (ev_var rfl) hs0) ev_c)) (decide_eq_true c)) (fun _ H3 e3 => ?_) (fun z => by cases z)
      exact s_asg (v := .int (-(RWire.numOf ((r.drop 4).take many) : Int))) (fun H4 e4 Q q => ⟨_, rfl, _, rfl, q H4 (Ex.refl _)⟩) fun H4 e4 => hfin _ H4 (e1.trans (e2.trans (e3.trans e4))) (by rw [if_pos c])
    · refine s_when (b := false) (et_is (et_test (ev_eqN (a := sg.toNat) (b := 1) (ev_oct (k := 0) (ht'.up (e1.trans e2)) (ev_var rfl) (ev_var rfl) hs0) ev_c)) (decide_eq_false c)) (fun z => by cases z) fun _ H3 e3 => ?_
      exact hfin _ H3 (e1.trans (e2.trans e3)) (by rw [if_neg c])
section
variable {K : PySem.W.Frag} {σ : L2.St} {B : Hp} {te : TE}
/-- [e for i in range(n)], where only that it ends matters -/
theorem er_lcAny {ta : TA} {j : Nat} {vs : List Nat} {n : Nat} (h : EvA ta σ B [ni n]) (hn : n ≤ 90000) (hw : ∀ x, wipe ((wipe σ vs).set j (some x)) vs = wipe σ vs)
    (he : ∀ (i : Nat) H1, Ex B H1 → i < n → ∃ v, Ev te ((wipe σ vs).set j (some (ni i))) H1 v) : EvR (tLc (iRng1 ta) (gName j) tYes te vs) σ B (fun _ _ => True) := fun H0 e Q q => h H0 e _ fun H1 e1 => ⟨(n : Int), rfl, by omega, by omega, fun Dl hD =>
  lc_range (lo := 0) (n := n) (fun i H' => Ex H1 H' ∧ ∃ acc, H' Dl = some (.lst acc) ∧ acc.length = i) ⟨Ex.new hD, [], upd_same, rfl⟩ (fun i H' hi p => by
    have e0 : (0 : Int) + (i : Int) = (i : Int) := Int.zero_add _
    rw [e0]
    obtain ⟨p1, acc, p2, p3⟩ := p
    refine ⟨hw _, ?_⟩
    show te ((wipe σ vs).set j (some (ni i))) H' fun y H4 => ∃ acc, H4 Dl = some (.lst acc) ∧ acc.length < sizeLine ∧ Ex H1 (upd H4 Dl (.lst (acc ++ [y]))) ∧ ∃ acc2, upd H4 Dl (.lst (acc ++ [y])) Dl = some (.lst acc2) ∧ acc2.length = i + 1
    obtain ⟨v, hv⟩ := he i H' (e.trans (e1.trans p1)) hi
    exact hv H' (Ex.refl _) _ fun H4 e4 => ⟨acc, e4 _ _ p2, sz_lt (by omega), Ex.mut (p1.trans e4) hD, _, upd_same, by simp [p3]⟩) (fun H' p => q _ H' (e1.trans p.1) trivial)⟩
end
def TextRead (t : Tape) (y : RWire.Octets) (v : V) (H : Hp) : Prop := ∃ c j, TupAt H v [c, ni j] ∧ Pu.At t.ns t.rest j y
theorem textRead_up (t : Tape) (y : RWire.Octets) (v : V) : Up (TextRead t y v) := fun _ _ e ⟨c, j, h1, h2⟩ => ⟨c, j, h1.mono e, h2⟩
def sp_read_text (K : PySem.W.Frag) : Sp := spB (fun (g : Tape × RWire.Octets × RWire.Octets) vs H => vs = [.ref g.1.a, ni g.1.i] ∧ TapeAt K H g.1 ∧ RWire.readText g.1.b = some (g.2.1, g.2.2)) (fun g v H => TextRead g.1 g.2.2 v H)
theorem ok_read_text {P : Program} {w : World} {K : PySem.W.Frag} {mg : PySem.Str → Option Value} {base : Heap} (T : Tx K mg base) : Ok P w K mg base 2 "read_text" ["octets", "at"] (sp_read_text K) := by
  refine ok_of (at_read_text T) sc_read_text (fun _ _ _ _ _ _ us hl => match us, hl with | [_, _], _ => rfl) (fun vs H Q E h => ?_) (fun f cdv A outer s H vs Q E hr h => ?_)
  · obtain ⟨g, B, ⟨e, _⟩, _⟩ := h
    rw [e] <;> rfl
  · obtain ⟨⟨t, u, y⟩, B, ⟨rfl, ht, hx⟩, eB, hQ⟩ := h
    (try dsimp only at ht)
    (try dsimp only at hx)
    (try dsimp only at hQ)
    refine ⟨_, (pss_cons (ps_set (i := 2) sc_read_text.nd rfl (Or.inl rfl) (pe_ok (ok_number_at T) (hr.mono (by decide)) rfl (pa_cons (pv 0) (pa_cons (pv 1) (pa_cons pe_int pa_nil)))))
      (pss_one (ps_ret (pe_tup (pa_cons (pe_lc (own := [("turn", 3)]) rfl sc_read_text.nd (pi_range1 rfl T.n_range (pa_cons (pv 2) pa_nil)) (blkOk_by (N := ["octets", "at", "many", "turn"]) (sc := defScope s_read_text) (by decide +kernel)) (fun _ _ _ _ _ => by exact (pg_name (i := 3) sc_read_text.nd rfl (Or.inl rfl))) (fun _ _ _ _ _ => by exact pts_nil) (fun _ _ _ _ _ => by exact (pe_ix (ix_listK (K := K) rfl) (pv 0) (pe_op op_add (pe_op op_add (pv 1) pe_int) (pv 3)) (fun _ _ => rfl)))) (pa_cons (pe_op op_add (pe_op op_add (pv 1) pe_int) (pv 2)) pa_nil)))))), ?_⟩
    obtain ⟨h4, hm, rfl⟩ := Pu.text_some hx
    have ht' := ht.up eB
    have hl := ht.len
    refine s_asg (ev_number0 (k := 4) ht' (ev_var rfl) (ev_var rfl) ev_c h4) fun H1 e1 => ?_
    generalize hmany : RWire.numOf (t.b.take 4) = many at *
    have hm2 : 4 + many ≤ t.b.length := by
      rw [List.length_drop] at hm
      omega
    refine s_retR (R := TextRead t ((t.b.drop 4).drop many)) (eB.trans e1) (er_tup (S := fun vs H => ∃ c, vs = [c, ni (t.i + 4 + many)]) (ar_cons (er_lcAny (n := many) (ea_cons (ev_var rfl) ea_nil) (by omega) (fun x => rfl) fun i H2 e2 hi => ?_) fun v H2 e2 _ => ar_of (ea_cons (ev_addN (a := t.i + 4) (b := many) (ev_addN (a := t.i) (b := 4) (ev_var rfl) ev_c) (ev_var rfl)) ea_nil) fun H3 e3 => ⟨v, rfl⟩)
      (fun vs H2 ⟨c, e⟩ => by rw [e]; show 2 ≤ 100000; omega) fun p vs H2 e2 ⟨c, e⟩ hp => ⟨c, _, ⟨p, rfl, by rw [e]; exact upd_same⟩, (ht.at_.drop h4).drop hm⟩) fun v B1 H2 g r => hQ v B1 H2 (((Kn.refl eB).up e1).gr g).toGr r
    have hu : t.b[4 + i]? = some (t.b[4 + i]'(by omega)) := List.getElem?_eq_getElem _
    generalize t.b[4 + i]'(by omega) = u' at hu
    exact ⟨_, ev_oct (k := 4 + i) (ht.up e2) (ev_var rfl) (ev_is (ev_addN (a := t.i + 4) (b := i) (ev_addN (a := t.i) (b := 4) (ev_var rfl) ev_c) (ev_var rfl)) (by rw [Nat.add_assoc])) hu⟩
/-! ### values: n, how deep they may be -/
def sp_rv (K : PySem.W.Frag) (n : Nat) : Sp := spB (fun (g : Tape × RWire.Value × RWire.Octets) vs H => vs = [.ref g.1.a, ni g.1.i] ∧ TapeAt K H g.1 ∧ RWire.readF n g.1.b = some (g.2.1, g.2.2) ∧ RWire.noOctets g.2.1 = true ∧ RWire.noWide g.2.1 = true) (fun g v H => ReadAt g.1 g.2.1 g.2.2 v H)
def sp_rl (K : PySem.W.Frag) (n : Nat) : Sp := spB (fun (g : Tape × RWire.Value × RWire.Octets) vs H => vs = [.ref g.1.a, ni g.1.i] ∧ TapeAt K H g.1 ∧ RWire.readList (RWire.readF n) g.1.b = some (g.2.1, g.2.2) ∧ RWire.noOctets g.2.1 = true ∧ RWire.noWide g.2.1 = true) (fun g v H => ReadAt g.1 g.2.1 g.2.2 v H)
def sp_rr (K : PySem.W.Frag) (n : Nat) : Sp := spB (fun (g : Tape × RWire.Value × RWire.Octets) vs H => vs = [.ref g.1.a, ni g.1.i] ∧ TapeAt K H g.1 ∧ RWire.readRecord (RWire.readF n) g.1.b = some (g.2.1, g.2.2) ∧ RWire.noOctets g.2.1 = true ∧ RWire.noWide g.2.1 = true) (fun g v H => ReadAt g.1 g.2.1 g.2.2 v H)
section
variable {K : PySem.W.Frag} {σ : L2.St} {B H : Hp} {te : TE} {D : Ends} {R : V → Hp → Prop}
/-- a, b = e -/
theorem s_asgR2 {i j : Nat} (e : Ex B H) (h : EvR te σ B R) (k : ∀ v B1 H1, Gr B H B1 H1 → R v B1 → ∃ x y, TupAt H1 v [x, y] ∧ D.nx ((σ.set i (some x)).set j (some y)) H1) : tAsg te (gTup K 2 (gCons (gName i) (gCons (gName j) gNil))) D σ H := h H e _ fun v H1 e1 r => by
  obtain ⟨x, y, ⟨t, rfl, ht⟩, q⟩ := k v _ H1 (Gr.of e e1) r
  exact ⟨t, _, rfl, st_of ht, rfl, _, _, rfl, _, _, rfl, rfl, q⟩
end
theorem step_read_value {P : Program} {w : World} {K : PySem.W.Frag} {mg : PySem.Str → Option Value} {base : Heap} (T : Tx K mg base) {n : Nat} (GL : Ok P w K mg base (2 * n + 5) "read_list" ["octets", "at"] (sp_rl K n)) (GR : Ok P w K mg base (2 * n + 5) "read_record" ["octets", "at"] (sp_rr K n)) : Ok P w K mg base (2 * n + 5 + 1) "read_value" ["octets", "at"] (sp_rv K (n + 1)) := by
  refine ok_of (at_read_value T) sc_read_value (fun _ _ _ _ _ _ us hl => match us, hl with | [_, _], _ => rfl) (fun vs H Q E h => ?_) (fun f cdv A outer s H vs Q E hr h => ?_)
  · obtain ⟨⟨t, x, y⟩, B, ⟨rfl, ht, hx, ho, hw⟩, eB, hQ⟩ := h
    rfl
  · obtain ⟨⟨t, x, y⟩, B, ⟨rfl, ht, hx, ho, hw⟩, eB, hQ⟩ := h
    (try dsimp only at ht)
    (try dsimp only at hx)
    (try dsimp only at ho)
    (try dsimp only at hw)
    (try dsimp only at hQ)
    refine ⟨_, (pss_cons (ps_set (i := 2) sc_read_value.nd rfl (Or.inl rfl) (pe_ix ix_list (pv 0) (pv 1) (fun _ _ => rfl)))
      (pss_cons (ps_if (pt_cmpR op_eq (pv 2) (pe_gi (g_INTEGER T) rfl) (nomark _)) (pss_one (ps_ret (pe_ok (ok_read_integer T) (hr.mono (by omega)) rfl (pa_cons (pv 0) (pa_cons (pe_op op_add (pv 1) pe_int) pa_nil))))) pss_nil)
      (pss_cons (ps_if (pt_cmpR op_eq (pv 2) (pe_gi (g_GREAT T) rfl) (nomark _)) (pss_one (ps_ret (pe_ok (ok_read_great T) (hr.mono (by omega)) rfl (pa_cons (pv 0) (pa_cons (pe_op op_add (pv 1) pe_int) pa_nil))))) pss_nil)
      (pss_cons (ps_if (pt_cmpR op_eq (pv 2) (pe_gi (g_TEXT T) rfl) (nomark _)) (pss_cons (ps_asg (pe_ok (ok_read_text T) (hr.mono (by omega)) rfl (pa_cons (pv 0) (pa_cons (pe_op op_add (pv 1) pe_int) pa_nil))) (pg_tup rfl (pgs_cons (pg_name (i := 3) sc_read_value.nd rfl (Or.inl rfl)) (pgs_cons (pg_name (i := 4) sc_read_value.nd rfl (Or.inl rfl)) pgs_nil))))
      (pss_one (ps_ret (pe_tup (pa_cons (pe_tup (pa_cons (pe_gi (g_TEXT T) rfl) (pa_cons (pv 3) pa_nil))) (pa_cons (pv 4) pa_nil)))))) pss_nil)
      (pss_cons (ps_if (pt_cmpR op_eq (pv 2) (pe_gi (g_LIST T) rfl) (nomark _)) (pss_one (ps_ret (pe_ok GL (hr.mono (by omega)) rfl (pa_cons (pv 0) (pa_cons (pe_op op_add (pv 1) pe_int) pa_nil))))) pss_nil)
      (pss_cons (ps_if (pt_cmpR op_eq (pv 2) (pe_gi (g_RECORD T) rfl) (nomark _)) (pss_one (ps_ret (pe_ok GR (hr.mono (by omega)) rfl (pa_cons (pv 0) (pa_cons (pe_op op_add (pv 1) pe_int) pa_nil))))) pss_nil)
      (pss_one (ps_ret (pe_tup (pa_cons (pe_tup (pa_cons (pv 2) (pa_cons pe_int pa_nil))) (pa_cons (pe_op op_add (pv 1) pe_int) pa_nil))))))))))), ?_⟩
    obtain ⟨kk, r, hb⟩ : ∃ kk r, t.b = kk :: r := by
      cases hb : t.b with
      | nil => rw [hb] at hx; cases hx
      | cons kk r => exact ⟨kk, r, rfl⟩
    rw [hb] at hx
    have hk : RWire.readKind (RWire.readF n) kk.toNat r = some (x, y) := hx
    have ht' := ht.up eB
    have hb1 : (t.go 1).b = r := by
      show t.b.drop 1 = r
      rw [hb] <;> rfl
    have hlen : 1 ≤ t.b.length := by
      rw [hb]
      simp
    refine s_asg (ev_oct (k := 0) ht' (ev_var rfl) (ev_var rfl) (u := kk) (by rw [hb] <;> rfl)) fun H1 e1 => ?_
    cases Pu.kind_cases hk ho hw with
    | plain e h =>
      have hlt : kk.toNat < 4 := by
        rcases h with h | h | h | h <;> omega
      refine s_kindNo rfl (by omega) ?_
      refine s_kindNo rfl (by omega) ?_
      refine s_kindNo rfl (by omega) ?_
      refine s_kindNo rfl (by omega) ?_
      refine s_kindNo rfl (by omega) ?_
      refine s_retR (eB.trans e1) (er_read (c := .int 0) (ev_var rfl) ev_c (ev_addN (a := t.i) (b := 1) (ev_var rfl) ev_c)) fun v B1 H4 g ⟨z, r1, r2⟩ => hQ _ _ _ (((Kn.refl eB).up e1).gr g).toGr ⟨t.i + 1, z, r1, ?_, ?_⟩
      · rw [e]
        have q := (ht.go (k := 1) hlen).at_
        rw [hb1] at q
        exact q
      · have r3 : TupAt B1 z [ni kk.toNat, .int 0] := r2
        rcases h with ⟨a, b⟩ | ⟨a, b⟩ | ⟨a, b⟩ | ⟨a, b⟩ <;> subst b <;> unfold Rep <;> rw [a] at r3 <;> exact r3
    | int e h =>
      refine s_kindYes rfl (by rw [e] <;> rfl) ?_
      exact s_retR (eB.trans e1) (er_call (t.go 1, x, y) (ar_of (ea_cons (ev_var rfl) (ea_cons (ev_addN (a := t.i) (b := 1) (ev_var rfl) ev_c) ea_nil)) fun H2 e2 => ⟨rfl, (ht.up e2).go hlen, by rw [hb1]; exact h⟩) (readAt_up _ _ _)) fun v B1 H4 g r => hQ _ _ _ (((Kn.refl eB).up e1).gr g).toGr r
    | big e h =>
      refine s_kindNo rfl (by omega) ?_
      refine s_kindYes rfl (by rw [e] <;> rfl) ?_
      exact s_retR (eB.trans e1) (er_call (t.go 1, x, y) (ar_of (ea_cons (ev_var rfl) (ea_cons (ev_addN (a := t.i) (b := 1) (ev_var rfl) ev_c) ea_nil)) fun H2 e2 => ⟨rfl, (ht.up e2).go hlen, by rw [hb1]; exact h⟩) (readAt_up _ _ _)) fun v B1 H4 g r => hQ _ _ _ (((Kn.refl eB).up e1).gr g).toGr r
    | text e u h hxx =>
      refine s_kindNo rfl (by omega) ?_
      refine s_kindNo rfl (by omega) ?_
      refine s_kindYes rfl (by rw [e] <;> rfl) ?_
      refine s_asgR2 (eB.trans e1) (er_call (t.go 1, u, y) (ar_of (ea_cons (ev_var rfl) (ea_cons (ev_addN (a := t.i) (b := 1) (ev_var rfl) ev_c) ea_nil)) fun H2 e2 => ⟨rfl, (ht.up e2).go hlen, by rw [hb1]; exact h⟩) (textRead_up _ _)) fun v B1 H2 g ⟨c, j, h1, h2⟩ => ⟨c, ni j, h1.mono g.i, ?_⟩
      have k1 := ((Kn.refl eB).up e1).gr g
      refine s_retR k1.i (er_read (c := c) (j := j) ev_c (ev_var rfl) (ev_var rfl)) fun v B2 H4 g2 ⟨z, r1, r2⟩ => hQ _ _ _ (k1.gr g2).toGr ⟨j, z, r1, h2, ?_⟩
      subst hxx
      unfold Rep
      exact ⟨c, r2⟩
    | list e h =>
      refine s_kindNo rfl (by omega) ?_
      refine s_kindNo rfl (by omega) ?_
      refine s_kindNo rfl (by omega) ?_
      refine s_kindYes rfl (by rw [e] <;> rfl) ?_
      exact s_retR (eB.trans e1) (er_call (t.go 1, x, y) (ar_of (ea_cons (ev_var rfl) (ea_cons (ev_addN (a := t.i) (b := 1) (ev_var rfl) ev_c) ea_nil)) fun H2 e2 => ⟨rfl, (ht.up e2).go hlen, by rw [hb1]; exact h, ho, hw⟩) (readAt_up _ _ _)) fun v B1 H4 g r => hQ _ _ _ (((Kn.refl eB).up e1).gr g).toGr r
    | record e h =>
      refine s_kindNo rfl (by omega) ?_
      refine s_kindNo rfl (by omega) ?_
      refine s_kindNo rfl (by omega) ?_
      refine s_kindNo rfl (by omega) ?_
      refine s_kindYes rfl (by rw [e] <;> rfl) ?_
      exact s_retR (eB.trans e1) (er_call (t.go 1, x, y) (ar_of (ea_cons (ev_var rfl) (ea_cons (ev_addN (a := t.i) (b := 1) (ev_var rfl) ev_c) ea_nil)) fun H2 e2 => ⟨rfl, (ht.up e2).go hlen, by rw [hb1]; exact h, ho, hw⟩) (readAt_up _ _ _)) fun v B1 H4 g r => hQ _ _ _ (((Kn.refl eB).up e1).gr g).toGr r
theorem step_read_list {P : Program} {w : World} {K : PySem.W.Frag} {mg : PySem.Str → Option Value} {base : Heap} (T : Tx K mg base) {n : Nat} (G : Ok P w K mg base (2 * n + 4) "read_value" ["octets", "at"] (sp_rv K n)) : Ok P w K mg base (2 * n + 4 + 1) "read_list" ["octets", "at"] (sp_rl K n) := by
  refine ok_of (at_read_list T) sc_read_list (fun _ _ _ _ _ _ us hl => match us, hl with | [_, _], _ => rfl) (fun vs H Q E h => ?_) (fun f cdv A outer s H vs Q E hr h => ?_)
  · obtain ⟨⟨t, x, y⟩, B, ⟨rfl, ht, hx, ho, hw⟩, eB, hQ⟩ := h
    rfl
  · obtain ⟨⟨t, x, y⟩, B, ⟨rfl, ht, hx, ho, hw⟩, eB, hQ⟩ := h
    (try dsimp only at ht)
    (try dsimp only at hx)
    (try dsimp only at ho)
    (try dsimp only at hw)
    (try dsimp only at hQ)
    refine ⟨_, (pss_cons (ps_set (i := 2) sc_read_list.nd rfl (Or.inl rfl) (pe_lst pa_nil))
      (pss_cons (ps_set (i := 3) sc_read_list.nd rfl (Or.inl rfl) (pe_op op_add (pv 1) pe_int))
      (pss_cons (ps_for PassesOwn.never rfl (pi_range1 rfl T.n_range (pa_cons (pe_ok (ok_number_at T) (hr.mono (by omega)) rfl (pa_cons (pv 0) (pa_cons (pv 1) (pa_cons pe_int pa_nil)))) pa_nil)) (pg_name (i := 4) sc_read_list.nd rfl (Or.inl rfl)) (pss_cons (ps_asg (pe_ok G (hr.mono (by omega)) rfl (pa_cons (pv 0) (pa_cons (pv 3) pa_nil))) (pg_tup rfl (pgs_cons (pg_name (i := 5) sc_read_list.nd rfl (Or.inl rfl)) (pgs_cons (pg_name (i := 3) sc_read_list.nd rfl (Or.inl rfl)) pgs_nil))))
      (pss_one (ps_expr (pe_bm PySem.F.plainAttrs_list PySem.F.slot_list_append PySem.F.type_list_append mt_append (pv 2) (pa_cons (pv 5) pa_nil))))))
      (pss_one (ps_ret (pe_tup (pa_cons (pe_tup (pa_cons (pe_gi (g_LIST T) rfl) (pa_cons (pv 2) pa_nil))) (pa_cons (pv 3) pa_nil)))))))), ?_⟩
    obtain ⟨l, rfl, h4, hm⟩ := Pu.list_some hx
    have hlt := ht.len
    generalize hcnt : RWire.numOf (t.b.take 4) = m at *
    have hml := Pu.many_len (Pu.readF_len n) m (t.b.drop 4) l y hm
    have hm9 : m ≤ 61000 := by
      have := hml.2
      rw [List.length_drop] at this
      omega
    refine s_asgL (el_lst (vs := []) ea_nil (by show 0 ≤ 100000; omega)) fun u H1 hu e1 h1 => ?_
    refine s_asg (ev_addN (a := t.i) (b := 4) (ev_var rfl) ev_c) fun H2 e2 => ?_
    have k0 : Kn B H B H2 := (Kn.refl eB).up (e1.trans e2)
    have hBu := ex_none eB hu
    have hn := ev_number0 (ta := tVar 0) (tb := tVar 1) (tc := tC (.int 4)) (σ := [some (.ref t.a), some (ni t.i), some (.ref u), some (ni (t.i + 4)), none, none]) (k := 4) (ht.up k0.i) (ev_var rfl) (ev_var rfl) ev_c h4
    rw [hcnt] at hn
    refine s_forR1 (n := (m : Int)) (ea_cons hn ea_nil) (by omega) (fun k σ H' => ∃ z1 z2 j bk B1 ys, σ = [some (.ref t.a), some (ni t.i), some (.ref u), some (ni j), z1, z2] ∧ Kn B H B1 H' ∧ B1 u = none ∧ H' u = some (.lst ys) ∧ ys.length = k ∧ Pu.At t.ns t.rest j bk ∧ RWire.readMany (RWire.readF n) (m - k) bk = some (l.drop k, y) ∧ ∀ (i : Nat) (z : V), ys[i]? = some z → ∃ x, l[i]? = some x ∧ Rep B1 x z)
      (fun H3 e3 => ⟨none, none, _, _, B, [], rfl, k0.up e3, hBu, e3 _ _ (e2 _ _ h1), rfl, ht.at_.drop h4, hm, fun i z q => by simp at q⟩) ?_ ?_
    · rintro k σ' H' hk ⟨_, _, j, bk, B1, ys, rfl, kn, hu1, hl1, hyl, hat, hr1, hrep⟩
      have hk' : k < m := by omega
      obtain ⟨x, b2, q1, q2, q3⟩ := Pu.many_turn hk' hr1
      have hmem := List.mem_of_getElem? q3
      refine s_asgR2 kn.i (er_call (Tape.mk t.a t.ns t.rest j bk, x, b2) (ar_of (ea_cons (ev_var rfl) (ea_cons (ev_var rfl) ea_nil)) fun H3 e3 => ⟨rfl, (ht.to hat).up (kn.b.trans e3), q1, Pu.noO_mem (by simpa [RWire.noOctets] using ho) hmem, Pu.noW_mem (by simpa [RWire.noWide] using hw) hmem⟩) (readAt_up _ _ _)) fun v B2 H3 g ⟨j2, z, r1, r2, r3⟩ => ⟨z, ni j2, r1.mono g.i, ?_⟩
      refine s_app (g.h _ _ hl1) (ev_var rfl) (ev_var (v := z) rfl) (by omega) fun H4 e4 => ⟨_, _, j2, b2, B2, ys ++ [z], rfl, ((kn.gr g).up e4).mut hu (g.none hl1 hu1), g.none hl1 hu1, upd_same, by simp [hyl], r2, q2, fun i z' q => ?_⟩
      by_cases c : i < ys.length
      · rw [List.getElem?_append_left c] at q
        obtain ⟨x', a1, a2⟩ := hrep i z' q
        exact ⟨x', a1, Rep.mono g.b _ _ a2⟩
      · rw [List.getElem?_append_right (by omega)] at q
        have e0 : i - ys.length = 0 := by
          have := (List.getElem?_eq_some_iff.mp q).1
          simp at this
          omega
        rw [e0] at q
        cases q
        have e5 : i = k := by omega
        subst e5
        exact ⟨x, q3, r3⟩
    · rintro σ' H' ⟨_, _, j, bk, B1, ys, rfl, kn, hu1, hl1, hyl, hat, hr1, hrep⟩
      rw [Int.toNat_natCast] at hyl hr1
      rw [Nat.sub_self] at hr1
      have hy : bk = y := by
        have q := congrArg (fun z => z.map Prod.snd) hr1
        exact Option.some.inj q
      subst hy
      have k1 := kn.know hu hl1
      refine s_retR k1.i (er_read (c := .ref u) (j := j) ev_c (ev_var rfl) (ev_var rfl)) fun v B2 H4 g ⟨z, r1, r2⟩ => hQ _ _ _ (k1.gr g).toGr ⟨j, z, r1, hat, ?_⟩
      unfold Rep
      refine ⟨u, ys, r2, g.b _ _ upd_same, RepAll.mono g.b _ _ (repAll_of _ _ (by rw [hyl, hml.1]) fun i z' q => ?_)⟩
      obtain ⟨x', a1, a2⟩ := hrep i z' q
      exact ⟨x', a1, Rep.mono (Ex.new hu1) _ _ a2⟩
theorem step_read_record {P : Program} {w : World} {K : PySem.W.Frag} {mg : PySem.Str → Option Value} {base : Heap} (T : Tx K mg base) {n : Nat} (G : Ok P w K mg base (2 * n + 4) "read_value" ["octets", "at"] (sp_rv K n)) : Ok P w K mg base (2 * n + 4 + 1) "read_record" ["octets", "at"] (sp_rr K n) := by
  refine ok_of (at_read_record T) sc_read_record (fun _ _ _ _ _ _ us hl => match us, hl with | [_, _], _ => rfl) (fun vs H Q E h => ?_) (fun f cdv A outer s H vs Q E hr h => ?_)
  · obtain ⟨⟨t, x, y⟩, B, ⟨rfl, ht, hx, ho, hw⟩, eB, hQ⟩ := h
    rfl
  · obtain ⟨⟨t, x, y⟩, B, ⟨rfl, ht, hx, ho, hw⟩, eB, hQ⟩ := h
    (try dsimp only at ht)
    (try dsimp only at hx)
    (try dsimp only at ho)
    (try dsimp only at hw)
    (try dsimp only at hQ)
    refine ⟨_, (pss_cons (ps_set (i := 2) sc_read_record.nd rfl (Or.inl rfl) (pe_lst pa_nil))
      (pss_cons (ps_set (i := 3) sc_read_record.nd rfl (Or.inl rfl) (pe_op op_add (pv 1) pe_int))
      (pss_cons (ps_for PassesOwn.never rfl (pi_range1 rfl T.n_range (pa_cons (pe_ok (ok_number_at T) (hr.mono (by omega)) rfl (pa_cons (pv 0) (pa_cons (pv 1) (pa_cons pe_int pa_nil)))) pa_nil)) (pg_name (i := 4) sc_read_record.nd rfl (Or.inl rfl)) (pss_cons (ps_asg (pe_ok (ok_read_text T) (hr.mono (by omega)) rfl (pa_cons (pv 0) (pa_cons (pv 3) pa_nil))) (pg_tup rfl (pgs_cons (pg_name (i := 5) sc_read_record.nd rfl (Or.inl rfl)) (pgs_cons (pg_name (i := 3) sc_read_record.nd rfl (Or.inl rfl)) pgs_nil))))
      (pss_cons (ps_asg (pe_ok G (hr.mono (by omega)) rfl (pa_cons (pv 0) (pa_cons (pv 3) pa_nil))) (pg_tup rfl (pgs_cons (pg_name (i := 6) sc_read_record.nd rfl (Or.inl rfl)) (pgs_cons (pg_name (i := 3) sc_read_record.nd rfl (Or.inl rfl)) pgs_nil))))
      (pss_one (ps_expr (pe_bm PySem.F.plainAttrs_list PySem.F.slot_list_append PySem.F.type_list_append mt_append (pv 2) (pa_cons (pe_tup (pa_cons (pv 5) (pa_cons (pv 6) pa_nil))) pa_nil)))))))
      (pss_one (ps_ret (pe_tup (pa_cons (pe_tup (pa_cons (pe_gi (g_RECORD T) rfl) (pa_cons (pv 2) pa_nil))) (pa_cons (pv 3) pa_nil)))))))), ?_⟩
    obtain ⟨l, rfl, h4, hm⟩ := Pu.record_some hx
    have hlt := ht.len
    generalize hcnt : RWire.numOf (t.b.take 4) = m at *
    have hml := Pu.many_len (Pu.entry_len (Pu.readF_len n)) m (t.b.drop 4) l y hm
    have hm9 : m ≤ 61000 := by
      have := hml.2
      rw [List.length_drop] at this
      omega
    refine s_asgL (el_lst (vs := []) ea_nil (by show 0 ≤ 100000; omega)) fun u H1 hu e1 h1 => ?_
    refine s_asg (ev_addN (a := t.i) (b := 4) (ev_var rfl) ev_c) fun H2 e2 => ?_
    have k0 : Kn B H B H2 := (Kn.refl eB).up (e1.trans e2)
    have hBu := ex_none eB hu
    have hn := ev_number0 (ta := tVar 0) (tb := tVar 1) (tc := tC (.int 4)) (σ := [some (.ref t.a), some (ni t.i), some (.ref u), some (ni (t.i + 4)), none, none, none]) (k := 4) (ht.up k0.i) (ev_var rfl) (ev_var rfl) ev_c h4
    rw [hcnt] at hn
    refine s_forR1 (n := (m : Int)) (ea_cons hn ea_nil) (by omega) (fun k σ H' => ∃ z1 z2 z3 j bk B1 ys, σ = [some (.ref t.a), some (ni t.i), some (.ref u), some (ni j), z1, z2, z3] ∧ Kn B H B1 H' ∧ B1 u = none ∧ H' u = some (.lst ys) ∧ ys.length = k ∧ Pu.At t.ns t.rest j bk ∧ RWire.readMany (RWire.readEntry (RWire.readF n)) (m - k) bk = some (l.drop k, y))
      (fun H3 e3 => ⟨none, none, none, _, _, B, [], rfl, k0.up e3, hBu, e3 _ _ (e2 _ _ h1), rfl, ht.at_.drop h4, hm⟩) ?_ ?_
    · rintro k σ' H' hk ⟨_, _, _, j, bk, B1, ys, rfl, kn, hu1, hl1, hyl, hat, hr1⟩
      have hk' : k < m := by omega
      obtain ⟨x, b2, q1, q2, q3⟩ := Pu.many_turn hk' hr1
      have hmem := List.mem_of_getElem? q3
      obtain ⟨b3, q4, q5⟩ := Pu.entry_some q1
      refine s_asgR2 kn.i (er_call (Tape.mk t.a t.ns t.rest j bk, x.1, b3) (ar_of (ea_cons (ev_var rfl) (ea_cons (ev_var rfl) ea_nil)) fun H3 e3 => ⟨rfl, (ht.to hat).up (kn.b.trans e3), q4⟩) (textRead_up _ _)) fun v B2 H3 g ⟨c, j2, r1, r2⟩ => ⟨c, ni j2, r1.mono g.i, ?_⟩
      refine s_asgR2 g.i (er_call (Tape.mk t.a t.ns t.rest j2 b3, x.2, b2) (ar_of (ea_cons (ev_var rfl) (ea_cons (ev_var rfl) ea_nil)) fun H4 e4 => ⟨rfl, (ht.to r2).up ((kn.b.trans g.b).trans e4), q5, Pu.noO_ent (by simpa [RWire.noOctets] using ho) hmem, Pu.noW_ent (by simpa [RWire.noWide] using hw) hmem⟩) (readAt_up _ _ _)) fun v3 B3 H4 g3 ⟨j3, z, p1, p2, p3⟩ => ⟨z, ni j3, p1.mono g3.i, ?_⟩
      have hl4 := g3.h _ _ (g.h _ _ hl1)
      have hn2 := g.none hl1 hu1
      have hn3 := g3.none (g.h _ _ hl1) hn2
      have k3 := (kn.gr g).gr g3
      refine s_appR k3.i hl4 (ev_var rfl) (er_tup (S := fun vs _ => vs = [c, z]) (R := fun _ _ => True) (ar_of (ea_cons (ev_var (v := c) rfl) (ea_cons (ev_var (v := z) rfl) ea_nil)) fun _ _ => rfl) (fun vs H1 e => by rw [e]; show 2 ≤ 100000; omega) fun _ _ _ _ _ _ => trivial) (by omega) fun v4 B4 H5 g4 _ => ⟨_, _, _, j3, b2, B4, ys ++ [v4], rfl, ((k3.gr g4)).mut hu (g4.none hl4 hn3), g4.none hl4 hn3, upd_same, by simp [hyl], p2, q2⟩
    · rintro σ' H' ⟨_, _, _, j, bk, B1, ys, rfl, kn, hu1, hl1, hyl, hat, hr1⟩
      rw [Int.toNat_natCast] at hyl hr1
      rw [Nat.sub_self] at hr1
      have hy : bk = y := by
        have q := congrArg (fun z => z.map Prod.snd) hr1
        exact Option.some.inj q
      subst hy
      refine s_retR kn.i (er_read (c := .ref u) (j := j) ev_c (ev_var rfl) (ev_var rfl)) fun v B2 H4 g ⟨z, r1, r2⟩ => hQ _ _ _ (kn.gr g).toGr ⟨j, z, r1, hat, ?_⟩
      unfold Rep
      exact ⟨_, r2⟩
theorem read_all {P : Program} {w : World} {K : PySem.W.Frag} {mg : PySem.Str → Option Value} {base : Heap} (T : Tx K mg base) : ∀ n : Nat, Ok P w K mg base (2 * n + 4) "read_value" ["octets", "at"] (sp_rv K n)
  | 0 => by
    obtain ⟨f, fd, hm, F⟩ := (at_read_value T).ex
    have no : ∀ vs H Q E, ¬ sp_rv K 0 vs H Q E := fun vs H Q E h => by
      obtain ⟨g, ⟨B, ⟨_, _, hx, _⟩, _⟩⟩ := h
      cases hx
    exact ⟨f, fd, ⟨fun vs H Q E h => absurd h (no vs H Q E), fun A outer s H args us vs Q E _ _ _ _ h => absurd h (no vs H Q E)⟩, hm, F.kp, F.bindsN (ps := ["octets", "at"]) fun _ _ _ _ _ _ us hl => match us, hl with | [_, _], _ => rfl⟩
  | n + 1 => step_read_value T (step_read_list T (read_all T n)) (step_read_record T (read_all T n))
def sp_read_value (K : PySem.W.Frag) : Sp := sp_rv K 32
theorem ok_read_value {P : Program} {w : World} {K : PySem.W.Frag} {mg : PySem.Str → Option Value} {base : Heap} (T : Tx K mg base) : Ok P w K mg base 70 "read_value" ["octets", "at"] (sp_read_value K) := (read_all T 32).mono (by decide)
/-- a request's arguments, filled up to three -/
def padded (l : List RWire.Value) : List RWire.Value := l ++ List.replicate (3 - l.length) .nothing
def AskAt (d : Nat) (l : List RWire.Value) (v : V) (H : Hp) : Prop := ∃ z, TupAt H v [ni d, z] ∧ RepL H (padded l) z
theorem askAt_up (d : Nat) (l : List RWire.Value) (v : V) : Up (AskAt d l v) := fun _ _ e ⟨z, h1, h2⟩ => ⟨z, h1.mono e, h2.mono e⟩
theorem padded_get {l : List RWire.Value} {k : Nat} (hk : l.length ≤ k) (h3 : k < 3) : (padded l)[k]? = some .nothing := by
  unfold padded
  rw [List.getElem?_append_right hk, List.getElem?_replicate, if_pos (by omega)]
def sp_read_request (K : PySem.W.Frag) : Sp := spB (fun (g : Tape × Nat × List RWire.Value) vs H => vs = [.ref g.1.a, ni g.1.i] ∧ TapeAt K H g.1 ∧ RWire.readRequest g.1.b = some (g.2.1, g.2.2) ∧ RWire.noOctetsMany g.2.2 = true ∧ RWire.noWideMany g.2.2 = true) (fun g v H => AskAt g.2.1 g.2.2 v H)
theorem ok_read_request {P : Program} {w : World} {K : PySem.W.Frag} {mg : PySem.Str → Option Value} {base : Heap} (T : Tx K mg base) : Ok P w K mg base 71 "read_request" ["octets", "at"] (sp_read_request K) := by
  refine ok_of (at_read_request T) sc_read_request (fun _ _ _ _ _ _ us hl => match us, hl with | [_, _], _ => rfl) (fun vs H Q E h => ?_) (fun f cdv A outer s H vs Q E hr h => ?_)
  · obtain ⟨g, B, ⟨e, _⟩, _⟩ := h
    rw [e] <;> rfl
  · obtain ⟨⟨t, d, l⟩, B, ⟨rfl, ht, hx, ho, hw⟩, eB, hQ⟩ := h
    (try dsimp only at ht)
    (try dsimp only at hx)
    (try dsimp only at ho)
    (try dsimp only at hw)
    (try dsimp only at hQ)
    refine ⟨_, (pss_cons (ps_set (i := 2) sc_read_request.nd rfl (Or.inl rfl) (pe_lst pa_nil))
      (pss_cons (ps_set (i := 3) sc_read_request.nd rfl (Or.inl rfl) (pe_op op_add (pv 1) pe_int))
      (pss_cons (ps_for PassesOwn.never rfl (pi_range1 rfl T.n_range (pa_cons (pe_ix ix_list (pv 0) (pe_op op_add (pv 1) pe_int) (fun _ _ => rfl)) pa_nil)) (pg_name (i := 4) sc_read_request.nd rfl (Or.inl rfl)) (pss_cons (ps_asg (pe_ok (ok_read_value T) (hr.mono (by decide)) rfl (pa_cons (pv 0) (pa_cons (pv 3) pa_nil))) (pg_tup rfl (pgs_cons (pg_name (i := 5) sc_read_request.nd rfl (Or.inl rfl)) (pgs_cons (pg_name (i := 3) sc_read_request.nd rfl (Or.inl rfl)) pgs_nil))))
      (pss_one (ps_expr (pe_bm PySem.F.plainAttrs_list PySem.F.slot_list_append PySem.F.type_list_append mt_append (pv 2) (pa_cons (pv 5) pa_nil))))))
      (pss_cons (ps_for PassesOwn.never rfl (pi_range2 rfl T.n_range (pa_cons (pe_callB call_len_seq (by rfl) T.n_len PySem.boot_len (pa_cons (pv 2) pa_nil)) (pa_cons (pe_gi (g_MOST_ARGUMENTS T) rfl) pa_nil))) (pg_name (i := 4) sc_read_request.nd rfl (Or.inl rfl)) (pss_one (ps_expr (pe_bm PySem.F.plainAttrs_list PySem.F.slot_list_append PySem.F.type_list_append mt_append (pv 2) (pa_cons (pe_tup (pa_cons (pe_gi (g_NOTHING T) rfl) (pa_cons pe_int pa_nil))) pa_nil)))))
      (pss_one (ps_ret (pe_tup (pa_cons (pe_ok (ok_number_at T) (hr.mono (by decide)) rfl (pa_cons (pv 0) (pa_cons (pv 1) (pa_cons pe_int pa_nil)))) (pa_cons (pv 2) pa_nil))))))))), ?_⟩
    obtain ⟨o0, o1, o2, r, hb, hd, hm⟩ : ∃ o0 o1 o2 r, t.b = o0 :: o1 :: o2 :: r ∧ d = o0.toNat + 256 * o1.toNat ∧ RWire.readMany (RWire.readF 32) o2.toNat r = some (l, []) := by
      unfold RWire.readRequest at hx
      split at hx
      · rename_i o0 o1 o2 r hb
        unfold RWire.readArgs RWire.nestMost at hx
        split at hx
        · cases hx
        · rename_i l2 hl2
          split at hl2
          · rename_i l3 hl3
            cases hl2
            cases hx
            exact ⟨o0, o1, o2, r, hb, rfl, hl3⟩
          · cases hl2
      · cases hx
    have hlt := ht.len
    have hlb : t.b.length = r.length + 3 := by rw [hb] <;> rfl
    have hb3 : t.b.drop 3 = r := by rw [hb] <;> rfl
    have hml := Pu.many_len (Pu.readF_len 32) _ _ _ _ hm
    have ho2 := o2.toNat_lt
    refine s_asgL (el_lst (vs := []) ea_nil (by show 0 ≤ 100000; omega)) fun u H1 hu e1 h1 => ?_
    refine s_asg (ev_addN (a := t.i) (b := 3) (ev_var rfl) ev_c) fun H2 e2 => ?_
    have k0 : Kn B H B H2 := (Kn.refl eB).up (e1.trans e2)
    have hBu := ex_none eB hu
    have hat3 := ht.at_.drop (k := 3) (by omega)
    rw [hb3] at hat3
    refine s_forR1 (n := (o2.toNat : Int)) (ea_cons (ev_oct (k := 2) (ht.up k0.i) (ev_var rfl) (ev_addN (a := t.i) (b := 2) (ev_var rfl) ev_c) (u := o2) (by rw [hb] <;> rfl)) ea_nil) (by omega) (fun k σ H' => ∃ z1 z2 j bk B1 ys, σ = [some (.ref t.a), some (ni t.i), some (.ref u), some (ni j), z1, z2] ∧ Kn B H B1 H' ∧ B1 u = none ∧ H' u = some (.lst ys) ∧ ys.length = k ∧ Pu.At t.ns t.rest j bk ∧ RWire.readMany (RWire.readF 32) (o2.toNat - k) bk = some (l.drop k, []) ∧ ∀ (i : Nat) (z : V), ys[i]? = some z → ∃ x, l[i]? = some x ∧ Rep B1 x z)
      (fun H3 e3 => ⟨none, none, _, _, B, [], rfl, k0.up e3, hBu, e3 _ _ (e2 _ _ h1), rfl, hat3, hm, fun i z q => by simp at q⟩) ?_ ?_
    · rintro k σ' H' hk ⟨_, _, j, bk, B1, ys, rfl, kn, hu1, hl1, hyl, hat, hr1, hrep⟩
      have hk' : k < o2.toNat := by omega
      obtain ⟨x, b2, q1, q2, q3⟩ := Pu.many_turn hk' hr1
      have hmem := List.mem_of_getElem? q3
      refine s_asgR2 kn.i (er_call (Tape.mk t.a t.ns t.rest j bk, x, b2) (ar_of (ea_cons (ev_var rfl) (ea_cons (ev_var rfl) ea_nil)) fun H3 e3 => ⟨rfl, (ht.to hat).up (kn.b.trans e3), q1, Pu.noO_mem ho hmem, Pu.noW_mem hw hmem⟩) (readAt_up _ _ _)) fun v B2 H3 g ⟨j2, z, r1, r2, r3⟩ => ⟨z, ni j2, r1.mono g.i, ?_⟩
      refine s_app (g.h _ _ hl1) (ev_var rfl) (ev_var (v := z) rfl) (by omega) fun H4 e4 => ⟨_, _, j2, b2, B2, ys ++ [z], rfl, ((kn.gr g).up e4).mut hu (g.none hl1 hu1), g.none hl1 hu1, upd_same, by simp [hyl], r2, q2, fun i z' q => ?_⟩
      by_cases c : i < ys.length
      · rw [List.getElem?_append_left c] at q
        obtain ⟨x', a1, a2⟩ := hrep i z' q
        exact ⟨x', a1, Rep.mono g.b _ _ a2⟩
      · rw [List.getElem?_append_right (by omega)] at q
        have e0 : i - ys.length = 0 := by
          have := (List.getElem?_eq_some_iff.mp q).1
          simp at this
          omega
        rw [e0] at q
        cases q
        have e5 : i = k := by omega
        subst e5
        exact ⟨x, q3, r3⟩
    · rintro σ' H' ⟨z1, z2, j, bk, B1, ys, rfl, kn, hu1, hl1, hyl, hat, hr1, hrep⟩
      rw [Int.toNat_natCast] at hyl
      have hyl2 : ys.length = l.length := by rw [hyl, hml.1]
      have hl9 : l.length < 256 := by rw [hml.1]; exact ho2
      have hrep0 : ∀ (i : Nat) (z : V), ys[i]? = some z → ∃ x, (padded l)[i]? = some x ∧ Rep B1 x z := fun i z q => by
        obtain ⟨x', a1, a2⟩ := hrep i z q
        exact ⟨x', by
          unfold padded
          rw [List.getElem?_append_left (List.getElem?_eq_some_iff.mp a1).1]
          exact a1, a2⟩
      dsimp only
      refine s_forR2 (lo := (l.length : Int)) (n := 3) (ea_cons (ev_is (ev_len (ev_var rfl) (sq_of hl1)) (by rw [hyl2])) (ea_cons ev_c ea_nil)) (by omega) (fun k σ H' => ∃ z B1 ys, σ = [some (.ref t.a), some (ni t.i), some (.ref u), some (ni j), z, z2] ∧ Kn B H B1 H' ∧ B1 u = none ∧ H' u = some (.lst ys) ∧ ys.length = l.length + k ∧ ∀ (i : Nat) (z : V), ys[i]? = some z → ∃ x, (padded l)[i]? = some x ∧ Rep B1 x z)
        (fun H3 e3 => ⟨z1, B1, ys, rfl, kn.up e3, hu1, e3 _ _ hl1, hyl2, hrep0⟩) ?_ ?_
      · rintro k σ' H' hk ⟨_, B1, ys, rfl, kn, hu1, hl1, hyl, hrep⟩
        refine s_appR kn.i hl1 (ev_var rfl) (er_tup (S := fun vs _ => vs = [.int 0, .int 0]) (R := fun v H => TupAt H v [.int 0, .int 0]) (ar_of (ea_cons ev_c (ea_cons ev_c ea_nil)) fun _ _ => rfl) (fun vs H1 e => by rw [e]; show 2 ≤ 100000; omega) fun p vs H1 _ e hp => ⟨p, rfl, by rw [e]; exact upd_same⟩) (by omega) fun v B2 H3 g r => ⟨_, B2, ys ++ [v], rfl, (kn.gr g).mut hu (g.none hl1 hu1), g.none hl1 hu1, upd_same, by simp [hyl, Nat.add_assoc], fun i z' q => ?_⟩
        by_cases c : i < ys.length
        · rw [List.getElem?_append_left c] at q
          obtain ⟨x', a1, a2⟩ := hrep i z' q
          exact ⟨x', a1, Rep.mono g.b _ _ a2⟩
        · rw [List.getElem?_append_right (by omega)] at q
          have e0 : i - ys.length = 0 := by
            have := (List.getElem?_eq_some_iff.mp q).1
            simp at this
            omega
          rw [e0] at q
          cases q
          refine ⟨.nothing, padded_get (by omega) (by omega), ?_⟩
          unfold Rep
          exact r
      · rintro σ' H' ⟨_, B1, ys, rfl, kn, hu1, hl1, hyl, hrep⟩
        have k1 := kn.know hu hl1
        have hnum : RWire.numOf (t.b.take 2) = d := by
          rw [hb, hd]
          show o0.toNat + 256 * (o1.toNat + 256 * 0) = _
          omega
        refine s_retR (R := AskAt d l) k1.i (er_tup (S := fun vs H => vs = [ni d, .ref u] ∧ RepL H (padded l) (.ref u)) (ar_of (ea_cons (ev_is (ev_number0 (k := 2) (ht.up k1.b) (ev_var rfl) (ev_var rfl) ev_c (by omega)) (by rw [hnum])) (ea_cons (ev_var rfl) ea_nil)) fun H4 e4 => ⟨rfl, ?_⟩) (fun vs H1 e => by rw [e.1]; show 2 ≤ 100000; omega) fun p vs H4 e4 s4 hp => ⟨.ref u, ⟨p, rfl, by rw [s4.1]; exact upd_same⟩, s4.2.mono (Ex.new hp)⟩) fun v B2 H4 g r => hQ _ _ _ (k1.gr g).toGr r
        refine (RepL.mono ⟨u, ys, rfl, upd_same, repAll_of _ _ ?_ fun i z' q => ?_⟩ e4 : RepL H4 (padded l) (.ref u))
        · unfold padded
          rw [List.length_append, List.length_replicate, hyl]
          omega
        · obtain ⟨x', a1, a2⟩ := hrep i z' q
          exact ⟨x', a1, Rep.mono (Ex.new hu1) _ _ a2⟩
end Cm
end PartF9
section PartF10
set_option Elab.async false
set_option linter.all false
set_option maxRecDepth 100000
set_option maxHeartbeats 4000000
namespace Cm
open PySem PySem.Spec PyProof.Rows L2 Evl
open Pu (nb wholeB belowB natsOf natOf natListB listOf pairB pairsB lineB linesB rowOf rowsOf)
/-! ### one argument more often -/
section
variable {K : PySem.W.Frag} {σ : L2.St} {B H : Hp} {ta tb te : TE} {tr : TA}
theorem er_call1 {α : Type} {A : α → List V → Hp → Prop} {S : α → V → Hp → Prop} {R R2 : V → Hp → Prop} (f : V → α) (h : EvR te σ B R) (i : ∀ v H1, Ex B H1 → R v H1 → A (f v) [v] H1) (up : ∀ v, Up (R2 v)) (j : ∀ v w H1, S (f v) w H1 → R2 w H1) : EvR (tCall (spB A S) [] E0 (tCons te tNil)) σ B R2 := fun H1 e Q q =>
  h H1 e _ fun v H2 e2 r => ⟨f v, ext B H1 H2, i v _ (ext_ex e) r, ext_in e e2, fun w B3 H3 gr s => q w H3 (e2.trans gr.h) (up w _ _ (by
    rw [← ext_ext e2 gr.h]
    intro a o ha
    cases c : H2 a with
    | none =>
      rw [ext_new c]
      exact gr.i a o ha
    | some u =>
      rw [ext_old c, ← gr.fr a (some_ne c)]
      exact ha) (j v w _ s))⟩
theorem er_greats {l : List Nat} (h : EvR te σ B (fun v H => LN H v l)) (hn : l.length ≤ 40000) : EvR (tCall sp_greats [] E0 (tCons te tNil)) σ B (fun v H => Out H (oBigs l) v) :=
  er_call1 (fun v => (v, l)) h (fun v H1 e r => ⟨rfl, r, hn⟩) (out_up _) fun v w H1 s => s
theorem er_listed {l : List RWire.Value} (h : EvR te σ B (fun v H => OutL H l v)) : EvR (tCall sp_listed [] E0 (tCons te tNil)) σ B (fun v H => Out H (.list l) v) :=
  er_call1 (fun v => (v, l)) h (fun v H1 e r => ⟨rfl, r⟩) (out_up _) fun v w H1 s => s
theorem er_record {l : List (RWire.Text × RWire.Value)} (h : EvR te σ B (fun v H => OutE H l v)) : EvR (tCall sp_record [] E0 (tCons te tNil)) σ B (fun v H => Out H (.record l) v) :=
  er_call1 (fun v => (v, l)) h (fun v H1 e r => ⟨rfl, r⟩) (out_up _) fun v w H1 s => s
theorem er_returned {x : RWire.Value} (h : EvR te σ B (fun v H => Out H x v)) (hd : RWire.depth x ≤ 32) (hz : (RWire.write x).length ≤ 80000) : EvR (tCall sp_returned [] E0 (tCons te tNil)) σ B (fun v H => BytesAt H v (0 :: RWire.write x)) :=
  er_call1 (fun v => (v, x)) h (fun v H1 e r => ⟨rfl, r, hd, hz⟩) (bytes_up _) fun v w H1 s => s
theorem ar_ent {s : PySem.Str} {n : RWire.Text} {x : RWire.Value} {l : List (RWire.Text × RWire.Value)} (h : EvR te σ B (fun v H => Out H x v)) (hs : octs s = n) (hc : ∀ c ∈ s.cps.toList, c < 256) (k : ∀ H1, Ex B H1 → EvAR tr σ H1 fun vs H => OutEnts H l vs) :
    EvAR (tCons (tTup (tCons (tC (.str s)) (tCons te tNil))) tr) σ B fun vs H => OutEnts H ((n, x) :: l) vs :=
  ar_cons (R := fun w H => ∃ y, TupAt H w [.str s, y] ∧ Out H x y) (er_tup (S := fun vs H => ∃ y, vs = [.str s, y] ∧ Out H x y) (ar_consV ev_c fun H1 e1 => ar_one (fun H2 e2 Q q => h H2 (e1.trans e2) Q fun v H3 e3 r => q v H3 e3 (Out.mono (fun a o ha => by
      cases c : H2 a with
      | none =>
        rw [ext_new c] at ha ⊢
        exact ha
      | some u =>
        rw [ext_old c] at ha ⊢
        exact e1 a o ha) _ _ r)) fun v H2 e r => ⟨v, rfl, r⟩) (fun vs H1 ⟨y, e, _⟩ => by rw [e]; show 2 ≤ 100000; omega) fun p vs H1 e ⟨y, s, r⟩ hp => by
      subst s
      exact ⟨y, ⟨p, rfl, upd_same⟩, Out.mono (Ex.new hp) _ _ r⟩) fun w H1 e ⟨y, h1, h2⟩ => fun H2 e2 Q q => k H1 e H2 e2 Q fun vs H3 e3 r => q _ H3 e3 (by
        unfold OutEnts
        have ee : Ex H1 (ext H1 H2 H3) := ext_ex e2
        exact ⟨w, s, y, vs, rfl, h1.mono ee, hs, hc, Out.mono ee _ _ h2, r⟩)
theorem ar_ent0 : EvAR tNil σ B fun vs H => OutEnts H [] vs := ar_nil (by unfold OutEnts; rfl)
theorem er_ents {l : List (RWire.Text × RWire.Value)} (h : EvAR tr σ B fun vs H => OutEnts H l vs) (hl : l.length ≤ 100) : EvR (tLst tr) σ B (fun v H => OutE H l v) :=
  er_lst h (fun vs H1 r => by rw [(outEnts_at r).1]; omega) fun p vs H1 e r hp => ⟨p, vs, rfl, upd_same, OutEnts.mono (Ex.new hp) _ _ r⟩
end
/-! ### messages -/
structure MsgOk (z : PySem.Str) (m : List UInt16) : Prop where
  o : octs z = m.map Rust.octetOf
  c : ∀ c ∈ z.cps.toList, c < 256
  l : z.length ≤ 200
theorem msg_of {z : PySem.Str} {m : List UInt16} (h : (decide (octs z = m.map Rust.octetOf) && (z.cps.toList.all fun c => decide (c < 256)) && decide (z.length ≤ 200)) = true) : MsgOk z m := by
  simp only [Bool.and_eq_true, decide_eq_true_eq, List.all_eq_true] at h
  exact ⟨h.1.1, h.1.2, h.2⟩
theorem msg_size : MsgOk "size must be an integer from 1 to 10" (R7245g.Spec.units "size must be an integer from 1 to 10") := msg_of (by decide +kernel)
theorem msg_pairs : MsgOk "pairs must be a list of at most 100 pairs of elements" (R7245g.Spec.units "pairs must be a list of at most 100 pairs of elements") := msg_of (by decide +kernel)
theorem msg_set : MsgOk "set must be a great integer" (R7245g.Spec.units "set must be a great integer") := msg_of (by decide +kernel)
theorem msg_images : MsgOk "images must be a list of one element of the target for each element" (R7245g.Spec.units "images must be a list of one element of the target for each element") := msg_of (by decide +kernel)
theorem msg_cuts : MsgOk "cuts must be a list of at most 20 numbers of cuts" (R7245g.Spec.units "cuts must be a list of at most 20 numbers of cuts") := msg_of (by decide +kernel)
theorem msg_orders : MsgOk "orders must be a list of at most 8 lists of all elements" (R7245g.Spec.units "orders must be a list of at most 8 lists of all elements") := msg_of (by decide +kernel)
theorem msg_none : MsgOk "set has no elements" (R7245g.Spec.units "set has no elements") := msg_of (by decide +kernel)
theorem octs_app (a b : PySem.Str) : octs (a ++ b) = octs a ++ octs b := by
  show List.map _ (a.cps ++ b.cps).toList = _
  rw [Array.toList_append, List.map_append]
  rfl
theorem cps_app (a b : PySem.Str) : (a ++ b).cps.toList = a.cps.toList ++ b.cps.toList := by
  show (a.cps ++ b.cps).toList = _
  rw [Array.toList_append]
theorem len_app (a b : PySem.Str) : (a ++ b).length = a.length + b.length := by
  show (a.cps ++ b.cps).size = _
  rw [Array.size_append]
  rfl
theorem MsgOk.app {a b : PySem.Str} {m n : List UInt16} (h : MsgOk a m) (k : MsgOk b n) (hl : a.length + b.length ≤ 200) : MsgOk (a ++ b) (m ++ n) :=
  ⟨by rw [octs_app, h.o, k.o, List.map_append], fun c hc => by
    rw [cps_app] at hc
    rcases List.mem_append.mp hc with q | q
    · exact h.c c q
    · exact k.c c q, by rw [len_app]; exact hl⟩
theorem digit_ok : ∀ a : Fin 10, (decide (octs (toString ((a.val : Nat) : Int) : PySem.Str) = (R7245g.Spec.decimal a.val).map Rust.octetOf) && ((toString ((a.val : Nat) : Int) : PySem.Str).cps.toList.all fun c => decide (c < 256)) && decide ((toString ((a.val : Nat) : Int) : PySem.Str).length ≤ 1)) = true := by decide +kernel
theorem msg_digit {a : Nat} (h : a < 10) : MsgOk (toString ((a : Nat) : Int)) (R7245g.Spec.decimal a) ∧ (toString ((a : Nat) : Int) : PySem.Str).length ≤ 1 := by
  have q := digit_ok ⟨a, h⟩
  simp only [Bool.and_eq_true, decide_eq_true_eq, List.all_eq_true] at q
  exact ⟨⟨q.1.1, q.1.2, Nat.le_trans q.2 (by decide)⟩, q.2⟩
/-- f'..{x[0]}..{x[1]}..' -/
theorem ev_pairMsg {K : PySem.W.Frag} {σ : L2.St} {H : Hp} {tv : TE} {v : V} {a b : Nat} {s1 s2 : PySem.Str} {rest : List TE} {s3 : PySem.Str} (h : Ev tv σ H v) (hv : TupAt H v [ni a, ni b]) (ha : a < 10) (hb : b < 10) (h1 : s1.length ≤ 100) (h2 : s2.length ≤ 10)
    (hr : ∀ acc H1, (acc : PySem.Str).length ≤ 120 → ∀ Q : PySem.Str → Hp → Prop, Q (acc ++ s3) H1 → tJs rest acc σ H1 Q) :
    Ev (fun σ H Q => tJs ([tC (.str s1), tFmt (tOp (rIxT K) tv (tC (.int 0))), tC (.str s2), tFmt (tOp (rIxT K) tv (tC (.int 1)))] ++ rest) PySem.Str.empty σ H fun out H1 => Q (.str out) H1) σ H
      (.str (PySem.Str.empty ++ s1 ++ toString ((a : Nat) : Int) ++ s2 ++ toString ((b : Nat) : Int) ++ s3)) := fun H1 e Q q => by
  obtain ⟨t, rfl, ht⟩ := hv
  have l0 : (PySem.Str.empty ++ s1).length ≤ 100 := by
    rw [len_app]
    show 0 + _ ≤ _
    omega
  have l1 : (PySem.Str.empty ++ s1 ++ toString ((a : Nat) : Int)).length ≤ 101 := by
    rw [len_app]
    have := (msg_digit ha).2
    omega
  have l2 : (PySem.Str.empty ++ s1 ++ toString ((a : Nat) : Int) ++ s2).length ≤ 111 := by
    rw [len_app]
    omega
  have l3 : (PySem.Str.empty ++ s1 ++ toString ((a : Nat) : Int) ++ s2 ++ toString ((b : Nat) : Int)).length ≤ 112 := by
    rw [len_app]
    have := (msg_digit hb).2
    omega
  have log : ∀ n : Nat, n < 10 → ((n : Nat) : Int).natAbs.log2 < 1920 := fun n hn => by
    rw [Int.natAbs_natCast]
    have := Nat.log2_le_self n
    omega
  refine ⟨s1, rfl, sz_of (by omega), ?_⟩
  refine ev_op h ev_c (rv_ixT (st_of ht) (atI_nat (j := 0) rfl)) H1 e _ fun H2 e2 => .inr ⟨(a : Int), rfl, log a ha, _, rfl, sz_of (by omega), ?_⟩
  refine ⟨s2, rfl, sz_of (by omega), ?_⟩
  refine ev_op h ev_c (rv_ixT (st_of ht) (atI_nat (j := 1) rfl)) H2 (e.trans e2) _ fun H3 e3 => .inr ⟨(b : Int), rfl, log b hb, _, rfl, sz_of (by omega), ?_⟩
  exact hr _ H3 (by omega) _ (q H3 (e2.trans e3))
/-! ### what is kept between the calls -/
abbrev Wo := R7245g.Spec.World
open R7245g.Spec (posetAt completionAt)
def slF (lo lc : Addr) : List (PySem.Str × V) := [("orders", .ref lo), ("completions", .ref lc)]
theorem slF_orders (lo lc : Addr) : (slF lo lc).lookup ("orders" : PySem.Str) = some (.ref lo) := rfl
theorem slF_completions (lo lc : Addr) : (slF lo lc).lookup ("completions" : PySem.Str) = some (.ref lc) := rfl
def OptAt (R : V → Po → Prop) (v : V) : Option Po → Prop
  | none => True
  | some p => R v p
structure SlR (K : PySem.W.Frag) (B H : Hp) (sl lo lc : Addr) (wo : Wo) : Prop where
  ne : lo ≠ lc
  ins : ∃ dx, B sl = some (.ins (He.ga K "Slots") dx (slF lo lc))
  nlo : B lo = none
  nlc : B lc = none
  po : ∃ os, H lo = some (.lst os) ∧ os.length = 3 ∧ ∀ i, i < 3 → OptAt (OrdAt K B) (os.getD i .non) (posetAt wo i)
  co : ∃ cs, H lc = some (.lst cs) ∧ cs.length = 2 ∧ ∀ i, i < 2 → OptAt (CompAt K B) (cs.getD i .non) (completionAt wo i)
  pl : wo.posets.length = 3
  cl : wo.completions.length = 2
theorem OptAt.imp {R S : V → Po → Prop} {v : V} {o : Option Po} (h : OptAt R v o) (i : ∀ p, R v p → S v p) : OptAt S v o := by
  cases o with
  | none => trivial
  | some p => exact i p h
/-- the lists of the slots stay, more is known -/
theorem SlR.grow {K : PySem.W.Frag} {B H B' H' : Hp} {sl lo lc : Addr} {wo : Wo} (s : SlR K B H sl lo lc wo) (b : Ex B B') (h1 : B' lo = none) (h2 : B' lc = none) (e1 : H' lo = H lo) (e2 : H' lc = H lc) : SlR K B' H' sl lo lc wo := by
  obtain ⟨ne, ⟨dx, ins⟩, nlo, nlc, ⟨os, q1, q2, q3⟩, ⟨cs, r1, r2, r3⟩, pl, cl⟩ := s
  exact ⟨ne, ⟨dx, b _ _ ins⟩, h1, h2, ⟨os, e1.trans q1, q2, fun i hi => (q3 i hi).imp fun p o => o.mono b⟩, ⟨cs, e2.trans r1, r2, fun i hi => (r3 i hi).imp fun p o => o.mono b⟩, pl, cl⟩
structure Sit where
  sl : Addr
  lo : Addr
  lc : Addr
  wo : Wo
  giv : V
  l : List RWire.Value
  c : R7245g.Spec.Call
def Sit.ans (s : Sit) : RWire.Octets := RWire.writeAnswer (Rust.answerOf (R7245g.Spec.step s.wo s.c).2)
structure Fine (K : PySem.W.Frag) (d : Nat) (s : Sit) (B H : Hp) : Prop where
  ex : Ex B H
  sl : SlR K B H s.sl s.lo s.lc s.wo
  gv : RepL B (padded s.l) s.giv
  cl : Rust.callOf d (Rust.takenAll s.l) = some s.c
  wi : R7245g.Spec.within s.wo s.c = true
  te : Rust.tellable (R7245g.Spec.step s.wo s.c).2 = true
  sz : s.ans.length ≤ 65536
structure Done (K : PySem.W.Frag) (s : Sit) (B H B' H' : Hp) (v : V) : Prop where
  b : Ex B B'
  i : Ex B' H'
  h : ∀ a o, a ≠ s.lo → a ≠ s.lc → H a = some o → H' a = some o
  fr : ∀ a, H a ≠ none → B' a = B a
  sl : SlR K B' H' s.sl s.lo s.lc (R7245g.Spec.step s.wo s.c).1
  r : BytesAt B' v s.ans
def spD (K : PySem.W.Frag) (d : Nat) : Sp := fun vs H Q _ => ∃ (s : Sit) (B : Hp), vs = [.ref s.sl, s.giv] ∧ Fine K d s B H ∧ ∀ v B' H', Done K s B H B' H' v → Q v H'
section
variable {K : PySem.W.Frag} {mg : PySem.Str → Option Value} {base : Heap} {σ : L2.St} {B H B1 H1 : Hp} {ta tb te : TE} {s : Sit} {d : Nat} {v : V} {p : Po} {n : Nat} {Q : VK}
theorem done_read (f : Fine K d s B H) (k : Kn B H B1 H1) (hw : (R7245g.Spec.step s.wo s.c).1 = s.wo) (r : BytesAt B1 v s.ans) : Done K s B H B1 H1 v := by
  obtain ⟨os, q1, _⟩ := f.sl.po
  obtain ⟨cs, r1, _⟩ := f.sl.co
  refine ⟨k.b, k.i, fun a o _ _ h => k.h a o h, k.fr, ?_, r⟩
  rw [hw]
  exact f.sl.grow k.b ((k.fr _ (some_ne q1)).trans f.sl.nlo) ((k.fr _ (some_ne r1)).trans f.sl.nlc) (by rw [k.h _ _ q1, q1]) (by rw [k.h _ _ r1, r1])
theorem s_fin (f : Fine K d s B H) (k : Kn B H B1 H1) (h : EvR te σ B1 (fun v H => BytesAt H v s.ans)) (hw : (R7245g.Spec.step s.wo s.c).1 = s.wo) (hQ : ∀ v B' H', Done K s B H B' H' v → Q v H') : tRet te { nx := fun _ H' => Q .non H', rt := Q } σ H1 :=
  s_retR k.i h fun v B2 H2 g r => hQ _ _ _ (done_read f (k.gr g) hw r)
theorem s_ok {x : RWire.Value} {a : R7245g.Spec.Plain} (f : Fine K d s B H) (k : Kn B H B1 H1) (hst : R7245g.Spec.step s.wo s.c = (s.wo, .ret a)) (hx : Rust.given a = x) (h : EvR te σ B1 (fun v H => Out H x v)) (hQ : ∀ v B' H', Done K s B H B' H' v → Q v H') : tRet (tCall sp_returned [] E0 (tCons te tNil)) { nx := fun _ H' => Q .non H', rt := Q } σ H1 := by
  have ha : s.ans = 0 :: RWire.write x := by
    unfold Sit.ans
    rw [hst, ← hx]
    rfl
  have ht := f.te
  rw [hst] at ht
  have ht2 : (Rust.narrow a && RWire.writable (Rust.given a)) = true := ht
  rw [hx] at ht2
  have hd : RWire.depth x ≤ 32 := by
    have q := (Bool.and_eq_true _ _ ▸ ht2).2
    unfold RWire.writable at q
    exact of_decide_eq_true (Bool.and_eq_true _ _ ▸ q).2
  have hz := f.sz
  rw [ha, List.length_cons] at hz
  refine s_fin f k ?_ (by rw [hst]) hQ
  rw [ha]
  exact er_returned h hd (by omega)
theorem s_bad {z : PySem.Str} {m : String} (f : Fine K d s B H) (k : Kn B H B1 H1) (hst : R7245g.Spec.step s.wo s.c = (s.wo, .fail (R7245g.Spec.typeErr m))) (hz : MsgOk z (R7245g.Spec.units m)) (h : Ev te σ B1 (.str z)) (hQ : ∀ v B' H', Done K s B H B' H' v → Q v H') : tRet (tCall sp_wrong_kind [] E0 (tCons te tNil)) { nx := fun _ H' => Q .non H', rt := Q } σ H1 := by
  have ha : s.ans = 1 :: 1 :: RWire.writeText (octs z) := by
    unfold Sit.ans
    rw [hst, hz.o]
    rfl
  refine s_fin f k ?_ (by rw [hst]) hQ
  rw [ha]
  exact er_call z (ar_of (ea_cons h ea_nil) fun _ _ => ⟨rfl, hz.c, hz.l⟩) (bytes_up _)
theorem s_out {z : PySem.Str} {m : List UInt16} (f : Fine K d s B H) (k : Kn B H B1 H1) (hst : R7245g.Spec.step s.wo s.c = (s.wo, .fail ⟨.rangeError, m⟩)) (hz : MsgOk z m) (h : Ev te σ B1 (.str z)) (hQ : ∀ v B' H', Done K s B H B' H' v → Q v H') : tRet (tCall sp_out_of_range [] E0 (tCons te tNil)) { nx := fun _ H' => Q .non H', rt := Q } σ H1 := by
  have ha : s.ans = 1 :: 2 :: RWire.writeText (octs z) := by
    unfold Sit.ans
    rw [hst, hz.o]
    rfl
  refine s_fin f k ?_ (by rw [hst]) hQ
  rw [ha]
  exact er_call z (ar_of (ea_cons h ea_nil) fun _ _ => ⟨rfl, hz.c, hz.l⟩) (bytes_up _)
/-! the arguments -/
theorem Fine.args (f : Fine K d s B H) : ∃ ga vs, s.giv = .ref ga ∧ B ga = some (.lst vs) ∧ vs.length = 3 + (s.l.length - 3) ∧ ∀ i, i < 3 → ∃ v, vs[i]? = some v ∧ Rep B (Pu.arg s.l i) v := by
  obtain ⟨ga, vs, h1, h2, h3⟩ := f.gv
  obtain ⟨hl, hat⟩ := repAll_at h3
  have e : (padded s.l).length = 3 + (s.l.length - 3) := by
    unfold padded
    rw [List.length_append, List.length_replicate]
    omega
  refine ⟨ga, vs, h1, h2, hl.trans e, fun i hi => ?_⟩
  have q : vs[i]? = some (vs[i]'(by omega)) := List.getElem?_eq_getElem _
  obtain ⟨x, hx, r⟩ := hat i _ q
  refine ⟨_, q, ?_⟩
  have ex : x = Pu.arg s.l i := by
    unfold padded at hx
    unfold Pu.arg
    rw [List.getD_eq_getElem?_getD]
    rcases Nat.lt_or_ge i s.l.length with c | c
    · rw [List.getElem?_append_left c] at hx
      rw [hx]
      rfl
    · rw [List.getElem?_append_right c, List.getElem?_replicate, if_pos (by omega)] at hx
      rw [List.getElem?_eq_none c]
      cases hx
      rfl
  rw [← ex]
  exact r
theorem ev_giv {ga : Addr} {vs : List V} {i : Nat} (ha : Ev ta σ H (.ref ga)) (h : H ga = some (.lst vs)) (hi : vs[i]? = some v) : Ev (tOp (rIxL K) ta (tC (.int ((i : Nat) : Int)))) σ H v := ev_op ha ev_c (rv_ixL (sq_of h) (atI_nat hi))
/-- x[1] of a whole number -/
theorem ev_num {i : Int} (ha : Ev ta σ H v) (h : Rep H (.int i) v) : Ev (tOp (rIxT K) ta (tC (.int 1))) σ H (.int i) := by
  obtain ⟨t, rfl, ht⟩ := rep_int h
  exact ev_tup1 ha ht
/-- slots.orders[..] -/
theorem slot_order {sl lo lc : Addr} {wo : Wo} (T : Tx K mg base) (e : Ex B H) (r : SlR K B H sl lo lc wo) (ha : Ev ta σ H (.ref sl)) (hb : Ev tb σ H (ni n)) (hp : posetAt wo n = some p) (hn : n < 3) : ∃ o, OrdAt K B o p ∧ Ev (tOp (rIxL K) (tFld K ta "orders") tb) σ H o := by
  obtain ⟨dx, ins⟩ := r.ins
  obtain ⟨os, q1, q2, q3⟩ := r.po
  have q := q3 n hn
  rw [hp] at q
  refine ⟨_, q, ev_op (ev_fld ha (e _ _ ins) T.cl_Slots T.na_Slots_orders (slF_orders lo lc)) hb (rv_ixL (sq_of q1) (atI_nat ?_))⟩
  rw [List.getD_eq_getElem?_getD, List.getElem?_eq_getElem (by omega)]
  rfl
theorem slot_comp {sl lo lc : Addr} {wo : Wo} (T : Tx K mg base) (e : Ex B H) (r : SlR K B H sl lo lc wo) (ha : Ev ta σ H (.ref sl)) (hb : Ev tb σ H (ni n)) (hp : completionAt wo n = some p) (hn : n < 2) : ∃ o, CompAt K B o p ∧ Ev (tOp (rIxL K) (tFld K ta "completions") tb) σ H o := by
  obtain ⟨dx, ins⟩ := r.ins
  obtain ⟨cs, q1, q2, q3⟩ := r.co
  have q := q3 n hn
  rw [hp] at q
  refine ⟨_, q, ev_op (ev_fld ha (e _ _ ins) T.cl_Slots T.na_Slots_completions (slF_completions lo lc)) hb (rv_ixL (sq_of q1) (atI_nat ?_))⟩
  rw [List.getD_eq_getElem?_getD, List.getElem?_eq_getElem (by omega)]
  rfl
theorem SlR.up {sl lo lc : Addr} {wo : Wo} (r : SlR K B H sl lo lc wo) (e : Ex H H1) : SlR K B H1 sl lo lc wo := by
  obtain ⟨os, q1, _⟩ := r.po
  obtain ⟨cs, r1, _⟩ := r.co
  exact r.grow (Ex.refl B) r.nlo r.nlc (by rw [e _ _ q1, q1]) (by rw [e _ _ r1, r1])
/-! sets -/
theorem ev_isset {x : RWire.Value} (h : Rep H x v) (ha : Ev ta σ H v) : Ev (tCall sp_is_set [] E0 (tCons ta tNil)) σ H (.bl (isBig x)) :=
  ev_callG (v, x) (ea_cons ha ea_nil) fun _ e => ⟨rfl, Rep.mono e _ _ h⟩
theorem ev_setof {i : Int} {o : V} (ho : OrdAt K H o p) (h : Rep H (.big i) v) (ha : Ev ta σ H o) (hb : Ev tb σ H v) : Ev (tCall (sp_set_of K) [] E0 (tCons ta (tCons tb tNil))) σ H (ni (i % (2 ^ p.size : Int)).toNat) :=
  ev_callG (o, p, v, i) (ea_cons ha (ea_cons hb ea_nil)) fun _ e => ⟨rfl, ho.mono e, Rep.mono e _ _ h⟩
end
theorem and_l {a b : Bool} (h : (a && b) = true) : a = true := (Bool.and_eq_true _ _ ▸ h).1
theorem and_r {a b : Bool} (h : (a && b) = true) : b = true := (Bool.and_eq_true _ _ ▸ h).2
theorem given_nats (l : List Nat) : Rust.given (R7245g.Spec.nats l) = oInts l := by
  show RWire.Value.list (Rust.givenAll (l.map R7245g.Spec.nat)) = .list _
  congr 1
  induction l with
  | nil => rfl
  | cons a l ih =>
    show _ :: Rust.givenAll (l.map R7245g.Spec.nat) = _
    rw [ih]
    rfl
theorem given_bigs (l : List Nat) : Rust.given (.arr (l.map R7245g.Spec.big)) = oBigs l := by
  show RWire.Value.list (Rust.givenAll (l.map R7245g.Spec.big)) = .list _
  congr 1
  induction l with
  | nil => rfl
  | cons a l ih =>
    show _ :: Rust.givenAll (l.map R7245g.Spec.big) = _
    rw [ih]
    rfl
theorem on_poset {wo : Wo} {n : Nat} {p : Po} {f : Po → Wo × R7245g.Spec.Ans} (h : posetAt wo n = some p) : R7245g.Spec.onPoset wo n f = f p := by
  unfold R7245g.Spec.onPoset
  rw [h]
theorem on_comp {wo : Wo} {n : Nat} {p : Po} {f : Po → Wo × R7245g.Spec.Ans} (h : completionAt wo n = some p) : R7245g.Spec.onCompletion wo n f = f p := by
  unfold R7245g.Spec.onCompletion
  rw [h]
def sp_poset_relation (K : PySem.W.Frag) : Sp := spD K 2
theorem ok_poset_relation {P : Program} {w : World} {K : PySem.W.Frag} {mg : PySem.Str → Option Value} {base : Heap} (T : Tx K mg base) : Ok P w K mg base 42 "poset_relation" ["slots", "given"] (sp_poset_relation K) := by
  refine ok_of (at_poset_relation T) sc_poset_relation (fun _ _ _ _ _ _ us hl => match us, hl with | [_, _], _ => rfl) (fun vs H Q E h => ?_) (fun f cdv A outer s H vs Q E hr h => ?_)
  · obtain ⟨s', B, rfl, hf, hQ⟩ := h
    rfl
  · obtain ⟨s', B, rfl, hf, hQ⟩ := h
    (try dsimp only at hf)
    (try dsimp only at hQ)
    refine ⟨_, (pss_cons (ps_set (i := 2) sc_poset_relation.nd rfl (Or.inl rfl) (pe_ix ix_list (pe_fld (pv 0) rfl) (pe_ix ix_tup (pe_ix ix_list (pv 1) pe_int (fun _ _ => rfl)) pe_int (fun _ _ => rfl)) (fun _ _ => rfl)))
      (pss_one (ps_ret (pe_ok (ok_returned T) (hr.mono (by decide)) rfl (pa_cons (pe_ok (ok_greats T) (hr.mono (by decide)) rfl (pa_cons (pe_fld (pv 2) rfl) pa_nil)) pa_nil))))), ?_⟩
    obtain ⟨n, a0, _, hc⟩ := Pu.call2 hf.cl
    obtain ⟨ga, vs, hg, hga, _, hv⟩ := hf.args
    obtain ⟨v0, g0, r0⟩ := hv 0 (by decide)
    rw [a0] at r0
    rw [hg]
    have eB := hf.ex
    have hw := hf.wi
    rw [hc] at hw
    obtain ⟨p, hp, hn⟩ := Pu.has_poset (s := n) (w := s'.wo) hw
    obtain ⟨o, ho, hev⟩ := slot_order (σ := start ["slots", "given", "order"] [.ref s'.sl, .ref ga]) (ta := tVar 0) T eB hf.sl (ev_var rfl) (ev_num (ev_giv (i := 0) (ev_var (i := 1) rfl) (eB _ _ hga) g0) (Rep.mono eB _ _ r0)) hp hn
    refine s_asg hev fun H1 e1 => ?_
    obtain ⟨wf, a, dx, u, d, rfl, o2, o3, o4⟩ := ho
    exact s_ok hf ((Kn.refl eB).up e1) (by rw [hc]; exact on_poset hp) (given_bigs p.above) (er_greats (er_ev (ev_fld (ev_var rfl) o2 T.cl_Order T.na_Order_ups (ordF_ups p u d)) fun H2 e2 => ⟨u, rfl, e2 _ _ o3⟩) (by rw [wf.len]; have := wf.le10; omega)) hQ
def sp_poset_upper (K : PySem.W.Frag) : Sp := spD K 3
theorem ok_poset_upper {P : Program} {w : World} {K : PySem.W.Frag} {mg : PySem.Str → Option Value} {base : Heap} (T : Tx K mg base) : Ok P w K mg base 42 "poset_upper" ["slots", "given"] (sp_poset_upper K) := by
  refine ok_of (at_poset_upper T) sc_poset_upper (fun _ _ _ _ _ _ us hl => match us, hl with | [_, _], _ => rfl) (fun vs H Q E h => ?_) (fun f cdv A outer s H vs Q E hr h => ?_)
  · obtain ⟨s', B, rfl, hf, hQ⟩ := h
    rfl
  · obtain ⟨s', B, rfl, hf, hQ⟩ := h
    (try dsimp only at hf)
    (try dsimp only at hQ)
    refine ⟨_, (pss_cons (ps_set (i := 2) sc_poset_upper.nd rfl (Or.inl rfl) (pe_ix ix_list (pe_fld (pv 0) rfl) (pe_ix ix_tup (pe_ix ix_list (pv 1) pe_int (fun _ _ => rfl)) pe_int (fun _ _ => rfl)) (fun _ _ => rfl)))
      (pss_cons (ps_if (pt_not (pt_val (pe_ok (ok_is_set T) (hr.mono (by decide)) rfl (pa_cons (pe_ix ix_list (pv 1) pe_int (fun _ _ => rfl)) pa_nil)))) (pss_one (ps_ret (pe_ok (ok_wrong_kind T) (hr.mono (by decide)) rfl (pa_cons (pe_gs (g_SET_WORDS T) rfl) pa_nil)))) pss_nil)
      (pss_one (ps_ret (pe_ok (ok_returned T) (hr.mono (by decide)) rfl (pa_cons (pe_ok (ok_great T) (hr.mono (by decide)) rfl (pa_cons (pe_ok (ok_upper_bounds T) (hr.mono (by decide)) rfl (pa_cons (pv 2) (pa_cons (pe_ok (ok_set_of T) (hr.mono (by decide)) rfl (pa_cons (pv 2) (pa_cons (pe_ix ix_list (pv 1) pe_int (fun _ _ => rfl)) pa_nil))) pa_nil))) pa_nil)) pa_nil)))))), ?_⟩
    obtain ⟨n, a0, _, hc⟩ := Pu.call3 hf.cl
    obtain ⟨ga, vs, hg, hga, _, hv⟩ := hf.args
    obtain ⟨v0, g0, r0⟩ := hv 0 (by decide)
    obtain ⟨v1, g1, r1⟩ := hv 1 (by decide)
    rw [a0] at r0
    rw [hg]
    have eB := hf.ex
    have hw := hf.wi
    rw [hc] at hw
    obtain ⟨p, hp, hn⟩ := Pu.has_poset (s := n) (w := s'.wo) (and_l hw)
    obtain ⟨o, ho, hev⟩ := slot_order (σ := start ["slots", "given", "order"] [.ref s'.sl, .ref ga]) (ta := tVar 0) T eB hf.sl (ev_var rfl) (ev_num (ev_giv (i := 0) (ev_var (i := 1) rfl) (eB _ _ hga) g0) (Rep.mono eB _ _ r0)) hp hn
    refine s_asg hev fun H1 e1 => ?_
    have k1 := (Kn.refl eB).up e1
    refine s_when (b := !isBig (Pu.arg s'.l 1)) (et_not (et_B (ev_isset (Rep.mono k1.i _ _ r1) (ev_giv (i := 1) (ev_var rfl) (k1.i _ _ hga) g1)))) (fun c H2 e2 => ?_) (fun c H2 e2 => ?_)
    · exact s_bad (m := "set must be a great integer") hf (k1.up e2) (by
        rw [hc]
        refine (on_poset hp).trans ?_
        show (_, R7245g.Spec.outcome _ (R7245g.Spec.setArg p (Rust.taken (Pu.arg s'.l 1)))) = _
        rw [Pu.set_big]
        cases hx : Pu.arg s'.l 1 <;> first | rfl | (rw [hx] at c; cases c)) msg_set ev_c hQ
    · cases hx : Pu.arg s'.l 1 with
      | big i =>
        rw [hx] at r1
        exact s_ok (x := .big ((R7245g.Spec.upperBounds p (i % (2 ^ p.size : Int)).toNat : Nat) : Int)) hf (k1.up e2) (by
          rw [hc, hx]
          exact on_poset hp) rfl (er_great (ev_ub ho (ev_var rfl) (ev_setof ho r1 (ev_var rfl) (ev_giv (i := 1) (ev_var rfl) hga g1)))) hQ
      | _ => rw [hx] at c; cases c
theorem given_orInt (o : Option Nat) : Rust.given (R7245g.Spec.orNull R7245g.Spec.nat o) = orInt o := by cases o <;> rfl
theorem given_orBig (o : Option Nat) : Rust.given (R7245g.Spec.orNull R7245g.Spec.big o) = orBig o := by cases o <;> rfl
def sp_poset_lower (K : PySem.W.Frag) : Sp := spD K 4
theorem ok_poset_lower {P : Program} {w : World} {K : PySem.W.Frag} {mg : PySem.Str → Option Value} {base : Heap} (T : Tx K mg base) : Ok P w K mg base 42 "poset_lower" ["slots", "given"] (sp_poset_lower K) := by
  refine ok_of (at_poset_lower T) sc_poset_lower (fun _ _ _ _ _ _ us hl => match us, hl with | [_, _], _ => rfl) (fun vs H Q E h => ?_) (fun f cdv A outer s H vs Q E hr h => ?_)
  · obtain ⟨s', B, rfl, hf, hQ⟩ := h
    rfl
  · obtain ⟨s', B, rfl, hf, hQ⟩ := h
    (try dsimp only at hf)
    (try dsimp only at hQ)
    refine ⟨_, (pss_cons (ps_set (i := 2) sc_poset_lower.nd rfl (Or.inl rfl) (pe_ix ix_list (pe_fld (pv 0) rfl) (pe_ix ix_tup (pe_ix ix_list (pv 1) pe_int (fun _ _ => rfl)) pe_int (fun _ _ => rfl)) (fun _ _ => rfl)))
      (pss_cons (ps_if (pt_not (pt_val (pe_ok (ok_is_set T) (hr.mono (by decide)) rfl (pa_cons (pe_ix ix_list (pv 1) pe_int (fun _ _ => rfl)) pa_nil)))) (pss_one (ps_ret (pe_ok (ok_wrong_kind T) (hr.mono (by decide)) rfl (pa_cons (pe_gs (g_SET_WORDS T) rfl) pa_nil)))) pss_nil)
      (pss_one (ps_ret (pe_ok (ok_returned T) (hr.mono (by decide)) rfl (pa_cons (pe_ok (ok_great T) (hr.mono (by decide)) rfl (pa_cons (pe_ok (ok_lower_bounds T) (hr.mono (by decide)) rfl (pa_cons (pv 2) (pa_cons (pe_ok (ok_set_of T) (hr.mono (by decide)) rfl (pa_cons (pv 2) (pa_cons (pe_ix ix_list (pv 1) pe_int (fun _ _ => rfl)) pa_nil))) pa_nil))) pa_nil)) pa_nil)))))), ?_⟩
    obtain ⟨n, a0, _, hc⟩ := Pu.call4 hf.cl
    obtain ⟨ga, vs, hg, hga, _, hv⟩ := hf.args
    obtain ⟨v0, g0, r0⟩ := hv 0 (by decide)
    obtain ⟨v1, g1, r1⟩ := hv 1 (by decide)
    rw [a0] at r0
    rw [hg]
    have eB := hf.ex
    have hw := hf.wi
    rw [hc] at hw
    obtain ⟨p, hp, hn⟩ := Pu.has_poset (s := n) (w := s'.wo) (and_l hw)
    obtain ⟨o, ho, hev⟩ := slot_order (σ := start ["slots", "given", "order"] [.ref s'.sl, .ref ga]) (ta := tVar 0) T eB hf.sl (ev_var rfl) (ev_num (ev_giv (i := 0) (ev_var (i := 1) rfl) (eB _ _ hga) g0) (Rep.mono eB _ _ r0)) hp hn
    refine s_asg hev fun H1 e1 => ?_
    have k1 := (Kn.refl eB).up e1
    refine s_when (b := !isBig (Pu.arg s'.l 1)) (et_not (et_B (ev_isset (Rep.mono k1.i _ _ r1) (ev_giv (i := 1) (ev_var rfl) (k1.i _ _ hga) g1)))) (fun c H2 e2 => ?_) (fun c H2 e2 => ?_)
    · exact s_bad (m := "set must be a great integer") hf (k1.up e2) (by
        rw [hc]
        refine (on_poset hp).trans ?_
        show (_, R7245g.Spec.outcome _ (R7245g.Spec.setArg p (Rust.taken (Pu.arg s'.l 1)))) = _
        rw [Pu.set_big]
        cases hx : Pu.arg s'.l 1 <;> first | rfl | (rw [hx] at c; cases c)) msg_set ev_c hQ
    · cases hx : Pu.arg s'.l 1 with
      | big i =>
        rw [hx] at r1
        exact s_ok (x := .big ((R7245g.Spec.lowerBounds p (i % (2 ^ p.size : Int)).toNat : Nat) : Int)) hf (k1.up e2) (by
          rw [hc, hx]
          exact on_poset hp) rfl (er_great (ev_lb ho (ev_var rfl) (ev_setof ho r1 (ev_var rfl) (ev_giv (i := 1) (ev_var rfl) hga g1)))) hQ
      | _ => rw [hx] at c; cases c
def sp_poset_supremum (K : PySem.W.Frag) : Sp := spD K 5
theorem ok_poset_supremum {P : Program} {w : World} {K : PySem.W.Frag} {mg : PySem.Str → Option Value} {base : Heap} (T : Tx K mg base) : Ok P w K mg base 42 "poset_supremum" ["slots", "given"] (sp_poset_supremum K) := by
  refine ok_of (at_poset_supremum T) sc_poset_supremum (fun _ _ _ _ _ _ us hl => match us, hl with | [_, _], _ => rfl) (fun vs H Q E h => ?_) (fun f cdv A outer s H vs Q E hr h => ?_)
  · obtain ⟨s', B, rfl, hf, hQ⟩ := h
    rfl
  · obtain ⟨s', B, rfl, hf, hQ⟩ := h
    (try dsimp only at hf)
    (try dsimp only at hQ)
    refine ⟨_, (pss_cons (ps_set (i := 2) sc_poset_supremum.nd rfl (Or.inl rfl) (pe_ix ix_list (pe_fld (pv 0) rfl) (pe_ix ix_tup (pe_ix ix_list (pv 1) pe_int (fun _ _ => rfl)) pe_int (fun _ _ => rfl)) (fun _ _ => rfl)))
      (pss_cons (ps_if (pt_not (pt_val (pe_ok (ok_is_set T) (hr.mono (by decide)) rfl (pa_cons (pe_ix ix_list (pv 1) pe_int (fun _ _ => rfl)) pa_nil)))) (pss_one (ps_ret (pe_ok (ok_wrong_kind T) (hr.mono (by decide)) rfl (pa_cons (pe_gs (g_SET_WORDS T) rfl) pa_nil)))) pss_nil)
      (pss_one (ps_ret (pe_ok (ok_returned T) (hr.mono (by decide)) rfl (pa_cons (pe_ok (ok_integer_or_null T) (hr.mono (by decide)) rfl (pa_cons (pe_ok (ok_supremum T) (hr.mono (by decide)) rfl (pa_cons (pv 2) (pa_cons (pe_ok (ok_set_of T) (hr.mono (by decide)) rfl (pa_cons (pv 2) (pa_cons (pe_ix ix_list (pv 1) pe_int (fun _ _ => rfl)) pa_nil))) pa_nil))) pa_nil)) pa_nil)))))), ?_⟩
    obtain ⟨n, a0, _, hc⟩ := Pu.call5 hf.cl
    obtain ⟨ga, vs, hg, hga, _, hv⟩ := hf.args
    obtain ⟨v0, g0, r0⟩ := hv 0 (by decide)
    obtain ⟨v1, g1, r1⟩ := hv 1 (by decide)
    rw [a0] at r0
    rw [hg]
    have eB := hf.ex
    have hw := hf.wi
    rw [hc] at hw
    obtain ⟨p, hp, hn⟩ := Pu.has_poset (s := n) (w := s'.wo) (and_l hw)
    obtain ⟨o, ho, hev⟩ := slot_order (σ := start ["slots", "given", "order"] [.ref s'.sl, .ref ga]) (ta := tVar 0) T eB hf.sl (ev_var rfl) (ev_num (ev_giv (i := 0) (ev_var (i := 1) rfl) (eB _ _ hga) g0) (Rep.mono eB _ _ r0)) hp hn
    refine s_asg hev fun H1 e1 => ?_
    have k1 := (Kn.refl eB).up e1
    refine s_when (b := !isBig (Pu.arg s'.l 1)) (et_not (et_B (ev_isset (Rep.mono k1.i _ _ r1) (ev_giv (i := 1) (ev_var rfl) (k1.i _ _ hga) g1)))) (fun c H2 e2 => ?_) (fun c H2 e2 => ?_)
    · exact s_bad (m := "set must be a great integer") hf (k1.up e2) (by
        rw [hc]
        refine (on_poset hp).trans ?_
        show (_, R7245g.Spec.outcome _ (R7245g.Spec.setArg p (Rust.taken (Pu.arg s'.l 1)))) = _
        rw [Pu.set_big]
        cases hx : Pu.arg s'.l 1 <;> first | rfl | (rw [hx] at c; cases c)) msg_set ev_c hQ
    · cases hx : Pu.arg s'.l 1 with
      | big i =>
        rw [hx] at r1
        exact s_ok (x := orInt (R7245g.Spec.supremum p (i % (2 ^ p.size : Int)).toNat)) hf (k1.up e2) (by
          rw [hc, hx]
          exact on_poset hp) (given_orInt _) (er_orInt (ev_sup ho (ev_var rfl) (ev_setof ho r1 (ev_var rfl) (ev_giv (i := 1) (ev_var rfl) hga g1)))) hQ
      | _ => rw [hx] at c; cases c
def sp_poset_infimum (K : PySem.W.Frag) : Sp := spD K 6
theorem ok_poset_infimum {P : Program} {w : World} {K : PySem.W.Frag} {mg : PySem.Str → Option Value} {base : Heap} (T : Tx K mg base) : Ok P w K mg base 42 "poset_infimum" ["slots", "given"] (sp_poset_infimum K) := by
  refine ok_of (at_poset_infimum T) sc_poset_infimum (fun _ _ _ _ _ _ us hl => match us, hl with | [_, _], _ => rfl) (fun vs H Q E h => ?_) (fun f cdv A outer s H vs Q E hr h => ?_)
  · obtain ⟨s', B, rfl, hf, hQ⟩ := h
    rfl
  · obtain ⟨s', B, rfl, hf, hQ⟩ := h
    (try dsimp only at hf)
    (try dsimp only at hQ)
    refine ⟨_, (pss_cons (ps_set (i := 2) sc_poset_infimum.nd rfl (Or.inl rfl) (pe_ix ix_list (pe_fld (pv 0) rfl) (pe_ix ix_tup (pe_ix ix_list (pv 1) pe_int (fun _ _ => rfl)) pe_int (fun _ _ => rfl)) (fun _ _ => rfl)))
      (pss_cons (ps_if (pt_not (pt_val (pe_ok (ok_is_set T) (hr.mono (by decide)) rfl (pa_cons (pe_ix ix_list (pv 1) pe_int (fun _ _ => rfl)) pa_nil)))) (pss_one (ps_ret (pe_ok (ok_wrong_kind T) (hr.mono (by decide)) rfl (pa_cons (pe_gs (g_SET_WORDS T) rfl) pa_nil)))) pss_nil)
      (pss_one (ps_ret (pe_ok (ok_returned T) (hr.mono (by decide)) rfl (pa_cons (pe_ok (ok_integer_or_null T) (hr.mono (by decide)) rfl (pa_cons (pe_ok (ok_infimum T) (hr.mono (by decide)) rfl (pa_cons (pv 2) (pa_cons (pe_ok (ok_set_of T) (hr.mono (by decide)) rfl (pa_cons (pv 2) (pa_cons (pe_ix ix_list (pv 1) pe_int (fun _ _ => rfl)) pa_nil))) pa_nil))) pa_nil)) pa_nil)))))), ?_⟩
    obtain ⟨n, a0, _, hc⟩ := Pu.call6 hf.cl
    obtain ⟨ga, vs, hg, hga, _, hv⟩ := hf.args
    obtain ⟨v0, g0, r0⟩ := hv 0 (by decide)
    obtain ⟨v1, g1, r1⟩ := hv 1 (by decide)
    rw [a0] at r0
    rw [hg]
    have eB := hf.ex
    have hw := hf.wi
    rw [hc] at hw
    obtain ⟨p, hp, hn⟩ := Pu.has_poset (s := n) (w := s'.wo) (and_l hw)
    obtain ⟨o, ho, hev⟩ := slot_order (σ := start ["slots", "given", "order"] [.ref s'.sl, .ref ga]) (ta := tVar 0) T eB hf.sl (ev_var rfl) (ev_num (ev_giv (i := 0) (ev_var (i := 1) rfl) (eB _ _ hga) g0) (Rep.mono eB _ _ r0)) hp hn
    refine s_asg hev fun H1 e1 => ?_
    have k1 := (Kn.refl eB).up e1
    refine s_when (b := !isBig (Pu.arg s'.l 1)) (et_not (et_B (ev_isset (Rep.mono k1.i _ _ r1) (ev_giv (i := 1) (ev_var rfl) (k1.i _ _ hga) g1)))) (fun c H2 e2 => ?_) (fun c H2 e2 => ?_)
    · exact s_bad (m := "set must be a great integer") hf (k1.up e2) (by
        rw [hc]
        refine (on_poset hp).trans ?_
        show (_, R7245g.Spec.outcome _ (R7245g.Spec.setArg p (Rust.taken (Pu.arg s'.l 1)))) = _
        rw [Pu.set_big]
        cases hx : Pu.arg s'.l 1 <;> first | rfl | (rw [hx] at c; cases c)) msg_set ev_c hQ
    · cases hx : Pu.arg s'.l 1 with
      | big i =>
        rw [hx] at r1
        exact s_ok (x := orInt (R7245g.Spec.infimum p (i % (2 ^ p.size : Int)).toNat)) hf (k1.up e2) (by
          rw [hc, hx]
          exact on_poset hp) (given_orInt _) (er_orInt (ev_inf ho (ev_var rfl) (ev_setof ho r1 (ev_var rfl) (ev_giv (i := 1) (ev_var rfl) hga g1)))) hQ
      | _ => rw [hx] at c; cases c
theorem ev_joinIrr {K : PySem.W.Frag} {σ : L2.St} {H : Hp} {ta : TE} {o : V} {p : Po} (ho : OrdAt K H o p) (ha : Ev ta σ H o) : Ev (tCall (sp_join_irreducibles K) [] E0 (tCons ta tNil)) σ H (ni (R7245g.Spec.joinIrreducibles p)) :=
  ev_callG (o, p) (ea_cons ha ea_nil) fun _ e => ⟨rfl, ho.mono e⟩
theorem ev_meetIrr {K : PySem.W.Frag} {σ : L2.St} {H : Hp} {ta : TE} {o : V} {p : Po} (ho : OrdAt K H o p) (ha : Ev ta σ H o) : Ev (tCall (sp_meet_irreducibles K) [] E0 (tCons ta tNil)) σ H (ni (R7245g.Spec.meetIrreducibles p)) :=
  ev_callG (o, p) (ea_cons ha ea_nil) fun _ e => ⟨rfl, ho.mono e⟩
def sp_poset_irreducibles (K : PySem.W.Frag) : Sp := spD K 7
theorem ok_poset_irreducibles {P : Program} {w : World} {K : PySem.W.Frag} {mg : PySem.Str → Option Value} {base : Heap} (T : Tx K mg base) : Ok P w K mg base 42 "poset_irreducibles" ["slots", "given"] (sp_poset_irreducibles K) := by
  refine ok_of (at_poset_irreducibles T) sc_poset_irreducibles (fun _ _ _ _ _ _ us hl => match us, hl with | [_, _], _ => rfl) (fun vs H Q E h => ?_) (fun f cdv A outer s H vs Q E hr h => ?_)
  · obtain ⟨s', B, rfl, hf, hQ⟩ := h
    rfl
  · obtain ⟨s', B, rfl, hf, hQ⟩ := h
    (try dsimp only at hf)
    (try dsimp only at hQ)
    refine ⟨_, (pss_cons (ps_set (i := 2) sc_poset_irreducibles.nd rfl (Or.inl rfl) (pe_ix ix_list (pe_fld (pv 0) rfl) (pe_ix ix_tup (pe_ix ix_list (pv 1) pe_int (fun _ _ => rfl)) pe_int (fun _ _ => rfl)) (fun _ _ => rfl)))
      (pss_cons (ps_set (i := 3) sc_poset_irreducibles.nd rfl (Or.inl rfl) (pe_ok (ok_great T) (hr.mono (by decide)) rfl (pa_cons (pe_ok (ok_join_irreducibles T) (hr.mono (by decide)) rfl (pa_cons (pv 2) pa_nil)) pa_nil)))
      (pss_cons (ps_set (i := 4) sc_poset_irreducibles.nd rfl (Or.inl rfl) (pe_ok (ok_great T) (hr.mono (by decide)) rfl (pa_cons (pe_ok (ok_meet_irreducibles T) (hr.mono (by decide)) rfl (pa_cons (pv 2) pa_nil)) pa_nil)))
      (pss_one (ps_ret (pe_ok (ok_returned T) (hr.mono (by decide)) rfl (pa_cons (pe_ok (ok_record T) (hr.mono (by decide)) rfl (pa_cons (pe_lst (pa_cons (pe_tup (pa_cons pe_str (pa_cons (pv 3) pa_nil))) (pa_cons (pe_tup (pa_cons pe_str (pa_cons (pv 4) pa_nil))) pa_nil))) pa_nil)) pa_nil))))))), ?_⟩
    obtain ⟨n, a0, _, hc⟩ := Pu.call7 hf.cl
    obtain ⟨ga, vs, hg, hga, _, hv⟩ := hf.args
    obtain ⟨v0, g0, r0⟩ := hv 0 (by decide)
    rw [a0] at r0
    rw [hg]
    have eB := hf.ex
    have hw := hf.wi
    rw [hc] at hw
    obtain ⟨p, hp, hn⟩ := Pu.has_poset (s := n) (w := s'.wo) hw
    obtain ⟨o, ho, hev⟩ := slot_order (σ := start ["slots", "given", "order", "joins", "meets"] [.ref s'.sl, .ref ga]) (ta := tVar 0) T eB hf.sl (ev_var rfl) (ev_num (ev_giv (i := 0) (ev_var (i := 1) rfl) (eB _ _ hga) g0) (Rep.mono eB _ _ r0)) hp hn
    refine s_asg hev fun H1 e1 => ?_
    have k1 := (Kn.refl eB).up e1
    refine s_asgR k1.i (er_great (ev_joinIrr ho (ev_var rfl))) fun v B2 H2 g2 x2 => ?_
    have k2 := k1.gr g2
    refine s_asgR k2.i (er_great (ev_meetIrr (ho.mono g2.b) (ev_var rfl))) fun v3 B3 H3 g3 x3 => ?_
    have k3 := k2.gr g3
    refine s_ok hf k3 (x := .record [((R7245g.Spec.units "join").map Rust.octetOf, .big ((R7245g.Spec.joinIrreducibles p : Nat) : Int)), ((R7245g.Spec.units "meet").map Rust.octetOf, .big ((R7245g.Spec.meetIrreducibles p : Nat) : Int))]) (by
      rw [hc]
      exact on_poset hp) rfl (er_record (er_ents (ar_ent (er_ev (ev_var rfl) fun _ e => Out.mono (g3.b.trans e) _ _ x2) (by decide +kernel) (by decide +kernel) fun H4 e4 => ar_ent (er_ev (ev_var rfl) fun _ e => Out.mono (e4.trans e) _ _ x3) (by decide +kernel) (by decide +kernel) fun H5 e5 => ar_ent0) (by show 2 ≤ 100; omega))) hQ
end Cm
end PartF10
section PartF11
set_option Elab.async false
set_option linter.all false
set_option maxRecDepth 100000
set_option maxHeartbeats 4000000
namespace Cm
open PySem PySem.Spec PyProof.Rows L2 Evl
open Pu (nb wholeB belowB natsOf natOf natListB listOf pairB pairsB lineB linesB rowOf rowsOf)
open R7245g.Spec (posetAt completionAt)
/-! ### doors with maps and linear orders -/
theorem rep_octN {H : Hp} {x : RWire.Value} {v : V} (h : Rep H x v) : ∀ u, x ≠ .octets u := fun u e => by
  subst e
  unfold Rep at h
  exact h
theorem rep_octM {H : Hp} {x : RWire.Value} {v : V} (h : Rep H x v) : ∀ y ∈ listOf x, ∀ u, y ≠ .octets u := by
  cases x with
  | list l =>
    obtain ⟨t, a, vs, _, _, _, h4⟩ := rep_list h
    obtain ⟨hl, hat⟩ := repAll_at h4
    intro y hy
    obtain ⟨i, hi, e⟩ := List.mem_iff_getElem.mp hy
    have hi' : i < l.length := hi
    have q : vs[i]? = some (vs[i]'(by omega)) := List.getElem?_eq_getElem _
    obtain ⟨x, hx, r⟩ := hat i _ q
    have e2 : x = y := by
      have q2 : l[i]? = some y := by
        rw [List.getElem?_eq_getElem hi']
        exact congrArg some e
      rw [q2] at hx
      exact (Option.some.inj hx).symm
    rw [e2] at r
    exact rep_octN r
  | _ => intro y hy; simp [Pu.listOf] at hy
theorem natListB_ex {n : Nat} {ok : Nat → Bool} {x : RWire.Value} (h : natListB n ok x = true) : ∃ l, x = .list l ∧ ok l.length = true ∧ l.all (belowB n) = true := by
  cases x with
  | list l => exact ⟨l, rfl, and_l h, and_r h⟩
  | _ => cases h
section
variable {K : PySem.W.Frag} {σ : L2.St} {B H : Hp} {ta tb tc te : TE} {v : V} {x : RWire.Value} {n m : Nat}
theorem ev_isimg (h : Rep H x v) (ha : Ev ta σ H v) (hb : Ev tb σ H (ni n)) (hc : Ev tc σ H (ni m)) : Ev (tCall sp_is_images [] E0 (tCons ta (tCons tb (tCons tc tNil)))) σ H (.bl (natListB m (fun k => decide (k = n)) x)) :=
  ev_callG (v, x, n, m) (ea_cons ha (ea_cons hb (ea_cons hc ea_nil))) fun _ e => ⟨rfl, Rep.mono e _ _ h⟩
theorem er_numbers {l : List RWire.Value} (h : Rep B (.list l) v) (hb : l.all (belowB n) = true) (hl : l.length ≤ 40000) (ha : Ev ta σ B v) : EvR (tCall sp_numbers_of [] E0 (tCons ta tNil)) σ B (fun w H => LN H w (natsOf l)) :=
  er_call (v, l, n) (ar_of (ea_cons ha ea_nil) fun _ e => ⟨rfl, Rep.mono e _ _ h, hb, hl⟩) fun _ _ _ e h => LN.mono h e
theorem ev_islines (h : Rep H x v) (hn : n ≤ 10) (ha : Ev ta σ H v) (hb : Ev tb σ H (ni n)) : Ev (tCall sp_is_lines [] E0 (tCons ta (tCons tb tNil))) σ H (.bl (linesB n x)) :=
  ev_callG (v, x, n) (ea_cons ha (ea_cons hb ea_nil)) fun _ e => ⟨rfl, Rep.mono e _ _ h, hn⟩
end
theorem images_map {p q : Po} {l : List RWire.Value} (h1 : decide (l.length = p.size) = true) (h2 : l.all (belowB q.size) = true) : Pu.MapOk p q (natsOf l) := ⟨by rw [Pu.nats_len]; exact of_decide_eq_true h1, Pu.nats_lt h2⟩
theorem images_is {p q : Po} {x : RWire.Value} (hx : ∀ u, x ≠ .octets u) : R7245g.Spec.imagesArg p q (Rust.taken x) = if natListB q.size (fun k => decide (k = p.size)) x then .ok (natsOf (listOf x)) else .error (R7245g.Spec.typeErr "images must be a list of one element of the target for each element") :=
  Pu.natList_is q.size (fun k => decide (k = p.size)) (R7245g.Spec.typeErr "images must be a list of one element of the target for each element") x hx
theorem et_isNone {σ : L2.St} {H : Hp} {ta : TE} {x : V} (ha : Ev ta σ H x) : EvT (tTest (tOp (fun x y H Q => y = .non ∧ Q (.bl (decide (x = .non))) H) ta (tC .non))) σ H (decide (x = .non)) := et_test (ev_op ha ev_c fun H1 _ Q q => ⟨rfl, q H1 (Ex.refl _)⟩)
theorem et_notNone {σ : L2.St} {H : Hp} {ta : TE} {x : V} (ha : Ev ta σ H x) : EvT (tTest (tOp (fun x y H Q => y = .non ∧ Q (.bl (!decide (x = .non))) H) ta (tC .non))) σ H (!decide (x = .non)) := et_test (ev_op ha ev_c fun H1 _ Q q => ⟨rfl, q H1 (Ex.refl _)⟩)
def sp_poset_adjoint (K : PySem.W.Frag) : Sp := spD K 8
theorem ok_poset_adjoint {P : Program} {w : World} {K : PySem.W.Frag} {mg : PySem.Str → Option Value} {base : Heap} (T : Tx K mg base) : Ok P w K mg base 42 "poset_adjoint" ["slots", "given"] (sp_poset_adjoint K) := by
  refine ok_of (at_poset_adjoint T) sc_poset_adjoint (fun _ _ _ _ _ _ us hl => match us, hl with | [_, _], _ => rfl) (fun vs H Q E h => ?_) (fun f cdv A outer s H vs Q E hr h => ?_)
  · obtain ⟨s', B, rfl, hf, hQ⟩ := h
    rfl
  · obtain ⟨s', B, rfl, hf, hQ⟩ := h
    (try dsimp only at hf)
    (try dsimp only at hQ)
    refine ⟨_, (pss_cons (ps_set (i := 2) sc_poset_adjoint.nd rfl (Or.inl rfl) (pe_ix ix_list (pe_fld (pv 0) rfl) (pe_ix ix_tup (pe_ix ix_list (pv 1) pe_int (fun _ _ => rfl)) pe_int (fun _ _ => rfl)) (fun _ _ => rfl)))
      (pss_cons (ps_set (i := 3) sc_poset_adjoint.nd rfl (Or.inl rfl) (pe_ix ix_list (pe_fld (pv 0) rfl) (pe_ix ix_tup (pe_ix ix_list (pv 1) pe_int (fun _ _ => rfl)) pe_int (fun _ _ => rfl)) (fun _ _ => rfl)))
      (pss_cons (ps_if (pt_not (pt_val (pe_ok (ok_is_images T) (hr.mono (by decide)) rfl (pa_cons (pe_ix ix_list (pv 1) pe_int (fun _ _ => rfl)) (pa_cons (pe_fld (pv 2) rfl) (pa_cons (pe_fld (pv 3) rfl) pa_nil)))))) (pss_one (ps_ret (pe_ok (ok_wrong_kind T) (hr.mono (by decide)) rfl (pa_cons (pe_gs (g_IMAGES_WORDS T) rfl) pa_nil)))) pss_nil)
      (pss_cons (ps_set (i := 4) sc_poset_adjoint.nd rfl (Or.inl rfl) (pe_ok (ok_numbers_of T) (hr.mono (by decide)) rfl (pa_cons (pe_ix ix_list (pv 1) pe_int (fun _ _ => rfl)) pa_nil)))
      (pss_cons (ps_set (i := 5) sc_poset_adjoint.nd rfl (Or.inl rfl) (pe_lst pa_nil))
      (pss_cons (ps_for PassesOwn.never rfl (pi_range1 rfl T.n_range (pa_cons (pe_fld (pv 3) rfl) pa_nil)) (pg_name (i := 6) sc_poset_adjoint.nd rfl (Or.inl rfl)) (pss_cons (ps_set (i := 7) sc_poset_adjoint.nd rfl (Or.inl rfl) (pe_ok (ok_adjoint_at T) (hr.mono (by decide)) rfl (pa_cons (pv 2) (pa_cons (pv 3) (pa_cons (pv 4) (pa_cons (pv 6) pa_nil))))))
      (pss_cons (ps_if (pt_cmpR op_isN (pv 7) pe_non (nomark _)) (pss_one (ps_ret (pe_ok (ok_returned T) (hr.mono (by decide)) rfl (pa_cons (pe_ok (ok_record T) (hr.mono (by decide)) rfl (pa_cons (pe_lst (pa_cons (pe_tup (pa_cons pe_str (pa_cons (pe_ok (ok_integer T) (hr.mono (by decide)) rfl (pa_cons (pv 6) pa_nil)) pa_nil))) pa_nil)) pa_nil)) pa_nil)))) pss_nil)
      (pss_one (ps_expr (pe_bm PySem.F.plainAttrs_list PySem.F.slot_list_append PySem.F.type_list_append mt_append (pv 5) (pa_cons (pv 7) pa_nil)))))))
      (pss_one (ps_ret (pe_ok (ok_returned T) (hr.mono (by decide)) rfl (pa_cons (pe_ok (ok_record T) (hr.mono (by decide)) rfl (pa_cons (pe_lst (pa_cons (pe_tup (pa_cons pe_str (pa_cons (pe_ok (ok_integers T) (hr.mono (by decide)) rfl (pa_cons (pv 5) pa_nil)) pa_nil))) pa_nil)) pa_nil)) pa_nil)))))))))), ?_⟩
    obtain ⟨n, m, a0, _, a1, _, hc⟩ := Pu.call8 hf.cl
    obtain ⟨ga, vs, hg, hga, _, hv⟩ := hf.args
    obtain ⟨v0, g0, r0⟩ := hv 0 (by decide)
    obtain ⟨v1, g1, r1⟩ := hv 1 (by decide)
    obtain ⟨v2, g2, r2⟩ := hv 2 (by decide)
    rw [a0] at r0
    rw [a1] at r1
    rw [hg]
    have eB := hf.ex
    have hw := hf.wi
    rw [hc] at hw
    obtain ⟨p, hp, hn⟩ := Pu.has_poset (s := n) (w := s'.wo) (and_l (and_l hw))
    obtain ⟨q, hq, hm⟩ := Pu.has_poset (s := m) (w := s'.wo) (and_r (and_l hw))
    have hst : ∀ {A : R7245g.Spec.Ans}, R7245g.Spec.outcome (R7245g.Spec.adjointResult p q) (R7245g.Spec.imagesArg p q (Rust.taken (Pu.arg s'.l 2))) = A → R7245g.Spec.step s'.wo s'.c = (s'.wo, A) := fun h => by
      rw [hc, ← h]
      exact (on_poset hp).trans (on_poset hq)
    rw [images_is (rep_octN r2)] at hst
    obtain ⟨o, ho, hev⟩ := slot_order (σ := start ["slots", "given", "order", "target", "images", "adjoint", "y", "z"] [.ref s'.sl, .ref ga]) (ta := tVar 0) T eB hf.sl (ev_var rfl) (ev_num (ev_giv (i := 0) (ev_var (i := 1) rfl) (eB _ _ hga) g0) (Rep.mono eB _ _ r0)) hp hn
    refine s_asg hev fun H1 e1 => ?_
    have k1 := (Kn.refl eB).up e1
    obtain ⟨t, ht, hev2⟩ := slot_order (σ := [some (.ref s'.sl), some (.ref ga), some o, none, none, none, none, none]) (ta := tVar 0) T k1.i (hf.sl.up e1) (ev_var rfl) (ev_num (ev_giv (i := 1) (ev_var (i := 1) rfl) (k1.i _ _ hga) g1) (Rep.mono k1.i _ _ r1)) hq hm
    refine s_asg hev2 fun H2 e2 => ?_
    have k2 := k1.up e2
    have h10 := ho.wf.le10
    have t10 := ht.wf.le10
    refine s_when (b := !natListB q.size (fun k => decide (k = p.size)) (Pu.arg s'.l 2)) (et_not (et_B (ev_isimg (Rep.mono k2.i _ _ r2) (ev_giv (i := 2) (ev_var rfl) (k2.i _ _ hga) g2) (ev_size T (ho.mono k2.i) (ev_var rfl)) (ev_size T (ht.mono k2.i) (ev_var rfl))))) (fun c H3 e3 => ?_) (fun c H3 e3 => ?_)
    · rw [if_neg (by rw [Bool.not_eq_true] ; simpa using c)] at hst
      exact s_bad hf (k2.up e3) (hst rfl) msg_images ev_c hQ
    · have c' : natListB q.size (fun k => decide (k = p.size)) (Pu.arg s'.l 2) = true := by simpa using c
      rw [if_pos c'] at hst
      obtain ⟨l, hl, c1, c2⟩ := natListB_ex c'
      rw [hl] at hst r2
      have hlen : l.length = p.size := of_decide_eq_true c1
      have hm := images_map c1 c2
      have k3 := k2.up e3
      refine s_asgR k3.i (er_numbers r2 c2 (by omega) (ev_giv (i := 2) (ev_var rfl) hga g2)) fun f4 B4 H4 gr4 x4 => ?_
      have k4 := k3.gr gr4
      refine s_asgL (el_lst (vs := []) ea_nil (by show 0 ≤ 100000; omega)) fun u H5 hu e5 h5 => ?_
      have k5 := k4.up e5
      have hu0 := fresh_back k4.h hu
      have hu4 : B4 u = none := ex_none k4.i hu
      refine s_forR1 (n := (q.size : Int)) (ea_cons (ev_size T (ht.mono (k5.b.trans k5.i)) (ev_var rfl)) ea_nil) (by omega) (fun i σ H' => ∃ z1 z2, σ = [some (.ref s'.sl), some (.ref ga), some o, some t, some f4, some (.ref u), z1, z2] ∧ Kn B H B4 H' ∧ H' u = some (.lst ((List.range i).map fun y => ni ((R7245g.Spec.adjointAt p q (natsOf l) y).getD 0))) ∧ (List.range i).find? (fun y => (R7245g.Spec.adjointAt p q (natsOf l) y).isNone) = none) (fun H6 e6 => ⟨none, none, rfl, k5.up e6, e6 _ _ h5, rfl⟩) ?_ ?_
      · rintro i σ' H' hi ⟨_, _, rfl, k, hlu, hfi⟩
        have hi' : i < q.size := by omega
        refine s_asg (ev_callG (o, p, t, q, f4, natsOf l, i) (ea_cons (ev_var rfl) (ea_cons (ev_var rfl) (ea_cons (ev_var rfl) (ea_cons (ev_var rfl) ea_nil)))) fun H6 e6 => ⟨rfl, ho.mono ((k.b.trans k.i).trans e6), ht.mono ((k.b.trans k.i).trans e6), x4.mono (k.i.trans e6), hm⟩) fun H6 e6 => ?_
        have k6 := k.up e6
        cases hz : R7245g.Spec.adjointAt p q (natsOf l) i with
        | none =>
          refine s_when (b := true) (et_is (et_isNone (ev_var rfl)) rfl) (fun _ H7 e7 => ?_) (fun c => by cases c)
          have hF : R7245g.Spec.firstWithoutAdjoint p q (natsOf l) = some i := range_at hi' hfi (by rw [hz] <;> rfl)
          refine s_ok (x := .record [((R7245g.Spec.units "missing").map Rust.octetOf, .int (i : Int))]) hf (k6.up e7) (hst (A := .ret (R7245g.Spec.record [("missing", R7245g.Spec.nat i)])) (by
            show R7245g.Spec.Ans.ret (R7245g.Spec.adjointResult p q (natsOf l)) = _
            unfold R7245g.Spec.adjointResult
            rw [hF])) rfl (er_record (er_ents (ar_ent (er_integer (ev_var rfl)) (by decide +kernel) (by decide +kernel) fun H8 e8 => ar_ent0) (by show 1 ≤ 100; omega))) hQ
        | some z =>
          refine s_when (b := false) (et_is (et_isNone (ev_var rfl)) rfl) (fun c => by cases c) (fun _ H7 e7 => ?_)
          refine s_app (e7 _ _ (e6 _ _ hlu)) (ev_var rfl) (ev_is (w := ni z) (ev_var rfl) rfl) (by rw [List.length_map, List.length_range]; omega) fun H8 e8 => ⟨_, _, rfl, (k6.up (e7.trans e8)).mut hu0 hu4, ?_, range_none hfi (by rw [hz] <;> rfl)⟩
          rw [upd_same, List.range_succ, List.map_append, List.map_cons, List.map_nil, hz]
          rfl
      · rintro σ' H' ⟨_, _, rfl, k, hlu, hfi⟩
        dsimp only
        have kk := k.know hu0 hlu
        have hF : R7245g.Spec.firstWithoutAdjoint p q (natsOf l) = none := hfi
        refine s_ok (x := .record [((R7245g.Spec.units "adjoint").map Rust.octetOf, oInts (R7245g.Spec.adjointMap p q (natsOf l)))]) hf kk (hst (A := .ret (R7245g.Spec.record [("adjoint", R7245g.Spec.nats (R7245g.Spec.adjointMap p q (natsOf l)))])) (by
          show R7245g.Spec.Ans.ret (R7245g.Spec.adjointResult p q (natsOf l)) = _
          unfold R7245g.Spec.adjointResult
          rw [hF])) (by
            rw [← given_nats]
            rfl) (er_record (er_ents (ar_ent (er_integers (l := R7245g.Spec.adjointMap p q (natsOf l)) (er_ev (ev_var rfl) fun H8 e8 => ⟨u, rfl, ?_⟩) ?_) (by decide +kernel) (by decide +kernel) fun H8 e8 => ar_ent0) (by show 1 ≤ 100; omega))) hQ
        · rw [e8 _ _ upd_same]
          show _ = some (HO.lst (((List.range q.size).map _).map ni))
          rw [List.map_map, Int.toNat_natCast]
          rfl
        · show ((List.range q.size).map _).length ≤ 40000
          rw [List.length_map, List.length_range]
          omega
section
variable {K : PySem.W.Frag} {σ : L2.St} {B : Hp} {ta tb tc te : TE} {tr : TA} {v o : V} {x : RWire.Value} {n m : Nat} {p : Po}
/-- what is due may hang on the arguments -/
theorem er_callX {α : Type} {A : α → List V → Hp → Prop} {S : α → V → Hp → Prop} {R2 : V → Hp → Prop} (h : EvAR tr σ B fun vs H1 => ∃ g, A g vs H1 ∧ ∀ w H2, S g w H2 → R2 w H2) (up : ∀ v, Up (R2 v)) : EvR (tCall (spB A S) [] E0 tr) σ B R2 := fun H1 e Q q =>
  h H1 e _ fun vs H2 e2 ⟨g, a, j⟩ => ⟨g, ext B H1 H2, by rw [List.append_nil]; exact a, ext_in e e2, fun v B3 H3 gr r => q v H3 (e2.trans gr.h) (up v _ _ (by
    rw [← ext_ext e2 gr.h]
    intro a o ha
    cases c : H2 a with
    | none =>
      rw [ext_new c]
      exact gr.i a o ha
    | some u =>
      rw [ext_old c, ← gr.fr a (some_ne c)]
      exact ha) (j v _ r))⟩
theorem linesB_ex (h : linesB n x = true) : ∃ l, x = .list l ∧ l.length ≤ 8 ∧ l.all (lineB n) = true := by
  cases x with
  | list l => exact ⟨l, rfl, of_decide_eq_true (and_l h), and_r h⟩
  | _ => cases h
theorem rows_line {l : List RWire.Value} (h : l.all (lineB n) = true) : ∀ r ∈ l.map rowOf, Pu.IsLine n r := fun r hr => by
  obtain ⟨y, hy, rfl⟩ := List.mem_map.mp hr
  obtain ⟨_, _, _, _, q⟩ := Pu.lineB_is (List.all_eq_true.mp h y hy)
  exact q
theorem er_rows {l : List RWire.Value} (h : Rep B (.list l) v) (hb : l.all (lineB n) = true) (hn : n ≤ 10) (hl : l.length ≤ 8) (ha : Ev ta σ B v) : EvR (tCall sp_rows_of [] E0 (tCons ta tNil)) σ B (fun w H => RowsAt H w (l.map rowOf)) :=
  er_call (v, l, n) (ar_of (ea_cons ha ea_nil) fun _ e => ⟨rfl, Rep.mono e _ _ h, fun y hy => by
    obtain ⟨l2, e1, e2, e3, _⟩ := Pu.lineB_is (List.all_eq_true.mp hb y hy)
    exact ⟨l2, e1, e3, by show l2.length ≤ 40000; omega⟩, by show l.length ≤ 40000; omega⟩) fun _ _ _ e h => RowsAt.mono h e
theorem pair_up (e : Option (Nat × Nat)) (v : V) : Up fun H => PairOr H v e := fun H H' ex h => by
  cases e with
  | none => exact h
  | some e =>
    obtain ⟨t, h1, h2⟩ := h
    exact ⟨t, h1, ex _ _ h2⟩
theorem er_conflict {ll : List (List Nat)} (ho : OrdAt K B o p) (ha : Ev ta σ B o) (h : EvR te σ B (fun w H => RowsAt H w ll)) (hl : ∀ r ∈ ll, Pu.IsLine p.size r) (h8 : ll.length ≤ 8) : EvR (tCall (sp_conflict K) [] E0 (tCons ta (tCons te tNil))) σ B (fun w H => PairOr H w (R7245g.Spec.firstConflict p ll)) :=
  er_callX (ar_consV ha fun H1 e1 => ar_one (fun H2 e2 Q q => h H2 (e1.trans e2) Q fun v H3 e3 r => q v H3 e3 (r.mono (fun a o ha => by
      cases c : H2 a with
      | none =>
        rw [ext_new c] at ha ⊢
        exact ha
      | some u =>
        rw [ext_old c] at ha ⊢
        exact e1 a o ha))) fun w H2 e r => ⟨(o, p, w, ll), ⟨rfl, (ho.mono e1).mono e, r, hl, h8⟩, fun _ _ q => q⟩) (pair_up _)
end
def sp_poset_conflict (K : PySem.W.Frag) : Sp := spD K 9
theorem ok_poset_conflict {P : Program} {w : World} {K : PySem.W.Frag} {mg : PySem.Str → Option Value} {base : Heap} (T : Tx K mg base) : Ok P w K mg base 42 "poset_conflict" ["slots", "given"] (sp_poset_conflict K) := by
  refine ok_of (at_poset_conflict T) sc_poset_conflict (fun _ _ _ _ _ _ us hl => match us, hl with | [_, _], _ => rfl) (fun vs H Q E h => ?_) (fun f cdv A outer s H vs Q E hr h => ?_)
  · obtain ⟨s', B, rfl, hf, hQ⟩ := h
    rfl
  · obtain ⟨s', B, rfl, hf, hQ⟩ := h
    (try dsimp only at hf)
    (try dsimp only at hQ)
    refine ⟨_, (pss_cons (ps_set (i := 2) sc_poset_conflict.nd rfl (Or.inl rfl) (pe_ix ix_list (pe_fld (pv 0) rfl) (pe_ix ix_tup (pe_ix ix_list (pv 1) pe_int (fun _ _ => rfl)) pe_int (fun _ _ => rfl)) (fun _ _ => rfl)))
      (pss_cons (ps_if (pt_not (pt_val (pe_ok (ok_is_lines T) (hr.mono (by decide)) rfl (pa_cons (pe_ix ix_list (pv 1) pe_int (fun _ _ => rfl)) (pa_cons (pe_fld (pv 2) rfl) pa_nil))))) (pss_one (ps_ret (pe_ok (ok_wrong_kind T) (hr.mono (by decide)) rfl (pa_cons (pe_gs (g_ORDERS_WORDS T) rfl) pa_nil)))) pss_nil)
      (pss_cons (ps_set (i := 3) sc_poset_conflict.nd rfl (Or.inl rfl) (pe_ok (ok_conflict T) (hr.mono (by decide)) rfl (pa_cons (pv 2) (pa_cons (pe_ok (ok_rows_of T) (hr.mono (by decide)) rfl (pa_cons (pe_ix ix_list (pv 1) pe_int (fun _ _ => rfl)) pa_nil)) pa_nil))))
      (pss_cons (ps_if (pt_cmpR op_isN (pv 3) pe_non (nomark _)) (pss_one (ps_ret (pe_ok (ok_returned T) (hr.mono (by decide)) rfl (pa_cons (pe_ok (ok_integer_or_null T) (hr.mono (by decide)) rfl (pa_cons pe_non pa_nil)) pa_nil)))) pss_nil)
      (pss_one (ps_ret (pe_ok (ok_returned T) (hr.mono (by decide)) rfl (pa_cons (pe_ok (ok_integers T) (hr.mono (by decide)) rfl (pa_cons (pe_lst (pa_cons (pe_ix ix_tup (pv 3) pe_int (fun _ _ => rfl)) (pa_cons (pe_ix ix_tup (pv 3) pe_int (fun _ _ => rfl)) pa_nil))) pa_nil)) pa_nil)))))))), ?_⟩
    obtain ⟨n, a0, _, hc⟩ := Pu.call9 hf.cl
    obtain ⟨ga, vs, hg, hga, _, hv⟩ := hf.args
    obtain ⟨v0, g0, r0⟩ := hv 0 (by decide)
    obtain ⟨v1, g1, r1⟩ := hv 1 (by decide)
    rw [a0] at r0
    rw [hg]
    have eB := hf.ex
    have hw := hf.wi
    rw [hc] at hw
    obtain ⟨p, hp, hn⟩ := Pu.has_poset (s := n) (w := s'.wo) (and_l hw)
    have hst : ∀ {A : R7245g.Spec.Ans}, R7245g.Spec.outcome (fun l => R7245g.Spec.orNull R7245g.Spec.pairPlain (R7245g.Spec.firstConflict p l)) (R7245g.Spec.ordersArg p (Rust.taken (Pu.arg s'.l 1))) = A → R7245g.Spec.step s'.wo s'.c = (s'.wo, A) := fun h => by
      rw [hc, ← h]
      exact on_poset hp
    rw [Pu.lines_is p _ (rep_octN r1) (rep_octM r1)] at hst
    obtain ⟨o, ho, hev⟩ := slot_order (σ := start ["slots", "given", "order", "pair"] [.ref s'.sl, .ref ga]) (ta := tVar 0) T eB hf.sl (ev_var rfl) (ev_num (ev_giv (i := 0) (ev_var (i := 1) rfl) (eB _ _ hga) g0) (Rep.mono eB _ _ r0)) hp hn
    refine s_asg hev fun H1 e1 => ?_
    have k1 := (Kn.refl eB).up e1
    have h10 := ho.wf.le10
    refine s_when (b := !linesB p.size (Pu.arg s'.l 1)) (et_not (et_B (ev_islines (Rep.mono k1.i _ _ r1) h10 (ev_giv (i := 1) (ev_var rfl) (k1.i _ _ hga) g1) (ev_size T (ho.mono k1.i) (ev_var rfl))))) (fun c H3 e3 => ?_) (fun c H3 e3 => ?_)
    · rw [if_neg (by rw [Bool.not_eq_true] ; simpa using c)] at hst
      exact s_bad hf (k1.up e3) (hst rfl) msg_orders ev_c hQ
    · have c' : linesB p.size (Pu.arg s'.l 1) = true := by simpa using c
      rw [if_pos c'] at hst
      obtain ⟨l, hl, c1, c2⟩ := linesB_ex c'
      rw [hl] at hst r1
      have k3 := k1.up e3
      refine s_asgR k3.i (er_conflict ho (ev_var rfl) (er_rows r1 c2 h10 c1 (ev_giv (i := 1) (ev_var rfl) hga g1)) (rows_line c2) (by rw [List.length_map]; exact c1)) fun f4 B4 H4 gr4 x4 => ?_
      have k4 := k3.gr gr4
      cases hF : R7245g.Spec.firstConflict p (l.map rowOf) with
      | none =>
        rw [hF] at x4
        have ev4 : f4 = .non := x4
        refine s_when (b := true) (et_is (et_isNone (ev_var (v := f4) rfl)) (by rw [ev4] <;> rfl)) (fun _ H5 e5 => ?_) (fun c => by cases c)
        exact s_ok (x := .null) hf (k4.up e5) (hst (A := .ret .null) (by
          show R7245g.Spec.Ans.ret (R7245g.Spec.orNull _ (R7245g.Spec.firstConflict p (l.map rowOf))) = _
          rw [hF]
          rfl)) rfl (er_orInt (o := none) ev_c) hQ
      | some e =>
        rw [hF] at x4
        obtain ⟨t, ht, hb⟩ := x4
        refine s_when (b := false) (et_is (et_isNone (ev_var (v := f4) rfl)) (by rw [ht] <;> rfl)) (fun c => by cases c) (fun _ H5 e5 => ?_)
        exact s_ok (x := oInts [e.1, e.2]) hf (k4.up e5) (hst (A := .ret (R7245g.Spec.pairPlain e)) (by
          show R7245g.Spec.Ans.ret (R7245g.Spec.orNull _ (R7245g.Spec.firstConflict p (l.map rowOf))) = _
          rw [hF]
          rfl)) (given_nats _) (er_integers (er_lst (S := fun vs _ => vs = [ni e.1, ni e.2]) (ar_of (ea_cons (ev_op (ev_var (v := .ref t) (by rw [← ht] <;> rfl)) ev_c (rv_ixT (st_of hb) (atI_nat (j := 0) rfl))) (ea_cons (ev_op (ev_var (v := .ref t) (by rw [← ht] <;> rfl)) ev_c (rv_ixT (st_of hb) (atI_nat (j := 1) rfl))) ea_nil)) fun _ _ => rfl) (fun vs H1 e => by rw [e]; show 2 ≤ 100000; omega) fun q vs H1 _ e5 hq => ⟨q, rfl, by rw [e5]; exact upd_same⟩) (by show 2 ≤ 40000; omega)) hQ
end Cm
end PartF11
section PartF12
set_option Elab.async false
set_option linter.all false
set_option maxRecDepth 100000
set_option maxHeartbeats 4000000
namespace Cm
open PySem PySem.Spec PyProof.Rows L2 Evl
open Pu (nb wholeB belowB natsOf natOf natListB listOf pairB pairsB lineB linesB rowOf rowsOf)
open R7245g.Spec (posetAt completionAt cutList cutIndex upperBounds)
/-! ### doors of completions -/
def nmOf (s : String) : RWire.Text := (R7245g.Spec.units s).map Rust.octetOf
def cutRec (p : Po) (c : Nat) : RWire.Value := .record [(nmOf "lower", .big ((c : Nat) : Int)), (nmOf "upper", .big ((upperBounds p c : Nat) : Int))]
theorem given_cuts (p : Po) (l : List Nat) : Rust.given (.arr (l.map (R7245g.Spec.cutValue p))) = .list (l.map (cutRec p)) := by
  show RWire.Value.list (Rust.givenAll (l.map (R7245g.Spec.cutValue p))) = .list _
  congr 1
  induction l with
  | nil => rfl
  | cons a l ih =>
    show _ :: Rust.givenAll (l.map (R7245g.Spec.cutValue p)) = _
    rw [ih]
    rfl
section
variable {K : PySem.W.Frag} {mg : PySem.Str → Option Value} {base : Heap} {σ : L2.St} {B H : Hp} {ta tb tc te : TE} {v : V} {x : RWire.Value} {n m : Nat} {a l dx : Addr} {o : V} {p : Po}
theorem ev_corder (T : Tx K mg base) (h : Ev te σ H (.ref a)) (ho : H a = some (.ins (He.ga K "Completion") dx (compF o l))) : Ev (tFld K te "order") σ H o := ev_fld h ho T.cl_Completion T.na_Completion_order (compF_order o l)
theorem ev_clow (T : Tx K mg base) (h : Ev te σ H (.ref a)) (ho : H a = some (.ins (He.ga K "Completion") dx (compF o l))) : Ev (tFld K te "lowers") σ H (.ref l) := ev_fld h ho T.cl_Completion T.na_Completion_lowers (compF_lowers o l)
end
def sp_completion_cuts (K : PySem.W.Frag) : Sp := spD K 11
theorem ok_completion_cuts {P : Program} {w : World} {K : PySem.W.Frag} {mg : PySem.Str → Option Value} {base : Heap} (T : Tx K mg base) : Ok P w K mg base 42 "completion_cuts" ["slots", "given"] (sp_completion_cuts K) := by
  refine ok_of (at_completion_cuts T) sc_completion_cuts (fun _ _ _ _ _ _ us hl => match us, hl with | [_, _], _ => rfl) (fun vs H Q E h => ?_) (fun f cdv A outer s H vs Q E hr h => ?_)
  · obtain ⟨s', B, rfl, hf, hQ⟩ := h
    rfl
  · obtain ⟨s', B, rfl, hf, hQ⟩ := h
    (try dsimp only at hf)
    (try dsimp only at hQ)
    refine ⟨_, (pss_cons (ps_set (i := 2) sc_completion_cuts.nd rfl (Or.inl rfl) (pe_ix ix_list (pe_fld (pv 0) rfl) (pe_ix ix_tup (pe_ix ix_list (pv 1) pe_int (fun _ _ => rfl)) pe_int (fun _ _ => rfl)) (fun _ _ => rfl)))
      (pss_cons (ps_set (i := 3) sc_completion_cuts.nd rfl (Or.inl rfl) (pe_lst pa_nil))
      (pss_cons (ps_for PassesOwn.never rfl (pi_list (pe_fld (pv 2) rfl)) (pg_name (i := 4) sc_completion_cuts.nd rfl (Or.inl rfl)) (pss_cons (ps_set (i := 5) sc_completion_cuts.nd rfl (Or.inl rfl) (pe_ok (ok_upper_bounds T) (hr.mono (by decide)) rfl (pa_cons (pe_fld (pv 2) rfl) (pa_cons (pv 4) pa_nil))))
      (pss_one (ps_expr (pe_bm PySem.F.plainAttrs_list PySem.F.slot_list_append PySem.F.type_list_append mt_append (pv 3) (pa_cons (pe_ok (ok_record T) (hr.mono (by decide)) rfl (pa_cons (pe_lst (pa_cons (pe_tup (pa_cons pe_str (pa_cons (pe_ok (ok_great T) (hr.mono (by decide)) rfl (pa_cons (pv 4) pa_nil)) pa_nil))) (pa_cons (pe_tup (pa_cons pe_str (pa_cons (pe_ok (ok_great T) (hr.mono (by decide)) rfl (pa_cons (pv 5) pa_nil)) pa_nil))) pa_nil))) pa_nil)) pa_nil))))))
      (pss_one (ps_ret (pe_ok (ok_returned T) (hr.mono (by decide)) rfl (pa_cons (pe_ok (ok_listed T) (hr.mono (by decide)) rfl (pa_cons (pv 3) pa_nil)) pa_nil))))))), ?_⟩
    obtain ⟨n, a0, _, hc⟩ := Pu.call11 hf.cl
    obtain ⟨ga, vs, hg, hga, _, hv⟩ := hf.args
    obtain ⟨v0, g0, r0⟩ := hv 0 (by decide)
    rw [a0] at r0
    rw [hg]
    have eB := hf.ex
    have hw := hf.wi
    rw [hc] at hw
    obtain ⟨p, hp, hn⟩ := Pu.has_completion (s := n) (w := s'.wo) hw
    obtain ⟨c, hcc, hev⟩ := slot_comp (σ := start ["slots", "given", "completion", "rows", "lower", "upper"] [.ref s'.sl, .ref ga]) (ta := tVar 0) T eB hf.sl (ev_var rfl) (ev_num (ev_giv (i := 0) (ev_var (i := 1) rfl) (eB _ _ hga) g0) (Rep.mono eB _ _ r0)) hp hn
    refine s_asg hev fun H1 e1 => ?_
    obtain ⟨a, dx, o, l, rfl, h1, h2, h3⟩ := hcc
    have p10 := Pu.cuts_len p h2.wf.le10
    refine s_asgL (el_lst (vs := []) ea_nil (by show 0 ≤ 100000; omega)) fun u H2 hu e2 hu2 => ?_
    have k2 := ((Kn.refl eB).up e1).up e2
    have hu0 := fresh_back e1 hu
    have huB := ex_none eB hu0
    refine s_forLst (a := l) (xs := (cutList p).map ni) (ev_clow T (ev_var rfl) (k2.i _ _ h1)) (sq_of (k2.i _ _ h3)) (fun i σ H' => ∃ x y B1 ys, σ = [some (.ref s'.sl), some (.ref ga), some (.ref a), some (.ref u), x, y] ∧ Kn B H B1 H' ∧ B1 u = none ∧ H' u = some (.lst ys) ∧ ys.length = i ∧ ∀ (k : Nat) (y : V), ys[k]? = some y → ∃ c, (cutList p)[k]? = some c ∧ Out B1 (cutRec p c) y)
      (fun H3 e3 => ⟨none, none, B, [], rfl, k2.up e3, huB, e3 _ _ hu2, rfl, fun k y q => by simp at q⟩) (fun i σ' H' _ ⟨_, _, _, _, _, k, _⟩ => sq_of (k.i _ _ (k.b _ _ h3))) ?_ ?_
    · rintro i x σ' H' hx ⟨_, _, B1, ys, rfl, k, hu1, hl1, hyl, hrep⟩
      obtain ⟨c, hc', rfl⟩ := map_at hx
      have hi : i < (cutList p).length := (List.getElem?_eq_some_iff.mp hc').1
      refine s_asg (ev_ub (s := c) ((h2.mono k.b).mono k.i) (ev_corder T (ev_var rfl) (k.i _ _ (k.b _ _ h1))) (ev_var rfl)) fun H3 e3 => ?_
      have k3 := k.up e3
      refine s_appR (R := fun v H => Out H (cutRec p c) v) k3.i (e3 _ _ hl1) (ev_var rfl) (er_record (er_ents (ar_ent (er_great (ev_var rfl)) (by decide +kernel) (by decide +kernel) fun H4 e4 => ar_ent (er_great (ev_var rfl)) (by decide +kernel) (by decide +kernel) fun H5 e5 => ar_ent0) (by show 2 ≤ 100; omega))) (by omega) fun v B2 H4 g r => ⟨_, _, B2, ys ++ [v], rfl, (k3.gr g).mut hu0 (g.none (e3 _ _ hl1) hu1), g.none (e3 _ _ hl1) hu1, upd_same, by simp [hyl], fun j z q => ?_⟩
      by_cases cc : j < ys.length
      · rw [List.getElem?_append_left cc] at q
        obtain ⟨x', a1, a2⟩ := hrep j z q
        exact ⟨x', a1, Out.mono g.b _ _ a2⟩
      · rw [List.getElem?_append_right (by omega)] at q
        have e0 : j - ys.length = 0 := by
          have := (List.getElem?_eq_some_iff.mp q).1
          simp at this
          omega
        rw [e0] at q
        cases q
        have e5 : j = i := by omega
        subst e5
        exact ⟨c, hc', r⟩
    · rintro σ' H' ⟨_, _, B1, ys, rfl, k, hu1, hl1, hyl, hrep⟩
      dsimp only
      rw [List.length_map] at hyl
      have kk := k.know hu0 hl1
      refine s_ok (x := .list ((cutList p).map (cutRec p))) hf kk (by
        rw [hc]
        exact on_comp hp) (given_cuts p _) (er_listed (er_ev (ev_var rfl) fun H8 e8 => ⟨u, ys, rfl, e8 _ _ upd_same, outAll_of _ _ (by rw [hyl, List.length_map]) fun j z q => ?_⟩)) hQ
      obtain ⟨x', a1, a2⟩ := hrep j z q
      exact ⟨cutRec p x', by rw [List.getElem?_map, a1] <;> rfl, Out.mono ((Ex.new hu1).trans e8) _ _ a2⟩
def sp_completion_closure (K : PySem.W.Frag) : Sp := spD K 12
theorem ok_completion_closure {P : Program} {w : World} {K : PySem.W.Frag} {mg : PySem.Str → Option Value} {base : Heap} (T : Tx K mg base) : Ok P w K mg base 42 "completion_closure" ["slots", "given"] (sp_completion_closure K) := by
  refine ok_of (at_completion_closure T) sc_completion_closure (fun _ _ _ _ _ _ us hl => match us, hl with | [_, _], _ => rfl) (fun vs H Q E h => ?_) (fun f cdv A outer s H vs Q E hr h => ?_)
  · obtain ⟨s', B, rfl, hf, hQ⟩ := h
    rfl
  · obtain ⟨s', B, rfl, hf, hQ⟩ := h
    (try dsimp only at hf)
    (try dsimp only at hQ)
    refine ⟨_, (pss_cons (ps_set (i := 2) sc_completion_closure.nd rfl (Or.inl rfl) (pe_ix ix_list (pe_fld (pv 0) rfl) (pe_ix ix_tup (pe_ix ix_list (pv 1) pe_int (fun _ _ => rfl)) pe_int (fun _ _ => rfl)) (fun _ _ => rfl)))
      (pss_cons (ps_if (pt_not (pt_val (pe_ok (ok_is_set T) (hr.mono (by decide)) rfl (pa_cons (pe_ix ix_list (pv 1) pe_int (fun _ _ => rfl)) pa_nil)))) (pss_one (ps_ret (pe_ok (ok_wrong_kind T) (hr.mono (by decide)) rfl (pa_cons (pe_gs (g_SET_WORDS T) rfl) pa_nil)))) pss_nil)
      (pss_cons (ps_set (i := 3) sc_completion_closure.nd rfl (Or.inl rfl) (pe_ok (ok_set_of T) (hr.mono (by decide)) rfl (pa_cons (pe_fld (pv 2) rfl) (pa_cons (pe_ix ix_list (pv 1) pe_int (fun _ _ => rfl)) pa_nil))))
      (pss_one (ps_ret (pe_ok (ok_returned T) (hr.mono (by decide)) rfl (pa_cons (pe_ok (ok_integer T) (hr.mono (by decide)) rfl (pa_cons (pe_ok (ok_cut_number T) (hr.mono (by decide)) rfl (pa_cons (pv 2) (pa_cons (pe_ok (ok_closure T) (hr.mono (by decide)) rfl (pa_cons (pe_fld (pv 2) rfl) (pa_cons (pv 3) pa_nil))) pa_nil))) pa_nil)) pa_nil))))))), ?_⟩
    obtain ⟨n, a0, _, hc⟩ := Pu.call12 hf.cl
    obtain ⟨ga, vs, hg, hga, _, hv⟩ := hf.args
    obtain ⟨v0, g0, r0⟩ := hv 0 (by decide)
    obtain ⟨v1, g1, r1⟩ := hv 1 (by decide)
    rw [a0] at r0
    rw [hg]
    have eB := hf.ex
    have hw := hf.wi
    rw [hc] at hw
    obtain ⟨p, hp, hn⟩ := Pu.has_completion (s := n) (w := s'.wo) (and_l hw)
    obtain ⟨c, hcc, hev⟩ := slot_comp (σ := start ["slots", "given", "completion", "mask"] [.ref s'.sl, .ref ga]) (ta := tVar 0) T eB hf.sl (ev_var rfl) (ev_num (ev_giv (i := 0) (ev_var (i := 1) rfl) (eB _ _ hga) g0) (Rep.mono eB _ _ r0)) hp hn
    refine s_asg hev fun H1 e1 => ?_
    have hcc0 := hcc
    obtain ⟨a, dx, o, l, rfl, h1, h2, h3⟩ := hcc
    have k1 := (Kn.refl eB).up e1
    refine s_when (b := !isBig (Pu.arg s'.l 1)) (et_not (et_B (ev_isset (Rep.mono k1.i _ _ r1) (ev_giv (i := 1) (ev_var rfl) (k1.i _ _ hga) g1)))) (fun c H2 e2 => ?_) (fun c H2 e2 => ?_)
    · exact s_bad (m := "set must be a great integer") hf (k1.up e2) (by
        rw [hc]
        refine (on_comp hp).trans ?_
        show (_, R7245g.Spec.outcome _ (R7245g.Spec.setArg p (Rust.taken (Pu.arg s'.l 1)))) = _
        rw [Pu.set_big]
        cases hx : Pu.arg s'.l 1 <;> first | rfl | (rw [hx] at c; cases c)) msg_set ev_c hQ
    · cases hx : Pu.arg s'.l 1 with
      | big i =>
        rw [hx] at r1
        have k2 := k1.up e2
        refine s_asg (ev_setof (h2.mono k2.i) (Rep.mono k2.i _ _ r1) (ev_corder T (ev_var rfl) (k2.i _ _ h1)) (ev_giv (i := 1) (ev_var rfl) (k2.i _ _ hga) g1)) fun H3 e3 => ?_
        exact s_ok (x := .int ((cutIndex p (R7245g.Spec.closure p (i % (2 ^ p.size : Int)).toNat) : Nat) : Int)) hf (k2.up e3) (by
          rw [hc, hx]
          exact on_comp hp) rfl (er_integer (ev_cutno hcc0 (Pu.clo_mem p _) (ev_var rfl) (ev_clo h2 (ev_corder T (ev_var rfl) h1) (ev_var rfl)))) hQ
      | _ => rw [hx] at c; cases c
section
variable {K : PySem.W.Frag} {σ : L2.St} {B H : Hp} {ta tb tc te : TE} {tr : TA} {v z c t : V} {x : RWire.Value} {n m : Nat} {p q : Po} {f : List Nat}
theorem evg_callX {α : Type} {A : α → List V → Hp → Prop} {f : α → V} {S : List V → Hp → Prop} (h : EvAR tr σ B S) (i : ∀ vs B1 H2, Ex B1 H2 → S vs B1 → ∃ g, A g vs H2 ∧ f g = z) : Ev (tCall (spG A f) [] E0 tr) σ B z := fun H1 e Q q =>
  h H1 e _ fun vs H2 e2 s => by
    obtain ⟨g, a, hz⟩ := i vs _ _ (ext_in e e2) s
    exact ⟨g, by rw [List.append_nil]; exact a, fun H3 e3 => by rw [hz]; exact q H3 (e2.trans e3)⟩
theorem ev_iscuts (h : Rep H x v) (ha : Ev ta σ H v) (hb : Ev tb σ H (ni n)) : Ev (tCall sp_is_cuts [] E0 (tCons ta (tCons tb tNil))) σ H (.bl (natListB n (fun k => decide (k ≤ 20)) x)) :=
  ev_callG (v, x, n) (ea_cons ha (ea_cons hb ea_nil)) fun _ e => ⟨rfl, Rep.mono e _ _ h⟩
theorem er_up {R : V → Hp → Prop} {B1 : Hp} (h : EvR te σ B R) (u : ∀ v, Up (R v)) (e : Ex B B1) : EvR te σ B1 R := fun H2 e2 Q q => h H2 (e.trans e2) Q fun v H3 e3 r => q v H3 e3 (u v _ _ (fun a o ha => by
  cases c : H2 a with
  | none =>
    rw [ext_new c] at ha ⊢
    exact ha
  | some u =>
    rw [ext_old c] at ha ⊢
    exact e a o ha) r)
theorem ln_up (l : List Nat) (v : V) : Up fun H => LN H v l := fun _ _ e h => LN.mono h e
theorem ev_joinof (hc : CompAt K B c p) (ha : Ev ta σ B c) (h : EvR te σ B (fun w H => LN H w f)) (hl : ∀ i ∈ f, i < (cutList p).length) : Ev (tCall (sp_join_of K) [] E0 (tCons ta (tCons te tNil))) σ B (ni (cutIndex p (R7245g.Spec.joinOf p (R7245g.Spec.cutsOf p f)))) :=
  evg_callX (S := fun vs H => ∃ w, vs = [c, w] ∧ CompAt K H c p ∧ LN H w f) (ar_consV ha fun H1 e1 => ar_one (er_up h (ln_up f) e1) fun w H2 e r => ⟨w, rfl, (hc.mono e1).mono e, r⟩) fun vs B1 H2 e ⟨w, e1, e2, e3⟩ => ⟨(c, p, w, f), ⟨e1, e2.mono e, e3.mono e, hl⟩, rfl⟩
theorem ev_meetof (hc : CompAt K B c p) (ha : Ev ta σ B c) (h : EvR te σ B (fun w H => LN H w f)) (hl : ∀ i ∈ f, i < (cutList p).length) : Ev (tCall (sp_meet_of K) [] E0 (tCons ta (tCons te tNil))) σ B (ni (cutIndex p (R7245g.Spec.meetOf p (R7245g.Spec.cutsOf p f)))) :=
  evg_callX (S := fun vs H => ∃ w, vs = [c, w] ∧ CompAt K H c p ∧ LN H w f) (ar_consV ha fun H1 e1 => ar_one (er_up h (ln_up f) e1) fun w H2 e r => ⟨w, rfl, (hc.mono e1).mono e, r⟩) fun vs B1 H2 e ⟨w, e1, e2, e3⟩ => ⟨(c, p, w, f), ⟨e1, e2.mono e, e3.mono e, hl⟩, rfl⟩
end
theorem indices_is {p : Po} {x : RWire.Value} (hx : ∀ u, x ≠ .octets u) : R7245g.Spec.indicesArg p (Rust.taken x) = if natListB (cutList p).length (fun k => decide (k ≤ 20)) x then .ok (natsOf (listOf x)) else .error (R7245g.Spec.typeErr "cuts must be a list of at most 20 numbers of cuts") :=
  Pu.natList_is (cutList p).length (fun k => decide (k ≤ 20)) (R7245g.Spec.typeErr "cuts must be a list of at most 20 numbers of cuts") x hx
def sp_completion_join (K : PySem.W.Frag) : Sp := spD K 13
theorem ok_completion_join {P : Program} {w : World} {K : PySem.W.Frag} {mg : PySem.Str → Option Value} {base : Heap} (T : Tx K mg base) : Ok P w K mg base 42 "completion_join" ["slots", "given"] (sp_completion_join K) := by
  refine ok_of (at_completion_join T) sc_completion_join (fun _ _ _ _ _ _ us hl => match us, hl with | [_, _], _ => rfl) (fun vs H Q E h => ?_) (fun f cdv A outer s H vs Q E hr h => ?_)
  · obtain ⟨s', B, rfl, hf, hQ⟩ := h
    rfl
  · obtain ⟨s', B, rfl, hf, hQ⟩ := h
    (try dsimp only at hf)
    (try dsimp only at hQ)
    refine ⟨_, (pss_cons (ps_set (i := 2) sc_completion_join.nd rfl (Or.inl rfl) (pe_ix ix_list (pe_fld (pv 0) rfl) (pe_ix ix_tup (pe_ix ix_list (pv 1) pe_int (fun _ _ => rfl)) pe_int (fun _ _ => rfl)) (fun _ _ => rfl)))
      (pss_cons (ps_if (pt_not (pt_val (pe_ok (ok_is_cuts T) (hr.mono (by decide)) rfl (pa_cons (pe_ix ix_list (pv 1) pe_int (fun _ _ => rfl)) (pa_cons (pe_callB call_len_seq (by rfl) T.n_len PySem.boot_len (pa_cons (pe_fld (pv 2) rfl) pa_nil)) pa_nil))))) (pss_one (ps_ret (pe_ok (ok_wrong_kind T) (hr.mono (by decide)) rfl (pa_cons (pe_gs (g_CUTS_WORDS T) rfl) pa_nil)))) pss_nil)
      (pss_one (ps_ret (pe_ok (ok_returned T) (hr.mono (by decide)) rfl (pa_cons (pe_ok (ok_integer T) (hr.mono (by decide)) rfl (pa_cons (pe_ok (ok_join_of T) (hr.mono (by decide)) rfl (pa_cons (pv 2) (pa_cons (pe_ok (ok_numbers_of T) (hr.mono (by decide)) rfl (pa_cons (pe_ix ix_list (pv 1) pe_int (fun _ _ => rfl)) pa_nil)) pa_nil))) pa_nil)) pa_nil)))))), ?_⟩
    obtain ⟨n, a0, _, hc⟩ := Pu.call13 hf.cl
    obtain ⟨ga, vs, hg, hga, _, hv⟩ := hf.args
    obtain ⟨v0, g0, r0⟩ := hv 0 (by decide)
    obtain ⟨v1, g1, r1⟩ := hv 1 (by decide)
    rw [a0] at r0
    rw [hg]
    have eB := hf.ex
    have hw := hf.wi
    rw [hc] at hw
    obtain ⟨p, hp, hn⟩ := Pu.has_completion (s := n) (w := s'.wo) (and_l hw)
    have hst : ∀ {A : R7245g.Spec.Ans}, R7245g.Spec.outcome (fun l => R7245g.Spec.nat (cutIndex p (R7245g.Spec.joinOf p (R7245g.Spec.cutsOf p l)))) (R7245g.Spec.indicesArg p (Rust.taken (Pu.arg s'.l 1))) = A → R7245g.Spec.step s'.wo s'.c = (s'.wo, A) := fun h => by
      rw [hc, ← h]
      exact on_comp hp
    rw [indices_is (rep_octN r1)] at hst
    obtain ⟨c, hcc, hev⟩ := slot_comp (σ := start ["slots", "given", "completion"] [.ref s'.sl, .ref ga]) (ta := tVar 0) T eB hf.sl (ev_var rfl) (ev_num (ev_giv (i := 0) (ev_var (i := 1) rfl) (eB _ _ hga) g0) (Rep.mono eB _ _ r0)) hp hn
    refine s_asg hev fun H1 e1 => ?_
    have hcc0 := hcc
    obtain ⟨a, dx, o, l0, rfl, h1, h2, h3⟩ := hcc
    have k1 := (Kn.refl eB).up e1
    refine s_when (b := !natListB (cutList p).length (fun k => decide (k ≤ 20)) (Pu.arg s'.l 1)) (et_not (et_B (ev_iscuts (Rep.mono k1.i _ _ r1) (ev_giv (i := 1) (ev_var rfl) (k1.i _ _ hga) g1) (ev_is (ev_len (ev_clow T (ev_var rfl) (k1.i _ _ h1)) (sq_of (k1.i _ _ h3))) (by rw [List.length_map]))))) (fun c H3 e3 => ?_) (fun c H3 e3 => ?_)
    · rw [if_neg (by rw [Bool.not_eq_true] ; simpa using c)] at hst
      exact s_bad hf (k1.up e3) (hst rfl) msg_cuts ev_c hQ
    · have c' : natListB (cutList p).length (fun k => decide (k ≤ 20)) (Pu.arg s'.l 1) = true := by simpa using c
      rw [if_pos c'] at hst
      obtain ⟨l, hl, c1, c2⟩ := natListB_ex c'
      rw [hl] at hst r1
      have hlen : l.length ≤ 20 := of_decide_eq_true c1
      have k3 := k1.up e3
      exact s_ok (x := .int ((cutIndex p (R7245g.Spec.joinOf p (R7245g.Spec.cutsOf p (natsOf l))) : Nat) : Int)) hf k3 (hst rfl) rfl (er_integer (ev_joinof hcc0 (ev_var rfl) (er_numbers r1 c2 (by omega) (ev_giv (i := 1) (ev_var rfl) hga g1)) (Pu.nats_lt c2))) hQ
def sp_completion_meet (K : PySem.W.Frag) : Sp := spD K 14
theorem ok_completion_meet {P : Program} {w : World} {K : PySem.W.Frag} {mg : PySem.Str → Option Value} {base : Heap} (T : Tx K mg base) : Ok P w K mg base 42 "completion_meet" ["slots", "given"] (sp_completion_meet K) := by
  refine ok_of (at_completion_meet T) sc_completion_meet (fun _ _ _ _ _ _ us hl => match us, hl with | [_, _], _ => rfl) (fun vs H Q E h => ?_) (fun f cdv A outer s H vs Q E hr h => ?_)
  · obtain ⟨s', B, rfl, hf, hQ⟩ := h
    rfl
  · obtain ⟨s', B, rfl, hf, hQ⟩ := h
    (try dsimp only at hf)
    (try dsimp only at hQ)
    refine ⟨_, (pss_cons (ps_set (i := 2) sc_completion_meet.nd rfl (Or.inl rfl) (pe_ix ix_list (pe_fld (pv 0) rfl) (pe_ix ix_tup (pe_ix ix_list (pv 1) pe_int (fun _ _ => rfl)) pe_int (fun _ _ => rfl)) (fun _ _ => rfl)))
      (pss_cons (ps_if (pt_not (pt_val (pe_ok (ok_is_cuts T) (hr.mono (by decide)) rfl (pa_cons (pe_ix ix_list (pv 1) pe_int (fun _ _ => rfl)) (pa_cons (pe_callB call_len_seq (by rfl) T.n_len PySem.boot_len (pa_cons (pe_fld (pv 2) rfl) pa_nil)) pa_nil))))) (pss_one (ps_ret (pe_ok (ok_wrong_kind T) (hr.mono (by decide)) rfl (pa_cons (pe_gs (g_CUTS_WORDS T) rfl) pa_nil)))) pss_nil)
      (pss_one (ps_ret (pe_ok (ok_returned T) (hr.mono (by decide)) rfl (pa_cons (pe_ok (ok_integer T) (hr.mono (by decide)) rfl (pa_cons (pe_ok (ok_meet_of T) (hr.mono (by decide)) rfl (pa_cons (pv 2) (pa_cons (pe_ok (ok_numbers_of T) (hr.mono (by decide)) rfl (pa_cons (pe_ix ix_list (pv 1) pe_int (fun _ _ => rfl)) pa_nil)) pa_nil))) pa_nil)) pa_nil)))))), ?_⟩
    obtain ⟨n, a0, _, hc⟩ := Pu.call14 hf.cl
    obtain ⟨ga, vs, hg, hga, _, hv⟩ := hf.args
    obtain ⟨v0, g0, r0⟩ := hv 0 (by decide)
    obtain ⟨v1, g1, r1⟩ := hv 1 (by decide)
    rw [a0] at r0
    rw [hg]
    have eB := hf.ex
    have hw := hf.wi
    rw [hc] at hw
    obtain ⟨p, hp, hn⟩ := Pu.has_completion (s := n) (w := s'.wo) (and_l hw)
    have hst : ∀ {A : R7245g.Spec.Ans}, R7245g.Spec.outcome (fun l => R7245g.Spec.nat (cutIndex p (R7245g.Spec.meetOf p (R7245g.Spec.cutsOf p l)))) (R7245g.Spec.indicesArg p (Rust.taken (Pu.arg s'.l 1))) = A → R7245g.Spec.step s'.wo s'.c = (s'.wo, A) := fun h => by
      rw [hc, ← h]
      exact on_comp hp
    rw [indices_is (rep_octN r1)] at hst
    obtain ⟨c, hcc, hev⟩ := slot_comp (σ := start ["slots", "given", "completion"] [.ref s'.sl, .ref ga]) (ta := tVar 0) T eB hf.sl (ev_var rfl) (ev_num (ev_giv (i := 0) (ev_var (i := 1) rfl) (eB _ _ hga) g0) (Rep.mono eB _ _ r0)) hp hn
    refine s_asg hev fun H1 e1 => ?_
    have hcc0 := hcc
    obtain ⟨a, dx, o, l0, rfl, h1, h2, h3⟩ := hcc
    have k1 := (Kn.refl eB).up e1
    refine s_when (b := !natListB (cutList p).length (fun k => decide (k ≤ 20)) (Pu.arg s'.l 1)) (et_not (et_B (ev_iscuts (Rep.mono k1.i _ _ r1) (ev_giv (i := 1) (ev_var rfl) (k1.i _ _ hga) g1) (ev_is (ev_len (ev_clow T (ev_var rfl) (k1.i _ _ h1)) (sq_of (k1.i _ _ h3))) (by rw [List.length_map]))))) (fun c H3 e3 => ?_) (fun c H3 e3 => ?_)
    · rw [if_neg (by rw [Bool.not_eq_true] ; simpa using c)] at hst
      exact s_bad hf (k1.up e3) (hst rfl) msg_cuts ev_c hQ
    · have c' : natListB (cutList p).length (fun k => decide (k ≤ 20)) (Pu.arg s'.l 1) = true := by simpa using c
      rw [if_pos c'] at hst
      obtain ⟨l, hl, c1, c2⟩ := natListB_ex c'
      rw [hl] at hst r1
      have hlen : l.length ≤ 20 := of_decide_eq_true c1
      have k3 := k1.up e3
      exact s_ok (x := .int ((cutIndex p (R7245g.Spec.meetOf p (R7245g.Spec.cutsOf p (natsOf l))) : Nat) : Int)) hf k3 (hst rfl) rfl (er_integer (ev_meetof hcc0 (ev_var rfl) (er_numbers r1 c2 (by omega) (ev_giv (i := 1) (ev_var rfl) hga g1)) (Pu.nats_lt c2))) hQ
def extRec (p q : Po) (f : List Nat) : RWire.Value := .record [(nmOf "least", oInts ((cutList p).map fun c => cutIndex q (R7245g.Spec.leastExtension p q f c))), (nmOf "greatest", oInts ((cutList p).map fun c => cutIndex q (R7245g.Spec.greatestExtension p q f c))),
  (nmOf "embedding", .bool (R7245g.Spec.isEmbedding p q f)), (nmOf "joins", orBig (R7245g.Spec.joinFailure p q f)), (nmOf "meets", orBig (R7245g.Spec.meetFailure p q f)), (nmOf "gap", orInt (R7245g.Spec.extensionGap p q f))]
theorem given_ext (p q : Po) (f : List Nat) : Rust.given (R7245g.Spec.extendResult p q f) = extRec p q f := by
  unfold extRec
  rw [← given_nats, ← given_nats, ← given_orBig, ← given_orBig, ← given_orInt]
  rfl
def sp_extension_record (K : PySem.W.Frag) : Sp := spB (fun (g : V × Po × V × Po × V × List Nat) vs H => vs = [g.1, g.2.2.1, g.2.2.2.2.1] ∧ CompAt K H g.1 g.2.1 ∧ CompAt K H g.2.2.1 g.2.2.2.1 ∧ LN H g.2.2.2.2.1 g.2.2.2.2.2 ∧ Pu.MapOk g.2.1 g.2.2.2.1 g.2.2.2.2.2)
  (fun g v H => Out H (extRec g.2.1 g.2.2.2.1 g.2.2.2.2.2) v)
section
variable {K : PySem.W.Frag} {σ : L2.St} {B H : Hp} {ta tb tc te : TE} {tr : TA} {v z o t m : V} {p q : Po} {f : List Nat}
theorem ev_embeds (ho : OrdAt K H o p) (ht : OrdAt K H t q) (hf : LN H m f) (hm : Pu.MapOk p q f) (ha : Ev ta σ H o) (hb : Ev tb σ H t) (hc : Ev tc σ H m) : Ev (tCall (sp_embeds K) [] E0 (tCons ta (tCons tb (tCons tc tNil)))) σ H (.bl (R7245g.Spec.isEmbedding p q f)) :=
  ev_callG (o, p, t, q, m, f) (ea_cons ha (ea_cons hb (ea_cons hc ea_nil))) fun _ e => ⟨rfl, ho.mono e, ht.mono e, hf.mono e, hm⟩
theorem ev_joinsW (ho : OrdAt K H o p) (ht : OrdAt K H t q) (hf : LN H m f) (hm : Pu.MapOk p q f) (ha : Ev ta σ H o) (hb : Ev tb σ H t) (hc : Ev tc σ H m) : Ev (tCall (sp_joins_witness K) [] E0 (tCons ta (tCons tb (tCons tc tNil)))) σ H (optN (R7245g.Spec.joinFailure p q f)) :=
  ev_callG (o, p, t, q, m, f) (ea_cons ha (ea_cons hb (ea_cons hc ea_nil))) fun _ e => ⟨rfl, ho.mono e, ht.mono e, hf.mono e, hm⟩
theorem ev_meetsW (ho : OrdAt K H o p) (ht : OrdAt K H t q) (hf : LN H m f) (hm : Pu.MapOk p q f) (ha : Ev ta σ H o) (hb : Ev tb σ H t) (hc : Ev tc σ H m) : Ev (tCall (sp_meets_witness K) [] E0 (tCons ta (tCons tb (tCons tc tNil)))) σ H (optN (R7245g.Spec.meetFailure p q f)) :=
  ev_callG (o, p, t, q, m, f) (ea_cons ha (ea_cons hb (ea_cons hc ea_nil))) fun _ e => ⟨rfl, ho.mono e, ht.mono e, hf.mono e, hm⟩
theorem ev_gap {f1 f2 : List Nat} {v w : V} (h1 : LN H v f1) (h2 : LN H w f2) (hl : f1.length = f2.length) (hz : f1.length ≤ 1024) (ha : Ev ta σ H v) (hb : Ev tb σ H w) : Ev (tCall sp_first_gap [] E0 (tCons ta (tCons tb tNil))) σ H (optN (Pu.gapOf f1 f2)) :=
  ev_callG (v, f1, w, f2) (ea_cons ha (ea_cons hb ea_nil)) fun _ e => ⟨rfl, h1.mono e, h2.mono e, hl, hz⟩
end
theorem ok_extension_record {P : Program} {w : World} {K : PySem.W.Frag} {mg : PySem.Str → Option Value} {base : Heap} (T : Tx K mg base) : Ok P w K mg base 4 "extension_record" ["completion", "target", "images"] (sp_extension_record K) := by
  refine ok_of (at_extension_record T) sc_extension_record (fun _ _ _ _ _ _ us hl => match us, hl with | [_, _, _], _ => rfl) (fun vs H Q E h => ?_) (fun f cdv A outer s H vs Q E hr h => ?_)
  · obtain ⟨g, B, ⟨e, _⟩, _⟩ := h
    rw [e] <;> rfl
  · obtain ⟨⟨c, p, t, q, m, f'⟩, B, ⟨rfl, hc, ht, hf, hm⟩, eB, hQ⟩ := h
    (try dsimp only at hc)
    (try dsimp only at ht)
    (try dsimp only at hf)
    (try dsimp only at hm)
    (try dsimp only at hQ)
    refine ⟨_, (pss_cons (ps_set (i := 3) sc_extension_record.nd rfl (Or.inl rfl) (pe_fld (pv 0) rfl))
      (pss_cons (ps_set (i := 4) sc_extension_record.nd rfl (Or.inl rfl) (pe_ok (ok_least_extension T) (hr.mono (by decide)) rfl (pa_cons (pv 0) (pa_cons (pv 1) (pa_cons (pv 2) pa_nil)))))
      (pss_cons (ps_set (i := 5) sc_extension_record.nd rfl (Or.inl rfl) (pe_ok (ok_greatest_extension T) (hr.mono (by decide)) rfl (pa_cons (pv 0) (pa_cons (pv 1) (pa_cons (pv 2) pa_nil)))))
      (pss_one (ps_ret (pe_ok (ok_record T) (hr.mono (by decide)) rfl (pa_cons (pe_lst (pa_cons (pe_tup (pa_cons pe_str (pa_cons (pe_ok (ok_integers T) (hr.mono (by decide)) rfl (pa_cons (pv 4) pa_nil)) pa_nil))) (pa_cons (pe_tup (pa_cons pe_str (pa_cons (pe_ok (ok_integers T) (hr.mono (by decide)) rfl (pa_cons (pv 5) pa_nil)) pa_nil))) (pa_cons (pe_tup (pa_cons pe_str (pa_cons (pe_ok (ok_truth T) (hr.mono (by decide)) rfl (pa_cons (pe_ok (ok_embeds T) (hr.mono (by decide)) rfl (pa_cons (pv 3) (pa_cons (pe_fld (pv 1) rfl) (pa_cons (pv 2) pa_nil)))) pa_nil)) pa_nil))) (pa_cons (pe_tup (pa_cons pe_str (pa_cons (pe_ok (ok_great_or_null T) (hr.mono (by decide)) rfl (pa_cons (pe_ok (ok_joins_witness T) (hr.mono (by decide)) rfl (pa_cons (pv 3) (pa_cons (pe_fld (pv 1) rfl) (pa_cons (pv 2) pa_nil)))) pa_nil)) pa_nil))) (pa_cons (pe_tup (pa_cons pe_str (pa_cons (pe_ok (ok_great_or_null T) (hr.mono (by decide)) rfl (pa_cons (pe_ok (ok_meets_witness T) (hr.mono (by decide)) rfl (pa_cons (pv 3) (pa_cons (pe_fld (pv 1) rfl) (pa_cons (pv 2) pa_nil)))) pa_nil)) pa_nil))) (pa_cons (pe_tup (pa_cons pe_str (pa_cons (pe_ok (ok_integer_or_null T) (hr.mono (by decide)) rfl (pa_cons (pe_ok (ok_first_gap T) (hr.mono (by decide)) rfl (pa_cons (pv 4) (pa_cons (pv 5) pa_nil))) pa_nil)) pa_nil))) pa_nil))))))) pa_nil))))))), ?_⟩
    have hc0 := hc
    have ht0 := ht
    obtain ⟨a, dx, o, l, rfl, h1, h2, h3⟩ := hc
    obtain ⟨a2, dx2, o2, l2, rfl, q1, q2, q3⟩ := ht
    have p10 := Pu.cuts_len p h2.wf.le10
    refine s_asg (ev_corder T (ev_var rfl) (eB _ _ h1)) fun H1 e1 => ?_
    have k1 := (Kn.refl eB).up e1
    refine s_asgR k1.i (er_call (.ref a, p, .ref a2, q, m, f') (ar_of (ea_cons (ev_var rfl) (ea_cons (ev_var rfl) (ea_cons (ev_var rfl) ea_nil))) fun H2 e2 => ⟨rfl, hc0.mono e2, ht0.mono e2, hf.mono e2, hm⟩) (ln_up _)) fun ls B2 H2 g2 x2 => ?_
    have k2 := k1.gr g2
    refine s_asgR k2.i (er_call (.ref a, p, .ref a2, q, m, f') (ar_of (ea_cons (ev_var rfl) (ea_cons (ev_var rfl) (ea_cons (ev_var rfl) ea_nil))) fun H3 e3 => ⟨rfl, hc0.mono (k2.b.trans e3), ht0.mono (k2.b.trans e3), hf.mono (k2.b.trans e3), hm⟩) (ln_up _)) fun gs B3 H3 g3 x3 => ?_
    have k3 := k2.gr g3
    have z2 := LN.mono x2 g3.b
    have b3 := k3.b
    refine s_retR (R := fun v H => Out H (extRec p q f') v) k3.i (er_record (er_ents
      (ar_ent (er_integers (er_ev (ev_var rfl) fun _ e => z2.mono e) (by rw [List.length_map]; omega)) (by decide +kernel) (by decide +kernel) fun H4 e4 =>
       ar_ent (er_integers (er_ev (ev_var rfl) fun _ e => LN.mono x3 (e4.trans e)) (by rw [List.length_map]; omega)) (by decide +kernel) (by decide +kernel) fun H5 e5 =>
       ar_ent (er_truth (ev_embeds (h2.mono (b3.trans (e4.trans e5))) (q2.mono (b3.trans (e4.trans e5))) (hf.mono (b3.trans (e4.trans e5))) hm (ev_var rfl) (ev_corder T (ev_var rfl) ((b3.trans (e4.trans e5)) _ _ q1)) (ev_var rfl))) (by decide +kernel) (by decide +kernel) fun H6 e6 =>
       ar_ent (er_orBig (ev_joinsW (h2.mono (b3.trans (e4.trans (e5.trans e6)))) (q2.mono (b3.trans (e4.trans (e5.trans e6)))) (hf.mono (b3.trans (e4.trans (e5.trans e6)))) hm (ev_var rfl) (ev_corder T (ev_var rfl) ((b3.trans (e4.trans (e5.trans e6))) _ _ q1)) (ev_var rfl))) (by decide +kernel) (by decide +kernel) fun H7 e7 =>
       ar_ent (er_orBig (ev_meetsW (h2.mono (b3.trans (e4.trans (e5.trans (e6.trans e7))))) (q2.mono (b3.trans (e4.trans (e5.trans (e6.trans e7))))) (hf.mono (b3.trans (e4.trans (e5.trans (e6.trans e7))))) hm (ev_var rfl) (ev_corder T (ev_var rfl) ((b3.trans (e4.trans (e5.trans (e6.trans e7)))) _ _ q1)) (ev_var rfl))) (by decide +kernel) (by decide +kernel) fun H8 e8 =>
       ar_ent (er_orInt (ev_is (ev_gap (z2.mono (e4.trans (e5.trans (e6.trans (e7.trans e8))))) (LN.mono x3 (e4.trans (e5.trans (e6.trans (e7.trans e8))))) (by rw [List.length_map, List.length_map]) (by rw [List.length_map]; exact p10) (ev_var rfl) (ev_var rfl)) (congrArg optN (Pu.gap_is p q f').symm))) (by decide +kernel) (by decide +kernel) fun H9 e9 => ar_ent0) (by show 6 ≤ 100; omega))) fun v B4 H4 g4 r => hQ _ _ _ (k3.gr g4).toGr r
theorem pairs_lt {n : Nat} {e : Nat × Nat} (h : e ∈ R7245g.Spec.pairsBelow n) : e.1 < n ∧ e.2 < n := by
  unfold R7245g.Spec.pairsBelow at h
  obtain ⟨a, ha, h⟩ := List.mem_flatMap.mp h
  obtain ⟨b, hb, rfl⟩ := List.mem_map.mp h
  exact ⟨List.mem_range.mp ha, List.mem_range.mp hb⟩
theorem msg_empty : MsgOk PySem.Str.empty [] := msg_of (by decide +kernel)
theorem msg_pair {s1 s2 s3 : PySem.Str} {m1 m2 m3 : List UInt16} {a b : Nat} (h1 : MsgOk s1 m1) (h2 : MsgOk s2 m2) (h3 : MsgOk s3 m3) (l1 : s1.length ≤ 100) (l2 : s2.length ≤ 10) (l3 : s3.length ≤ 50) (ha : a < 10) (hb : b < 10) :
    MsgOk (PySem.Str.empty ++ s1 ++ toString ((a : Nat) : Int) ++ s2 ++ toString ((b : Nat) : Int) ++ s3) (m1 ++ R7245g.Spec.decimal a ++ m2 ++ R7245g.Spec.decimal b ++ m3) := by
  have da := msg_digit ha
  have db := msg_digit hb
  have q0 := msg_empty.app h1 (by show 0 + _ ≤ _; omega)
  rw [List.nil_append] at q0
  have c0 : (PySem.Str.empty ++ s1).length ≤ 100 := by
    rw [len_app]
    show 0 + _ ≤ _
    omega
  have c1 : (PySem.Str.empty ++ s1 ++ toString ((a : Nat) : Int)).length ≤ 101 := by
    rw [len_app]
    omega
  have c2 : (PySem.Str.empty ++ s1 ++ toString ((a : Nat) : Int) ++ s2).length ≤ 111 := by
    rw [len_app]
    omega
  have c3 : (PySem.Str.empty ++ s1 ++ toString ((a : Nat) : Int) ++ s2 ++ toString ((b : Nat) : Int)).length ≤ 112 := by
    rw [len_app]
    omega
  exact (((q0.app da.1 (by omega)).app h2 (by omega)).app db.1 (by omega)).app h3 (by omega)
theorem msg_and : MsgOk " and " (R7245g.Spec.units " and ") := msg_of (by decide +kernel)
theorem msg_dis1 : MsgOk "the order of elements " (R7245g.Spec.units "the order of elements ") := msg_of (by decide +kernel)
theorem msg_dis2 : MsgOk " is not preserved" (R7245g.Spec.units " is not preserved") := msg_of (by decide +kernel)
theorem msg_con1 : MsgOk "the orders do not realize the order of elements " (R7245g.Spec.units "the orders do not realize the order of elements ") := msg_of (by decide +kernel)
theorem msg_cyc1 : MsgOk "elements " (R7245g.Spec.units "elements ") := msg_of (by decide +kernel)
theorem msg_cyc2 : MsgOk " precede each other" (R7245g.Spec.units " precede each other") := msg_of (by decide +kernel)
theorem len_dis2 : (" is not preserved" : PySem.Str).length ≤ 50 := by decide +kernel
def sp_completion_extend (K : PySem.W.Frag) : Sp := spD K 15
theorem ok_completion_extend {P : Program} {w : World} {K : PySem.W.Frag} {mg : PySem.Str → Option Value} {base : Heap} (T : Tx K mg base) : Ok P w K mg base 42 "completion_extend" ["slots", "given"] (sp_completion_extend K) := by
  refine ok_of (at_completion_extend T) sc_completion_extend (fun _ _ _ _ _ _ us hl => match us, hl with | [_, _], _ => rfl) (fun vs H Q E h => ?_) (fun f cdv A outer s H vs Q E hr h => ?_)
  · obtain ⟨s', B, rfl, hf, hQ⟩ := h
    rfl
  · obtain ⟨s', B, rfl, hf, hQ⟩ := h
    (try dsimp only at hf)
    (try dsimp only at hQ)
    refine ⟨_, (pss_cons (ps_set (i := 2) sc_completion_extend.nd rfl (Or.inl rfl) (pe_ix ix_list (pe_fld (pv 0) rfl) (pe_ix ix_tup (pe_ix ix_list (pv 1) pe_int (fun _ _ => rfl)) pe_int (fun _ _ => rfl)) (fun _ _ => rfl)))
      (pss_cons (ps_set (i := 3) sc_completion_extend.nd rfl (Or.inl rfl) (pe_ix ix_list (pe_fld (pv 0) rfl) (pe_ix ix_tup (pe_ix ix_list (pv 1) pe_int (fun _ _ => rfl)) pe_int (fun _ _ => rfl)) (fun _ _ => rfl)))
      (pss_cons (ps_if (pt_not (pt_val (pe_ok (ok_is_images T) (hr.mono (by decide)) rfl (pa_cons (pe_ix ix_list (pv 1) pe_int (fun _ _ => rfl)) (pa_cons (pe_fld (pe_fld (pv 2) rfl) rfl) (pa_cons (pe_fld (pe_fld (pv 3) rfl) rfl) pa_nil)))))) (pss_one (ps_ret (pe_ok (ok_wrong_kind T) (hr.mono (by decide)) rfl (pa_cons (pe_gs (g_IMAGES_WORDS T) rfl) pa_nil)))) pss_nil)
      (pss_cons (ps_set (i := 4) sc_completion_extend.nd rfl (Or.inl rfl) (pe_ok (ok_numbers_of T) (hr.mono (by decide)) rfl (pa_cons (pe_ix ix_list (pv 1) pe_int (fun _ _ => rfl)) pa_nil)))
      (pss_cons (ps_set (i := 5) sc_completion_extend.nd rfl (Or.inl rfl) (pe_ok (ok_broken_pair T) (hr.mono (by decide)) rfl (pa_cons (pe_fld (pv 2) rfl) (pa_cons (pe_fld (pv 3) rfl) (pa_cons (pv 4) pa_nil)))))
      (pss_cons (ps_if (pt_cmpR op_notN (pv 5) pe_non (nomark _)) (pss_one (ps_ret (pe_ok (ok_out_of_range T) (hr.mono (by decide)) rfl (pa_cons (pe_joined (PJ.cons pe_str (PJ.cons (pe_fmt (pe_ix ix_tup (pv 5) pe_int (fun _ _ => rfl))) (PJ.cons pe_str (PJ.cons (pe_fmt (pe_ix ix_tup (pv 5) pe_int (fun _ _ => rfl))) (PJ.cons pe_str PJ.nil)))))) pa_nil)))) pss_nil)
      (pss_one (ps_ret (pe_ok (ok_returned T) (hr.mono (by decide)) rfl (pa_cons (pe_ok (ok_extension_record T) (hr.mono (by decide)) rfl (pa_cons (pv 2) (pa_cons (pv 3) (pa_cons (pv 4) pa_nil)))) pa_nil)))))))))), ?_⟩
    obtain ⟨n, m, a0, _, a1, _, hc⟩ := Pu.call15 hf.cl
    obtain ⟨ga, vs, hg, hga, _, hv⟩ := hf.args
    obtain ⟨v0, g0, r0⟩ := hv 0 (by decide)
    obtain ⟨v1, g1, r1⟩ := hv 1 (by decide)
    obtain ⟨v2, g2, r2⟩ := hv 2 (by decide)
    rw [a0] at r0
    rw [a1] at r1
    rw [hg]
    have eB := hf.ex
    have hw := hf.wi
    rw [hc] at hw
    obtain ⟨p, hp, hn⟩ := Pu.has_completion (s := n) (w := s'.wo) (and_l (and_l hw))
    obtain ⟨q, hq, hm⟩ := Pu.has_completion (s := m) (w := s'.wo) (and_r (and_l hw))
    have hst : ∀ {A : R7245g.Spec.Ans}, R7245g.Spec.outcome id (R7245g.Spec.andThen (R7245g.Spec.imagesArg p q (Rust.taken (Pu.arg s'.l 2))) fun f => match R7245g.Spec.firstDisorder p q f with
        | some e => .error (R7245g.Spec.disorderErr e)
        | none => .ok (R7245g.Spec.extendResult p q f)) = A → R7245g.Spec.step s'.wo s'.c = (s'.wo, A) := fun h => by
      rw [hc, ← h]
      exact (on_comp hp).trans (on_comp hq)
    rw [images_is (rep_octN r2)] at hst
    obtain ⟨c, hcc, hev⟩ := slot_comp (σ := start ["slots", "given", "completion", "target", "images", "pair"] [.ref s'.sl, .ref ga]) (ta := tVar 0) T eB hf.sl (ev_var rfl) (ev_num (ev_giv (i := 0) (ev_var (i := 1) rfl) (eB _ _ hga) g0) (Rep.mono eB _ _ r0)) hp hn
    refine s_asg hev fun H1 e1 => ?_
    have k1 := (Kn.refl eB).up e1
    obtain ⟨t, htt, hev2⟩ := slot_comp (σ := [some (.ref s'.sl), some (.ref ga), some c, none, none, none]) (ta := tVar 0) T k1.i (hf.sl.up e1) (ev_var rfl) (ev_num (ev_giv (i := 1) (ev_var (i := 1) rfl) (k1.i _ _ hga) g1) (Rep.mono k1.i _ _ r1)) hq hm
    refine s_asg hev2 fun H2 e2 => ?_
    have k2 := k1.up e2
    have hcc0 := hcc
    have htt0 := htt
    obtain ⟨a, dx, o, l0, rfl, h1, h2, h3⟩ := hcc
    obtain ⟨a2, dx2, o2, l2, rfl, q1, q2, q3⟩ := htt
    have h10 := h2.wf.le10
    have t10 := q2.wf.le10
    refine s_when (b := !natListB q.size (fun k => decide (k = p.size)) (Pu.arg s'.l 2)) (et_not (et_B (ev_isimg (Rep.mono k2.i _ _ r2) (ev_giv (i := 2) (ev_var rfl) (k2.i _ _ hga) g2) (ev_size T (h2.mono k2.i) (ev_corder T (ev_var rfl) (k2.i _ _ h1))) (ev_size T (q2.mono k2.i) (ev_corder T (ev_var rfl) (k2.i _ _ q1)))))) (fun c H3 e3 => ?_) (fun c H3 e3 => ?_)
    · rw [if_neg (by rw [Bool.not_eq_true] ; simpa using c)] at hst
      exact s_bad hf (k2.up e3) (hst rfl) msg_images ev_c hQ
    · have c' : natListB q.size (fun k => decide (k = p.size)) (Pu.arg s'.l 2) = true := by simpa using c
      rw [if_pos c'] at hst
      obtain ⟨l, hl, c1, c2⟩ := natListB_ex c'
      rw [hl] at hst r2
      have hlen : l.length = p.size := of_decide_eq_true c1
      have hm := images_map c1 c2
      have k3 := k2.up e3
      refine s_asgR k3.i (er_numbers r2 c2 (by omega) (ev_giv (i := 2) (ev_var rfl) hga g2)) fun f4 B4 H4 gr4 x4 => ?_
      have k4 := k3.gr gr4
      refine s_asgR k4.i (er_call (o, p, o2, q, f4, natsOf l) (ar_of (ea_cons (ev_corder T (ev_var rfl) (k4.b _ _ h1)) (ea_cons (ev_corder T (ev_var rfl) (k4.b _ _ q1)) (ea_cons (ev_var rfl) ea_nil))) fun H5 e5 => ⟨rfl, h2.mono (k4.b.trans e5), q2.mono (k4.b.trans e5), LN.mono x4 e5, hm⟩) (pair_up _)) fun v5 B5 H5 g5 x5 => ?_
      have k5 := k4.gr g5
      have x5' : PairOr B5 v5 (R7245g.Spec.firstDisorder p q (natsOf l)) := x5
      cases hF : R7245g.Spec.firstDisorder p q (natsOf l) with
      | none =>
        rw [hF] at x5'
        have ev5 : v5 = .non := x5'
        refine s_when (b := false) (et_is (et_notNone (ev_var (v := v5) rfl)) (by rw [ev5] <;> rfl)) (fun c => by cases c) (fun _ H6 e6 => ?_)
        dsimp only
        refine s_ok (x := extRec p q (natsOf l)) hf (k5.up e6) (hst (A := .ret (R7245g.Spec.extendResult p q (natsOf l))) (by
          show R7245g.Spec.outcome id (match R7245g.Spec.firstDisorder p q (natsOf l) with
            | some e => .error (R7245g.Spec.disorderErr e)
            | none => .ok (R7245g.Spec.extendResult p q (natsOf l))) = _
          rw [hF]
          rfl)) (given_ext _ _ _) ?_ hQ
        exact er_call (V.ref a, p, V.ref a2, q, f4, natsOf l) (ar_of (ea_cons (ev_var rfl) (ea_cons (ev_var rfl) (ea_cons (ev_var rfl) ea_nil))) fun H7 e7 => ⟨rfl, hcc0.mono (k5.b.trans e7), htt0.mono (k5.b.trans e7), LN.mono x4 (g5.b.trans e7), hm⟩) (out_up _)
      | some e =>
        rw [hF] at x5'
        have hmem := pairs_lt (List.mem_of_find?_eq_some hF)
        obtain ⟨tt, rfl, hb⟩ := x5'
        refine s_when (b := true) (et_is (et_notNone (ev_var rfl)) rfl) (fun _ H6 e6 => ?_) (fun c => by cases c)
        exact s_out (m := R7245g.Spec.units "the order of elements " ++ R7245g.Spec.decimal e.1 ++ R7245g.Spec.units " and " ++ R7245g.Spec.decimal e.2 ++ R7245g.Spec.units " is not preserved") hf (k5.up e6) (hst (by
          show R7245g.Spec.outcome id (match R7245g.Spec.firstDisorder p q (natsOf l) with
            | some e => .error (R7245g.Spec.disorderErr e)
            | none => .ok (R7245g.Spec.extendResult p q (natsOf l))) = _
          rw [hF]
          rfl)) (msg_pair msg_dis1 msg_and msg_dis2 (by decide +kernel) (by decide +kernel) (by decide +kernel) (by omega) (by omega))
          (ev_pairMsg (rest := [tC (.str " is not preserved")]) (ev_var rfl) ⟨tt, rfl, hb⟩ (by omega) (by omega) (by decide +kernel) (by decide +kernel) fun acc H1 ha Q hQ => ⟨_, rfl, sz_of (by rw [len_app]; have := len_dis2; omega), hQ⟩) hQ
theorem given_arr (l : List R7245g.Spec.Plain) : Rust.given (.arr l) = .list (l.map Rust.given) := by
  show RWire.Value.list (Rust.givenAll l) = .list _
  congr 1
  induction l with
  | nil => rfl
  | cons a l ih =>
    show _ :: Rust.givenAll l = _
    rw [ih]
    rfl
theorem app_empty (a : PySem.Str) : a ++ PySem.Str.empty = a := by
  show PySem.Str.mk (a.cps ++ #[]) = a
  rw [Array.append_empty]
def sp_completion_orders (K : PySem.W.Frag) : Sp := spD K 16
theorem ok_completion_orders {P : Program} {w : World} {K : PySem.W.Frag} {mg : PySem.Str → Option Value} {base : Heap} (T : Tx K mg base) : Ok P w K mg base 42 "completion_orders" ["slots", "given"] (sp_completion_orders K) := by
  refine ok_of (at_completion_orders T) sc_completion_orders (fun _ _ _ _ _ _ us hl => match us, hl with | [_, _], _ => rfl) (fun vs H Q E h => ?_) (fun f cdv A outer s H vs Q E hr h => ?_)
  · obtain ⟨s', B, rfl, hf, hQ⟩ := h
    rfl
  · obtain ⟨s', B, rfl, hf, hQ⟩ := h
    (try dsimp only at hf)
    (try dsimp only at hQ)
    refine ⟨_, (pss_cons (ps_set (i := 2) sc_completion_orders.nd rfl (Or.inr rfl) (pe_ix ix_list (pe_fld (pv 0) rfl) (pe_ix ix_tup (pe_ix ix_list (pv 1) pe_int (fun _ _ => rfl)) pe_int (fun _ _ => rfl)) (fun _ _ => rfl)))
      (pss_cons (ps_if (pt_not (pt_val (pe_ok (ok_is_lines T) (hr.mono (by decide)) rfl (pa_cons (pe_ix ix_list (pv 1) pe_int (fun _ _ => rfl)) (pa_cons (pe_fld (pe_fld (pv 2) rfl) rfl) pa_nil))))) (pss_one (ps_ret (pe_ok (ok_wrong_kind T) (hr.mono (by decide)) rfl (pa_cons (pe_gs (g_ORDERS_WORDS T) rfl) pa_nil)))) pss_nil)
      (pss_cons (ps_set (i := 3) sc_completion_orders.nd rfl (Or.inl rfl) (pe_ok (ok_rows_of T) (hr.mono (by decide)) rfl (pa_cons (pe_ix ix_list (pv 1) pe_int (fun _ _ => rfl)) pa_nil)))
      (pss_cons (ps_set (i := 4) sc_completion_orders.nd rfl (Or.inl rfl) (pe_ok (ok_conflict T) (hr.mono (by decide)) rfl (pa_cons (pe_fld (pv 2) rfl) (pa_cons (pv 3) pa_nil))))
      (pss_cons (ps_if (pt_cmpR op_notN (pv 4) pe_non (nomark _)) (pss_one (ps_ret (pe_ok (ok_out_of_range T) (hr.mono (by decide)) rfl (pa_cons (pe_joined (PJ.cons pe_str (PJ.cons (pe_fmt (pe_ix ix_tup (pv 4) pe_int (fun _ _ => rfl))) (PJ.cons pe_str (PJ.cons (pe_fmt (pe_ix ix_tup (pv 4) pe_int (fun _ _ => rfl))) PJ.nil))))) pa_nil)))) pss_nil)
      (pss_one (ps_ret (pe_ok (ok_returned T) (hr.mono (by decide)) rfl (pa_cons (pe_ok (ok_listed T) (hr.mono (by decide)) rfl (pa_cons (pe_lc (own := [("line", 5)]) rfl sc_completion_orders.nd (pi_list (pv 3)) (blkOk_by (N := ["slots", "given", "completion", "lines", "pair", "line"]) (sc := defScope s_completion_orders) (by decide +kernel)) (fun _ _ _ _ _ => by exact (pg_name (i := 5) sc_completion_orders.nd rfl (Or.inl rfl))) (fun _ _ _ _ _ => by exact pts_nil) (fun _ _ _ _ _ => by exact (pe_ok (ok_integers T) (hr.mono (by decide)) rfl (pa_cons (pe_ok (ok_line_of_cuts T) (hr.mono (by decide)) rfl (pa_cons (pe_fldK (K := K) rfl (pv 2) rfl) (pa_cons (pv 5) pa_nil))) pa_nil)))) pa_nil)) pa_nil))))))))), ?_⟩
    obtain ⟨n, a0, _, hc⟩ := Pu.call16 hf.cl
    obtain ⟨ga, vs, hg, hga, _, hv⟩ := hf.args
    obtain ⟨v0, g0, r0⟩ := hv 0 (by decide)
    obtain ⟨v1, g1, r1⟩ := hv 1 (by decide)
    rw [a0] at r0
    rw [hg]
    have eB := hf.ex
    have hw := hf.wi
    rw [hc] at hw
    obtain ⟨p, hp, hn⟩ := Pu.has_completion (s := n) (w := s'.wo) (and_l hw)
    have hst : ∀ {A : R7245g.Spec.Ans}, R7245g.Spec.outcome id (R7245g.Spec.andThen (R7245g.Spec.ordersArg p (Rust.taken (Pu.arg s'.l 1))) fun l => match R7245g.Spec.firstConflict p l with
        | some e => .error (R7245g.Spec.conflictErr e)
        | none => .ok (.arr (l.map fun o => R7245g.Spec.nats (R7245g.Spec.extendOrder p o)))) = A → R7245g.Spec.step s'.wo s'.c = (s'.wo, A) := fun h => by
      rw [hc, ← h]
      exact on_comp hp
    rw [Pu.lines_is p _ (rep_octN r1) (rep_octM r1)] at hst
    obtain ⟨c, hcc, hev⟩ := slot_comp (σ := start ["slots", "given", "completion", "lines", "pair", "line"] [.ref s'.sl, .ref ga]) (ta := tVar 0) T eB hf.sl (ev_var rfl) (ev_num (ev_giv (i := 0) (ev_var (i := 1) rfl) (eB _ _ hga) g0) (Rep.mono eB _ _ r0)) hp hn
    refine s_asg hev fun H1 e1 => ?_
    have k1 := (Kn.refl eB).up e1
    have hcc0 := hcc
    obtain ⟨a, dx, o, l0, rfl, h1, h2, h3⟩ := hcc
    have h10 := h2.wf.le10
    have p10 := Pu.cuts_len p h10
    refine s_when (b := !linesB p.size (Pu.arg s'.l 1)) (et_not (et_B (ev_islines (Rep.mono k1.i _ _ r1) h10 (ev_giv (i := 1) (ev_var rfl) (k1.i _ _ hga) g1) (ev_size T (h2.mono k1.i) (ev_corder T (ev_var rfl) (k1.i _ _ h1)))))) (fun c H3 e3 => ?_) (fun c H3 e3 => ?_)
    · rw [if_neg (by rw [Bool.not_eq_true] ; simpa using c)] at hst
      exact s_bad hf (k1.up e3) (hst rfl) msg_orders ev_c hQ
    · have c' : linesB p.size (Pu.arg s'.l 1) = true := by simpa using c
      rw [if_pos c'] at hst
      obtain ⟨l, hl, c1, c2⟩ := linesB_ex c'
      rw [hl] at hst r1
      have k3 := k1.up e3
      refine s_asgR k3.i (er_rows r1 c2 h10 c1 (ev_giv (i := 1) (ev_var rfl) hga g1)) fun f4 B4 H4 gr4 x4 => ?_
      have k4 := k3.gr gr4
      have hlin := rows_line c2
      have hl8 : (l.map rowOf).length ≤ 8 := by
        rw [List.length_map]
        exact c1
      refine s_asgR k4.i (er_conflict (h2.mono k4.b) (ev_corder T (ev_var rfl) (k4.b _ _ h1)) (er_ev (ev_var (v := f4) rfl) fun _ e => RowsAt.mono x4 e) hlin hl8) fun v5 B5 H5 g5 x5 => ?_
      have k5 := k4.gr g5
      have x5' : PairOr B5 v5 (R7245g.Spec.firstConflict p (l.map rowOf)) := x5
      cases hF : R7245g.Spec.firstConflict p (l.map rowOf) with
      | none =>
        rw [hF] at x5'
        have ev5 : v5 = .non := x5'
        refine s_when (b := false) (et_is (et_notNone (ev_var (v := v5) rfl)) (by rw [ev5] <;> rfl)) (fun c => by cases c) (fun _ H6 e6 => ?_)
        dsimp only
        obtain ⟨ra, rv, rfl, hra, hrl, hrr⟩ := x4
        refine s_ok (x := .list ((l.map rowOf).map fun o => oInts (R7245g.Spec.extendOrder p o))) hf (k5.up e6) (hst (A := .ret (.arr ((l.map rowOf).map fun o => R7245g.Spec.nats (R7245g.Spec.extendOrder p o)))) (by
          show R7245g.Spec.outcome id (match R7245g.Spec.firstConflict p (l.map rowOf) with
            | some e => .error (R7245g.Spec.conflictErr e)
            | none => .ok (.arr ((l.map rowOf).map fun o => R7245g.Spec.nats (R7245g.Spec.extendOrder p o)))) = _
          rw [hF]
          rfl)) (by
            rw [given_arr, List.map_map]
            congr 1
            exact List.map_congr_left fun o _ => given_nats _) ?_ hQ
        refine er_listed (er_imp (er_lcL (a := ra) (xs := rv) (fun k y H => ∃ r, (l.map rowOf)[k]? = some r ∧ Out H (oInts (R7245g.Spec.extendOrder p r)) y) (fun k y H H' e ⟨r, q1, q2⟩ => ⟨r, q1, Out.mono e _ _ q2⟩) (ev_var rfl) (sq_of (g5.b _ _ hra)) (by omega) (fun x => rfl) (fun k x B6 e6 hk => ?_)) fun v6 H6 e6 ⟨pa, ys, hpa, hys, hyl, hyr⟩ => ⟨pa, ys, hpa, hys, outAll_of _ _ (by rw [hyl, hrl]; simp only [List.length_map]) fun j z q => ?_⟩)
        · obtain ⟨r, q1, q2⟩ := hrr k x hk
          have hr10 : r.length ≤ 10 := by
            rw [(hlin r (List.mem_of_getElem? q1)).len]
            exact h10
          exact er_imp (er_integers (er_call (V.ref l0, p, x, r) (ar_of (ea_cons (ev_clow T (ev_var rfl) (e6 _ _ (k5.b _ _ h1))) (ea_cons (ev_var rfl) ea_nil)) fun H7 e7 => ⟨rfl, ⟨l0, rfl, e7 _ _ (e6 _ _ (k5.b _ _ h3))⟩, q2.mono (g5.b.trans (e6.trans e7)), h10, hr10⟩) (ln_up _)) (by
            show (R7245g.Spec.extendOrder p r).length ≤ 40000
            rw [Pu.ext_len]
            omega)) fun v H3 e3 h => ⟨r, q1, h⟩
        · obtain ⟨r, q1, q2⟩ := hyr j z q
          exact ⟨_, by rw [List.getElem?_map, q1] <;> rfl, q2⟩
      | some e =>
        rw [hF] at x5'
        have hmem := pairs_lt (List.mem_of_find?_eq_some hF)
        obtain ⟨tt, rfl, hb⟩ := x5'
        refine s_when (b := true) (et_is (et_notNone (ev_var rfl)) rfl) (fun _ H6 e6 => ?_) (fun c => by cases c)
        exact s_out (m := R7245g.Spec.units "the orders do not realize the order of elements " ++ R7245g.Spec.decimal e.1 ++ R7245g.Spec.units " and " ++ R7245g.Spec.decimal e.2 ++ []) hf (k5.up e6) (hst (by
          show R7245g.Spec.outcome id (match R7245g.Spec.firstConflict p (l.map rowOf) with
            | some e => .error (R7245g.Spec.conflictErr e)
            | none => .ok (.arr ((l.map rowOf).map fun o => R7245g.Spec.nats (R7245g.Spec.extendOrder p o)))) = _
          rw [hF]
          rfl)) (msg_pair msg_con1 msg_and msg_empty (by decide +kernel) (by decide +kernel) (by decide +kernel) (by omega) (by omega))
          (ev_pairMsg (rest := []) (s3 := PySem.Str.empty) (ev_var rfl) ⟨tt, rfl, hb⟩ (by omega) (by omega) (by decide +kernel) (by decide +kernel) fun acc H1 ha Q hQ => by
            rw [app_empty] at hQ
            exact hQ) hQ
end Cm
end PartF12
section PartF13
set_option Elab.async false
set_option linter.all false
set_option maxRecDepth 100000
set_option maxHeartbeats 4000000
namespace Cm
open PySem PySem.Spec PyProof.Rows L2 Evl
open Pu (nb wholeB belowB natsOf natOf natListB listOf pairB pairsB lineB linesB rowOf rowsOf)
open R7245g.Spec (posetAt completionAt cutList cutIndex upperBounds)
/-! ### doors that fill a slot -/
theorem call_at {α : Type} {A : α → List V → Hp → Prop} {S : α → V → Hp → Prop} {tr : TA} {σ : L2.St} {B H : Hp} {vs : List V} {Q : VK} (g : α) (eB : Ex B H) (h : EvA tr σ H vs) (hA : A g vs B) (k : ∀ v B1 H2, Kn B H B1 H2 → S g v B1 → Q v H2) : tCall (spB A S) [] E0 tr σ H Q :=
  h H (Ex.refl H) _ fun H1 e1 => ⟨g, B, by rw [List.append_nil]; exact hA, eB.trans e1, fun v B1 H2 gr r => k v B1 H2 (((Kn.refl eB).up e1).gr gr) r⟩
theorem getD_setV {l : List V} {n i : Nat} {v : V} (h : n < l.length) : (l.set n v).getD i .non = if n = i then v else l.getD i .non := by
  rw [List.getD_eq_getElem?_getD, List.getElem?_set, List.getD_eq_getElem?_getD]
  by_cases c : n = i
  · subst c
    rw [if_pos rfl, if_pos rfl, if_pos h]
    rfl
  · rw [if_neg c, if_neg c]
section
variable {K : PySem.W.Frag} {mg : PySem.Str → Option Value} {base : Heap} {σ : L2.St} {B H B1 H1 : Hp} {ta tb te ti : TE} {s : Sit} {d : Nat} {v : V} {p : Po} {n : Nat} {Q : VK} {D : Ends}
/-- slots.orders[..] = e -/
theorem s_setOrder (T : Tx K mg base) (f : Fine K d s B H) (k : Kn B H B1 H1) (ha : Ev ta σ H1 (.ref s.sl)) (hi : Ev ti σ H1 (ni n)) (hn : n < 3) (h : ∀ Q : VK, (∀ v B2 H2, Kn B1 H1 B2 H2 → OrdAt K B2 v p → Q v H2) → te σ H1 Q)
    (c : ∀ v B2 H2 os, Kn B H B2 H2 → OrdAt K B2 v p → H s.lo = some (.lst os) → D.nx σ (upd H2 s.lo (.lst (os.set n v)))) : tAsg te (gSub (tFld K ta "orders") ti rSetL) D σ H1 := by
  obtain ⟨dx, ins⟩ := f.sl.ins
  obtain ⟨os, q1, q2, q3⟩ := f.sl.po
  refine h _ fun v B2 H2 k2 o => ?_
  refine ev_fld ha (k.i _ _ (k.b _ _ ins)) T.cl_Slots T.na_Slots_orders (slF_orders s.lo s.lc) H2 k2.h _ fun H3 e3 => hi H3 (k2.h.trans e3) _ fun H4 e4 => ?_
  have kk : Kn B H B2 H2 := ⟨k.b.trans k2.b, k2.i, k.h.trans k2.h, fun a q => by
    cases z : H a with
    | none => exact absurd z q
    | some u => rw [k2.fr a (some_ne (k.h a u z)), k.fr a q]⟩
  have k4 := kk.up (e3.trans e4)
  exact ⟨s.lo, os, ((n : Nat) : Int), n, rfl, rfl, k4.h _ _ q1, ixN_nat (by omega), c v B2 H4 os k4 o q1⟩
theorem s_setComp (T : Tx K mg base) (f : Fine K d s B H) (k : Kn B H B1 H1) (ha : Ev ta σ H1 (.ref s.sl)) (hi : Ev ti σ H1 (ni n)) (hn : n < 2) (h : ∀ Q : VK, (∀ v B2 H2, Kn B1 H1 B2 H2 → CompAt K B2 v p → Q v H2) → te σ H1 Q)
    (c : ∀ v B2 H2 os, Kn B H B2 H2 → CompAt K B2 v p → H s.lc = some (.lst os) → D.nx σ (upd H2 s.lc (.lst (os.set n v)))) : tAsg te (gSub (tFld K ta "completions") ti rSetL) D σ H1 := by
  obtain ⟨dx, ins⟩ := f.sl.ins
  obtain ⟨os, q1, q2, q3⟩ := f.sl.co
  refine h _ fun v B2 H2 k2 o => ?_
  refine ev_fld ha (k.i _ _ (k.b _ _ ins)) T.cl_Slots T.na_Slots_completions (slF_completions s.lo s.lc) H2 k2.h _ fun H3 e3 => hi H3 (k2.h.trans e3) _ fun H4 e4 => ?_
  have kk : Kn B H B2 H2 := ⟨k.b.trans k2.b, k2.i, k.h.trans k2.h, fun a q => by
    cases z : H a with
    | none => exact absurd z q
    | some u => rw [k2.fr a (some_ne (k.h a u z)), k.fr a q]⟩
  have k4 := kk.up (e3.trans e4)
  exact ⟨s.lc, os, ((n : Nat) : Int), n, rfl, rfl, k4.h _ _ q1, ixN_nat (by omega), c v B2 H4 os k4 o q1⟩
theorem s_filled {m : Addr} {o : HO} {w2 : Wo} (f : Fine K d s B H) (k : Kn B H B1 H1) (hm : m = s.lo ∨ m = s.lc) (hst : R7245g.Spec.step s.wo s.c = (w2, .ret .undef)) (hs : ∀ B2 H2, Ex B1 B2 → B2 s.lo = none → B2 s.lc = none → (∀ a, a ≠ m → ∀ o, H a = some o → H2 a = some o) → H2 m = some o → SlR K B2 H2 s.sl s.lo s.lc w2)
    (hQ : ∀ v B' H', Done K s B H B' H' v → Q v H') : tRet (tCall sp_returned [] E0 (tCons (tCall sp_nothing [] E0 tNil) tNil)) { nx := fun _ H' => Q .non H', rt := Q } σ (upd H1 m o) := by
  obtain ⟨os, q1, _⟩ := f.sl.po
  obtain ⟨cs, r1, _⟩ := f.sl.co
  have nlo : B1 s.lo = none := (k.fr _ (some_ne q1)).trans f.sl.nlo
  have nlc : B1 s.lc = none := (k.fr _ (some_ne r1)).trans f.sl.nlc
  have nm : B1 m = none := by
    rcases hm with rfl | rfl
    · exact nlo
    · exact nlc
  have ha : s.ans = 0 :: RWire.write .nothing := by
    unfold Sit.ans
    rw [hst]
    rfl
  refine s_retR (Ex.mut k.i nm) (er_returned er_nothing (by decide) (by decide)) fun v B2 H2 g r => hQ v B2 H2 ?_
  have mm : ∀ a, a ≠ m → ∀ o, H a = some o → H2 a = some o := fun a c o h => g.h a o (by rw [upd_ne c]; exact k.h a o h)
  have some1 : ∀ a, H a ≠ none → upd H1 m o a ≠ none := fun a h => by
    by_cases c : a = m
    · rw [c, upd_same]
      exact fun z => nomatch z
    · rw [upd_ne c]
      cases z : H a with
      | none => exact absurd z h
      | some u => exact some_ne (k.h a u z)
  have fr : ∀ a, H a ≠ none → B2 a = B a := fun a h => by rw [g.fr a (some1 a h), k.fr a h]
  refine ⟨k.b.trans g.b, g.i, fun a o c1 c2 h => mm a (by rcases hm with rfl | rfl <;> assumption) o h, fr, ?_, ?_⟩
  · rw [hst]
    exact hs B2 H2 g.b ((fr _ (some_ne q1)).trans f.sl.nlo) ((fr _ (some_ne r1)).trans f.sl.nlc) mm (g.h _ _ upd_same)
  · rw [ha]
    exact r
theorem s_filledO {os : List V} (f : Fine K d s B H) (k : Kn B H B1 H1) (ho : OrdAt K B1 v p) (hn : n < 3) (hl : H s.lo = some (.lst os)) (hst : R7245g.Spec.step s.wo s.c = ({ s.wo with posets := s.wo.posets.set n (some p) }, .ret .undef)) (hQ : ∀ v B' H', Done K s B H B' H' v → Q v H') :
    tRet (tCall sp_returned [] E0 (tCons (tCall sp_nothing [] E0 tNil) tNil)) { nx := fun _ H' => Q .non H', rt := Q } σ (upd H1 s.lo (.lst (os.set n v))) :=
  s_filled f k (.inl rfl) hst (fun B2 H2 b n1 n2 mm hm => by
    obtain ⟨ne, ⟨dx, ins⟩, nlo, nlc, ⟨os', q1, q2, q3⟩, ⟨cs, r1, r2, r3⟩, pl, cl⟩ := f.sl
    rw [hl] at q1
    cases q1
    have bb := k.b.trans b
    refine ⟨ne, ⟨dx, bb _ _ ins⟩, n1, n2, ⟨_, hm, by rw [List.length_set, q2], fun i hi => ?_⟩, ⟨cs, mm _ (Ne.symm ne) _ r1, r2, fun i hi => (r3 i hi).imp fun p o => o.mono bb⟩, by rw [← pl]; exact List.length_set .., cl⟩
    rw [Pu.poset_set (by omega), getD_setV (by omega)]
    by_cases c : n = i
    · rw [if_pos c, if_pos c]
      exact ho.mono b
    · rw [if_neg c, if_neg c]
      exact (q3 i hi).imp fun p o => o.mono bb) hQ
theorem s_filledC {os : List V} (f : Fine K d s B H) (k : Kn B H B1 H1) (ho : CompAt K B1 v p) (hn : n < 2) (hl : H s.lc = some (.lst os)) (hst : R7245g.Spec.step s.wo s.c = ({ s.wo with completions := s.wo.completions.set n (some p) }, .ret .undef)) (hQ : ∀ v B' H', Done K s B H B' H' v → Q v H') :
    tRet (tCall sp_returned [] E0 (tCons (tCall sp_nothing [] E0 tNil) tNil)) { nx := fun _ H' => Q .non H', rt := Q } σ (upd H1 s.lc (.lst (os.set n v))) :=
  s_filled f k (.inr rfl) hst (fun B2 H2 b n1 n2 mm hm => by
    obtain ⟨ne, ⟨dx, ins⟩, nlo, nlc, ⟨os', q1, q2, q3⟩, ⟨cs, r1, r2, r3⟩, pl, cl⟩ := f.sl
    rw [hl] at r1
    cases r1
    have bb := k.b.trans b
    refine ⟨ne, ⟨dx, bb _ _ ins⟩, n1, n2, ⟨os', mm _ ne _ q1, q2, fun i hi => (q3 i hi).imp fun p o => o.mono bb⟩, ⟨_, hm, by rw [List.length_set, r2], fun i hi => ?_⟩, pl, by rw [← cl]; exact List.length_set ..⟩
    rw [Pu.completion_set (by omega), getD_setV (by omega)]
    by_cases c : n = i
    · rw [if_pos c, if_pos c]
      exact ho.mono b
    · rw [if_neg c, if_neg c]
      exact (r3 i hi).imp fun p o => o.mono bb) hQ
end
def sp_completion_new (K : PySem.W.Frag) : Sp := spD K 10
theorem ok_completion_new {P : Program} {w : World} {K : PySem.W.Frag} {mg : PySem.Str → Option Value} {base : Heap} (T : Tx K mg base) : Ok P w K mg base 42 "completion_new" ["slots", "given"] (sp_completion_new K) := by
  refine ok_of (at_completion_new T) sc_completion_new (fun _ _ _ _ _ _ us hl => match us, hl with | [_, _], _ => rfl) (fun vs H Q E h => ?_) (fun f cdv A outer s H vs Q E hr h => ?_)
  · obtain ⟨s', B, rfl, hf, hQ⟩ := h
    rfl
  · obtain ⟨s', B, rfl, hf, hQ⟩ := h
    (try dsimp only at hf)
    (try dsimp only at hQ)
    refine ⟨_, (pss_cons (ps_asg (pe_ok (ok_completed T) (hr.mono (by decide)) rfl (pa_cons (pe_ix ix_list (pe_fld (pv 0) rfl) (pe_ix ix_tup (pe_ix ix_list (pv 1) pe_int (fun _ _ => rfl)) pe_int (fun _ _ => rfl)) (fun _ _ => rfl)) pa_nil)) (pg_sub (pe_fld (pv 0) rfl) (pe_ix ix_tup (pe_ix ix_list (pv 1) pe_int (fun _ _ => rfl)) pe_int (fun _ _ => rfl)) set_list))
      (pss_one (ps_ret (pe_ok (ok_returned T) (hr.mono (by decide)) rfl (pa_cons (pe_ok0 (ok_nothing T) (hr.mono (by decide)) rfl) pa_nil))))), ?_⟩
    obtain ⟨n, m, a0, _, a1, _, hc⟩ := Pu.call10 hf.cl
    obtain ⟨ga, vs, hg, hga, _, hv⟩ := hf.args
    obtain ⟨v0, g0, r0⟩ := hv 0 (by decide)
    obtain ⟨v1, g1, r1⟩ := hv 1 (by decide)
    rw [a0] at r0
    rw [a1] at r1
    rw [hg]
    have eB := hf.ex
    have hw := hf.wi
    rw [hc] at hw
    obtain ⟨p, hp, hm⟩ := Pu.has_poset (s := m) (w := s'.wo) (and_r hw)
    have hn : n < 2 := of_decide_eq_true (and_l hw)
    obtain ⟨o, ho, hev⟩ := slot_order (σ := start ["slots", "given"] [.ref s'.sl, .ref ga]) (ta := tVar 0) T eB hf.sl (ev_var rfl) (ev_num (ev_giv (i := 1) (ev_var (i := 1) rfl) (eB _ _ hga) g1) (Rep.mono eB _ _ r1)) hp hm
    refine s_setComp (p := p) T hf (Kn.refl eB) (ev_var rfl) (ev_num (ev_giv (i := 0) (ev_var rfl) (eB _ _ hga) g0) (Rep.mono eB _ _ r0)) hn (fun Q2 q2 => call_at (o, p) eB (ea_cons hev ea_nil) ⟨rfl, ho⟩ fun v B1 H2 k r => q2 v B1 H2 k r) fun v B2 H2 cs k r hl => ?_
    exact s_filledC hf k r hn hl (by rw [hc]; exact on_poset hp) hQ
theorem three {vs : List V} (h : vs.length = 3) : ∃ x y z, vs = [x, y, z] := by
  match vs, h with
  | [x, y, z], _ => exact ⟨x, y, z, rfl⟩
def sp_poset_restrict (K : PySem.W.Frag) : Sp := spD K 1
theorem ok_poset_restrict {P : Program} {w : World} {K : PySem.W.Frag} {mg : PySem.Str → Option Value} {base : Heap} (T : Tx K mg base) : Ok P w K mg base 42 "poset_restrict" ["slots", "given"] (sp_poset_restrict K) := by
  refine ok_of (at_poset_restrict T) sc_poset_restrict (fun _ _ _ _ _ _ us hl => match us, hl with | [_, _], _ => rfl) (fun vs H Q E h => ?_) (fun f cdv A outer s H vs Q E hr h => ?_)
  · obtain ⟨s', B, rfl, hf, hQ⟩ := h
    rfl
  · obtain ⟨s', B, rfl, hf, hQ⟩ := h
    (try dsimp only at hf)
    (try dsimp only at hQ)
    refine ⟨_, (pss_cons (ps_asg (pv 1) (pg_unl rfl (pgs_cons (pg_name (i := 2) sc_poset_restrict.nd rfl (Or.inl rfl)) (pgs_cons (pg_name (i := 3) sc_poset_restrict.nd rfl (Or.inl rfl)) (pgs_cons (pg_name (i := 4) sc_poset_restrict.nd rfl (Or.inl rfl)) pgs_nil)))))
      (pss_cons (ps_set (i := 5) sc_poset_restrict.nd rfl (Or.inl rfl) (pe_ix ix_list (pe_fld (pv 0) rfl) (pe_ix ix_tup (pv 3) pe_int (fun _ _ => rfl)) (fun _ _ => rfl)))
      (pss_cons (ps_if (pt_not (pt_val (pe_ok (ok_is_set T) (hr.mono (by decide)) rfl (pa_cons (pv 4) pa_nil)))) (pss_one (ps_ret (pe_ok (ok_wrong_kind T) (hr.mono (by decide)) rfl (pa_cons (pe_gs (g_SET_WORDS T) rfl) pa_nil)))) pss_nil)
      (pss_cons (ps_set (i := 6) sc_poset_restrict.nd rfl (Or.inl rfl) (pe_ok (ok_set_of T) (hr.mono (by decide)) rfl (pa_cons (pv 5) (pa_cons (pv 4) pa_nil))))
      (pss_cons (ps_if (pt_cmpR op_eq (pv 6) pe_int (nomark _)) (pss_one (ps_ret (pe_ok (ok_out_of_range T) (hr.mono (by decide)) rfl (pa_cons pe_str pa_nil)))) pss_nil)
      (pss_cons (ps_asg (pe_ok (ok_restricted T) (hr.mono (by decide)) rfl (pa_cons (pv 5) (pa_cons (pv 6) pa_nil))) (pg_sub (pe_fld (pv 0) rfl) (pe_ix ix_tup (pv 2) pe_int (fun _ _ => rfl)) set_list))
      (pss_one (ps_ret (pe_ok (ok_returned T) (hr.mono (by decide)) rfl (pa_cons (pe_ok0 (ok_nothing T) (hr.mono (by decide)) rfl) pa_nil)))))))))), ?_⟩
    obtain ⟨n, m, a0, _, a1, _, hc⟩ := Pu.call1 hf.cl
    have hl3 := Pu.call_len1 hf.cl
    obtain ⟨ga, vs, hg, hga, hvl, hv⟩ := hf.args
    obtain ⟨x0, x1, x2, rfl⟩ := three (vs := vs) (by omega)
    obtain ⟨v0, g0, r0⟩ := hv 0 (by decide)
    obtain ⟨v1, g1, r1⟩ := hv 1 (by decide)
    obtain ⟨v2, g2, r2⟩ := hv 2 (by decide)
    cases g0
    cases g1
    cases g2
    rw [a0] at r0
    rw [a1] at r1
    rw [hg]
    have eB := hf.ex
    have hw := hf.wi
    rw [hc] at hw
    have hw2 : ((decide (n < 3) && R7245g.Spec.hasPoset s'.wo m) && R7245g.Spec.fits [Rust.taken (Pu.arg s'.l 2)]) = true := hw
    obtain ⟨p, hp, hm⟩ := Pu.has_poset (s := m) (w := s'.wo) (and_r (and_l hw2))
    have hn : n < 3 := of_decide_eq_true (and_l (and_l hw2))
    have hst : ∀ {A : Wo × R7245g.Spec.Ans}, R7245g.Spec.storePoset s'.wo n (R7245g.Spec.andThen (R7245g.Spec.setArg p (Rust.taken (Pu.arg s'.l 2))) fun s => if s = 0 then .error ⟨.rangeError, R7245g.Spec.units "set has no elements"⟩ else .ok (R7245g.Spec.restrict p s)) = A → R7245g.Spec.step s'.wo s'.c = A := fun h => by
      rw [hc, ← h]
      exact on_poset hp
    rw [Pu.set_big] at hst
    refine ⟨_, rfl, ga, [x0, x1, x2], rfl, sq_of (eB _ _ hga), rfl, _, _, rfl, _, _, rfl, _, _, rfl, rfl, ?_⟩
    obtain ⟨o, ho, hev⟩ := slot_order (σ := [some (.ref s'.sl), some (.ref ga), some x0, some x1, some x2, none, none]) (ta := tVar 0) T eB hf.sl (ev_var rfl) (ev_num (ev_var (i := 3) (v := x1) rfl) (Rep.mono eB _ _ r1)) hp hm
    refine s_asg hev fun H1 e1 => ?_
    have k1 := (Kn.refl eB).up e1
    refine s_when (b := !isBig (Pu.arg s'.l 2)) (et_not (et_B (ev_isset (Rep.mono k1.i _ _ r2) (ev_var rfl)))) (fun c H2 e2 => ?_) (fun c H2 e2 => ?_)
    · exact s_bad (m := "set must be a great integer") hf (k1.up e2) (hst (by
        cases hx : Pu.arg s'.l 2 <;> first | rfl | (rw [hx] at c; cases c))) msg_set ev_c hQ
    · cases hx : Pu.arg s'.l 2 with
      | big i =>
        rw [hx] at r2 hst
        have k2 := k1.up e2
        have hlt : (i % (2 ^ p.size : Int)).toNat < 2 ^ p.size := by
          have hpos : (0 : Int) < 2 ^ p.size := Int.pow_pos (by decide)
          have h1 := Int.emod_lt_of_pos i hpos
          have h0 := Int.emod_nonneg i (Int.ne_of_gt hpos)
          have e : ((2 ^ p.size : Nat) : Int) = (2 : Int) ^ p.size := by simp
          omega
        refine s_asg (ev_setof (ho.mono k2.i) (Rep.mono k2.i _ _ r2) (ev_var rfl) (ev_var rfl)) fun H3 e3 => ?_
        have k3 := k2.up e3
        generalize hmk : (i % (2 ^ p.size : Int)).toNat = mk at *
        have hst2 : ∀ {A : Wo × R7245g.Spec.Ans}, R7245g.Spec.storePoset s'.wo n (if mk = 0 then .error ⟨.rangeError, R7245g.Spec.units "set has no elements"⟩ else .ok (R7245g.Spec.restrict p mk)) = A → R7245g.Spec.step s'.wo s'.c = A := fun h => hst (by
          rw [← h]
          show R7245g.Spec.storePoset s'.wo n (if (i % (2 ^ p.size : Int)).toNat = 0 then _ else .ok (R7245g.Spec.restrict p (i % (2 ^ p.size : Int)).toNat)) = _
          rw [hmk])
        by_cases c0 : mk = 0
        · rw [if_pos c0] at hst2
          refine s_when (b := true) (et_is (et_test (ev_eqN (a := mk) (b := 0) (ev_var rfl) ev_c)) (decide_eq_true c0)) (fun _ H4 e4 => ?_) (fun c => by cases c)
          exact s_out (m := R7245g.Spec.units "set has no elements") hf (k3.up e4) (hst2 rfl) msg_none ev_c hQ
        · rw [if_neg c0] at hst2
          refine s_when (b := false) (et_is (et_test (ev_eqN (a := mk) (b := 0) (ev_var rfl) ev_c)) (decide_eq_false c0)) (fun c => by cases c) (fun _ H4 e4 => ?_)
          have k4 := k3.up e4
          refine s_setOrder (p := R7245g.Spec.restrict p mk) T hf k4 (ev_var rfl) (ev_num (ev_var rfl) (Rep.mono k4.i _ _ r0)) hn (fun Q2 q2 => call_at (o, p, mk) k4.i (ea_cons (ev_var rfl) (ea_cons (ev_var rfl) ea_nil)) ⟨rfl, ho, hlt, c0⟩ fun v B1 H2 k r => q2 v B1 H2 k r) fun v B2 H5 cs k r hl => ?_
          exact s_filledO hf k r hn hl (hst2 rfl) hQ
      | _ => rw [hx] at c; cases c
theorem len_cyc2 : (" precede each other" : PySem.Str).length ≤ 50 := by decide +kernel
theorem ev_ispairs {σ : L2.St} {H : Hp} {ta tb : TE} {v : V} {x : RWire.Value} {n : Nat} (h : Rep H x v) (ha : Ev ta σ H v) (hb : Ev tb σ H (ni n)) : Ev (tCall sp_is_pairs [] E0 (tCons ta (tCons tb tNil))) σ H (.bl (pairsB n x)) :=
  ev_callG (v, x, n) (ea_cons ha (ea_cons hb ea_nil)) fun _ e => ⟨rfl, Rep.mono e _ _ h⟩
theorem rows_up (ll : List (List Nat)) (v : V) : Up fun H => RowsAt H v ll := fun _ _ e h => RowsAt.mono h e
theorem er_mutual {σ : L2.St} {B : Hp} {ta : TE} {v : V} {p : Po} (h : LN B v p.above) (w : Pu.WF p) (ha : Ev ta σ B v) : EvR (tCall sp_mutual_pair [] E0 (tCons ta tNil)) σ B (fun v H => PairOr H v (R7245g.Spec.firstCycle p)) :=
  er_call (v, p) (ar_of (ea_cons ha ea_nil) fun _ e => ⟨rfl, LN.mono h e, w.len, w.le10⟩) (pair_up _)
def sp_poset_new (K : PySem.W.Frag) : Sp := spD K 0
theorem ok_poset_new {P : Program} {w : World} {K : PySem.W.Frag} {mg : PySem.Str → Option Value} {base : Heap} (T : Tx K mg base) : Ok P w K mg base 42 "poset_new" ["slots", "given"] (sp_poset_new K) := by
  refine ok_of (at_poset_new T) sc_poset_new (fun _ _ _ _ _ _ us hl => match us, hl with | [_, _], _ => rfl) (fun vs H Q E h => ?_) (fun f cdv A outer s H vs Q E hr h => ?_)
  · obtain ⟨s', B, rfl, hf, hQ⟩ := h
    rfl
  · obtain ⟨s', B, rfl, hf, hQ⟩ := h
    (try dsimp only at hf)
    (try dsimp only at hQ)
    refine ⟨_, (pss_cons (ps_asg (pv 1) (pg_unl rfl (pgs_cons (pg_name (i := 2) sc_poset_new.nd rfl (Or.inl rfl)) (pgs_cons (pg_name (i := 3) sc_poset_new.nd rfl (Or.inl rfl)) (pgs_cons (pg_name (i := 4) sc_poset_new.nd rfl (Or.inl rfl)) pgs_nil)))))
      (pss_cons (ps_if (pt_not (pt_val (pe_ok (ok_is_whole T) (hr.mono (by decide)) rfl (pa_cons (pv 3) (pa_cons pe_int (pa_cons pe_int pa_nil)))))) (pss_one (ps_ret (pe_ok (ok_wrong_kind T) (hr.mono (by decide)) rfl (pa_cons pe_str pa_nil)))) pss_nil)
      (pss_cons (ps_if (pt_not (pt_val (pe_ok (ok_is_pairs T) (hr.mono (by decide)) rfl (pa_cons (pv 4) (pa_cons (pe_ix ix_tup (pv 3) pe_int (fun _ _ => rfl)) pa_nil))))) (pss_one (ps_ret (pe_ok (ok_wrong_kind T) (hr.mono (by decide)) rfl (pa_cons pe_str pa_nil)))) pss_nil)
      (pss_cons (ps_set (i := 5) sc_poset_new.nd rfl (Or.inl rfl) (pe_ok (ok_reached T) (hr.mono (by decide)) rfl (pa_cons (pe_ix ix_tup (pv 3) pe_int (fun _ _ => rfl)) (pa_cons (pe_ok (ok_rows_of T) (hr.mono (by decide)) rfl (pa_cons (pv 4) pa_nil)) pa_nil))))
      (pss_cons (ps_set (i := 6) sc_poset_new.nd rfl (Or.inl rfl) (pe_ok (ok_mutual_pair T) (hr.mono (by decide)) rfl (pa_cons (pv 5) pa_nil)))
      (pss_cons (ps_if (pt_cmpR op_notN (pv 6) pe_non (nomark _)) (pss_one (ps_ret (pe_ok (ok_out_of_range T) (hr.mono (by decide)) rfl (pa_cons (pe_joined (PJ.cons pe_str (PJ.cons (pe_fmt (pe_ix ix_tup (pv 6) pe_int (fun _ _ => rfl))) (PJ.cons pe_str (PJ.cons (pe_fmt (pe_ix ix_tup (pv 6) pe_int (fun _ _ => rfl))) (PJ.cons pe_str PJ.nil)))))) pa_nil)))) pss_nil)
      (pss_cons (ps_asg (pe_ok (ok_order_of T) (hr.mono (by decide)) rfl (pa_cons (pv 5) pa_nil)) (pg_sub (pe_fld (pv 0) rfl) (pe_ix ix_tup (pv 2) pe_int (fun _ _ => rfl)) set_list))
      (pss_one (ps_ret (pe_ok (ok_returned T) (hr.mono (by decide)) rfl (pa_cons (pe_ok0 (ok_nothing T) (hr.mono (by decide)) rfl) pa_nil))))))))))), ?_⟩
    obtain ⟨n, a0, _, hc⟩ := Pu.call0 hf.cl
    have hl3 := Pu.call_len0 hf.cl
    obtain ⟨ga, vs, hg, hga, hvl, hv⟩ := hf.args
    obtain ⟨x0, x1, x2, rfl⟩ := three (vs := vs) (by omega)
    obtain ⟨v0, g0, r0⟩ := hv 0 (by decide)
    obtain ⟨v1, g1, r1⟩ := hv 1 (by decide)
    obtain ⟨v2, g2, r2⟩ := hv 2 (by decide)
    cases g0
    cases g1
    cases g2
    rw [a0] at r0
    rw [hg]
    have eB := hf.ex
    have hw := hf.wi
    rw [hc] at hw
    have hn : n < 3 := of_decide_eq_true (and_l hw)
    have hst : ∀ {A : Wo × R7245g.Spec.Ans}, R7245g.Spec.storePoset s'.wo n (R7245g.Spec.andThen (R7245g.Spec.sizeArg (Rust.taken (Pu.arg s'.l 1))) fun n => R7245g.Spec.andThen (R7245g.Spec.pairsArg n (Rust.taken (Pu.arg s'.l 2))) fun l => R7245g.Spec.checkOrder (R7245g.Spec.orderOf n l)) = A → R7245g.Spec.step s'.wo s'.c = A := fun h => by
      rw [hc, ← h]
      rfl
    rw [Pu.size_is] at hst
    refine ⟨_, rfl, ga, [x0, x1, x2], rfl, sq_of (eB _ _ hga), rfl, _, _, rfl, _, _, rfl, _, _, rfl, rfl, ?_⟩
    refine s_when (b := !wholeB (Pu.arg s'.l 1) 1 10) (et_not (et_B (ev_whole (lo := 1) (hi := 10) (Rep.mono eB _ _ r1) (ev_var rfl) ev_c ev_c))) (fun c H1 e1 => ?_) (fun c H1 e1 => ?_)
    · rw [if_neg (by simpa using c)] at hst
      exact s_bad hf ((Kn.refl eB).up e1) (hst rfl) msg_size ev_c hQ
    · have c' : wholeB (Pu.arg s'.l 1) 1 10 = true := by simpa using c
      rw [if_pos c'] at hst
      obtain ⟨z, hz, z1, z2⟩ : ∃ z : Nat, Pu.arg s'.l 1 = .int ((z : Nat) : Int) ∧ 1 ≤ z ∧ z ≤ 10 := by
        cases hx : Pu.arg s'.l 1 with
        | int i =>
          rw [hx] at c'
          have c2 : (decide (1 ≤ i) && decide (i ≤ 10)) = true := c'
          have d1 := of_decide_eq_true (and_l c2)
          have d2 := of_decide_eq_true (and_r c2)
          exact ⟨i.toNat, congrArg RWire.Value.int (by omega), by omega, by omega⟩
        | _ => rw [hx] at c'; cases c'
      have hst1 : ∀ {A : Wo × R7245g.Spec.Ans}, R7245g.Spec.storePoset s'.wo n (R7245g.Spec.andThen (R7245g.Spec.pairsArg z (Rust.taken (Pu.arg s'.l 2))) fun l => R7245g.Spec.checkOrder (R7245g.Spec.orderOf z l)) = A → R7245g.Spec.step s'.wo s'.c = A := fun h => hst (by
        rw [← h, hz]
        rfl)
      rw [Pu.pairs_is z _ (rep_octN r2) (rep_octM r2)] at hst1
      rw [hz] at r1
      have k1 := (Kn.refl eB).up e1
      refine s_when (b := !pairsB z (Pu.arg s'.l 2)) (et_not (et_B (ev_ispairs (Rep.mono k1.i _ _ r2) (ev_var rfl) (ev_num (ev_var rfl) (Rep.mono k1.i _ _ r1))))) (fun c H2 e2 => ?_) (fun c H2 e2 => ?_)
      · rw [if_neg (by simpa using c)] at hst1
        exact s_bad hf (k1.up e2) (hst1 rfl) msg_pairs ev_c hQ
      · have c2 : pairsB z (Pu.arg s'.l 2) = true := by simpa using c
        rw [if_pos c2] at hst1
        obtain ⟨l, hl, hl100, hall⟩ := Pu.pairsB_ex c2
        rw [hl] at hst1 r2
        have k2 := k1.up e2
        have hlts := Pu.pair_lts hall
        generalize hps : l.map Pu.pairOfV = ps at *
        have hst2 : ∀ {A : Wo × R7245g.Spec.Ans}, R7245g.Spec.storePoset s'.wo n (R7245g.Spec.checkOrder (R7245g.Spec.orderOf z ps)) = A → R7245g.Spec.step s'.wo s'.c = A := fun h => hst1 (by
          rw [← h, ← hps]
          rfl)
        have hrow : ∀ x ∈ l, ∃ l', x = .list l' ∧ l'.all (belowB z) = true ∧ l'.length ≤ 40000 := fun x hx => by
          obtain ⟨a, b, q1, q2, q3, _⟩ := Pu.pairB_is (List.all_eq_true.mp hall x hx)
          have qb := List.all_eq_true.mp hall x hx
          rw [q1] at qb
          have qc : (decide ([RWire.Value.int ((a : Nat) : Int), .int ((b : Nat) : Int)].length = 2) && [RWire.Value.int ((a : Nat) : Int), .int ((b : Nat) : Int)].all (belowB z)) = true := qb
          exact ⟨_, q1, and_r qc, by show 2 ≤ 40000; omega⟩
        have hrows : l.map rowOf = ps.map fun e => [e.1, e.2] := by
          rw [← hps]
          exact Pu.pair_rows hall
        refine s_asgR (R := fun v H => LN H v (R7245g.Spec.orderOf z ps).above) k2.i (er_callX (ar_consV (ev_num (ev_var rfl) r1) fun H3 e3 => ar_one (R := fun v H => RowsAt H v (l.map rowOf)) (er_call (x2, l, z) (ar_of (ea_cons (ev_var rfl) ea_nil) fun H4 e4 => ⟨rfl, Rep.mono (e3.trans e4) _ _ r2, hrow, by show l.length ≤ 40000; omega⟩) (rows_up _)) fun v H4 e4 r => ⟨(z, v, ps), ⟨rfl, by rw [← hrows]; exact r, z2, hlts⟩, fun _ _ q => q⟩) (ln_up _)) fun us B3 H3 g3 x3 => ?_
        have k3 := k2.gr g3
        have hwf := Pu.wf_orderOf ps z1 z2
        refine s_asgR (R := fun v H => PairOr H v (R7245g.Spec.firstCycle (R7245g.Spec.orderOf z ps))) k3.i (er_mutual x3 hwf (ev_var rfl)) fun tw B4 H4 g4 x4 => ?_
        have k4 := k3.gr g4
        cases hF : R7245g.Spec.firstCycle (R7245g.Spec.orderOf z ps) with
        | some e =>
          rw [hF] at x4
          have hmem := pairs_lt (List.mem_of_find?_eq_some hF)
          have hsz : (R7245g.Spec.orderOf z ps).size = z := rfl
          rw [hsz] at hmem
          obtain ⟨tt, rfl, hb⟩ := x4
          refine s_when (b := true) (et_is (et_notNone (ev_var rfl)) rfl) (fun _ H6 e6 => ?_) (fun c => by cases c)
          exact s_out (m := R7245g.Spec.units "elements " ++ R7245g.Spec.decimal e.1 ++ R7245g.Spec.units " and " ++ R7245g.Spec.decimal e.2 ++ R7245g.Spec.units " precede each other") hf (k4.up e6) (hst2 (by
            unfold R7245g.Spec.checkOrder
            rw [hF]
            rfl)) (msg_pair msg_cyc1 msg_and msg_cyc2 (by decide +kernel) (by decide +kernel) (by decide +kernel) (by omega) (by omega))
            (ev_pairMsg (rest := [tC (.str " precede each other")]) (ev_var rfl) ⟨tt, rfl, hb⟩ (by omega) (by omega) (by decide +kernel) (by decide +kernel) fun acc H1 ha Q hQ => ⟨_, rfl, sz_of (by rw [len_app]; have := len_cyc2; omega), hQ⟩) hQ
        | none =>
          rw [hF] at x4
          have e4 : tw = .non := x4
          refine s_when (b := false) (et_is (et_notNone (ev_var (v := tw) rfl)) (by rw [e4] <;> rfl)) (fun c => by cases c) (fun _ H5 e5 => ?_)
          have k5 := k4.up e5
          refine s_setOrder (p := R7245g.Spec.orderOf z ps) T hf k5 (ev_var rfl) (ev_num (ev_var rfl) (Rep.mono (k5.b.trans k5.i) _ _ r0)) hn (fun Q2 q2 => call_at (us, R7245g.Spec.orderOf z ps) k5.i (ea_cons (ev_var rfl) ea_nil) ⟨rfl, LN.mono x3 g4.b, hwf⟩ fun v B1 H2 k r => q2 v B1 H2 k r) fun v B2 H5 cs k r hl => ?_
          exact s_filledO hf k r hn hl (hst2 (by
            unfold R7245g.Spec.checkOrder
            rw [hF]
            rfl)) hQ
end Cm
end PartF13
section PartF14
set_option Elab.async false
set_option linter.all false
set_option maxRecDepth 100000
set_option maxHeartbeats 4000000
namespace Cm
open PySem PySem.Spec PyProof.Rows L2 Evl
/-! ### the desk -/
section
variable {K : PySem.W.Frag} {σ : L2.St} {B H : Hp} {s : Sit} {d : Nat} {Q : VK} {v1 : V}
theorem s_door (hf : Fine K d s B H) (hQ : ∀ v B' H', Done K s B H B' H' v → Q v H') : tRet (tCall (spD K d) [] E0 (tCons (tVar 0) (tCons (tVar 2) tNil))) { nx := fun _ H' => Q .non H', rt := Q } [some (.ref s.sl), some v1, some s.giv] H :=
  ⟨_, rfl, _, rfl, s, B, rfl, hf, hQ⟩
end
def sp_answer_by_poset (K : PySem.W.Frag) : Sp := fun vs H Q _ => ∃ (s : Sit) (B : Hp) (d : Nat), vs = [.ref s.sl, ni d, s.giv] ∧ d < 10 ∧ Fine K d s B H ∧ ∀ v B' H', Done K s B H B' H' v → Q v H'
theorem ok_answer_by_poset {P : Program} {w : World} {K : PySem.W.Frag} {mg : PySem.Str → Option Value} {base : Heap} (T : Tx K mg base) : Ok P w K mg base 43 "answer_by_poset" ["slots", "door", "given"] (sp_answer_by_poset K) := by
  refine ok_of (at_answer_by_poset T) sc_answer_by_poset (fun _ _ _ _ _ _ us hl => match us, hl with | [_, _, _], _ => rfl) (fun vs H Q E h => ?_) (fun f cdv A outer s H vs Q E hr h => ?_)
  · obtain ⟨s', B, d, rfl, hd, hf, hQ⟩ := h
    rfl
  · obtain ⟨s', B, d, rfl, hd, hf, hQ⟩ := h
    (try dsimp only at hd)
    (try dsimp only at hf)
    (try dsimp only at hQ)
    refine ⟨_, (pss_cons (ps_if (pt_cmpR op_eq (pv 1) pe_int (nomark _)) (pss_one (ps_ret (pe_ok (ok_poset_new T) (hr.mono (by decide)) rfl (pa_cons (pv 0) (pa_cons (pv 2) pa_nil))))) pss_nil)
      (pss_cons (ps_if (pt_cmpR op_eq (pv 1) pe_int (nomark _)) (pss_one (ps_ret (pe_ok (ok_poset_restrict T) (hr.mono (by decide)) rfl (pa_cons (pv 0) (pa_cons (pv 2) pa_nil))))) pss_nil)
      (pss_cons (ps_if (pt_cmpR op_eq (pv 1) pe_int (nomark _)) (pss_one (ps_ret (pe_ok (ok_poset_relation T) (hr.mono (by decide)) rfl (pa_cons (pv 0) (pa_cons (pv 2) pa_nil))))) pss_nil)
      (pss_cons (ps_if (pt_cmpR op_eq (pv 1) pe_int (nomark _)) (pss_one (ps_ret (pe_ok (ok_poset_upper T) (hr.mono (by decide)) rfl (pa_cons (pv 0) (pa_cons (pv 2) pa_nil))))) pss_nil)
      (pss_cons (ps_if (pt_cmpR op_eq (pv 1) pe_int (nomark _)) (pss_one (ps_ret (pe_ok (ok_poset_lower T) (hr.mono (by decide)) rfl (pa_cons (pv 0) (pa_cons (pv 2) pa_nil))))) pss_nil)
      (pss_cons (ps_if (pt_cmpR op_eq (pv 1) pe_int (nomark _)) (pss_one (ps_ret (pe_ok (ok_poset_supremum T) (hr.mono (by decide)) rfl (pa_cons (pv 0) (pa_cons (pv 2) pa_nil))))) pss_nil)
      (pss_cons (ps_if (pt_cmpR op_eq (pv 1) pe_int (nomark _)) (pss_one (ps_ret (pe_ok (ok_poset_infimum T) (hr.mono (by decide)) rfl (pa_cons (pv 0) (pa_cons (pv 2) pa_nil))))) pss_nil)
      (pss_cons (ps_if (pt_cmpR op_eq (pv 1) pe_int (nomark _)) (pss_one (ps_ret (pe_ok (ok_poset_irreducibles T) (hr.mono (by decide)) rfl (pa_cons (pv 0) (pa_cons (pv 2) pa_nil))))) pss_nil)
      (pss_cons (ps_if (pt_cmpR op_eq (pv 1) pe_int (nomark _)) (pss_one (ps_ret (pe_ok (ok_poset_adjoint T) (hr.mono (by decide)) rfl (pa_cons (pv 0) (pa_cons (pv 2) pa_nil))))) pss_nil)
      (pss_one (ps_ret (pe_ok (ok_poset_conflict T) (hr.mono (by decide)) rfl (pa_cons (pv 0) (pa_cons (pv 2) pa_nil)))))))))))))), ?_⟩
    obtain rfl | rfl | rfl | rfl | rfl | rfl | rfl | rfl | rfl | rfl : d = 0 ∨ d = 1 ∨ d = 2 ∨ d = 3 ∨ d = 4 ∨ d = 5 ∨ d = 6 ∨ d = 7 ∨ d = 8 ∨ d = 9 := by omega
    · refine s_kindYes rfl (by decide) ?_
      exact s_door hf hQ
    · refine s_kindNo rfl (by decide) ?_
      refine s_kindYes rfl (by decide) ?_
      exact s_door hf hQ
    · refine s_kindNo rfl (by decide) ?_
      refine s_kindNo rfl (by decide) ?_
      refine s_kindYes rfl (by decide) ?_
      exact s_door hf hQ
    · refine s_kindNo rfl (by decide) ?_
      refine s_kindNo rfl (by decide) ?_
      refine s_kindNo rfl (by decide) ?_
      refine s_kindYes rfl (by decide) ?_
      exact s_door hf hQ
    · iterate 4 refine s_kindNo rfl (by decide) ?_
      refine s_kindYes rfl (by decide) ?_
      exact s_door hf hQ
    · iterate 5 refine s_kindNo rfl (by decide) ?_
      refine s_kindYes rfl (by decide) ?_
      exact s_door hf hQ
    · iterate 6 refine s_kindNo rfl (by decide) ?_
      refine s_kindYes rfl (by decide) ?_
      exact s_door hf hQ
    · iterate 7 refine s_kindNo rfl (by decide) ?_
      refine s_kindYes rfl (by decide) ?_
      exact s_door hf hQ
    · iterate 8 refine s_kindNo rfl (by decide) ?_
      refine s_kindYes rfl (by decide) ?_
      exact s_door hf hQ
    · iterate 9 refine s_kindNo rfl (by decide) ?_
      exact s_door hf hQ
def sp_answer_by_completion (K : PySem.W.Frag) : Sp := fun vs H Q _ => ∃ (s : Sit) (B : Hp) (d : Nat), vs = [.ref s.sl, ni d, s.giv] ∧ 10 ≤ d ∧ d < 17 ∧ Fine K d s B H ∧ ∀ v B' H', Done K s B H B' H' v → Q v H'
theorem ok_answer_by_completion {P : Program} {w : World} {K : PySem.W.Frag} {mg : PySem.Str → Option Value} {base : Heap} (T : Tx K mg base) : Ok P w K mg base 43 "answer_by_completion" ["slots", "door", "given"] (sp_answer_by_completion K) := by
  refine ok_of (at_answer_by_completion T) sc_answer_by_completion (fun _ _ _ _ _ _ us hl => match us, hl with | [_, _, _], _ => rfl) (fun vs H Q E h => ?_) (fun f cdv A outer s H vs Q E hr h => ?_)
  · obtain ⟨s', B, d, rfl, hd, hd2, hf, hQ⟩ := h
    rfl
  · obtain ⟨s', B, d, rfl, hd, hd2, hf, hQ⟩ := h
    (try dsimp only at hd)
    (try dsimp only at hd2)
    (try dsimp only at hf)
    (try dsimp only at hQ)
    refine ⟨_, (pss_cons (ps_if (pt_cmpR op_eq (pv 1) pe_int (nomark _)) (pss_one (ps_ret (pe_ok (ok_completion_new T) (hr.mono (by decide)) rfl (pa_cons (pv 0) (pa_cons (pv 2) pa_nil))))) pss_nil)
      (pss_cons (ps_if (pt_cmpR op_eq (pv 1) pe_int (nomark _)) (pss_one (ps_ret (pe_ok (ok_completion_cuts T) (hr.mono (by decide)) rfl (pa_cons (pv 0) (pa_cons (pv 2) pa_nil))))) pss_nil)
      (pss_cons (ps_if (pt_cmpR op_eq (pv 1) pe_int (nomark _)) (pss_one (ps_ret (pe_ok (ok_completion_closure T) (hr.mono (by decide)) rfl (pa_cons (pv 0) (pa_cons (pv 2) pa_nil))))) pss_nil)
      (pss_cons (ps_if (pt_cmpR op_eq (pv 1) pe_int (nomark _)) (pss_one (ps_ret (pe_ok (ok_completion_join T) (hr.mono (by decide)) rfl (pa_cons (pv 0) (pa_cons (pv 2) pa_nil))))) pss_nil)
      (pss_cons (ps_if (pt_cmpR op_eq (pv 1) pe_int (nomark _)) (pss_one (ps_ret (pe_ok (ok_completion_meet T) (hr.mono (by decide)) rfl (pa_cons (pv 0) (pa_cons (pv 2) pa_nil))))) pss_nil)
      (pss_cons (ps_if (pt_cmpR op_eq (pv 1) pe_int (nomark _)) (pss_one (ps_ret (pe_ok (ok_completion_extend T) (hr.mono (by decide)) rfl (pa_cons (pv 0) (pa_cons (pv 2) pa_nil))))) pss_nil)
      (pss_one (ps_ret (pe_ok (ok_completion_orders T) (hr.mono (by decide)) rfl (pa_cons (pv 0) (pa_cons (pv 2) pa_nil))))))))))), ?_⟩
    obtain rfl | rfl | rfl | rfl | rfl | rfl | rfl : d = 10 ∨ d = 11 ∨ d = 12 ∨ d = 13 ∨ d = 14 ∨ d = 15 ∨ d = 16 := by omega
    · refine s_kindYes rfl (by decide) ?_
      exact s_door hf hQ
    · iterate 1 refine s_kindNo rfl (by decide) ?_
      refine s_kindYes rfl (by decide) ?_
      exact s_door hf hQ
    · iterate 2 refine s_kindNo rfl (by decide) ?_
      refine s_kindYes rfl (by decide) ?_
      exact s_door hf hQ
    · iterate 3 refine s_kindNo rfl (by decide) ?_
      refine s_kindYes rfl (by decide) ?_
      exact s_door hf hQ
    · iterate 4 refine s_kindNo rfl (by decide) ?_
      refine s_kindYes rfl (by decide) ?_
      exact s_door hf hQ
    · iterate 5 refine s_kindNo rfl (by decide) ?_
      refine s_kindYes rfl (by decide) ?_
      exact s_door hf hQ
    · iterate 6 refine s_kindNo rfl (by decide) ?_
      exact s_door hf hQ
/-- a request that can be made -/
structure AskOk (s : Sit) (b : RWire.Octets) : Prop where
  a : Rust.asked b = some s.c
  wi : R7245g.Spec.within s.wo s.c = true
  te : Rust.tellable (R7245g.Spec.step s.wo s.c).2 = true
  sz : s.ans.length ≤ 65536
def sp_answer_to (K : PySem.W.Frag) : Sp := fun vs H Q _ => ∃ (s : Sit) (B : Hp) (t : Tape), vs = [.ref s.sl, .ref t.a, ni t.i] ∧ Ex B H ∧ SlR K B H s.sl s.lo s.lc s.wo ∧ TapeAt K B t ∧ AskOk s t.b ∧ ∀ v B' H', Done K s B H B' H' v → Q v H'
theorem asked_ex {b : RWire.Octets} {c : R7245g.Spec.Call} (h : Rust.asked b = some c) : ∃ d l, RWire.readRequest b = some (d, l) ∧ RWire.noOctetsMany l = true ∧ RWire.noWideMany l = true ∧ Rust.callOf d (Rust.takenAll l) = some c := by
  unfold Rust.asked at h
  cases q : RWire.readRequest b with
  | none => rw [q] at h; cases h
  | some p =>
    rw [q] at h
    obtain ⟨d, l⟩ := p
    simp only at h
    by_cases k : Rust.ofKinds l = true
    · rw [if_pos k] at h
      unfold Rust.ofKinds at k
      have k2 := and_r (and_l k)
      have k3 := and_r k
      exact ⟨d, l, rfl, by simpa [Rust.octetsTold] using k2, by simpa [Rust.wideTold] using k3, h⟩
    · rw [if_neg k] at h
      cases h
theorem er_request {K : PySem.W.Frag} {σ : L2.St} {B : Hp} {ta tb : TE} {t : Tape} {d : Nat} {l : List RWire.Value} (h : TapeAt K B t) (hr : RWire.readRequest t.b = some (d, l)) (ho : RWire.noOctetsMany l = true) (hw : RWire.noWideMany l = true) (ha : Ev ta σ B (.ref t.a)) (hb : Ev tb σ B (ni t.i)) :
    EvR (tCall (sp_read_request K) [] E0 (tCons ta (tCons tb tNil))) σ B (fun v H => AskAt d l v H) :=
  er_call (t, d, l) (ar_of (ea_cons ha (ea_cons hb ea_nil)) fun _ e => ⟨rfl, h.up e, hr, ho, hw⟩) (askAt_up _ _)
theorem ok_answer_to {P : Program} {w : World} {K : PySem.W.Frag} {mg : PySem.Str → Option Value} {base : Heap} (T : Tx K mg base) : Ok P w K mg base 72 "answer_to" ["slots", "octets", "at"] (sp_answer_to K) := by
  refine ok_of (at_answer_to T) sc_answer_to (fun _ _ _ _ _ _ us hl => match us, hl with | [_, _, _], _ => rfl) (fun vs H Q E h => ?_) (fun f cdv A outer s H vs Q E hr h => ?_)
  · obtain ⟨s', B, t, rfl, eB, hs, ht, ha, hQ⟩ := h
    rfl
  · obtain ⟨s', B, t, rfl, eB, hs, ht, ha, hQ⟩ := h
    (try dsimp only at hs)
    (try dsimp only at ht)
    (try dsimp only at ha)
    (try dsimp only at hQ)
    refine ⟨_, (pss_cons (ps_asg (pe_ok (ok_read_request T) (hr.mono (by decide)) rfl (pa_cons (pv 1) (pa_cons (pv 2) pa_nil))) (pg_tup rfl (pgs_cons (pg_name (i := 3) sc_answer_to.nd rfl (Or.inl rfl)) (pgs_cons (pg_name (i := 4) sc_answer_to.nd rfl (Or.inl rfl)) pgs_nil))))
      (pss_cons (ps_if (pt_cmpR op_lt (pv 3) pe_int (nomark _)) (pss_one (ps_ret (pe_ok (ok_answer_by_poset T) (hr.mono (by decide)) rfl (pa_cons (pv 0) (pa_cons (pv 3) (pa_cons (pv 4) pa_nil)))))) pss_nil)
      (pss_one (ps_ret (pe_ok (ok_answer_by_completion T) (hr.mono (by decide)) rfl (pa_cons (pv 0) (pa_cons (pv 3) (pa_cons (pv 4) pa_nil)))))))), ?_⟩
    obtain ⟨d, l, q1, q2, q3, q4⟩ := asked_ex ha.a
    have hd17 := Pu.call_small q4
    refine s_asgR2 eB (er_request ht q1 q2 q3 (ev_var rfl) (ev_var rfl)) fun v B1 H1 g ⟨z, r1, r2⟩ => ⟨ni d, z, r1.mono g.i, ?_⟩
    obtain ⟨os, o1, _⟩ := hs.po
    obtain ⟨cs, o2, _⟩ := hs.co
    have hf : ∀ H2, Ex H1 H2 → Fine K d { s' with giv := z, l := l } B1 H2 := fun H2 e2 => ⟨g.i.trans e2, hs.grow g.b (g.none o1 hs.nlo) (g.none o2 hs.nlc) (by rw [e2 _ _ (g.h _ _ o1), o1]) (by rw [e2 _ _ (g.h _ _ o2), o2]), r2, q4, ha.wi, ha.te, ha.sz⟩
    have hq : ∀ H2, Ex H1 H2 → ∀ v B' H', Done K { s' with giv := z, l := l } B1 H2 B' H' v → Q v H' := fun H2 e2 v B' H' dn => hQ v B' H' ⟨g.b.trans dn.b, dn.i, fun a o c1 c2 h => dn.h a o c1 c2 (e2 _ _ (g.h _ _ h)), fun a h => by
      cases c : H a with
      | none => exact absurd c h
      | some u => rw [dn.fr a (some_ne (e2 _ _ (g.h _ _ c))), g.fr a h], dn.sl, dn.r⟩
    by_cases c : d < 10
    · refine s_when (b := true) (et_is (et_test (ev_op (ev_var (v := ni d) rfl) ev_c (rv_I0 (g := fun i j => .bl (decide (i < j)))))) (decide_eq_true (by omega))) (fun _ H2 e2 => ?_) (fun z => by cases z)
      exact ⟨_, rfl, _, rfl, _, rfl, { s' with giv := z, l := l }, B1, d, rfl, c, hf H2 e2, hq H2 e2⟩
    · refine s_when (b := false) (et_is (et_test (ev_op (ev_var (v := ni d) rfl) ev_c (rv_I0 (g := fun i j => .bl (decide (i < j)))))) (decide_eq_false (by omega))) (fun z => by cases z) (fun _ H2 e2 => ?_)
      exact ⟨_, rfl, _, rfl, _, rfl, { s' with giv := z, l := l }, B1, d, rfl, by omega, hd17, hf H2 e2, hq H2 e2⟩
theorem s_fldNew {K : PySem.W.Frag} {σ : L2.St} {H : Hp} {D : Ends} {ta tv : TE} {f : PySem.Str} {xs : List V} (h : EvL tv σ H xs)
    (k : ∀ l H1, H l = none → Ex H H1 → H1 l = some (.lst xs) → ta σ H1 fun x H2 => ∃ a C dx fs, x = .ref a ∧ H2 a = some (.ins C dx fs) ∧ Cls K C ∧ NoAttr K C f ∧ fs.length < 1000 ∧ D.nx σ (upd H2 a (.ins C dx (putF f (.ref l) fs)))) : sFld K ta tv f D σ H :=
  h H (Ex.refl H) _ fun p H1 hp e h1 => k p H1 hp e h1
def sp_Slots_init (K : PySem.W.Frag) : Sp := fun vs H Q _ => ∃ p dx, vs = [.ref p] ∧ H p = some (.ins (He.ga K "Slots") dx []) ∧ ∀ lo lc H', H lo = none → H lc = none → lo ≠ lc → H' p = some (.ins (He.ga K "Slots") dx (slF lo lc)) → H' lo = some (.lst [.non, .non, .non]) → H' lc = some (.lst [.non, .non]) → (∀ q o, H q = some o → q ≠ p → H' q = some o) → Q .non H'
theorem ok_Slots_init {P : Program} {w : World} {K : PySem.W.Frag} {mg : PySem.Str → Option Value} {base : Heap} (T : Tx K mg base) : OkC P w K mg base 1 "Slots" ["self"] (sp_Slots_init K) := by
  refine okC_of T 93 (d := d_Slots_init) rfl rfl rfl rfl 101 rfl rfl sc_Slots_init (fun _ _ _ _ _ _ us hl => match us, hl with | [_], _ => rfl) (fun vs H Q E h => ?_) (fun f cdv A outer s H vs Q E hr h => ?_)
  · obtain ⟨p, dx, rfl, hp, hQ⟩ := h
    rfl
  · obtain ⟨p, dx, rfl, hp, hQ⟩ := h
    refine ⟨_, (pss_cons (ps_fld (pv 0) (pe_lst (pa_cons pe_non (pa_cons pe_non (pa_cons pe_non pa_nil)))) rfl)
      (pss_one (ps_fld (pv 0) (pe_lst (pa_cons pe_non (pa_cons pe_non pa_nil))) rfl))), ?_⟩
    refine s_fldNew (el_lst (vs := [.non, .non, .non]) (ea_cons ev_c (ea_cons ev_c (ea_cons ev_c ea_nil))) (by show 3 ≤ 100000; omega)) fun lo H1 hlo e1 h1 => ⟨_, rfl, p, _, dx, [], rfl, e1 _ _ hp, T.cl_Slots, T.na_Slots_orders, (by show 0 < 1000; decide), ?_⟩
    refine s_fldNew (el_lst (vs := [.non, .non]) (ea_cons ev_c (ea_cons ev_c ea_nil)) (by show 2 ≤ 100000; omega)) fun lc H2 hlc e2 h2 => ⟨_, rfl, p, _, dx, _, rfl, e2 _ _ upd_same, T.cl_Slots, T.na_Slots_completions, (by show 1 < 1000; decide), ?_⟩
    have np : lo ≠ p := (ne_of_none hp hlo).symm
    have nc : lc ≠ p := fun z => by
      rw [z, upd_same] at hlc
      cases hlc
    have hlc1 : H1 lc = none := by
      rw [upd_ne nc] at hlc
      exact hlc
    have hll : lo ≠ lc := fun z => by
      rw [z, hlc1] at h1
      cases h1
    exact hQ lo lc _ hlo (fresh_back e1 hlc1) hll upd_same (by rw [upd_ne np]; exact e2 _ _ (by rw [upd_ne np]; exact h1)) (by rw [upd_ne nc]; exact h2) fun q o h hq => by
      rw [upd_ne hq]
      exact e2 _ _ (by rw [upd_ne hq]; exact e1 _ _ h)
theorem flat_step {ns : List Int} {i : Nat} {b : RWire.Octets} {r : List RWire.Octets} (h : ns.drop i = Pu.flatOf (b :: r)) : i + 2 + b.length ≤ ns.length ∧ Pu.At ns (Pu.flatOf r) (i + 2) b ∧ ns[i + 1]? = some (b.length : Int) ∧ ns.drop (i + 2 + b.length) = Pu.flatOf r := by
  have h2 : ns.drop (i + 2) = Pu.castB b ++ Pu.flatOf r := by
    rw [← List.drop_drop, h]
    rfl
  have l1 := congrArg List.length h2
  rw [List.length_drop, List.length_append, Pu.castB_len] at l1
  have l2 := congrArg List.length h
  rw [List.length_drop] at l2
  have l3 : (Pu.flatOf (b :: r)).length = 2 + (b.length + (Pu.flatOf r).length) := by
    show (Pu.castB b ++ Pu.flatOf r).length + 1 + 1 = _
    rw [List.length_append, Pu.castB_len]
    omega
  rw [l3] at l2
  refine ⟨by omega, ⟨by omega, h2⟩, ?_, ?_⟩
  · have q : (ns.drop i)[1]? = ns[i + 1]? := List.getElem?_drop
    rw [← q, h]
    rfl
  · rw [← List.drop_drop, h2]
    have e : (Pu.castB b).length = b.length := Pu.castB_len b
    rw [← e, List.drop_left]
theorem goes_step {w : Rust.St} {left : Nat} {b : RWire.Octets} {r : List RWire.Octets} (h : Rust.goes w left (b :: r) = true) : ∃ c, Rust.asked b = some c ∧ R7245g.Spec.within w c = true ∧ Rust.tellable (R7245g.Spec.step w c).2 = true ∧
    Rust.step w b = ((R7245g.Spec.step w c).1, RWire.writeAnswer (Rust.answerOf (R7245g.Spec.step w c).2)) ∧ (RWire.writeAnswer (Rust.answerOf (R7245g.Spec.step w c).2)).length ≤ 65536 ∧ (RWire.writeAnswer (Rust.answerOf (R7245g.Spec.step w c).2)).length ≤ left ∧
    Rust.goes (R7245g.Spec.step w c).1 (left - (RWire.writeAnswer (Rust.answerOf (R7245g.Spec.step w c).2)).length) r = true := by
  unfold Rust.goes at h
  cases q : Rust.asked b with
  | none => rw [q] at h; cases h
  | some c =>
    rw [q] at h
    simp only [Bool.and_eq_true] at h
    obtain ⟨⟨⟨⟨h1, h2⟩, h3⟩, h4⟩, h5⟩ := h
    have hs : Rust.step w b = ((R7245g.Spec.step w c).1, RWire.writeAnswer (Rust.answerOf (R7245g.Spec.step w c).2)) := by
      unfold Rust.step
      rw [q]
      simp only
      rw [if_pos h1]
    rw [hs] at h3 h4 h5
    rw [Nat.ble_eq] at h3 h4
    exact ⟨c, rfl, and_l h1, h2, hs, h3, h4, h5⟩
theorem ob_cast (l : RWire.Octets) : l.map ob = (Pu.castB l).map V.int := by
  unfold Pu.castB
  rw [List.map_map]
  rfl
section
variable {K : PySem.W.Frag} {σ : L2.St} {H : Hp} {D : Ends} {ta te : TE} {l b : Addr} {xs zs : List V} {v : V}
theorem s_appBig (hl : H l = some (.lst xs)) (ha : Ev ta σ H (.ref l)) (h : Ev te σ H v) (hz : xs.length < sizeLine) (k : ∀ H1, Ex H H1 → D.nx σ (upd H1 l (.lst (xs ++ [v])))) : tDrop (tBM K "list" rAppend ta (tCons te tNil)) D σ H := ha H (Ex.refl H) _ fun H1 e1 =>
  ⟨Or.inl ⟨rfl, xs, sq_of (e1 l _ hl)⟩, h H1 e1 _ fun H2 e2 => ⟨l, xs, v, rfl, rfl, e2 l _ (e1 l _ hl), hz, k H2 (e1.trans e2)⟩⟩
theorem s_extBig (hl : H l = some (.lst xs)) (ha : Ev ta σ H (.ref l)) (h : Ev te σ H (.ref b)) (hb : H b = some (.lst zs)) (hz : xs.length + zs.length ≤ sizeLine) (k : ∀ H1, Ex H H1 → D.nx σ (upd H1 l (.lst (xs ++ zs)))) : tDrop (tBM K "list" rExtend ta (tCons te tNil)) D σ H := ha H (Ex.refl H) _ fun H1 e1 =>
  ⟨Or.inl ⟨rfl, xs, sq_of (e1 l _ hl)⟩, h H1 e1 _ fun H2 e2 => ⟨l, b, xs, zs, rfl, rfl, e2 l _ (e1 l _ hl), e2 b _ (e1 b _ hb), hz, k H2 (e1.trans e2)⟩⟩
end
theorem s_askTo {K : PySem.W.Frag} {σ : L2.St} {B H : Hp} {D : Ends} {ta tb tc : TE} {i : Nat} (s : Sit) (t : Tape) (h1 : Ev ta σ H (.ref s.sl)) (h2 : Ev tb σ H (.ref t.a)) (h3 : Ev tc σ H (ni t.i)) (eB : Ex B H) (hs : SlR K B H s.sl s.lo s.lc s.wo) (ht : TapeAt K B t) (ha : AskOk s t.b)
    (k : ∀ H1 v B' H', Ex H H1 → Done K s B H1 B' H' v → D.nx (σ.set i (some v)) H') : tAsg (tCall (sp_answer_to K) [] E0 (tCons ta (tCons tb (tCons tc tNil)))) (gName i) D σ H := by
  have h : EvA (tCons ta (tCons tb (tCons tc tNil))) σ H [.ref s.sl, .ref t.a, ni t.i] := ea_cons h1 (ea_cons h2 (ea_cons h3 ea_nil))
  unfold tAsg tCall
  exact h H (Ex.refl H) _ fun H1 e1 => ⟨s, B, t, rfl, eB.trans e1, hs.up e1, ht, ha, fun v B' H' dn => k H1 v B' H' e1 dn⟩
def sp_answers (K : PySem.W.Frag) : Sp := fun vs H Q _ => ∃ (a : Addr) (ns : List Int), vs = [.ref a] ∧ SqL K H a (ns.map V.int) ∧ ns.length ≤ 61000 ∧ PyZr37.answers_asked ns = true ∧ ∀ u H', H' u = some (.lst ((PyZr37.answers ns).map V.int)) → Q (.ref u) H'
theorem fn_answers {P : Program} {w : World} {K : PySem.W.Frag} {mg : PySem.Str → Option Value} {base : Heap} (T : Tx K mg base) {f : Addr} {fd : FuncData} (F : FunD K "answers" "answers" (defArgs s_answers) (defBody s_answers) (defScope s_answers) [] [] f fd) : FnOk P w K mg base CX0 73 f fd ["calls"] (sp_answers K) := by
  refine F.ok sc_answers (fun vs H Q E h => ?_) (fun cdv A outer s H vs Q E hr h => (fun ⟨t, h1, h2⟩ => ⟨t, h1.nox, h2⟩ : (∃ t, PSs (cxOf CX0 P w K mg base ["calls", "slots", "out", "at", "answer"] "answers" (defScope s_answers) f cdv A outer s H E).nox (defBody s_answers) t ∧ t { nx := fun _ H' => Q .non H', rt := Q } (start ["calls", "slots", "out", "at", "answer"] vs) H) → _) ?_)
  · obtain ⟨a, ns, rfl, hsq, hlen, hask, hQ⟩ := h
    rfl
  · obtain ⟨a, ns, rfl, hsq, hlen, hask, hQ⟩ := h
    refine ⟨_, (pss_cons (ps_set (i := 1) sc_answers.nd rfl (Or.inl rfl) (pe_mk00 (ok_Slots_init T) (hr.mono (by decide)) rfl))
      (pss_cons (ps_set (i := 2) sc_answers.nd rfl (Or.inl rfl) (pe_lst pa_nil))
      (pss_cons (ps_set (i := 3) sc_answers.nd rfl (Or.inl rfl) pe_int)
      (pss_cons (ps_while PassesOwn.never (pt_cmpR op_lt (pv 3) (pe_callB call_len_seq (by rfl) T.n_len PySem.boot_len (pa_cons (pv 0) pa_nil)) (nomark _)) (pss_cons (ps_set (i := 4) sc_answers.nd rfl (Or.inl rfl) (pe_ok (ok_answer_to T) (hr.mono (by decide)) rfl (pa_cons (pv 1) (pa_cons (pv 0) (pa_cons (pe_op op_add (pv 3) pe_int) pa_nil)))))
      (pss_cons (ps_expr (pe_bm PySem.F.plainAttrs_list PySem.F.slot_list_append PySem.F.type_list_append mt_append (pv 2) (pa_cons (pe_callB call_len_seq (by rfl) T.n_len PySem.boot_len (pa_cons (pv 4) pa_nil)) pa_nil)))
      (pss_cons (ps_expr (pe_bm PySem.F.plainAttrs_list PySem.F.slot_list_extend PySem.F.type_list_extend mt_extend (pv 2) (pa_cons (pv 4) pa_nil)))
      (pss_one (ps_set (i := 3) sc_answers.nd rfl (Or.inl rfl) (pe_op op_add (pe_op op_add (pv 3) pe_int) (pe_ix ix_list (pv 0) (pe_op op_add (pv 3) pe_int) (fun _ _ => rfl)))))))))
      (pss_one (ps_ret (pv 2))))))), ?_⟩
    obtain ⟨rs0, hns, hans, hgo, h200⟩ := Pu.asked_is hask
    rw [hans] at hQ
    refine fun sl dx hsl hdx hne => ⟨sl, dx, rfl, upd_same, fun lo lc H1 hlo hlc hll h1 h2 h3 h4 => ⟨rfl, ?_⟩⟩
    have eH : Ex H H1 := fun q o h => h4 q o (by rw [upd_ne (ne_of_none h hsl), upd_ne (ne_of_none h hdx)]; exact h) (ne_of_none h hsl)
    have nlo : lo ≠ sl := fun z => by rw [z, upd_same] at hlo; cases hlo
    have nlc : lc ≠ sl := fun z => by rw [z, upd_same] at hlc; cases hlc
    have hlo0 : H lo = none := by
      rw [upd_ne nlo] at hlo
      by_cases c : lo = dx
      · rw [c]
        exact hdx
      · rw [upd_ne c] at hlo
        exact hlo
    have hlc0 : H lc = none := by
      rw [upd_ne nlc] at hlc
      by_cases c : lc = dx
      · rw [c]
        exact hdx
      · rw [upd_ne c] at hlc
        exact hlc
    have eB : Ex (upd H sl (.ins (He.ga K "Slots") dx (slF lo lc))) H1 := fun q o h => by
      by_cases c : q = sl
      · subst c
        rw [upd_same] at h
        cases h
        exact h1
      · rw [upd_ne c] at h
        exact eH q o h
    have hs0 : SlR K (upd H sl (.ins (He.ga K "Slots") dx (slF lo lc))) H1 sl lo lc Rust.start := by
      refine ⟨hll, ⟨dx, upd_same⟩, by rw [upd_ne nlo]; exact hlo0, by rw [upd_ne nlc]; exact hlc0, ⟨_, h2, rfl, fun i hi => ?_⟩, ⟨_, h3, rfl, fun i hi => ?_⟩, rfl, rfl⟩
      · have e : R7245g.Spec.posetAt Rust.start i = none := by
          obtain rfl | rfl | rfl : i = 0 ∨ i = 1 ∨ i = 2 := by omega
          all_goals rfl
        rw [e]
        trivial
      · have e : R7245g.Spec.completionAt Rust.start i = none := by
          obtain rfl | rfl : i = 0 ∨ i = 1 := by omega
          all_goals rfl
        rw [e]
        trivial
    have hsqB : SqL K (upd H sl (.ins (He.ga K "Slots") dx (slF lo lc))) a (ns.map V.int) := ex_l (Ex.new hsl) hsq
    generalize (upd H sl (.ins (He.ga K "Slots") dx (slF lo lc))) = B0 at *
    dsimp only
    refine s_asgL (el_lst (vs := []) ea_nil (by show 0 ≤ 100000; omega)) fun u H2 hu e2 hu2 => ?_
    dsimp only
    refine s_asg (v := .int 0) ev_c fun H3 e3 => ?_
    dsimp only
    have e13 := e2.trans e3
    have nulo : u ≠ lo := fun z => by rw [z, h2] at hu; cases hu
    have nulc : u ≠ lc := fun z => by rw [z, h3] at hu; cases hu
    refine s_while (fun m σ H' => ∃ i rs w left acc B z, m = rs.length ∧ σ = [some (.ref a), some (.ref sl), some (.ref u), some (ni i), z] ∧ Ex B H' ∧ SlR K B H' sl lo lc w ∧ B u = none ∧ H' u = some (.lst (acc.map V.int)) ∧ SqL K B a (ns.map V.int) ∧ ns.drop i = Pu.flatOf rs ∧ i ≤ ns.length ∧ Rust.goes w left rs = true ∧ acc ++ Pu.outOf w rs = Pu.outOf Rust.start rs0 ∧ acc.length + left + rs.length ≤ 4000200)
      rs0.length ⟨0, rs0, Rust.start, 4000000, [], B0, none, rfl, rfl, eB.trans e13, hs0.up e13, ex_none eB hu, e3 _ _ hu2, hsqB, hns, Nat.zero_le _, hgo, rfl, by show 0 + 4000000 + rs0.length ≤ _; omega⟩ ?_
    rintro m σ' H' ⟨i, rs, w', left, acc, B, z, rfl, rfl, eB', hs, hBu, hul, hsq', hdr, hi, hgo', hout, htot⟩
    cases rs with
    | nil =>
      refine ⟨false, et_is (et_test (ev_op (ev_var (v := ni i) rfl) (ev_len (ev_var rfl) (ex_l eB' hsq')) (rv_I0 (g := fun i j => .bl (decide (i < j)))))) (decide_eq_false ?_), fun c => (by cases c), fun _ H4 e4 => ?_⟩
      · have hl : (ns.drop i).length = 0 := by rw [hdr] <;> rfl
        rw [List.length_drop] at hl
        rw [List.length_map]
        omega
      · have e9 : acc = Pu.outOf Rust.start rs0 := by
          rw [← hout]
          exact (List.append_nil acc).symm
        rw [e9] at hul
        dsimp only
        exact s_ret (ev_var rfl) fun H5 e5 => hQ u H5 (e5 _ _ (e4 _ _ hul))
    | cons b r =>
      obtain ⟨f1, f2, f3, f4⟩ := flat_step hdr
      obtain ⟨c, g1, g2, g3, g4, g5, g6, g7⟩ := goes_step hgo'
      refine ⟨true, et_is (et_test (ev_op (ev_var (v := ni i) rfl) (ev_len (ev_var rfl) (ex_l eB' hsq')) (rv_I0 (g := fun i j => .bl (decide (i < j)))))) (decide_eq_true (by rw [List.length_map]; omega)), fun _ H4 e4 => ⟨_, fun σ2 H2 q => q, ?_⟩, fun c => (by cases c)⟩
      have eB4 := eB'.trans e4
      have hs4 := hs.up e4
      have ht4 : TapeAt K B ⟨a, ns, Pu.flatOf r, i + 2, b⟩ := ⟨hsq', f2, hlen⟩
      refine s_askTo ⟨sl, lo, lc, w', .non, [], c⟩ ⟨a, ns, Pu.flatOf r, i + 2, b⟩ (ev_var rfl) (ev_var rfl) (ev_addN (a := i) (b := 2) (ev_var rfl) ev_c) eB4 hs4 ht4 ⟨g1, g2, g3, g5⟩ fun H5 v B' H6 e5 dn => ?_
      have hul5 := e5 _ _ (e4 _ _ hul)
      have hul6 : H6 u = some (.lst (acc.map V.int)) := dn.h u _ nulo nulc hul5
      have hB6 : B' u = none := (dn.fr u (some_ne hul5)).trans hBu
      obtain ⟨pa, rfl, hpa⟩ := dn.r
      have ha6 := dn.i _ _ hpa
      have hacc : acc.length < 5000000 := by
        have := htot
        omega
      have hsz : (5000000 : Nat) < sizeLine := by decide
      dsimp only
      refine s_appBig (v := .int (((Rust.step w' b).2.length : Nat) : Int)) hul6 (ev_var rfl) (ev_is (ev_len (ev_var rfl) (sq_of ha6)) (by
        rw [List.length_map, g4]
        rfl)) (by rw [List.length_map]; omega) fun H7 e7 => ?_
      dsimp only
      have k7 : Ex B' (upd H7 u (.lst (acc.map V.int ++ [V.int (((Rust.step w' b).2.length : Nat) : Int)]))) := Ex.mut (dn.i.trans e7) hB6
      refine s_extBig (zs := (Pu.castB (Rust.step w' b).2).map V.int) upd_same (ev_var rfl) (ev_var rfl) (by
        rw [k7 _ _ hpa, ob_cast, g4]
        rfl) (by
          rw [List.length_append, List.length_map, List.length_map, Pu.castB_len, g4]
          simp only [List.length_cons, List.length_nil]
          have := g6
          omega) fun H8 e8 => ?_
      dsimp only
      have hl8 := e8 _ _ upd_same
      have k9 : Ex B' (upd H8 u (.lst ((acc.map V.int ++ [V.int (((Rust.step w' b).2.length : Nat) : Int)]) ++ (Pu.castB (Rust.step w' b).2).map V.int))) := Ex.mut (k7.trans e8) hB6
      have hsq9 : SqL K B' a (ns.map V.int) := ex_l dn.b hsq'
      refine s_asg (v := ni (i + 2 + b.length)) (ev_addN (a := i + 2) (b := b.length) (ev_addN (a := i) (b := 2) (ev_var rfl) ev_c) (ev_op (ev_var rfl) (ev_addN (a := i) (b := 1) (ev_var rfl) ev_c) (rv_ixL (ex_l k9 hsq9) (atI_nat (by rw [List.getElem?_map, f3] <;> rfl))))) fun H9 e9 => ?_
      obtain ⟨os, o1, _⟩ := dn.sl.po
      obtain ⟨cs, o2, _⟩ := dn.sl.co
      refine ⟨r.length, by simp, i + 2 + b.length, r, (Rust.step w' b).1, left - (Rust.step w' b).2.length, acc ++ ((((Rust.step w' b).2.length : Nat) : Int) :: Pu.castB (Rust.step w' b).2), B', _, rfl, rfl, k9.trans e9, ?_, hB6, ?_, hsq9, f4, f1, ?_, ?_, ?_⟩
      · rw [g4]
        refine dn.sl.grow (Ex.refl B') dn.sl.nlo dn.sl.nlc ?_ ?_
        · rw [o1, e9 _ _ (by rw [upd_ne (Ne.symm nulo)]; exact e8 _ _ (by rw [upd_ne (Ne.symm nulo)]; exact e7 _ _ o1))]
        · rw [o2, e9 _ _ (by rw [upd_ne (Ne.symm nulc)]; exact e8 _ _ (by rw [upd_ne (Ne.symm nulc)]; exact e7 _ _ o2))]
      · rw [e9 _ _ upd_same, List.map_append, List.append_assoc]
        rfl
      · rw [g4]
        exact g7
      · rw [← hout, List.append_assoc]
        rfl
      · rw [List.length_append, List.length_cons, Pu.castB_len, g4]
        have hm := htot
        simp only [List.length_cons] at hm
        have := g6
        dsimp only
        omega
end Cm
end PartF14
section PartCmRun
set_option Elab.async false
set_option linter.all false
set_option maxRecDepth 100000
set_option maxHeartbeats 0
namespace Cm
open PySem PySem.Spec PySem.W PySem.Calls PyProof.Rows L2
def as0 : List Addr := [3, 20, 21, 27, 28, 34, 35, 41, 42, 48, 49, 55, 56, 60, 61, 65, 66, 72, 73, 79, 80, 86, 87, 93, 94, 100, 101, 107, 108, 114]
def as1 : List Addr := [115, 121, 122, 128, 129, 135, 136, 142, 143, 149, 150, 154, 155, 159, 160, 161, 162, 163, 164, 165, 166, 167, 168, 169, 170, 171, 172, 173, 174, 175]
def as2 : List Addr := [176, 177, 178, 179, 187, 188, 194, 195, 201, 202, 206, 207, 211, 212, 218, 219, 223, 224, 228, 229, 235, 236, 242, 243, 249, 250, 256, 257, 263, 264]
def as3 : List Addr := [270, 271, 277, 278, 282, 283, 287, 288, 294, 295, 299, 300, 306, 307, 313, 314, 320, 321, 327, 328, 329, 330, 331, 332, 333, 334, 335, 336, 337, 338]
def as4 : List Addr := [339, 340, 341, 342, 343, 344, 345, 346, 347, 353, 354, 360, 361, 367, 368, 374, 375, 381, 382, 388, 389, 395, 396, 402, 403, 409, 410, 414, 415, 421]
def as5 : List Addr := [422, 426, 427, 433, 434, 440, 441, 447, 448, 454, 455, 461, 462, 468, 469, 475, 476, 482, 483, 489, 490, 496, 497, 503, 504, 510, 511, 517, 518, 524]
def as6 : List Addr := [525, 531, 532, 536, 537, 543, 544, 550, 551, 557, 558, 564, 565, 571, 572, 578, 579, 585, 586, 592, 593, 599, 600, 606, 607, 613, 614, 620, 621, 627]
def as7 : List Addr := [628, 632, 633, 639, 640, 646, 647, 653, 654, 660, 661, 662, 663, 664, 665, 666, 667, 668, 669, 670, 671, 672, 673, 674, 675, 676, 677, 678, 679, 680]
def as8 : List Addr := [688, 689, 695, 696, 702, 703, 709, 710]
def asX : List Addr := as0 ++ as1 ++ as2 ++ as3 ++ as4 ++ as5 ++ as6 ++ as7 ++ as8


def obX (s : PySem.W.SharedT) : He.AlD := He.obsD fa fn (He.frG (HandSHeadRun.getT s) asX)
def hkX : PySem.W.Hook where
  α := He.AlD
  obs := fun s => He.obsD fa fn (He.frG s.heap.get? asX)
  val := fun _ => He.valD fn
  says := fun _ h => ∃ K : PySem.W.Frag, K.In h ∧ He.SaysD fa fn K
  of := fun _ _ e => ⟨_, He.frG_in, e⟩
  keeps := fun _ _ _ ⟨K, hK, c⟩ k => ⟨K, PySem.W.Frag.In.keeps hK k, c⟩
theorem obX_eq (s : PySem.W.SharedT) : obX s = hkX.obs s.abs := by
  have e : HandSHeadRun.getT s = s.abs.heap.get? := funext (HandSHeadRun.getT_eq s)
  show He.obsD fa fn (He.frG (HandSHeadRun.getT s) asX) = He.obsD fa fn (He.frG s.abs.heap.get? asX)
  rw [e]
abbrev qv : Program := view R.prog [128]
noncomputable abbrev endX (w : World) (os : OsState) : Option SharedT := HandSHeadRun.endF (HandSHeadRun.stepQ (HandSHeadRun.denQ HandSHeadRun.tabQ) R.prog w) 4000 R.prog w os
noncomputable abbrev seenX (s : SharedT) := HandSHeadRun.seenQ qv nms (importedModules R.prog.main.body) (fun s => xlAt qv [] s && recOk [] s) s.abs
theorem run1 (w : World) (os : OsState) : (endX w os).map (fun s => (HandSHeadRun.looksF R.prog (boot_heap w.params) s.abs, (seenX s).1, (seenX s).2.1, (seenX s).2.2.1, (seenX s).2.2.2)) = some (true, (openGood qv nms).1, (openGood qv nms).2.1, (openGood qv nms).2.2.1, (openGood qv nms).2.2.2) := by
  kernel_rfl
theorem run2 (w : World) (os : OsState) : (endX w os).map (fun s => obX s) = some (He.valD fn) := by
  kernel_rfl
theorem prod4 {α β γ δ : Type} {x y : α × β × γ × δ} (h1 : x.1 = y.1) (h2 : x.2.1 = y.2.1) (h3 : x.2.2.1 = y.2.2.1) (h4 : x.2.2.2 = y.2.2.2) : x = y := by
  obtain ⟨a, b, c, d⟩ := x
  obtain ⟨a', b', c', d'⟩ := y
  simp only at h1 h2 h3 h4
  rw [h1, h2, h3, h4]
theorem run (w : World) : HandSHeadRun.RunEqS R qv hkX obX 4000 nms w := by
  intro os
  have a := run1 w os
  have b := run2 w os
  show (endX w os).map (fun s => (HandSHeadRun.looksF R.prog (boot_heap w.params) s.abs, seenX s, obX s)) = some (true, openGood qv nms, He.valD fn)
  generalize endX w os = e at a b ⊢
  cases e with
  | none => exact nomatch a
  | some s =>
    have a1 := Option.some.inj a
    have b1 : obX s = He.valD fn := Option.some.inj b
    have p1 := congrArg Prod.fst a1
    have p2 := congrArg (fun z => z.2.1) a1
    have p3 := congrArg (fun z => z.2.2.1) a1
    have p4 := congrArg (fun z => z.2.2.2.1) a1
    have p5 := congrArg (fun z => z.2.2.2.2) a1
    refine congrArg some (Prod.ext p1 (Prod.ext (prod4 p2 p3 p4 p5) b1))
/-- the end: the promise of the asked def gives the row -/
theorem walk_specX {r : OpenSpec} {k : Nat} {q : Program} {loose : List PySem.Str} {XP : (PySem.Str → Option Value) → Heap → Prop} {YP : World → Heap → Prop} {d : DefRec} {CX : CXT} {ps : List PySem.Str} {sp : PySem.W.Frag → Sp}
    (hwell : r.wellSaid = true) (hdf : d.params.defaults = []) (hlen : r.args.length = ps.length) (hr : Room k callerA)
    (F : ∀ (w : World) (mg : PySem.Str → Option Value) (fa : Addr) (h : Heap), YP w h → h.Ns mainGlobals mg → mg d.name = some (.ref fa) →
      ∃ (K : PySem.W.Frag) (fd : FuncData), K.In h ∧ (∀ (s : Shared) (us : List Value), us.length = ps.length → BindsTo s fd ⟨us, []⟩ (ps.zip us)) ∧
        ∀ base : Heap, K.In base → base.Ns mainGlobals mg → FnOk r.prog w K mg base CX k fa fd ps (sp K))
    (hsp : ∀ (K : PySem.W.Frag) (H : Hp) (xs : List V) (a : Codec.denoteAll r.args), OnlyF H → Codec.withinAll r.args a = true → Codec.app r.args r.asked a = true → DwAll K H xs (Codec.encAll r.args a) →
      sp K xs H (fun v H' => Dw K H' v (r.ret.enc (Codec.app r.args r.f a))) fun _ _ _ => False)
    (hCX : ∀ (H : Hp) (s : Shared) (e : Value) (s' : Shared), CX [] H s (fun _ _ _ => False) e s' → False) :
    PySem.W.WalkOS q loose XP YP r d [] (fun f vs => PySem.call f vs) := by
  intro w s₀ s₁ mg mb G Y fa o pm cd doc dV kV ho hd hcd hD hmg hg args vals as hpre hlay hrd hwl hlo
  obtain ⟨a, e1, e2⟩ := PySem.W.os_pre_some hpre
  obtain ⟨e3, hwi⟩ := Codec.encAll_of_decAll r.args args a e1
  subst e3
  obtain ⟨K, fd, KX, hb, hF⟩ := F w mg fa _ Y G.T.g hmg
  refine PySem.W.enter_call (codeAny_mono (spec_call (R := []) (cl := classAt s₀.heap) (d0 := r.ret.enc (Codec.app r.args r.f a)) KX G.T.g G.T.b G.T.builtins G.T.nolimit hg hwl (pl_encAll _ _) (layable_weight hlay) hr hF hb (by rw [encAll_len]; exact hlen)
    (fun H xs hO hS => hsp K H xs a hO hwi e2 hS) fun H e s' => hCX H s₁ e s') fun r' s' hq => ?_)
  obtain ⟨u, as', rfl, h1, h2, h3, h4⟩ := hq
  exact ⟨.inl ⟨u, _, as', rfl, fun _ => rfl, h1, (OpenSpec.post_iff hwell hwi _ _).mpr rfl, fun z => Bool.noConfusion (show false = true from z)⟩, h2, h3, h4⟩
end Cm
end PartCmRun
section PartCmEnd
set_option maxRecDepth 100000
set_option maxHeartbeats 0
open PySem PySem.W PyProof.Rows L2
theorem Cm.finish {sp : PySem.W.Frag → Sp} {k : Nat} (hr : Room k callerA)
   (F : ∀ (w : World) (mg : PySem.Str → Option Value) (fa : Addr) (h : Heap) (K : PySem.W.Frag), K.In h → He.SaysD Cm.fa Cm.fn K → h.Ns mainGlobals mg → mg "answers" = some (.ref fa) →
      ∃ (fd : FuncData), (∀ (s : Shared) (us : List Value), us.length = (["calls"] : List PySem.Str).length → BindsTo s fd ⟨us, []⟩ ((["calls"] : List PySem.Str).zip us)) ∧
        ∀ base : Heap, K.In base → base.Ns mainGlobals mg → FnOk Cm.R.prog w K mg base CX0 k fa fd ["calls"] (sp K))
   (hsp : ∀ (K : PySem.W.Frag) (H : Hp) (xs : List V) (a : Codec.denoteAll Cm.R.args), OnlyF H → Codec.withinAll Cm.R.args a = true → Codec.app Cm.R.args Cm.R.asked a = true → DwAll K H xs (Codec.encAll Cm.R.args a) →
      sp K xs H (fun v H' => Dw K H' v (Cm.R.ret.enc (Codec.app Cm.R.args Cm.R.f a))) fun _ _ _ => False) : Cm.R.Holds := by
  refine HandSHeadRun.head_spec (r := Cm.R) (q := Cm.qv) (H := Cm.hkX) (ob := Cm.obX) (M := 4000) (loose := Cm.nms) (d := HandSHeadRun.topDef Cm.R.prog 128) (kwd := []) Cm.obX_eq
    (by kernel_rfl) (fun s => by kernel_rfl) Cm.run (by kernel_rfl) (by kernel_rfl) (by kernel_rfl) os_shapes (by decide +kernel) (by decide +kernel) ⟨rfl, rfl, rfl, rfl, rfl, by decide +kernel⟩ ?hw ?hc
  case hw => exact ⟨[.list [.int 0, .int 12, .int 0, .int 0, .int 1, .int 4, .int 0, .int 0, .int 0, .int 0, .int 0, .int 0, .int 0, .int 0]], by decide +kernel, by decide +kernel⟩
  case hc =>
    refine Cm.walk_specX (r := Cm.R) (k := k) (CX := L2.CX0) (ps := ["calls"]) (sp := sp) (by decide +kernel) (by kernel_rfl) rfl hr ?F hsp (fun _ _ _ _ z => z)
    intro w mg fa h Y G hmg0
    obtain ⟨K, KX, c⟩ := Y
    have hmg : mg ("answers" : PySem.Str) = some (.ref fa) := by
      have e : (HandSHeadRun.topDef Cm.R.prog 128).name = ("answers" : PySem.Str) := by kernel_rfl
      rw [← e]
      exact hmg0
    obtain ⟨fd, h1, h2⟩ := F w mg fa h K KX c G hmg
    exact ⟨K, fd, KX, h1, h2⟩
end PartCmEnd
section PartEnd
set_option Elab.async false
set_option linter.all false
set_option maxRecDepth 100000
set_option maxHeartbeats 4000000
namespace Cm
open PySem PySem.Spec PyProof.Rows L2 Evl
theorem all : Cm.R.Holds := by
  refine Cm.finish (sp := Cm.sp_answers) (k := 73) ⟨rfl, by decide, by decide⟩ ?_ ?_
  · intro w mg fa h K hK hS hN hmg
    have T0 : Tx K mg h := ⟨hS, hK, hN⟩
    obtain ⟨f, fd, hm, F⟩ := (at_answers T0).ex
    have e : f = fa := by
      have q := hm.symm.trans hmg
      cases q
      rfl
    subst e
    refine ⟨fd, ?_, fun base hKb hNb => fn_answers ⟨hS, hKb, hNb⟩ F⟩
    obtain ⟨oc, od, dV, kV, doc, pm, an, cdv, ct, osl, rfl, lk, hcd, hD, hK2⟩ := F.ex
    rcases hD with ⟨_, rfl⟩ | ⟨e, _⟩
    · exact fun s us hu => match us, hu with | [_], _ => .of_eq rfl
    · exact absurd rfl e
  · intro K H xs a hO hwi hask hx
    cases hx with
    | cons h1 h2 =>
      cases h2
      cases h1 with
      | lst hs ha =>
        have e := L2.ints_dw a.1 _ ha
        subst e
        have q : ((PySem.W.Codec.inLen 0 61000 a.1 && a.1.all (PySem.W.Codec.inInt 0 65535)) && true) = true := hwi
        rw [Bool.and_eq_true, Bool.and_eq_true] at q
        exact ⟨_, a.1, rfl, hs, (PySem.W.Codec.inNat_iff.mp q.1.1).2, hask, fun u H' hp => .lst (L2.SqL.of hp) (L2.dw_ints _)⟩
end Cm
end PartEnd
theorem PySem.Challenge.cw_cutmapsworks_s01_answers_holds : PySem.Challenge.rw_cutmapsworks_s01_answers.Holds := by
  exact Cm.all
