import PyProof.Rows.All
import HandS.Comp
import HandS.Defaults
import HandS.Dict
import HandS.DictEq
import HandS.ExcOwn
import HandS.Flt
import HandS.ForSpec
import HandS.Head0
import HandS.Head1
import HandS.Head2
import HandS.Head3
import HandS.Head4
import HandS.HeadHook2
import HandS.Iter
import HandS.List
import HandS.Spec
import HandS.Text
import HandS.Walk
import KE.KDictCopyH
import KE.KDictKeyed
import KE.KDictSum
import KE.KDictWalk
import KE.KExcInit
import KE.KStateDown
import KE.OsGo
import KE.SortData
import Open.SpecLaws
import OpenK.AllK
import PyProof.AutoSeq1
import PyProof.EqAt
import PyProof.EqKinds
import PyProof.InstStoreFacts
import PyProof.TupleCall
import Wide.All
import Wide.FinOn
import PySem.Challenge.RW_formulabook_s01_answers
set_option linter.all false
section
set_option Elab.async false
set_option maxRecDepth 100000
set_option maxHeartbeats 4000000
namespace Fb
open PySem PySem.Spec PyProof.Rows L2
/-! ### the text by places -/
def top (i : Nat) : Stmt := PySem.Challenge.pw_formulabook_s01_answers.main.body.getD i (.Pass ⟨0, 0, 0, 0⟩)
abbrev s_Reader_init : Stmt := inClass (top 1) 0
abbrev s_Reader_more : Stmt := inClass (top 1) 1
abbrev s_Reader_number : Stmt := inClass (top 1) 2
abbrev s_Reader_row : Stmt := inClass (top 1) 3
abbrev s_Refusal_init : Stmt := inClass (top 3) 0
abbrev s_refuse_if : Stmt := top 4
abbrev s_refuse_at : Stmt := top 5
abbrev s_thing : Stmt := top 12
abbrev s_is_thing : Stmt := top 13
abbrev s_said : Stmt := top 14
abbrev s_has_thing : Stmt := top 15
abbrev s_things_of : Stmt := top 16
abbrev s_accords_of : Stmt := top 17
abbrev s_parts_of : Stmt := top 18
abbrev s_standing_in : Stmt := top 19
abbrev s_parts_are_known : Stmt := top 20
abbrev s_is_right : Stmt := top 21
abbrev s_renamed : Stmt := top 22
abbrev s_without_thing : Stmt := top 23
abbrev s_users_of : Stmt := top 24
abbrev s_first_ready : Stmt := top 25
abbrev s_told_order : Stmt := top 26
abbrev s_byte_at : Stmt := top 39
abbrev s_is_letter : Stmt := top 40
abbrev s_is_digit : Stmt := top 41
abbrev s_is_name_byte : Stmt := top 42
abbrev s_is_name : Stmt := top 43
abbrev s_refuse_here : Stmt := top 44
abbrev s_expect : Stmt := top 45
abbrev s_expect_word : Stmt := top 46
abbrev s_name_end : Stmt := top 47
abbrev s_digits_end : Stmt := top 48
abbrev s_number_of : Stmt := top 49
abbrev s_whole_end : Stmt := top 50
abbrev s_amount_of : Stmt := top 51
abbrev s_amount_bytes : Stmt := top 52
abbrev s_Line_init : Stmt := inClass (top 56) 0
abbrev s_remark_end : Stmt := top 57
abbrev s_thing_line : Stmt := top 58
abbrev s_part_line : Stmt := top 59
abbrev s_lines_of : Stmt := top 60
abbrev s_first_repeated_booktexts : Stmt := top 61
abbrev s_first_unknown : Stmt := top 63
abbrev s_first_without_parts : Stmt := top 64
abbrev s_first_in_itself : Stmt := top 65
abbrev s_first_too_many : Stmt := top 66
abbrev s_read_book : Stmt := top 67
abbrev s_thing_bytes : Stmt := top 68
abbrev s_fact_bytes_booktexts : Stmt := top 69
abbrev s_book_text : Stmt := top 71
abbrev s_parts_text : Stmt := top 72
abbrev s_names_text : Stmt := top 73
abbrev s_ChangeLine_init : Stmt := inClass (top 75) 0
abbrev s_Change_init : Stmt := inClass (top 76) 0
abbrev s_is_word : Stmt := top 77
abbrev s_change_line : Stmt := top 78
abbrev s_change_lines : Stmt := top 79
abbrev s_first_repeated_changes : Stmt := top 80
abbrev s_read_change : Stmt := top 82
abbrev s_change_of : Stmt := top 83
abbrev s_fits : Stmt := top 84
abbrev s_first_unfit : Stmt := top 85
abbrev s_changed : Stmt := top 86
abbrev s_turned : Stmt := top 87
abbrev s_difference : Stmt := top 88
abbrev s_fact_bytes_changes : Stmt := top 89
abbrev s_subjects_of : Stmt := top 91
abbrev s_change_text : Stmt := top 92
abbrev s_contradict : Stmt := top 94
abbrev s_contradictions : Stmt := top 95
abbrev s_merged_saying : Stmt := top 96
abbrev s_merged : Stmt := top 97
abbrev s_subjects_text : Stmt := top 98
abbrev s_refuse_long : Stmt := top 102
abbrev s_refuse_below : Stmt := top 103
abbrev s_refuse_no_name : Stmt := top 104
abbrev s_call_judge : Stmt := top 105
abbrev s_call_invert : Stmt := top 106
abbrev s_Shelf_init : Stmt := inClass (top 107) 0
abbrev s_Shelf_version : Stmt := inClass (top 107) 1
abbrev s_Shelf_version_with : Stmt := inClass (top 107) 2
abbrev s_Shelf_keep : Stmt := inClass (top 107) 3
abbrev s_Shelf_keep_if_right : Stmt := inClass (top 107) 4
abbrev s_Shelf_call_read : Stmt := inClass (top 107) 5
abbrev s_Shelf_call_text : Stmt := inClass (top 107) 6
abbrev s_Shelf_call_count : Stmt := inClass (top 107) 7
abbrev s_Shelf_call_same : Stmt := inClass (top 107) 8
abbrev s_Shelf_call_diff : Stmt := inClass (top 107) 9
abbrev s_Shelf_call_apply : Stmt := inClass (top 107) 10
abbrev s_Shelf_call_merge : Stmt := inClass (top 107) 11
abbrev s_Shelf_call_rename : Stmt := inClass (top 107) 12
abbrev s_Shelf_call_drop : Stmt := inClass (top 107) 13
abbrev s_Shelf_call_parts : Stmt := inClass (top 107) 14
abbrev s_Shelf_call_users : Stmt := inClass (top 107) 15
abbrev s_Shelf_call_order : Stmt := inClass (top 107) 16
abbrev s_call_of_texts : Stmt := top 111
abbrev s_call_of_names : Stmt := top 112
abbrev s_call_of_versions : Stmt := top 113
abbrev s_do_call : Stmt := top 114
abbrev s_next_answer : Stmt := top 115
abbrev s_answers : Stmt := top 116
def d_Reader_init : He.DefD := ⟨("Reader", some "__init__"), "__init__", "Reader.__init__", defArgs s_Reader_init, defBody s_Reader_init, defScope s_Reader_init, [], []⟩
def d_Reader_more : He.DefD := ⟨("Reader", some "more"), "more", "Reader.more", defArgs s_Reader_more, defBody s_Reader_more, defScope s_Reader_more, [], []⟩
def d_Reader_number : He.DefD := ⟨("Reader", some "number"), "number", "Reader.number", defArgs s_Reader_number, defBody s_Reader_number, defScope s_Reader_number, [], []⟩
def d_Reader_row : He.DefD := ⟨("Reader", some "row"), "row", "Reader.row", defArgs s_Reader_row, defBody s_Reader_row, defScope s_Reader_row, [], []⟩
def d_Refusal_init : He.DefD := ⟨("Refusal", some "__init__"), "__init__", "Refusal.__init__", defArgs s_Refusal_init, defBody s_Refusal_init, defScope s_Refusal_init, [], []⟩
def d_refuse_if : He.DefD := ⟨("refuse_if", none), "refuse_if", "refuse_if", defArgs s_refuse_if, defBody s_refuse_if, defScope s_refuse_if, [], []⟩
def d_refuse_at : He.DefD := ⟨("refuse_at", none), "refuse_at", "refuse_at", defArgs s_refuse_at, defBody s_refuse_at, defScope s_refuse_at, [], []⟩
def d_thing : He.DefD := ⟨("thing", none), "thing", "thing", defArgs s_thing, defBody s_thing, defScope s_thing, [], []⟩
def d_is_thing : He.DefD := ⟨("is_thing", none), "is_thing", "is_thing", defArgs s_is_thing, defBody s_is_thing, defScope s_is_thing, [], []⟩
def d_said : He.DefD := ⟨("said", none), "said", "said", defArgs s_said, defBody s_said, defScope s_said, [], []⟩
def d_has_thing : He.DefD := ⟨("has_thing", none), "has_thing", "has_thing", defArgs s_has_thing, defBody s_has_thing, defScope s_has_thing, [], []⟩
def d_things_of : He.DefD := ⟨("things_of", none), "things_of", "things_of", defArgs s_things_of, defBody s_things_of, defScope s_things_of, [], []⟩
def d_accords_of : He.DefD := ⟨("accords_of", none), "accords_of", "accords_of", defArgs s_accords_of, defBody s_accords_of, defScope s_accords_of, [], []⟩
def d_parts_of : He.DefD := ⟨("parts_of", none), "parts_of", "parts_of", defArgs s_parts_of, defBody s_parts_of, defScope s_parts_of, [], []⟩
def d_standing_in : He.DefD := ⟨("standing_in", none), "standing_in", "standing_in", defArgs s_standing_in, defBody s_standing_in, defScope s_standing_in, [], []⟩
def d_parts_are_known : He.DefD := ⟨("parts_are_known", none), "parts_are_known", "parts_are_known", defArgs s_parts_are_known, defBody s_parts_are_known, defScope s_parts_are_known, [], []⟩
def d_is_right : He.DefD := ⟨("is_right", none), "is_right", "is_right", defArgs s_is_right, defBody s_is_right, defScope s_is_right, [], []⟩
def d_renamed : He.DefD := ⟨("renamed", none), "renamed", "renamed", defArgs s_renamed, defBody s_renamed, defScope s_renamed, [], []⟩
def d_without_thing : He.DefD := ⟨("without_thing", none), "without_thing", "without_thing", defArgs s_without_thing, defBody s_without_thing, defScope s_without_thing, [], []⟩
def d_users_of : He.DefD := ⟨("users_of", none), "users_of", "users_of", defArgs s_users_of, defBody s_users_of, defScope s_users_of, [], []⟩
def d_first_ready : He.DefD := ⟨("first_ready", none), "first_ready", "first_ready", defArgs s_first_ready, defBody s_first_ready, defScope s_first_ready, [], []⟩
def d_told_order : He.DefD := ⟨("told_order", none), "told_order", "told_order", defArgs s_told_order, defBody s_told_order, defScope s_told_order, [], []⟩
def d_byte_at : He.DefD := ⟨("byte_at", none), "byte_at", "byte_at", defArgs s_byte_at, defBody s_byte_at, defScope s_byte_at, [], []⟩
def d_is_letter : He.DefD := ⟨("is_letter", none), "is_letter", "is_letter", defArgs s_is_letter, defBody s_is_letter, defScope s_is_letter, [], []⟩
def d_is_digit : He.DefD := ⟨("is_digit", none), "is_digit", "is_digit", defArgs s_is_digit, defBody s_is_digit, defScope s_is_digit, [], []⟩
def d_is_name_byte : He.DefD := ⟨("is_name_byte", none), "is_name_byte", "is_name_byte", defArgs s_is_name_byte, defBody s_is_name_byte, defScope s_is_name_byte, [], []⟩
def d_is_name : He.DefD := ⟨("is_name", none), "is_name", "is_name", defArgs s_is_name, defBody s_is_name, defScope s_is_name, [], []⟩
def d_refuse_here : He.DefD := ⟨("refuse_here", none), "refuse_here", "refuse_here", defArgs s_refuse_here, defBody s_refuse_here, defScope s_refuse_here, [], []⟩
def d_expect : He.DefD := ⟨("expect", none), "expect", "expect", defArgs s_expect, defBody s_expect, defScope s_expect, [], []⟩
def d_expect_word : He.DefD := ⟨("expect_word", none), "expect_word", "expect_word", defArgs s_expect_word, defBody s_expect_word, defScope s_expect_word, [], []⟩
def d_name_end : He.DefD := ⟨("name_end", none), "name_end", "name_end", defArgs s_name_end, defBody s_name_end, defScope s_name_end, [], []⟩
def d_digits_end : He.DefD := ⟨("digits_end", none), "digits_end", "digits_end", defArgs s_digits_end, defBody s_digits_end, defScope s_digits_end, [], []⟩
def d_number_of : He.DefD := ⟨("number_of", none), "number_of", "number_of", defArgs s_number_of, defBody s_number_of, defScope s_number_of, [], []⟩
def d_whole_end : He.DefD := ⟨("whole_end", none), "whole_end", "whole_end", defArgs s_whole_end, defBody s_whole_end, defScope s_whole_end, [], []⟩
def d_amount_of : He.DefD := ⟨("amount_of", none), "amount_of", "amount_of", defArgs s_amount_of, defBody s_amount_of, defScope s_amount_of, [], []⟩
def d_amount_bytes : He.DefD := ⟨("amount_bytes", none), "amount_bytes", "amount_bytes", defArgs s_amount_bytes, defBody s_amount_bytes, defScope s_amount_bytes, [], []⟩
def d_Line_init : He.DefD := ⟨("Line", some "__init__"), "__init__", "Line.__init__", defArgs s_Line_init, defBody s_Line_init, defScope s_Line_init, [], []⟩
def d_remark_end : He.DefD := ⟨("remark_end", none), "remark_end", "remark_end", defArgs s_remark_end, defBody s_remark_end, defScope s_remark_end, [], []⟩
def d_thing_line : He.DefD := ⟨("thing_line", none), "thing_line", "thing_line", defArgs s_thing_line, defBody s_thing_line, defScope s_thing_line, [], []⟩
def d_part_line : He.DefD := ⟨("part_line", none), "part_line", "part_line", defArgs s_part_line, defBody s_part_line, defScope s_part_line, [], []⟩
def d_lines_of : He.DefD := ⟨("lines_of", none), "lines_of", "lines_of", defArgs s_lines_of, defBody s_lines_of, defScope s_lines_of, [], []⟩
def d_first_repeated_booktexts : He.DefD := ⟨("first_repeated_booktexts", none), "first_repeated", "first_repeated", defArgs s_first_repeated_booktexts, defBody s_first_repeated_booktexts, defScope s_first_repeated_booktexts, [], []⟩
def d_first_unknown : He.DefD := ⟨("first_unknown", none), "first_unknown", "first_unknown", defArgs s_first_unknown, defBody s_first_unknown, defScope s_first_unknown, [], []⟩
def d_first_without_parts : He.DefD := ⟨("first_without_parts", none), "first_without_parts", "first_without_parts", defArgs s_first_without_parts, defBody s_first_without_parts, defScope s_first_without_parts, [], []⟩
def d_first_in_itself : He.DefD := ⟨("first_in_itself", none), "first_in_itself", "first_in_itself", defArgs s_first_in_itself, defBody s_first_in_itself, defScope s_first_in_itself, [], []⟩
def d_first_too_many : He.DefD := ⟨("first_too_many", none), "first_too_many", "first_too_many", defArgs s_first_too_many, defBody s_first_too_many, defScope s_first_too_many, [], []⟩
def d_read_book : He.DefD := ⟨("read_book", none), "read_book", "read_book", defArgs s_read_book, defBody s_read_book, defScope s_read_book, [], []⟩
def d_thing_bytes : He.DefD := ⟨("thing_bytes", none), "thing_bytes", "thing_bytes", defArgs s_thing_bytes, defBody s_thing_bytes, defScope s_thing_bytes, [], []⟩
def d_fact_bytes_booktexts : He.DefD := ⟨("fact_bytes_booktexts", none), "fact_bytes", "fact_bytes", defArgs s_fact_bytes_booktexts, defBody s_fact_bytes_booktexts, defScope s_fact_bytes_booktexts, [], []⟩
def d_book_text : He.DefD := ⟨("book_text", none), "book_text", "book_text", defArgs s_book_text, defBody s_book_text, defScope s_book_text, [], []⟩
def d_parts_text : He.DefD := ⟨("parts_text", none), "parts_text", "parts_text", defArgs s_parts_text, defBody s_parts_text, defScope s_parts_text, [], []⟩
def d_names_text : He.DefD := ⟨("names_text", none), "names_text", "names_text", defArgs s_names_text, defBody s_names_text, defScope s_names_text, [], []⟩
def d_ChangeLine_init : He.DefD := ⟨("ChangeLine", some "__init__"), "__init__", "ChangeLine.__init__", defArgs s_ChangeLine_init, defBody s_ChangeLine_init, defScope s_ChangeLine_init, [], []⟩
def d_Change_init : He.DefD := ⟨("Change", some "__init__"), "__init__", "Change.__init__", defArgs s_Change_init, defBody s_Change_init, defScope s_Change_init, [], []⟩
def d_is_word : He.DefD := ⟨("is_word", none), "is_word", "is_word", defArgs s_is_word, defBody s_is_word, defScope s_is_word, [], []⟩
def d_change_line : He.DefD := ⟨("change_line", none), "change_line", "change_line", defArgs s_change_line, defBody s_change_line, defScope s_change_line, [], []⟩
def d_change_lines : He.DefD := ⟨("change_lines", none), "change_lines", "change_lines", defArgs s_change_lines, defBody s_change_lines, defScope s_change_lines, [], []⟩
def d_first_repeated_changes : He.DefD := ⟨("first_repeated_changes", none), "first_repeated", "first_repeated", defArgs s_first_repeated_changes, defBody s_first_repeated_changes, defScope s_first_repeated_changes, [], []⟩
def d_read_change : He.DefD := ⟨("read_change", none), "read_change", "read_change", defArgs s_read_change, defBody s_read_change, defScope s_read_change, [], []⟩
def d_change_of : He.DefD := ⟨("change_of", none), "change_of", "change_of", defArgs s_change_of, defBody s_change_of, defScope s_change_of, [], []⟩
def d_fits : He.DefD := ⟨("fits", none), "fits", "fits", defArgs s_fits, defBody s_fits, defScope s_fits, [], []⟩
def d_first_unfit : He.DefD := ⟨("first_unfit", none), "first_unfit", "first_unfit", defArgs s_first_unfit, defBody s_first_unfit, defScope s_first_unfit, [], []⟩
def d_changed : He.DefD := ⟨("changed", none), "changed", "changed", defArgs s_changed, defBody s_changed, defScope s_changed, [], []⟩
def d_turned : He.DefD := ⟨("turned", none), "turned", "turned", defArgs s_turned, defBody s_turned, defScope s_turned, [], []⟩
def d_difference : He.DefD := ⟨("difference", none), "difference", "difference", defArgs s_difference, defBody s_difference, defScope s_difference, [], []⟩
def d_fact_bytes_changes : He.DefD := ⟨("fact_bytes_changes", none), "fact_bytes", "fact_bytes", defArgs s_fact_bytes_changes, defBody s_fact_bytes_changes, defScope s_fact_bytes_changes, [], []⟩
def d_subjects_of : He.DefD := ⟨("subjects_of", none), "subjects_of", "subjects_of", defArgs s_subjects_of, defBody s_subjects_of, defScope s_subjects_of, [], []⟩
def d_change_text : He.DefD := ⟨("change_text", none), "change_text", "change_text", defArgs s_change_text, defBody s_change_text, defScope s_change_text, [], []⟩
def d_contradict : He.DefD := ⟨("contradict", none), "contradict", "contradict", defArgs s_contradict, defBody s_contradict, defScope s_contradict, [], []⟩
def d_contradictions : He.DefD := ⟨("contradictions", none), "contradictions", "contradictions", defArgs s_contradictions, defBody s_contradictions, defScope s_contradictions, [], []⟩
def d_merged_saying : He.DefD := ⟨("merged_saying", none), "merged_saying", "merged_saying", defArgs s_merged_saying, defBody s_merged_saying, defScope s_merged_saying, [], []⟩
def d_merged : He.DefD := ⟨("merged", none), "merged", "merged", defArgs s_merged, defBody s_merged, defScope s_merged, [], []⟩
def d_subjects_text : He.DefD := ⟨("subjects_text", none), "subjects_text", "subjects_text", defArgs s_subjects_text, defBody s_subjects_text, defScope s_subjects_text, [], []⟩
def d_refuse_long : He.DefD := ⟨("refuse_long", none), "refuse_long", "refuse_long", defArgs s_refuse_long, defBody s_refuse_long, defScope s_refuse_long, [], []⟩
def d_refuse_below : He.DefD := ⟨("refuse_below", none), "refuse_below", "refuse_below", defArgs s_refuse_below, defBody s_refuse_below, defScope s_refuse_below, [], []⟩
def d_refuse_no_name : He.DefD := ⟨("refuse_no_name", none), "refuse_no_name", "refuse_no_name", defArgs s_refuse_no_name, defBody s_refuse_no_name, defScope s_refuse_no_name, [], []⟩
def d_call_judge : He.DefD := ⟨("call_judge", none), "call_judge", "call_judge", defArgs s_call_judge, defBody s_call_judge, defScope s_call_judge, [], []⟩
def d_call_invert : He.DefD := ⟨("call_invert", none), "call_invert", "call_invert", defArgs s_call_invert, defBody s_call_invert, defScope s_call_invert, [], []⟩
def d_Shelf_init : He.DefD := ⟨("Shelf", some "__init__"), "__init__", "Shelf.__init__", defArgs s_Shelf_init, defBody s_Shelf_init, defScope s_Shelf_init, [], []⟩
def d_Shelf_version : He.DefD := ⟨("Shelf", some "version"), "version", "Shelf.version", defArgs s_Shelf_version, defBody s_Shelf_version, defScope s_Shelf_version, [], []⟩
def d_Shelf_version_with : He.DefD := ⟨("Shelf", some "version_with"), "version_with", "Shelf.version_with", defArgs s_Shelf_version_with, defBody s_Shelf_version_with, defScope s_Shelf_version_with, [], []⟩
def d_Shelf_keep : He.DefD := ⟨("Shelf", some "keep"), "keep", "Shelf.keep", defArgs s_Shelf_keep, defBody s_Shelf_keep, defScope s_Shelf_keep, [], []⟩
def d_Shelf_keep_if_right : He.DefD := ⟨("Shelf", some "keep_if_right"), "keep_if_right", "Shelf.keep_if_right", defArgs s_Shelf_keep_if_right, defBody s_Shelf_keep_if_right, defScope s_Shelf_keep_if_right, [], []⟩
def d_Shelf_call_read : He.DefD := ⟨("Shelf", some "call_read"), "call_read", "Shelf.call_read", defArgs s_Shelf_call_read, defBody s_Shelf_call_read, defScope s_Shelf_call_read, [], []⟩
def d_Shelf_call_text : He.DefD := ⟨("Shelf", some "call_text"), "call_text", "Shelf.call_text", defArgs s_Shelf_call_text, defBody s_Shelf_call_text, defScope s_Shelf_call_text, [], []⟩
def d_Shelf_call_count : He.DefD := ⟨("Shelf", some "call_count"), "call_count", "Shelf.call_count", defArgs s_Shelf_call_count, defBody s_Shelf_call_count, defScope s_Shelf_call_count, [], []⟩
def d_Shelf_call_same : He.DefD := ⟨("Shelf", some "call_same"), "call_same", "Shelf.call_same", defArgs s_Shelf_call_same, defBody s_Shelf_call_same, defScope s_Shelf_call_same, [], []⟩
def d_Shelf_call_diff : He.DefD := ⟨("Shelf", some "call_diff"), "call_diff", "Shelf.call_diff", defArgs s_Shelf_call_diff, defBody s_Shelf_call_diff, defScope s_Shelf_call_diff, [], []⟩
def d_Shelf_call_apply : He.DefD := ⟨("Shelf", some "call_apply"), "call_apply", "Shelf.call_apply", defArgs s_Shelf_call_apply, defBody s_Shelf_call_apply, defScope s_Shelf_call_apply, [], []⟩
def d_Shelf_call_merge : He.DefD := ⟨("Shelf", some "call_merge"), "call_merge", "Shelf.call_merge", defArgs s_Shelf_call_merge, defBody s_Shelf_call_merge, defScope s_Shelf_call_merge, [], []⟩
def d_Shelf_call_rename : He.DefD := ⟨("Shelf", some "call_rename"), "call_rename", "Shelf.call_rename", defArgs s_Shelf_call_rename, defBody s_Shelf_call_rename, defScope s_Shelf_call_rename, [], []⟩
def d_Shelf_call_drop : He.DefD := ⟨("Shelf", some "call_drop"), "call_drop", "Shelf.call_drop", defArgs s_Shelf_call_drop, defBody s_Shelf_call_drop, defScope s_Shelf_call_drop, [], []⟩
def d_Shelf_call_parts : He.DefD := ⟨("Shelf", some "call_parts"), "call_parts", "Shelf.call_parts", defArgs s_Shelf_call_parts, defBody s_Shelf_call_parts, defScope s_Shelf_call_parts, [], []⟩
def d_Shelf_call_users : He.DefD := ⟨("Shelf", some "call_users"), "call_users", "Shelf.call_users", defArgs s_Shelf_call_users, defBody s_Shelf_call_users, defScope s_Shelf_call_users, [], []⟩
def d_Shelf_call_order : He.DefD := ⟨("Shelf", some "call_order"), "call_order", "Shelf.call_order", defArgs s_Shelf_call_order, defBody s_Shelf_call_order, defScope s_Shelf_call_order, [], []⟩
def d_call_of_texts : He.DefD := ⟨("call_of_texts", none), "call_of_texts", "call_of_texts", defArgs s_call_of_texts, defBody s_call_of_texts, defScope s_call_of_texts, [], []⟩
def d_call_of_names : He.DefD := ⟨("call_of_names", none), "call_of_names", "call_of_names", defArgs s_call_of_names, defBody s_call_of_names, defScope s_call_of_names, [], []⟩
def d_call_of_versions : He.DefD := ⟨("call_of_versions", none), "call_of_versions", "call_of_versions", defArgs s_call_of_versions, defBody s_call_of_versions, defScope s_call_of_versions, [], []⟩
def d_do_call : He.DefD := ⟨("do_call", none), "do_call", "do_call", defArgs s_do_call, defBody s_do_call, defScope s_do_call, [], []⟩
def d_next_answer : He.DefD := ⟨("next_answer", none), "next_answer", "next_answer", defArgs s_next_answer, defBody s_next_answer, defScope s_next_answer, [], []⟩
def d_answers : He.DefD := ⟨("answers", none), "answers", "answers", defArgs s_answers, defBody s_answers, defScope s_answers, [], []⟩
def fnL : List He.DefD := [d_Reader_init, d_Reader_more, d_Reader_number, d_Reader_row, d_Refusal_init, d_refuse_if, d_refuse_at, d_thing, d_is_thing, d_said, d_has_thing, d_things_of, d_accords_of, d_parts_of, d_standing_in, d_parts_are_known, d_is_right, d_renamed, d_without_thing, d_users_of, d_first_ready, d_told_order, d_byte_at, d_is_letter, d_is_digit, d_is_name_byte, d_is_name, d_refuse_here, d_expect, d_expect_word, d_name_end, d_digits_end, d_number_of, d_whole_end, d_amount_of, d_amount_bytes, d_Line_init, d_remark_end, d_thing_line, d_part_line, d_lines_of, d_first_repeated_booktexts, d_first_unknown, d_first_without_parts, d_first_in_itself, d_first_too_many, d_read_book, d_thing_bytes, d_fact_bytes_booktexts, d_book_text, d_parts_text, d_names_text, d_ChangeLine_init, d_Change_init, d_is_word, d_change_line, d_change_lines, d_first_repeated_changes, d_read_change, d_change_of, d_fits, d_first_unfit, d_changed, d_turned, d_difference, d_fact_bytes_changes, d_subjects_of, d_change_text, d_contradict, d_contradictions, d_merged_saying, d_merged, d_subjects_text, d_refuse_long, d_refuse_below, d_refuse_no_name, d_call_judge, d_call_invert, d_Shelf_init, d_Shelf_version, d_Shelf_version_with, d_Shelf_keep, d_Shelf_keep_if_right, d_Shelf_call_read, d_Shelf_call_text, d_Shelf_call_count, d_Shelf_call_same, d_Shelf_call_diff, d_Shelf_call_apply, d_Shelf_call_merge, d_Shelf_call_rename, d_Shelf_call_drop, d_Shelf_call_parts, d_Shelf_call_users, d_Shelf_call_order, d_call_of_texts, d_call_of_names, d_call_of_versions, d_do_call, d_next_answer, d_answers]
def faL : List He.Fa := [.glo "refuse_if", .glo "refuse_at", .glo "thing", .glo "is_thing", .glo "said", .glo "has_thing", .glo "things_of", .glo "accords_of", .glo "parts_of", .glo "standing_in", .glo "parts_are_known", .glo "is_right", .glo "renamed", .glo "without_thing", .glo "users_of", .glo "first_ready", .glo "told_order", .glo "byte_at", .glo "is_letter", .glo "is_digit", .glo "is_name_byte", .glo "is_name", .glo "refuse_here", .glo "expect", .glo "expect_word", .glo "name_end", .glo "digits_end", .glo "number_of", .glo "whole_end", .glo "amount_of", .glo "amount_bytes", .glo "remark_end", .glo "thing_line", .glo "part_line", .glo "lines_of", .glo "first_repeated_booktexts", .glo "first_unknown", .glo "first_without_parts", .glo "first_in_itself", .glo "first_too_many", .glo "read_book", .glo "thing_bytes", .glo "fact_bytes_booktexts", .glo "book_text", .glo "parts_text", .glo "names_text", .glo "is_word", .glo "change_line", .glo "change_lines", .glo "first_repeated_changes", .glo "read_change", .glo "change_of", .glo "fits", .glo "first_unfit", .glo "changed", .glo "turned", .glo "difference", .glo "fact_bytes_changes", .glo "subjects_of", .glo "change_text", .glo "contradict", .glo "contradictions", .glo "merged_saying", .glo "merged", .glo "subjects_text", .glo "refuse_long", .glo "refuse_below", .glo "refuse_no_name", .glo "call_judge", .glo "call_invert", .glo "call_of_texts", .glo "call_of_names", .glo "call_of_versions", .glo "do_call", .glo "next_answer", .glo "answers", .free "len", .free "range", .free "sorted", .free "list", .free "tuple", .free "min", .free "ord", .free "str", .free "all", .free "Exception", .int "NOTHING" (0), .int "MATERIAL" (-1), .int "ACCORD" (-2), .int "MOST_THINGS" (40), .int "MOST_PARTS" (12), .int "LINE_END" (10), .int "BLANK" (32), .int "REMARK" (35), .int "PLUS" (43), .int "MINUS" (45), .int "POINT" (46), .int "NOUGHT" (48), .int "MOST_NAME" (16), .int "MOST_WHOLE" (6), .int "MOST_BEHIND" (3), .int "MOST_VERSIONS" (12), .int "MOST_BYTES" (4000), .str "MATERIAL_WORD" "material", .str "ACCORD_WORD" "accord", .glo "Reader", .cls "Reader", .mkr "Reader", .noat "Reader" "calls", .noat "Reader" "at", .meth "Reader" "more", .meth "Reader" "number", .meth "Reader" "row", .glo "Refusal", .glo "Line", .cls "Line", .mkr "Line", .noat "Line" "subject", .noat "Line" "told", .noat "Line" "place", .glo "ChangeLine", .cls "ChangeLine", .mkr "ChangeLine", .noat "ChangeLine" "comes", .noat "ChangeLine" "subject", .noat "ChangeLine" "told", .noat "ChangeLine" "place", .glo "Change", .cls "Change", .mkr "Change", .noat "Change" "going", .noat "Change" "coming", .glo "Shelf", .cls "Shelf", .mkr "Shelf", .noat "Shelf" "versions", .meth "Shelf" "version", .meth "Shelf" "version_with", .meth "Shelf" "keep", .meth "Shelf" "keep_if_right", .meth "Shelf" "call_read", .meth "Shelf" "call_text", .meth "Shelf" "call_count", .meth "Shelf" "call_same", .meth "Shelf" "call_diff", .meth "Shelf" "call_apply", .meth "Shelf" "call_merge", .meth "Shelf" "call_rename", .meth "Shelf" "call_drop", .meth "Shelf" "call_parts", .meth "Shelf" "call_users", .meth "Shelf" "call_order", .glo "SCALES", .glo "NUMBERS", .glo "ROWS"]
end Fb
end
section
set_option Elab.async false
set_option maxRecDepth 100000
set_option maxHeartbeats 2000000
/-! the head's facts by a Hook of our own: the objects that the module's names reach, step by step, without striking out what comes twice; any test of them beside the defs -/
namespace Fb
open PySem PySem.Spec PyProof.Rows L2
def nxA (g : Addr → Option Obj) (as : List Addr) : List Addr := as.flatMap fun a => match g a with
  | some o => He.refsD o
  | none => []
def asF (g : Addr → Option Obj) : List Addr := let l1 := nxA g [mainGlobals]; let l2 := nxA g l1; let l3 := nxA g l2; let l4 := nxA g l3; mainGlobals :: (l1 ++ (l2 ++ (l3 ++ l4)))
def obsF (chk : PySem.W.Frag → Bool) (fn : List He.DefD) (K : PySem.W.Frag) : He.AlD := (chk K && fn.all fun d => d.ok K, fn.map fun d => He.fnW K d.at_)
def SaysF (chk : PySem.W.Frag → Bool) (fn : List He.DefD) (K : PySem.W.Frag) : Prop := obsF chk fn K = He.valD fn
def obsFG (chk : PySem.W.Frag → Bool) (fn : List He.DefD) (g : Addr → Option Obj) : He.AlD := obsF chk fn (He.frG g (asF g))
def hookF (chk : PySem.W.Frag → Bool) (fn : List He.DefD) : PySem.W.Hook where
  α := He.AlD
  obs := fun s => obsFG chk fn s.heap.get?
  val := fun _ => He.valD fn
  says := fun _ h => ∃ K : PySem.W.Frag, K.In h ∧ SaysF chk fn K
  of := fun _ _ e => ⟨_, He.frG_in, e⟩
  keeps := fun _ _ _ ⟨K, hK, c⟩ k => ⟨K, PySem.W.Frag.In.keeps hK k, c⟩
theorem obsFG_eq {chk : PySem.W.Frag → Bool} {fn : List He.DefD} {g : Addr → Option Obj} {s : Shared} (h : ∀ a, g a = s.heap.get? a) : obsFG chk fn g = (hookF chk fn).obs s := by
  have e : g = s.heap.get? := funext h
  rw [e] <;> rfl
section
variable {chk : PySem.W.Frag → Bool} {fn : List He.DefD} {K : PySem.W.Frag}
theorem SaysF.chkd (c : SaysF chk fn K) : chk K = true := (He.ba (show (chk K && fn.all fun d => d.ok K) = true from congrArg (fun z : He.AlD => z.1) c)).1
theorem SaysF.fun_ (c : SaysF chk fn K) (i : Nat) {d : He.DefD} (h : fn[i]? = some d := by rfl) : ∃ fd, FunD K d.name d.qual d.params d.body d.scope (d.dvs K) (d.kws K) (He.fAd K d.at_) fd := by
  have c2 := (He.ba (show (chk K && fn.all fun d => d.ok K) = true from congrArg (fun z : He.AlD => z.1) c)).2
  have e : fn.map (fun d => He.fnW K d.at_) = fn.map He.DefD.val := congrArg (fun z : He.AlD => z.2) c
  have e2 : (fn.map fun d => He.fnW K d.at_)[i]? = (fn.map He.DefD.val)[i]? := by rw [e]
  rw [List.getElem?_map, List.getElem?_map, h] at e2
  exact He.DefD.funD (Option.some.inj e2) (List.all_eq_true.mp c2 d (List.mem_of_getElem? h))
end
end Fb
end
section
set_option Elab.async false
set_option maxRecDepth 100000
set_option maxHeartbeats 4000000
/-! The program's own error: class Refusal(Exception) with __init__(self, answer): self.answer = answer. After skel/42 (there over ValueError): the same block over Exception. -/
namespace PySem
namespace RefX
open PySem.W PySem.Calls PyProof.Rows PySem.HandSPX
def iA (p1 p2 : Pos) : Arguments := { posonlyargs := [], args := [{ arg := "self", annotation := none, pos := p1 }, { arg := "answer", annotation := none, pos := p2 }], vararg := none, kwonlyargs := [], kw_defaults := [], kwarg := none, defaults := [] }
def iB (q1 q2 q3 q4 : Pos) : List Stmt := [.Assign [.Attribute (.Name "self" q1) "answer" q2] (.Name "answer" q3) q4]
def iS : Scope := { kind := .function, names := [(PySem.Str.ofString "self", .local), (PySem.Str.ofString "answer", .local)], isGenerator := false, isCoroutine := false, more := [] }
abbrev eTail : List Value := [.type "Exception", .type "BaseException", .type "object"]
/-- what the written part says of Refusal, at C, and of its __init__, at fI -/
structure RefTxt (K : Frag) (mg : Str → Option Value) (C fI : Addr) : Prop where
  gC : mg "Refusal" = some (.ref C)
  cls : excInitIn K C eTail "Exception.__new__" = true
  ov : excOver K C eTail = true
  sa : findIn K (.ref C) "__setattr__" = some (some (.builtin "object.__setattr__"))
  ga : findIn K (.ref C) "__getattribute__" = some (some (.builtin "BaseException.__getattribute__"))
  gg : findIn K (.ref C) "__getattr__" = some none
  noN : findIn K (.ref C) "answer" = some none
  iC : findIn K (.ref C) "__init__" = some (some (.ref fI))
  tC : typeIn K (.ref fI) = some (.type "function")
  kC : keepIn K (.ref C) = true
  exC : subIn K (.ref C) (.type "BaseException") = some true
  tyC : typeIn K (.ref C) = some (.type "type")
  hdC : hasDictIn K C = true
  te : exmOne K (.ref C) (.ref C) = some true
  fn : ∃ (oc : Value) (od : Option Addr) (kV doc pm : Value) (an : Option Addr) (cdv ct : Value) (osl : Array (Option Value)) (p1 p2 q1 q2 q3 q4 : Pos),
    K.lookup fI = some ⟨oc, od, .func (fnOf "__init__" "Refusal.__init__" (iA p1 p2) (iB q1 q2 q3 q4) iS .none kV doc pm an cdv ct), osl⟩ ∧ codeIn K cdv "Refusal.__init__" = true
theorem takes_none {K : Frag} {C : Addr} {x : Str} (h : findIn K (.ref C) x = some none) : takerIn K C x = some none := by
  unfold takerIn
  rw [h]
  rfl
theorem fits1 (v : Value) : [v].length ≤ sizeLine := by
  rw [sizeLine_eq]
  exact (by decide : 1 ≤ 16777216)
theorem nm_loc {M : Model} {s : Shared} {name : Str} {scope : Scope} {L a : Addr} {cd : Value} {m : Str → Option Value} {x : Str} {pos : Pos} {v : Value} {Q : Value → Shared → Prop} {A : Around} {E : Value → Shared → Prop} (hn : s.heap.Ns L m) (hv : m x = some v) (h : Q v s)
    (hk : scope.kind = .function := by rfl) (hl : (envOfC name scope L a cd).kindOf x = some .local := by rfl) (hd : (x == ("__debug__" : Str)) = false := by decide) :
    wpAny M A (eval (.Name x pos) (envOfC name scope L a cd)) Q E s := wpAny_Name (wpAny_loadName_local hk hl hn hv h) hd
/-- behind __init__: what has become of the new error at x -/
structure AfterInit (h h' : Heap) (x C dx t1 : Addr) (v : Value) : Prop where
  keep : ∀ b o, b ≠ x → h.get? b = some o → h'.get? b = some o
  obj : h'.get? x = some { cls := .ref C, dict := some dx, data := .fields #[.ref t1, .none, .none, .none, .bool false, .none] }
  dbig : h.objs.size ≤ dx
  dne : dx ≠ x
  ns : h'.Ns1 dx (fun y => if y = "answer" then some v else none)
/-- a Refusal that was made -/
structure Made (h h' : Heap) (e C d : Addr) (v : Value) : Prop where
  keep : ∀ b o, h.get? b = some o → h'.get? b = some o
  new : h.objs.size ≤ e
  obj : ∃ oe vs, h'.get? e = some oe ∧ oe.cls = .ref C ∧ oe.dict = some d ∧ oe.data = .fields vs ∧ vs[1]? = some .none
  dbig : h.objs.size ≤ d
  dne : d ≠ e
  ns : h'.Ns1 d (fun y => if y = "answer" then some v else none)
section
variable {prog : Program} {w : World} {A : Around} {E : Value → Shared → Prop} {R : Result → Shared → Prop} {s : Shared} {K : Frag} {mg : Str → Option Value} {C fI : Addr}
theorem ref_init (T : RefTxt K mg C fI) {x t0 : Addr} {v : Value} (X : K.In s.heap) (hlim : s.heap.NoLimit) (hx : s.heap.get? x = some (excO C t0)) (hroom : A.depth < recursionLimit)
    (hq : ∀ h' tk dx, AfterInit s.heap h' x C dx t0 v → R (.ok (.ret .none)) { s with heap := h', toks := tk }) :
    codeAny (model prog w) A (.call (.ref fI) ⟨[.ref x, v], []⟩) R s := by
  obtain ⟨oc, od, kV, doc, pm, an, cdv, ct, osl, p1, p2, q1, q2, q3, q4, ho, hcd⟩ := T.fn
  refine Att.call_fn (binds := [("self", .ref x), ("answer", v)]) X hlim ho hcd hroom (BindsTo.of_eq (by first | rfl | with_unfolding_all rfl)) (by first | rfl | decide | with_unfolding_all rfl) (fun s₁ IC => ?_) rfl rfl rfl
  obtain ⟨h₁, tk₁, rfl⟩ := IC.toInCall.same
  have k : ∀ b o, s.heap.get? b = some o → h₁.get? b = some o := IC.toInCall.keep
  have hn := IC.toInCall.ns
  have hxL : s.heap.objs.size ≠ x := Nat.ne_of_gt (Heap.lt_size hx)
  have X₁ : K.In h₁ := X.keeps k
  have hx₁ := k _ _ hx
  show wpAny _ _ (execs _ _) _ _ _
  refine wpAny_execs_cons (plainObj_wpAny_Assign_Attribute ?_)
  refine nm_loc (v := v) hn (by first | rfl | with_unfolding_all rfl | kernel_rfl) (nm_loc (v := .ref x) hn (by first | rfl | with_unfolding_all rfl | kernel_rfl) ?_)
  have hlt := Heap.lt_size hx₁
  obtain ⟨cd, hcd1, hcd2⟩ := any_some T.hdC
  refine set_plain X₁ (ox := excO C t0) (od := none) ⟨hx₁, rfl, rfl, trivial⟩ T.sa ?_
  refine osa_openX (od := none) F.store_Exception X₁ ⟨hx₁, rfl, rfl, trivial⟩ T.ov (takes_none T.noN) fun b => ?_
  refine wpAny_bind (wpAny_pure (wpAny_bind (instanceDict_exc (c2 := .none) (t := t0) hx₁ (looks_clsIn X₁ hcd1) hcd2 ?_)))
  have nxs : h₁.objs.size ≠ x := Nat.ne_of_gt hlt
  refine store_in_new ⟨_, #[], _, (Heap.get?_update_ne _ _ _ _ nxs).trans (Heap.get?_push_at rfl rfl), rfl, fun e he => absurd he (by simp), fun _ => rfl⟩ fun h₃ tk₃ hn₃ hs₃ => ?_
  show wpAny _ _ (execs _ _) _ _ _
  have z : s.heap.objs.size < h₁.objs.size := hn.lt
  refine wpAny_execs_nil (hq h₃ tk₃ h₁.objs.size ⟨fun b o hb e => ?_, ?_, Nat.le_of_lt z, nxs, hn₃⟩)
  · have e1 := k b o e
    exact (hs₃.2 b (Nat.ne_of_lt (Heap.lt_size e1))).trans ((Heap.get?_update_ne _ _ _ _ hb).trans (Heap.get?_push_of_some _ e1))
  · exact (hs₃.2 x (Ne.symm nxs)).trans (Heap.get?_update_self _ (Heap.get?_push_of_some _ hx₁) rfl)
theorem ref_made (T : RefTxt K mg C fI) {v : Value} (X : K.In s.heap) (hlim : s.heap.NoLimit) (hroom : A.depth + 1 < recursionLimit)
    (hq : ∀ h' tk e d, Made s.heap h' e C d v → R (.ok (.ret (.ref e))) { s with heap := h', toks := tk }) :
    codeAny (model prog w) A (.call (.ref C) ⟨[v], []⟩) R s := by
  obtain ⟨hp, g, dr, tk, os⟩ := s
  obtain ⟨nm, N, qn, bs, bm, hdct, sn, sub, ab, col, dd, k0, k1, k2, k3, k5, hC, hbm⟩ := excInit_of X T.cls
  have k : ∀ b o, hp.get? b = some o → ((hp.push (kdv_tup [v])).push (excO C hp.objs.size)).get? b = some o := fun b o e => Heap.get?_push_of_some _ (Heap.get?_push_of_some _ e)
  have hget : ((hp.push (kdv_tup [v])).push (excO C hp.objs.size)).get? (hp.objs.size + 1) = some (excO C hp.objs.size) := by heap_get
  refine call_own F.excBase_Exception hbm hC (looks_findIn X T.iC) (fun self => bind_fn X self T.tC) (fits1 v) ?_
  refine ref_init (s := ⟨(hp.push (kdv_tup [v])).push (excO C hp.objs.size), g, dr, tk, os⟩) T (X.keeps k) (hlim.keeps k) hget ?_ fun h' tk' dx ⟨k', hx, dn, dne, hns⟩ => ?_
  · show A.depth + 1 < recursionLimit
    exact hroom
  · have old : ∀ b o, hp.get? b = some o → h'.get? b = some o := fun b o e => k' b o (Nat.ne_of_lt (Nat.lt_succ_of_lt (Heap.lt_size e))) (k b o e)
    have z : hp.objs.size + 1 + 1 ≤ dx := by
      first
        | (simpa only [Heap.size_push] using dn)
        | exact dn
        | (have q := dn; rw [Heap.size_push, Heap.size_push] at q; exact q)
    exact ⟨rfl, hq h' tk' (hp.objs.size + 1) dx ⟨old, Nat.le_succ _, ⟨_, _, hx, rfl, rfl, rfl, rfl⟩, Nat.le_trans (Nat.le_trans (Nat.le_succ _) (Nat.le_succ _)) z, dne, hns⟩⟩
end
end RefX
end PySem
namespace L2
open PySem PySem.Spec PyProof.Rows
theorem relO_ref {v : V} {v' : Value} (r : RelV v v') (f : Str) : RelO (List.lookup f [(("answer" : Str), v)]) (if f = "answer" then some v' else none) := by
  by_cases hw : f = "answer"
  · subst hw
    rw [if_pos rfl]
    have q : List.lookup ("answer" : Str) [(("answer" : Str), v)] = some v := by simp [List.lookup]
    rw [q]
    exact r
  · rw [if_neg hw]
    have qw : (f == ("answer" : Str)) = false := by simpa using hw
    have q2 : List.lookup f [(("answer" : Str), v)] = none := by simp [List.lookup, qw]
    rw [q2]
    trivial
section
variable {X : Cx} {C fI : Addr}
/-- Refusal(e) -/
def tMkRef (C : Addr) (ta : TA) : St → Hp → XK → Prop := fun σ H Q => ta σ H fun vs H1 => ∃ v, vs = [v] ∧ ∀ d, H1 d = none → Q (.ref C) (some d) (upd H1 d (.xd [(("answer" : Str), v)]))
theorem pmk_ref {a : Expr} {ta : TA} {p pos : Pos} {k : Nat} (T : PySem.RefX.RefTxt X.K X.mg C fI) (hr : Room k X.A) (ha : PA X [a] ta) (hg : Gl X "Refusal" := by rfl)
    (he : starEach (a :: []) X.env = (false, eval a X.env) :: starEach [] X.env := by rfl) (hpl : (backTo pos (starEach [] X.env)).any (·.1) = false := by rfl) :
    PMk X (.Call (.Name "Refusal" p) [a] [] pos) (tMkRef C ta) := by
  intro pins s σ H Q I h
  refine wpAny_Call_Name_kw (ld_glob I hg T.gC ?_)
  refine PySem.W.callWith_K (h₀ := X.base) I.ok.mod.kin T.kC (thn (ha.run pos pins s σ H _ I h) fun us s1 hh => ?_) he hpl
  obtain ⟨vs, H1, I1, r1, v, ev, q1⟩ := hh
  subst ev
  refine ⟨I1.kIn, ?_⟩
  cases r1 with
  | cons rv rn =>
    rename_i v' us'
    cases rn
    show wpAny _ _ (call (.ref C) [v']) _ _ _
    have hlim := I1.nolimit
    obtain ⟨hp, g, dr, tk, os⟩ := s1
    refine wpAny_call (PySem.RefX.ref_made T I1.kIn hlim (by have := hr.dp; omega) fun h' tk' e d M => ?_)
    show MkP X pins σ Q (.ref e) ⟨h', g, dr, tk', os⟩
    obtain ⟨oe, fv, hoe, hc, hd, hdat, h1⟩ := M.obj
    have hns := M.ns
    obtain ⟨G', g1, g2⟩ := restrict h' fun b => decide (b ≠ e)
    have gk : ∀ b, b ≠ e → G'.get? b = h'.get? b := fun b hb => g1 b (decide_eq_true hb)
    have ge : G'.get? e = none := g2 e (by simp)
    have old : ∀ b o, hp.get? b = some o → G'.get? b = some o := fun b o q => (gk b (Nat.ne_of_lt (Nat.lt_of_lt_of_le (Heap.lt_size q) M.new))).trans (M.keep b o q)
    have ob : ObjOk X.prog X.w (upd H1 d (.xd [(("answer" : Str), v)])) G' d (.xd [(("answer" : Str), v)]) :=
      ⟨_, hns.at (fun o q => (gk d M.dne).trans q), fun f => relO_ref rv f⟩
    have J : Inv X pins σ (upd H1 d (.xd [(("answer" : Str), v)])) ⟨G', g, dr, tk', os⟩ := I1.laid (t' := tk') old M.dbig ob
    refine ⟨e, oe, fv, ⟨G', g, dr, tk', os⟩, _, .ref C, some d, rfl, J, fun b o q => ?_, ge, hoe, ⟨hc, hd⟩, hdat, h1, ?_, rfl, I1.bare, raises_own T.exC T.tyC, q1 d (I1.hok.fresh M.dbig)⟩
    · by_cases hb : b = e
      · have q' : G'.get? b = some o := q
        rw [hb, ge] at q'; cases q'
      · exact (gk b hb).symm.trans q
    · rw [upd_ne (Ne.symm M.dne)]
      exact I1.hok.fresh M.new
/-- raise Refusal(e) -/
def tRaiseRef (C : Addr) (W : WX) (ta : TA) : TS := fun _ σ H => tMkRef C ta σ H fun cls d H' => W cls d σ H'
theorem ps_raiseRef {a : Expr} {ta : TA} {W : WX} {p pos pos2 : Pos} {k : Nat} (hc : X.calm = true) (T : PySem.RefX.RefTxt X.K X.mg C fI) (hr : Room k X.A) (tk : Takes X W) (ha : PA X [a] ta) (hg : Gl X "Refusal" := by rfl)
    (he : starEach (a :: []) X.env = (false, eval a X.env) :: starEach [] X.env := by rfl) (hpl : (backTo pos (starEach [] X.env)).any (·.1) = false := by rfl) :
    PS X (.Raise (some (.Call (.Name "Refusal" p) [a] [] pos)) none pos2) (tRaiseRef C W ta) := ps_raise hc tk (pmk_ref T hr ha hg he hpl)
/-- e.answer, e the error that the suite holds (at a; its class cls, its dict d) -/
def tByRef (C : Addr) (a : Addr) (cls : Value) (d : Option Addr) (te : TE) : TE := fun σ H Q => te σ H fun x H1 => x = .ref a ∧ cls = .ref C ∧ ∃ (dd : Addr) (v : V), d = some dd ∧ H1 dd = some (.xd [(("answer" : Str), v)]) ∧ Q v H1
theorem pe_byRef {a : Addr} {oe : Obj} {cls : Value} {d : Option Addr} {pn : List (Addr × Obj)} {e : Expr} {te : TE} {pos : Pos} (T : PySem.RefX.RefTxt X.K X.mg C fI) (hz : Zc cls d oe) (hf : ∃ vs, oe.data = .fields vs) (he : PE (X.suite a ((a, oe) :: pn)) e te)
    (hb : attributeBase e "answer" X.env (eval e X.env) = eval e X.env := by rfl) :
    PE (X.suite a ((a, oe) :: pn)) (.Attribute e "answer" pos) (tByRef C a cls d te) := by
  refine ⟨fun pins s σ H Q I h => ?_⟩
  refine attr_of hb (thn (he.run pins s σ H _ I h) fun u s1 hh => ?_)
  obtain ⟨x, H1, I1, rx, ex, ec, dd, v, ed, ea, q⟩ := hh
  subst ex
  obtain rfl : u = Value.ref a := rx
  subst ec
  subst ed
  obtain ⟨ha, _⟩ := I1.pin (a, oe) (List.mem_append_left _ List.mem_cons_self)
  obtain ⟨vs, hd⟩ := hf
  have hx : ObjOk X.prog X.w H1 s1.heap dd (.xd [(("answer" : Str), v)]) := I1.hok dd _ ea
  obtain ⟨mA, hns, hr⟩ := hx
  obtain ⟨od, ho, hl⟩ := lookIn_ns hns
  have l : List.lookup ("answer" : Str) [(("answer" : Str), v)] = some v := by simp [List.lookup]
  obtain ⟨u, hu, ru⟩ := RelO.some_of (v := v) (o := mA "answer") (by rw [← l]; exact hr "answer")
  have J : PySem.W.InstAt s1.heap a oe C (some od) := ⟨ha, hz.1, by unfold PySem.W.notCls; rw [hd] <;> rfl, by rw [hz.2]; exact ho⟩
  exact HandSPX.exc_get I1.kIn J T.ga T.gg T.exC (PySem.W.findObj_own T.hdC T.noN rfl (by rw [hl, hu])) (handed_of ru) ⟨v, H1, I1.tok _, ru, q⟩
end
end L2
end
section
/-! Names and pairs of names in their order. -/
namespace Fb
open SctBook
abbrev Nm := List Nat
abbrev Ky := Nm × Nm
theorem before_cons (a b : Nat) (l r : Nm) : before (a :: l) (b :: r) = (decide (a < b) || (a == b && before l r)) := rfl
theorem before_irrefl : ∀ x : Nm, before x x = false
  | [] => rfl
  | a :: l => by rw [before_cons, before_irrefl l]; simp
theorem before_trans : ∀ {x y z : Nm}, before x y = true → before y z = true → before x z = true
  | [], [], _, h, _ => by simp [before] at h
  | _ :: _, [], _, h, _ => by simp [before] at h
  | x, _ :: _, [], _, h => by simp [before] at h
  | [], _ :: _, _ :: _, _, _ => rfl
  | a :: l, b :: r, c :: t, h1, h2 => by
    rw [before_cons] at h1 h2 ⊢
    simp only [Bool.or_eq_true, Bool.and_eq_true, decide_eq_true_eq, beq_iff_eq] at h1 h2 ⊢
    rcases h1 with h1 | ⟨rfl, h1⟩
    · rcases h2 with h2 | ⟨rfl, h2⟩
      · exact .inl (by omega)
      · exact .inl h1
    · rcases h2 with h2 | ⟨rfl, h2⟩
      · exact .inl h2
      · exact .inr ⟨rfl, before_trans h1 h2⟩
theorem before_tri : ∀ x y : Nm, before x y = true ∨ x = y ∨ before y x = true
  | [], [] => .inr (.inl rfl)
  | [], _ :: _ => .inl rfl
  | _ :: _, [] => .inr (.inr rfl)
  | a :: l, b :: r => by
    rw [before_cons, before_cons]
    simp only [Bool.or_eq_true, Bool.and_eq_true, decide_eq_true_eq, beq_iff_eq]
    rcases before_tri l r with h | rfl | h
    · by_cases e : a = b
      · exact .inl (.inr ⟨e, h⟩)
      · by_cases e' : a < b
        · exact .inl (.inl e')
        · exact .inr (.inr (.inl (by omega)))
    · by_cases e : a = b
      · exact .inr (.inl (by rw [e]))
      · by_cases e' : a < b
        · exact .inl (.inl e')
        · exact .inr (.inr (.inl (by omega)))
    · by_cases e : a = b
      · exact .inr (.inr (.inr ⟨e.symm, h⟩))
      · by_cases e' : a < b
        · exact .inl (.inl e')
        · exact .inr (.inr (.inl (by omega)))
theorem before_asymm {x y : Nm} (h : before x y = true) : before y x = false := by
  cases e : before y x with
  | false => rfl
  | true =>
    have := before_trans h e
    rw [before_irrefl] at this
    exact absurd this (by decide)
theorem keyBefore_irrefl (k : Ky) : keyBefore k k = false := by simp [keyBefore, before_irrefl]
theorem keyBefore_iff (a b : Ky) : keyBefore a b = true ↔ before a.1 b.1 = true ∨ (a.1 = b.1 ∧ before a.2 b.2 = true) := by
  simp [keyBefore]
theorem keyBefore_trans {a b c : Ky} (h1 : keyBefore a b = true) (h2 : keyBefore b c = true) : keyBefore a c = true := by
  rw [keyBefore_iff] at *
  rcases h1 with h1 | ⟨e1, h1⟩
  · rcases h2 with h2 | ⟨e2, h2⟩
    · exact .inl (before_trans h1 h2)
    · rw [← e2]; exact .inl h1
  · rcases h2 with h2 | ⟨e2, h2⟩
    · rw [e1]; exact .inl h2
    · exact .inr ⟨e1.trans e2, before_trans h1 h2⟩
theorem keyBefore_tri (a b : Ky) : keyBefore a b = true ∨ a = b ∨ keyBefore b a = true := by
  rw [keyBefore_iff, keyBefore_iff]
  rcases before_tri a.1 b.1 with h | h | h
  · exact .inl (.inl h)
  · rcases before_tri a.2 b.2 with h' | h' | h'
    · exact .inl (.inr ⟨h, h'⟩)
    · exact .inr (.inl (Prod.ext h h'))
    · exact .inr (.inr (.inr ⟨h.symm, h'⟩))
  · exact .inr (.inr (.inl h))
theorem keyBefore_asymm {x y : Ky} (h : keyBefore x y = true) : keyBefore y x = false := by
  cases e : keyBefore y x with
  | false => rfl
  | true =>
    have := keyBefore_trans h e
    rw [keyBefore_irrefl] at this
    exact absurd this (by decide)
/-- at most, by the order -/
def kLe (a b : Ky) : Bool := !keyBefore b a
theorem kLe_trans (a b c : Ky) (h1 : kLe a b = true) (h2 : kLe b c = true) : kLe a c = true := by
  unfold kLe at *
  simp only [Bool.not_eq_true'] at *
  rcases keyBefore_tri a b with e | rfl | e
  · rcases keyBefore_tri b c with e' | rfl | e'
    · exact keyBefore_asymm (keyBefore_trans e e')
    · exact h1
    · rw [h2] at e'; cases e'
  · exact h2
  · rw [h1] at e; cases e
theorem kLe_total (a b : Ky) : (kLe a b || kLe b a) = true := by
  unfold kLe
  rcases keyBefore_tri a b with e | rfl | e
  · rw [keyBefore_asymm e]; rfl
  · rw [keyBefore_irrefl]; rfl
  · rw [keyBefore_asymm e]; simp
theorem lt_of_kLe {a b : Ky} (h : kLe a b = true) (n : a ≠ b) : keyBefore a b = true := by
  unfold kLe at h
  simp only [Bool.not_eq_true'] at h
  rcases keyBefore_tri a b with e | e | e
  · exact e
  · exact absurd e n
  · rw [h] at e; cases e
/-- sorted by a key: strictly, where no two keys are the same -/
theorem sorted_strict {α : Type} (key : α → Ky) (l : List α) (hn : (l.map key).Nodup) : (l.mergeSort fun a b => kLe (key a) (key b)).Pairwise fun a b => keyBefore (key a) (key b) = true := by
  have h := List.pairwise_mergeSort (le := fun a b : α => kLe (key a) (key b)) (fun a b c => kLe_trans _ _ _) (fun a b => kLe_total _ _) l
  have hp := List.mergeSort_perm l fun a b => kLe (key a) (key b)
  have hn' : ((l.mergeSort fun a b => kLe (key a) (key b)).map key).Nodup := (hp.map key).nodup_iff.mpr hn
  have hn2 : (l.mergeSort fun a b => kLe (key a) (key b)).Pairwise fun a b => key a ≠ key b := List.pairwise_map.mp hn'
  exact (List.pairwise_and_iff.mpr ⟨h, hn2⟩).imp fun ⟨a, b⟩ => lt_of_kLe a b
/-- two sorted arrangements of the same are one -/
theorem sorted_one {α : Type} (key : α → Ky) {l r : List α} (p : l.Perm r) (hl : l.Pairwise fun a b => keyBefore (key a) (key b) = true) (hr : r.Pairwise fun a b => keyBefore (key a) (key b) = true) : l = r :=
  p.eq_of_pairwise (le := fun a b => keyBefore (key a) (key b) = true) (fun a b _ _ h1 h2 => by
    rw [keyBefore_asymm h1] at h2
    cases h2) hl hr
end Fb
end
section
set_option Elab.async false
set_option maxRecDepth 100000
set_option maxHeartbeats 4000000
/-! Dicts with keys of nested tuples of ints over the abstract heap: what stands where. -/
namespace Fb
open PySem PySem.Spec PyProof.Rows L2

/-! ### keys -/
mutual
/-- a key's hash, the world out of sight: a key of numbers alone -/
def hashN : NestedKey → Int
  | .none => 0
  | .num i => hashInt i
  | .text _ => 0
  | .tup ks => reduceHash (Builtin.Tuple.tupleHashOf (hashesN ks))
def hashesN : List NestedKey → List Int
  | [] => []
  | k :: ks => hashN k :: hashesN ks
end
mutual
/-- the value v stands for the key k, a number or a tuple of such -/
inductive IsK (H : Hp) : NestedKey → V → Prop
  | num (i : Int) : IsK H (.num i) (.int i)
  | bl (b : Bool) : IsK H (.num (if b = true then 1 else 0)) (.bl b)
  | tup {a : Addr} {xs : List V} {ks : List NestedKey} : H a = some (.tup xs) → IsKs H ks xs → IsK H (.tup ks) (.ref a)
inductive IsKs (H : Hp) : List NestedKey → List V → Prop
  | nil : IsKs H [] []
  | cons {k : NestedKey} {ks : List NestedKey} {x : V} {xs : List V} : IsK H k x → IsKs H ks xs → IsKs H (k :: ks) (x :: xs)
end
mutual
theorem IsK.same {H H' : Hp} (s : Same H H') : ∀ (k : NestedKey) (v : V), IsK H k v → IsK H' k v
  | .none, _, x => by cases x
  | .text _, _, x => by cases x
  | .num _, _, x => by
    cases x with
    | num => exact .num _
    | bl b => exact .bl b
  | .tup ks, _, x => by
    cases x with
    | tup h r => exact .tup (s _ _ h) (IsKs.same s ks _ r)
theorem IsKs.same {H H' : Hp} (s : Same H H') : ∀ (ks : List NestedKey) (vs : List V), IsKs H ks vs → IsKs H' ks vs
  | [], _, x => by cases x; exact .nil
  | k :: ks, _, x => by
    cases x with
    | cons a b => exact .cons (IsK.same s k _ a) (IsKs.same s ks _ b)
end
mutual
theorem IsK.nested {P : Program} {w : World} {H : Hp} {h : Heap} (ok : HOk P w H h) : ∀ (k : NestedKey) (v : V) (u : Value), IsK H k v → RelV v u → NestedIs h k u
  | .none, _, _, x, _ => by cases x
  | .text _, _, _, x, _ => by cases x
  | .num _, _, _, x, r => by
    cases x with
    | num => obtain ⟨t, rfl⟩ := r; exact .int _ _
    | bl b => cases r; exact .bool rfl
  | .tup ks, _, _, x, r => by
    cases x with
    | @tup a xs _ e q =>
      cases r
      obtain ⟨_, its, rv, o, ho, hc, n, hd⟩ := (show ObjOk P w H h a (.tup xs) from ok _ _ e)
      exact .tup ho hc hd (IsKs.nested ok ks xs its q rv)
theorem IsKs.nested {P : Program} {w : World} {H : Hp} {h : Heap} (ok : HOk P w H h) : ∀ (ks : List NestedKey) (vs : List V) (us : List Value), IsKs H ks vs → Vals vs us → NestedAll h ks us
  | [], _, _, x, r => by cases x; cases r; exact .nil
  | k :: ks, _, _, x, r => by
    cases x with
    | cons a b =>
      cases r with
      | cons r1 r2 => exact .cons (IsK.nested ok k _ _ a r1) (IsKs.nested ok ks _ _ b r2)
end
mutual
theorem IsK.hash {H : Hp} (w : World) : ∀ (k : NestedKey) (v : V), IsK H k v → k.hash w = hashN k
  | .none, _, x => by cases x
  | .text _, _, x => by cases x
  | .num _, _, _ => by rw [NestedKey.hash, hashN]
  | .tup ks, _, x => by
    cases x with
    | tup _ q => rw [NestedKey.hash, hashN, IsKs.hash w ks _ q]
theorem IsKs.hash {H : Hp} (w : World) : ∀ (ks : List NestedKey) (vs : List V), IsKs H ks vs → NestedKey.hashes w ks = hashesN ks
  | [], _, _ => by rw [NestedKey.hashes, hashesN]
  | k :: ks, _, x => by
    cases x with
    | cons a b => rw [NestedKey.hashes, hashesN, IsK.hash w k _ a, IsKs.hash w ks _ b]
end
mutual
/-- one value stands for one key -/
theorem IsK.inj {H : Hp} : ∀ (k j : NestedKey) (v : V), IsK H k v → IsK H j v → k = j
  | .none, _, _, x, _ => by cases x
  | .text _, _, _, x, _ => by cases x
  | .num _, _, _, x, y => by
    cases x with
    | num => cases y; rfl
    | bl b => cases y; rfl
  | .tup ks, _, _, x, y => by
    cases x with
    | tup e q =>
      cases y with
      | tup e' q' =>
        rw [e] at e'
        cases e'
        rw [IsKs.inj ks _ _ q q']
theorem IsKs.inj {H : Hp} : ∀ (ks js : List NestedKey) (vs : List V), IsKs H ks vs → IsKs H js vs → ks = js
  | [], _, _, x, y => by cases x; cases y; rfl
  | k :: ks, _, _, x, y => by
    cases x with
    | cons a b =>
      cases y with
      | cons a' b' => rw [IsK.inj k _ _ a a', IsKs.inj ks _ _ b b']
end

/-! ### the dict -/
/-- an entry: the key, where its tuple stands, the value -/
abbrev Ent := NestedKey × Addr × V
abbrev EntR (p : Ent) (q : NestedKey × Addr × Value) : Prop := p.1 = q.1 ∧ p.2.1 = q.2.1 ∧ RelV p.2.2 q.2.2
/-- the object of a dict -/
def DXo (d : Addr) (ep : Nat) (xs : List Ent) : HO := .ext fun h => ∃ (o : Obj) (es : Array DictEntry) (ys : List (NestedKey × Addr × Value)), h.get? d = some o ∧ o.ExactDict ∧ o.data = .dict es ep ∧
  Paired EntR xs ys ∧ es.toList = ys.map fun y => ⟨hashN y.1, .ref y.2.1, y.2.2⟩
/-- at d a dict of these entries -/
structure DictX (H : Hp) (d : Addr) (ep : Nat) (xs : List Ent) : Prop where
  at_ : H d = some (DXo d ep xs)
  size : xs.length ≤ sizeLine
  low : (d == sysModules) = false
  keys : ∀ x ∈ xs, IsK H x.1 (.ref x.2.1) ∧ x.1.depth ≤ 8
  nodup : (xs.map (·.1)).Nodup
theorem DictX.same {H H' : Hp} {d : Addr} {ep : Nat} {xs : List Ent} (s : Same H H') (x : DictX H d ep xs) : DictX H' d ep xs :=
  ⟨s _ _ x.at_, x.size, x.low, fun y m => ⟨(x.keys y m).1.same s, (x.keys y m).2⟩, x.nodup⟩
/-- what a key's look-up gives -/
def valX (xs : List Ent) (k : NestedKey) : Option V := (xs.find? fun x => decide (x.1 = k)).map (·.2.2)
/-- the entries behind a store -/
def putX (xs : List Ent) (k : NestedKey) (a : Addr) (v : V) : List Ent := if (xs.any fun x => decide (x.1 = k)) = true then xs.map fun x => if x.1 = k then (x.1, x.2.1, v) else x else xs ++ [(k, a, v)]
section
variable {P : Program} {w : World}
theorem EntR.pairs {xs : List Ent} {ys : List (NestedKey × Addr × Value)} (r : Paired EntR xs ys) : ∀ {H : Hp}, (∀ x ∈ xs, IsK H x.1 (.ref x.2.1) ∧ x.1.depth ≤ 8) →
    (ys.map fun y => (⟨hashN y.1, .ref y.2.1, y.2.2⟩ : DictEntry)) = ys.map (entryOfKey (nestedKind P w)) := by
  induction r with
  | nil => intro H _; rfl
  | @cons x y xs ys r t ih =>
    intro H hk
    rw [List.map_cons, List.map_cons, ih fun z m => hk z (List.mem_cons_of_mem _ m)]
    obtain ⟨e1, e2, _⟩ := r
    have h1 := (hk x List.mem_cons_self).1.hash w
    have e : hashN y.1 = (nestedKind P w).hash y.1 := by
      rw [← e1]
      exact h1.symm
    show (⟨hashN y.1, .ref y.2.1, y.2.2⟩ : DictEntry) :: _ = (⟨(nestedKind P w).hash y.1, .ref y.2.1, y.2.2⟩ : DictEntry) :: _
    rw [e]
theorem EntR.keys {xs : List Ent} {ys : List (NestedKey × Addr × Value)} (r : Paired EntR xs ys) : xs.map (·.1) = ys.map (·.1) := by
  induction r with
  | nil => rfl
  | cons r t ih => rw [List.map_cons, List.map_cons, ih, r.1]
theorem EntR.mem {xs : List Ent} {ys : List (NestedKey × Addr × Value)} (r : Paired EntR xs ys) : ∀ y ∈ ys, ∃ x ∈ xs, EntR x y := by
  induction r with
  | nil => intro y m; cases m
  | @cons x y xs ys r t ih =>
    intro z m
    rcases List.mem_cons.mp m with rfl | m
    · exact ⟨x, List.mem_cons_self, r⟩
    · obtain ⟨x', m', q⟩ := ih z m
      exact ⟨x', List.mem_cons_of_mem _ m', q⟩
theorem EntR.val {xs : List Ent} {ys : List (NestedKey × Addr × Value)} (r : Paired EntR xs ys) (k : NestedKey) : RelO (valX xs k) ((atKey ys k).map (·.2)) := by
  induction r with
  | nil => trivial
  | @cons x y xs ys r t ih =>
    by_cases e : x.1 = k
    · have e' : y.1 = k := r.1 ▸ e
      rw [show valX (x :: xs) k = some x.2.2 by simp [valX, e], show (atKey (y :: ys) k).map (·.2) = some y.2.2 by simp [atKey, e']]
      exact r.2.2
    · have e' : ¬ y.1 = k := r.1 ▸ e
      rw [show valX (x :: xs) k = valX xs k by simp [valX, e], show (atKey (y :: ys) k) = atKey ys k by simp [atKey, e']]
      exact ih
theorem EntR.any {xs : List Ent} {ys : List (NestedKey × Addr × Value)} (r : Paired EntR xs ys) (k : NestedKey) : (xs.any fun x => decide (x.1 = k)) = (ys.any fun y => decide (y.1 = k)) := by
  induction r with
  | nil => rfl
  | cons r t ih => rw [List.any_cons, List.any_cons, ih, r.1]
theorem EntR.repl {xs : List Ent} {ys : List (NestedKey × Addr × Value)} (r : Paired EntR xs ys) (k : NestedKey) {v : V} {u : Value} (rv : RelV v u) :
    Paired EntR (xs.map fun x => if x.1 = k then (x.1, x.2.1, v) else x) (ys.map fun y => if y.1 = k then (y.1, y.2.1, u) else y) := by
  induction r with
  | nil => exact .nil
  | @cons x y xs ys r t ih =>
    rw [List.map_cons, List.map_cons]
    refine .cons ?_ ih
    by_cases e : x.1 = k
    · have e' : y.1 = k := r.1 ▸ e
      rw [if_pos e, if_pos e']
      exact ⟨r.1, r.2.1, rv⟩
    · have e' : ¬ y.1 = k := r.1 ▸ e
      rw [if_neg e, if_neg e']
      exact r
theorem Paired.snoc {α β : Type} {R : α → β → Prop} {x : α} {y : β} (q : R x y) : ∀ {xs : List α} {ys : List β}, Paired R xs ys → Paired R (xs ++ [x]) (ys ++ [y])
  | _, _, .nil => .cons q .nil
  | _, _, .cons r t => .cons r (Paired.snoc q t)
theorem storedH_eq (ys : List (NestedKey × Addr × Value)) (k : NestedKey) (a : Addr) (u : Value) :
    storedH ys k a u = if (ys.any fun y => decide (y.1 = k)) = true then ys.map fun y => if y.1 = k then (y.1, y.2.1, u) else y else ys ++ [(k, a, u)] := by
  have e : ∀ l : List (NestedKey × Addr × Value), (atKey l k).isSome = l.any fun y => decide (y.1 = k) := by
    intro l
    induction l with
    | nil => rfl
    | cons y l ih =>
      by_cases h : y.1 = k
      · simp [atKey, h]
      · simpa [atKey, h] using ih
  unfold storedH
  rw [e ys]
  rfl
theorem EntR.put {xs : List Ent} {ys : List (NestedKey × Addr × Value)} (r : Paired EntR xs ys) (k : NestedKey) (a : Addr) {v : V} {u : Value} (rv : RelV v u) : Paired EntR (putX xs k a v) (storedH ys k a u) := by
  rw [storedH_eq]
  unfold putX
  rw [EntR.any r k]
  by_cases e : (ys.any fun y => decide (y.1 = k)) = true
  · rw [if_pos e, if_pos e]
    exact EntR.repl r k rv
  · rw [if_neg e, if_neg e]
    exact Paired.snoc ⟨rfl, rfl, rv⟩ r
/-- the concrete dict -/
theorem DictX.ofH {H : Hp} {h : Heap} {d : Addr} {ep : Nat} {xs : List Ent} (ok : HOk P w H h) (x : DictX H d ep xs) : ∃ (es : Array DictEntry) (ys : List (NestedKey × Addr × Value)), Paired EntR xs ys ∧ h.DictOfH (nestedKind P w) d ys ∧
    h.DictRaw d es ep ∧ es.toList = ys.map (entryOfKey (nestedKind P w)) ∧ es.size = xs.length := by
  obtain ⟨⟨o, es, ys, ho, hx, hd, r, he⟩, _, _⟩ := (show ObjOk P w H h d (DXo d ep xs) from ok _ _ x.at_)
  have e := EntR.pairs (P := P) (w := w) r x.keys
  rw [e] at he
  refine ⟨es, ys, r, ⟨o, es, ep, ho, hx, hd, he, fun y m => ?_, ?_⟩, ⟨o, ho, hx, hd⟩, he, ?_⟩
  · obtain ⟨x', m', q⟩ := EntR.mem r y m
    obtain ⟨k1, k2⟩ := x.keys x' m'
    rw [q.1, q.2.1] at k1
    rw [q.1] at k2
    exact ⟨k1.nested ok _ _ _ rfl, k2⟩
  · rw [← EntR.keys r]
    exact x.nodup
  · rw [← Array.length_toList, he, List.length_map, Paired.length r]
end
end Fb
end
section
set_option Elab.async false
set_option maxRecDepth 100000
set_option maxHeartbeats 4000000
/-! What the program does with such dicts, as rules over the abstract heap. -/
namespace Fb
open PySem PySem.Spec PyProof.Rows L2
section
variable {X : Cx}
theorem IsK.is {pins : List (Addr × Obj)} {σ : L2.St} {H : Hp} {s : Shared} {k : NestedKey} {a : Addr} (I : Inv X pins σ H s) (h : IsK H k (.ref a)) (d : k.depth ≤ 8) : (nestedKind X.prog X.w).is s.heap k a :=
  ⟨h.nested I.hok _ _ _ rfl, d⟩
theorem roomN (hu : X.A.units + 64 < cLine) : (nestedKind X.prog X.w).room X.A.in1 := by
  show X.A.units + 1 + 8 < cLine
  omega
/-! ### in, [], get, len -/
def rInX : R2 := fun x y H Q => ∃ k a d ep xs, x = .ref a ∧ y = .ref d ∧ DictX H d ep xs ∧ IsK H k (.ref a) ∧ k.depth ≤ 8 ∧ Q (.bl (valX xs k).isSome) H
def rNotInX : R2 := fun x y H Q => ∃ k a d ep xs, x = .ref a ∧ y = .ref d ∧ DictX H d ep xs ∧ IsK H k (.ref a) ∧ k.depth ≤ 8 ∧ Q (.bl (!(valX xs k).isSome)) H
theorem val_some {xs : List Ent} {ys : List (NestedKey × Addr × Value)} (r : Paired EntR xs ys) (k : NestedKey) : (valX xs k).isSome = (atKey ys k).isSome := by
  have q := RelO.isSome_eq (EntR.val r k)
  rw [Option.isSome_map] at q
  exact q
theorem op_inX (hu : X.A.units + 64 < cLine) : OpR X (compareOp .In) rInX := by
  intro pins s σ H x y v u Q I rx ry h
  obtain ⟨k, a, d, ep, xs, rfl, rfl, D, hk, hd, q⟩ := h
  cases rx
  cases ry
  obtain ⟨es, ys, r, hm, _⟩ := D.ofH I.hok
  exact wpAny_in_heap (roomN hu) (hk.is I hd) D.low hm ⟨.bl _, H, I.tok _, by rw [val_some r k]; rfl, q⟩
theorem op_notInX (hu : X.A.units + 64 < cLine) : OpR X (compareOp .NotIn) rNotInX := by
  intro pins s σ H x y v u Q I rx ry h
  obtain ⟨k, a, d, ep, xs, rfl, rfl, D, hk, hd, q⟩ := h
  cases rx
  cases ry
  obtain ⟨es, ys, r, hm, _⟩ := D.ofH I.hok
  show wpAny _ _ (do return Value.bool (!(← contains (.ref d) (.ref a)))) _ _ s
  exact wpAny_bind (wpAny_contains_heap (roomN hu) (hk.is I hd) D.low hm (wpAny_pure ⟨.bl _, H, I.tok _, by rw [val_some r k]; rfl, q⟩))
def rIxX : R2 := fun x y H Q => ∃ k a d ep xs v, x = .ref d ∧ y = .ref a ∧ DictX H d ep xs ∧ IsK H k (.ref a) ∧ k.depth ≤ 8 ∧ valX xs k = some v ∧ Q v H
theorem pe_ixX {o i : Expr} {to ti : TE} {pos : Pos} (hu : X.A.units + 64 < cLine) (ho : PE X o to) (hi : PE X i ti) (hs : NoSl i) : PE X (.Subscript o i pos) (tOp rIxX to ti) := by
  refine ⟨fun pins s σ H Q I h => ?_⟩
  refine subD_of PySem.F.slot_dict_getitem.lookup hs (thn (ho.run pins s σ H _ I h) fun v s1 ⟨x, H1, I1, r1, q1⟩ => ?_)
  refine thn (hi.run pins s1 σ H1 _ I1 q1) fun u s2 ⟨y, H2, I2, r2, q2⟩ => ?_
  obtain ⟨k, a, d, ep, xs, z, rfl, rfl, D, hk, hd, hv, q⟩ := q2
  cases r1
  cases r2
  obtain ⟨es, ys, r, hm, _⟩ := D.ofH I2.hok
  have rv := EntR.val r k
  rw [hv] at rv
  cases e : atKey ys k with
  | none => rw [e] at rv; exact rv.elim
  | some p =>
    rw [e] at rv
    exact ⟨hm.typeIs, wpAny_getItem_heap (roomN hu) (hk.is I2 hd) hm e ⟨z, H2, I2.tok _, rv, q⟩⟩
/-- d.get(k, x) -/
def tGetX (td ty tx : TE) : TE := fun σ H Q => td σ H fun x H1 => ∃ d, x = .ref d ∧ (∃ ep xs, DictX H1 d ep xs) ∧ ty σ H1 fun y H2 => tx σ H2 fun z H3 => ∃ k a ep xs, y = .ref a ∧ DictX H3 d ep xs ∧ IsK H3 k (.ref a) ∧ k.depth ≤ 8 ∧ Q ((valX xs k).getD z) H3
theorem DictX.isD {pins : List (Addr × Obj)} {σ : L2.St} {H : Hp} {s : Shared} {d : Addr} {ep : Nat} {xs : List Ent} (I : Inv X pins σ H s) (D : DictX H d ep xs) :
    s.TypeIs (.ref d) "dict" ∧ ∀ b, Value.ref d = .ref b → ∃ ob, s.heap.get? b = some ob ∧ ob.dict = none := by
  obtain ⟨es, ys, _, hm, ⟨o, ho, hx, _⟩, _⟩ := D.ofH I.hok
  refine ⟨hm.typeIs, fun b e => ?_⟩
  cases e
  exact ⟨o, ho, hx.2.1⟩
theorem pe_getX {o e f : Expr} {td ty tx : TE} {apos cpos : Pos} (hu : X.A.units + 64 < cLine) (ho : PE X o td) (he : PE X e ty) (hf : PE X f tx) (m : M2 X o "get" apos e f cpos) : PE X (.Call (.Attribute o "get" apos) [e, f] [] cpos) (tGetX td ty tx) := by
  refine ⟨fun pins s σ H Q I h => ?_⟩
  refine wpAny_Call_method m.base m.few m.line PySem.F.plainAttrs_dict PySem.F.slot_dict_get PySem.F.type_dict_get (thn (ho.run pins s σ H _ I h) fun u s1 hh => ?_)
  obtain ⟨x, H1, I1, rx, d, ex, ⟨ep, xs, D⟩, q1⟩ := hh
  subst ex
  obtain rfl : u = Value.ref d := rx
  obtain ⟨t1, t2⟩ := D.isD I1
  refine ⟨t1, t2, ?_⟩
  rw [m.trees]
  refine Calls.callWith_builtin rfl (Calls.evalArgs_plain (Calls.spliced_cons (thn (he.run pins s1 σ H1 _ I1 q1) fun iv s2 h2 => ?_)))
  obtain ⟨y, H2, I2, ry, q2⟩ := h2
  refine Calls.spliced_cons (thn (hf.run pins s2 σ H2 _ I2 q2) fun fv s3 h3 => Calls.spliced_nil ?_)
  obtain ⟨z, H3, I3, rz, k, a, ep', ys, ey, D', hk, hd, q3⟩ := h3
  subst ey
  obtain rfl : iv = Value.ref a := ry
  obtain ⟨es, zs, r, hm, _⟩ := D'.ofH I3.hok
  exact call_meetsIn PySem.F.slot_dict_get hm.typeIs PySem.F.entry_dict_get (PySem.F.args_dict_get_3 _ _ _) (meetsH_dict_get_default (nestedKind X.prog X.w) d a D'.low fv)
    ⟨roomN hu, k, zs, hk.is I3 hd, hm, ⟨_, H3, I3.tok _, (EntR.val r k).getD rz, q3⟩⟩
def rLenX : List V → Hp → VK → Prop := fun vs H Q => ∃ d ep xs, vs = [.ref d] ∧ DictX H d ep xs ∧ Q (.int xs.length) H
theorem call_lenX : CallR X (.builtin "len") rLenX := by
  intro pins s σ H xs us Q I r q
  obtain ⟨d, ep, ys, ex, D, q⟩ := q
  subst ex
  obtain ⟨u, eu, rx⟩ := vals1 r
  subst eu
  cases rx
  obtain ⟨es, zs, rr, hm, hraw, _, hsz⟩ := D.ofH I.hok
  have hz := D.size
  refine PyProof.Rows.call_len_slot (n := ys.length) hm.typeIs PySem.F.slot_dict_len (fun Q' hq => call_len_raw D.low hraw (by rw [hsz]; exact hq)) (by omega) (by rw [sizeLine_eq] at hz; omega) ⟨.int ys.length, H, ?_, ⟨_, rfl⟩, q⟩
  exact I.tok _
/-! ### {} and d[k] = v -/
def tNewX : TE := fun _ H Q => ∀ p ep, H p = none → DictX (upd H p (DXo p ep [])) p ep [] → Q (.ref p) (upd H p (DXo p ep []))
theorem dx_ok {P : Program} {w : World} {H : Hp} {h : Heap} {d : Addr} {ep : Nat} {xs : List Ent} {ys : List (NestedKey × Addr × Value)} {o : Obj} {es : Array DictEntry} (ho : h.get? d = some o) (hx : o.ExactDict) (hd : o.data = .dict es ep) (r : Paired EntR xs ys)
    (he : es.toList = ys.map fun y => ⟨hashN y.1, .ref y.2.1, y.2.2⟩) : ObjOk P w H h d (DXo d ep xs) :=
  ⟨⟨o, es, ys, ho, hx, hd, r, he⟩, ⟨o, ho⟩, fun h1 h2 hh k => by
    obtain ⟨o', es', ys', a, b⟩ := hh
    exact ⟨o', es', ys', k _ a, b⟩⟩
theorem pe_newX {pos : Pos} : PE X (.Dict [] [] pos) tNewX := by
  refine ⟨fun pins s σ H Q I h => ?_⟩
  have hn : H s.heap.objs.size = none := I.hok.fresh (Nat.le_refl _)
  have hb : (s.heap.objs.size == sysModules) = false := beq_eq_false_iff_ne.mpr (Nat.ne_of_gt I.big)
  have J := I.laid (a := s.heap.objs.size) (o := DXo s.heap.objs.size 0 []) (h' := s.heap.push { cls := .type "dict", data := .dict #[] }) (t' := s.toks) (fun b u q => Heap.get?_push_of_some _ q) (Nat.le_refl _)
    (dx_ok (ys := []) (Heap.get?_push_size _ rfl) ⟨rfl, rfl, rfl⟩ rfl .nil rfl)
  exact wpAny_Dict_empty ⟨.ref _, _, J, rfl, h _ 0 hn ⟨upd_same, Nat.zero_le _, hb, (fun _ m => nomatch m), List.nodup_nil⟩⟩
theorem putX_keys (xs : List Ent) (k : NestedKey) (a : Addr) (v : V) : (putX xs k a v).map (·.1) = if (xs.any fun x => decide (x.1 = k)) = true then xs.map (·.1) else xs.map (·.1) ++ [k] := by
  unfold putX
  split
  · rw [List.map_map]
    refine List.map_congr_left fun x _ => ?_
    show (if x.1 = k then (x.1, x.2.1, v) else x).1 = x.1
    split <;> rfl
  · simp
theorem putX_mem {xs : List Ent} {k : NestedKey} {a : Addr} {v : V} : ∀ y ∈ putX xs k a v, (∃ x ∈ xs, x.1 = y.1 ∧ x.2.1 = y.2.1) ∨ y = (k, a, v) := by
  intro y m
  unfold putX at m
  split at m
  · obtain ⟨x, hx, rfl⟩ := List.mem_map.mp m
    refine .inl ⟨x, hx, ?_⟩
    split <;> exact ⟨rfl, rfl⟩
  · rcases List.mem_append.mp m with m | m
    · exact .inl ⟨y, m, rfl, rfl⟩
    · exact .inr (List.mem_singleton.mp m)
theorem putX_length (xs : List Ent) (k : NestedKey) (a : Addr) (v : V) : (putX xs k a v).length ≤ xs.length + 1 := by
  unfold putX
  split
  · rw [List.length_map]; omega
  · rw [List.length_append]; exact Nat.le_refl _
theorem putX_nodup {xs : List Ent} {k : NestedKey} {a : Addr} {v : V} (h : (xs.map (·.1)).Nodup) : ((putX xs k a v).map (·.1)).Nodup := by
  rw [putX_keys]
  split
  · exact h
  · rename_i e
    refine List.nodup_append.mpr ⟨h, by simp, fun x hx y hy => ?_⟩
    rw [List.mem_singleton] at hy
    subst hy
    rintro rfl
    obtain ⟨z, hz, e'⟩ := List.mem_map.mp hx
    exact e (List.any_eq_true.mpr ⟨z, hz, decide_eq_true e'⟩)
/-- the dict behind a store -/
theorem DictX.put {H : Hp} {d a : Addr} {ep ep' : Nat} {xs : List Ent} {k : NestedKey} {v : V} (D : DictX H d ep xs) (hk : IsK H k (.ref a)) (hd : k.depth ≤ 8) (hl : xs.length < sizeLine) : DictX (upd H d (DXo d ep' (putX xs k a v))) d ep' (putX xs k a v) := by
  have keep : ∀ (j : NestedKey) (u : V), IsK H j u → IsK (upd H d (DXo d ep' (putX xs k a v))) j u := by
    have ne : ∀ b ys, H b = some (.tup ys) → b ≠ d := fun b ys e => ne_of e D.at_ fun z => nomatch z
    have go : ∀ n, (∀ (j : NestedKey) (u : V), sizeOf j < n → IsK H j u → IsK (upd H d (DXo d ep' (putX xs k a v))) j u) ∧ (∀ (js : List NestedKey) (us : List V), sizeOf js < n → IsKs H js us → IsKs (upd H d (DXo d ep' (putX xs k a v))) js us) := by
      intro n
      induction n with
      | zero => exact ⟨fun j u h => absurd h (Nat.not_lt_zero _), fun j u h => absurd h (Nat.not_lt_zero _)⟩
      | succ n ih =>
        constructor
        · intro j u hs x
          cases x with
          | num => exact .num _
          | bl b => exact .bl b
          | tup e q => exact .tup (by rw [upd_ne (ne _ _ e)]; exact e) (ih.2 _ _ (by simp only [NestedKey.tup.sizeOf_spec] at hs; omega) q)
        · intro js us hs x
          cases x with
          | nil => exact .nil
          | cons p q =>
            simp only [List.cons.sizeOf_spec] at hs
            exact .cons (ih.1 _ _ (by omega) p) (ih.2 _ _ (by omega) q)
    exact fun j u x => (go (sizeOf j + 1)).1 j u (Nat.lt_succ_self _) x
  refine ⟨upd_same, Nat.le_trans (putX_length _ _ _ _) hl, D.low, fun y m => ?_, putX_nodup D.nodup⟩
  rcases putX_mem y m with ⟨x, hx, e1, e2⟩ | rfl
  · rw [← e1, ← e2]
    exact ⟨keep _ _ (D.keys x hx).1, (D.keys x hx).2⟩
  · exact ⟨keep _ _ hk, hd⟩
def rSetX : V → V → V → Hp → (Hp → Prop) → Prop := fun o i v H Q => ∃ d k a ep xs, o = .ref d ∧ i = .ref a ∧ DictX H d ep xs ∧ IsK H k (.ref a) ∧ k.depth ≤ 8 ∧ xs.length < sizeLine ∧
  ∀ ep', DictX (upd H d (DXo d ep' (putX xs k a v))) d ep' (putX xs k a v) → Q (upd H d (DXo d ep' (putX xs k a v)))
theorem set_X (hu : X.A.units + 64 < cLine) : PSet X rSetX := by
  intro pins s σ H o i v ov iv u Q I r1 r2 r3 h
  obtain ⟨d, k, a, ep, xs, rfl, rfl, D, hk, hd, hl, q⟩ := h
  cases r1
  cases r2
  obtain ⟨es, ys, r, hm, _⟩ := D.ofH I.hok
  have hlen : xs.length = ys.length := Paired.length r
  refine wpAny_setItem_heap (hsz := by rw [← hlen]; exact D.size) (roomN hu) (hk.is I hd) hm fun h' hm' hs => ?_
  obtain ⟨ob, es', ep', ho, hx, hdat, he, _, _⟩ := hm'
  have rp := EntR.put r k a r3
  have D' := D.put (ep' := ep') (v := v) hk hd hl
  refine ⟨_, I.write (t' := s.toks + (nestedKind X.prog X.w).draws k) (by rw [D.at_]; exact True.intro) (.inl rfl) (fun b u hb e => (hs.2 b hb).trans e) ⟨_, ho⟩ (dx_ok ho hx hdat rp ?_), q ep' D'⟩
  rw [he]
  exact (EntR.pairs (P := X.prog) (w := X.w) rp (H := upd H d (DXo d ep' (putX xs k a v))) D'.keys).symm
/-! ### for k in d -/
def ItX (d : Addr) (ep : Nat) (xs : List Ent) : It :=
  ⟨fun i H => DictX H d ep xs ∧ i < xs.length, fun i H v H' => H' = H ∧ ∃ x, xs[i]? = some x ∧ v = .ref x.2.1, fun i H => DictX H d ep xs ∧ xs.length ≤ i⟩
theorem key_at {xs : List Ent} {ys : List (NestedKey × Addr × Value)} {es : Array DictEntry} {P : Program} {w : World} (r : Paired EntR xs ys) (he : es.toList = ys.map (entryOfKey (nestedKind P w))) {i : Nat} (hi : i < es.size) : ∃ x, xs[i]? = some x ∧ es[i].key = .ref x.2.1 := by
  have h1 : es[i]? = some es[i] := Array.getElem?_eq_getElem hi
  rw [← Array.getElem?_toList, he, List.getElem?_map] at h1
  cases e : ys[i]? with
  | none => rw [e] at h1; cases h1
  | some y =>
    rw [e] at h1
    have h2 : entryOfKey (nestedKind P w) y = es[i] := Option.some.inj h1
    have q : ∀ {xs : List Ent} {ys : List (NestedKey × Addr × Value)} {i : Nat} {y}, Paired EntR xs ys → ys[i]? = some y → ∃ x, xs[i]? = some x ∧ EntR x y := by
      intro xs ys i y r
      induction r generalizing i with
      | nil => intro e; simp at e
      | cons r t ih =>
        intro e
        cases i with
        | zero =>
          simp only [List.getElem?_cons_zero, Option.some.injEq] at e
          subst e
          exact ⟨_, rfl, r⟩
        | succ i => simpa using ih (i := i) (by simpa using e)
    obtain ⟨x, hx, rr⟩ := q r e
    refine ⟨x, hx, ?_⟩
    rw [← h2, rr.2.1]
    rfl
theorem turn_X {P : Program} {w : World} {K : PySem.W.Frag} {tg : Expr} {ep : Nat} {xs : List Ent} (d it : Addr) : Turn P w K tg (ItX d ep xs) [it] it (fun i h => h.IsKeyIter it d i xs.length ep) where
  mem := by simp
  obj := fun i h st b hb => by
    have e : b = it := by simpa using hb
    subst e
    obtain ⟨o, e, c, q⟩ := st
    exact ⟨o, e, fun v z => by rw [q] at z; cases z⟩
  keep := fun i h h' st k => by
    obtain ⟨o, e, c, q⟩ := st
    exact ⟨o, k it (by simp) _ e, c, q⟩
  item := by
    intro X hP hw hK hc i pins s σ H E I hf st hg
    subst hP hw hK
    obtain ⟨D, hi⟩ := hg
    obtain ⟨es, ys, r, hm, hraw, he, hsz⟩ := D.ofH I.hok
    obtain ⟨f0, f1, f2, f3, f4, f5⟩ := hf it (by simp)
    have hi' : i < es.size := by omega
    obtain ⟨x, hx, hkey⟩ := key_at r he hi'
    refine wpAny_pyNext_keys_item_raw (es := es) (by rw [hsz]; exact st) hraw hi' fun h' st' sb => ?_
    have I1 : Inv X pins σ H { s with heap := h' } := I.turned (t' := s.toks) (fun b o hb e => (sb.2 b hb).trans e) f0 f1 f3 f4 f5
    rw [hsz] at st'
    rw [hkey]
    obtain ⟨o, e, c, q⟩ := id st'
    exact ⟨_, rfl, go_of (s := { s with heap := h' }) e c q (by decide) ⟨.ref x.2.1, H, I1, rfl, ⟨rfl, x, hx, rfl⟩, st', fun b hb => (hf b hb).1⟩⟩
  done := by
    intro X hP hw hK hc i pins s σ H E I hf st hg
    subst hP hw hK
    obtain ⟨D, hi⟩ := hg
    obtain ⟨es, ys, r, hm, hraw, he, hsz⟩ := D.ofH I.hok
    obtain ⟨f0, f1, f2, f3, f4, f5⟩ := hf it (by simp)
    exact wpAny_pyNext_keys_end_raw (es := es) (I.ok.hd hc) (by rw [hsz]; exact st) hraw (by omega) fun h' eb => ⟨rfl, I.turned (t' := s.toks) (fun b o hb e => eb b o hb e) f0 f1 f3 f4 f5⟩
  self := fun _ _ _ _ _ st h => wpAny_pyIter_keyiter st h
def iKeysX (td : TE) : TI := fun σ H R => td σ H fun x H1 => ∃ d ep xs, x = .ref d ∧ DictX H1 d ep xs ∧ R (ItX d ep xs) H1
theorem pi_keysX {tg e : Expr} {td : TE} (he : PE X e td) : PI X tg e (iKeysX td) := by
  refine ⟨fun pins s σ H R I h => ?_⟩
  refine thn (he.run pins s σ H _ I h) fun u s1 hh => ?_
  obtain ⟨x, H1, I1, rx, d, ep, xs, ex, D, q⟩ := hh
  subst ex
  obtain rfl : u = Value.ref d := rx
  obtain ⟨es, ys, r, hm, hraw, he, hsz⟩ := D.ofH I1.hok
  refine wpAny_pyIter_dict_raw D.low hraw ?_
  rw [hsz]
  refine ⟨s1.heap.objs.size, [s1.heap.objs.size], _, _, H1, rfl, I1.kept (t' := s1.toks) fun b o e => Heap.get?_push_of_some _ e, turn_X d _, ⟨_, Heap.get?_push_size _ rfl, rfl, rfl⟩, fun b hb => ?_, q⟩
  have e : b = s1.heap.objs.size := by simpa using hb
  subst e
  exact I1.fpOk (Nat.le_refl _) (I1.hok.fresh (Nat.le_refl _))
/-- over a dict that the body leaves as it is -/
theorem for_X {d : Addr} {ep : Nat} {xs : List Ent} {g : TG} {tb : TS} {D : Ends} {σ : L2.St} {H : Hp} (Pv : Nat → L2.St → Hp → Prop) (h0 : Pv 0 σ H) (hl : ∀ i σ H, i ≤ xs.length → Pv i σ H → DictX H d ep xs)
    (hs : ∀ i x σ H, xs[i]? = some x → Pv i σ H → g (.ref x.2.1) σ H fun σ2 H2 => tb { D with nx := Pv (i + 1), ct := Pv (i + 1), bk := D.nx } σ2 H2) (hd : ∀ σ H, Pv xs.length σ H → D.nx σ H) :
    ∃ W : Nat → Nat → L2.St → Hp → Prop, (∃ m, W 0 m σ H) ∧ ∀ i m σ H, W i m σ H →
      ((ItX d ep xs).stop i H ∧ D.nx σ H) ∨ ((ItX d ep xs).go i H ∧ ∃ N : L2.St → Hp → Prop, (∀ σ' H', N σ' H' → ∃ m', m' < m ∧ W (i + 1) m' σ' H') ∧ ∀ x H', (ItX d ep xs).yld i H x H' → g x σ H' fun σ2 H2 => tb { D with nx := N, ct := N, bk := D.nx } σ2 H2) := by
  refine ⟨fun i m σ H => m = xs.length - i ∧ i ≤ xs.length ∧ Pv i σ H, ⟨xs.length, by simp, Nat.zero_le _, h0⟩, ?_⟩
  rintro i m σ H ⟨rfl, hi, p⟩
  by_cases hlt : i < xs.length
  · refine .inr ⟨⟨hl i σ H hi p, hlt⟩, Pv (i + 1), fun σ' H' p' => ⟨xs.length - (i + 1), by omega, rfl, hlt, p'⟩, fun v H' y => ?_⟩
    obtain ⟨rfl, x, hx, rfl⟩ := y
    exact hs i x σ _ hx p
  · have e : i = xs.length := by omega
    subst e
    exact .inl ⟨⟨hl _ σ H hi p, Nat.le_refl _⟩, hd σ H p⟩
/-! ### list(d), sorted(d) -/
theorem keys_vals {xs : List Ent} {ys : List (NestedKey × Addr × Value)} {es : Array DictEntry} {P : Program} {w : World} (r : Paired EntR xs ys) (he : es.toList = ys.map (entryOfKey (nestedKind P w))) (hsz : es.size = xs.length) :
    ∀ {acc : List Value}, acc.length = es.size → (∀ j v, acc[j]? = some v → ∃ hi : j < es.size, v = es[j].key) → acc = xs.map fun x => Value.ref x.2.1 := by
  intro acc hl h
  refine List.ext_getElem (by rw [hl, hsz, List.length_map]) fun j h1 h2 => ?_
  obtain ⟨hi, e⟩ := h j acc[j] (List.getElem?_eq_getElem h1)
  obtain ⟨x, hx, hk⟩ := key_at r he hi
  rw [e, hk]
  rw [List.length_map] at h2
  have : xs[j] = x := by
    rw [List.getElem?_eq_getElem h2] at hx
    exact Option.some.inj hx
  rw [List.getElem_map, this]
theorem vals_refs (as : List Addr) : Vals (as.map V.ref) (as.map Value.ref) := by
  induction as with
  | nil => exact .nil
  | cons a as ih => exact .cons rfl ih
def rListX : List V → Hp → VK → Prop := fun vs H Q => ∃ d ep xs, vs = [.ref d] ∧ DictX H d ep xs ∧ ∀ p, H p = none → Q (.ref p) (upd H p (.lst (xs.map fun x => .ref x.2.1)))
theorem call_listX (hc : X.calm = true) : CallR X (.type "list") rListX := by
  intro pins s σ H xs us Q I r q
  obtain ⟨d, ep, ys, ex, D, q⟩ := q
  subst ex
  obtain ⟨u, eu, rx⟩ := vals1 r
  subst eu
  cases rx
  obtain ⟨es, zs, rr, hm, hraw, he, hsz⟩ := D.ofH I.hok
  refine PySem.W.kdl_call (KdlSrc.rawDict D.low) (I.ok.hd hc) hraw (by rw [hsz]; exact D.size) fun h' tk acc c' hk hD hacc => ?_
  have ea := keys_vals rr he hsz (acc := acc.toList) (by rw [Array.length_toList]; exact hacc.1) fun j v e => hacc.2 j v (by rw [← Array.getElem?_toList]; exact e)
  have hv : Vals (ys.map fun x => V.ref x.2.1) acc.toList := by
    rw [ea]
    have := vals_refs (ys.map fun x => x.2.1)
    rw [List.map_map, List.map_map] at this
    exact this
  refine ⟨.ref s.heap.objs.size, upd H s.heap.objs.size (.lst (ys.map fun x => .ref x.2.1)), I.laid (t' := tk) hk (Nat.le_refl _) ?_, rfl, q _ (I.hok.fresh (Nat.le_refl _))⟩
  exact ⟨by rw [List.length_map]; exact D.size, acc.toList, c', hv, by rw [Array.toArray_toList]; exact hD⟩
end
end Fb
end
section
set_option Elab.async false
set_option maxRecDepth 100000
set_option maxHeartbeats 4000000
/-! == of two such dicts whose values are ints; sorted of one whose keys are pairs of names; min of three; a list extended by a tuple. -/
namespace Fb
open PySem PySem.Spec PyProof.Rows L2
/-! ### d == e -/
def tI : Value → Int
  | .int i _ => i
  | _ => 0
def hitB (yb : List (NestedKey × Addr × Value)) (p : NestedKey × Addr × Value) : Bool := match atKey yb p.1 with
  | some q => tI p.2.2 == tI q.2
  | none => false
theorem hit_at {yb : List (NestedKey × Addr × Value)} (hn : (yb.map (·.1)).Nodup) {k : NestedKey} {q : Addr × Value} : ∀ {j : Nat}, yb[j]? = some (k, q) → atKey yb k = some q := by
  induction yb with
  | nil => intro j h; simp at h
  | cons y yb ih =>
    intro j h
    rw [List.map_cons, List.nodup_cons] at hn
    cases j with
    | zero =>
      simp only [List.getElem?_cons_zero, Option.some.injEq] at h
      subst h
      simp [atKey]
    | succ j =>
      have h' : yb[j]? = some (k, q) := by simpa using h
      have ne : ¬ y.1 = k := fun e => hn.1 (by rw [e]; exact List.mem_map.mpr ⟨_, List.mem_of_getElem? h', rfl⟩)
      have := ih hn.2 h'
      simpa [atKey, ne] using this
theorem no_hit {yb : List (NestedKey × Addr × Value)} {k : NestedKey} (h : ∀ (j : Nat) (p : Addr × Value), yb[j]? ≠ some (k, p)) : atKey yb k = none := by
  unfold atKey
  rw [Option.map_eq_none_iff, List.find?_eq_none]
  intro x hx e
  obtain ⟨j, hj⟩ := List.getElem?_of_mem hx
  have e' : x.1 = k := of_decide_eq_true e
  exact h j x.2 (by rw [hj, ← e'])
section
variable {prog : Program} {w : World} {A : Around} {E : Value → Shared → Prop} {s : Shared}
theorem samePairsX {nm : String} {a b : Addr} {ya yb : List (NestedKey × Addr × Value)} {Q : Bool → Shared → Prop} (ha : (a == sysModules) = false) (hb : (b == sysModules) = false)
    (da : s.heap.DictOfH (nestedKind prog w) a ya) (db : s.heap.DictOfH (nestedKind prog w) b yb) (ia : ∀ y ∈ ya, ∃ i t, y.2.2 = .int i t) (ib : ∀ y ∈ yb, ∃ i t, y.2.2 = .int i t) (hu : A.units + 8 < cLine)
    (h : Q (ya.length == yb.length && ya.all (hitB yb)) s) : wpAny (model prog w) A (Builtin.Dict.samePairs nm a b) Q E s := by
  obtain ⟨oa, es, ep, hoa, _, hda, hea, hka, hna⟩ := da
  obtain ⟨ob, es', ep', hob, _, hdb, heb, hkb, hnb⟩ := db
  have la : es.size = ya.length := size_of_entries hea
  have lb : es'.size = yb.length := size_of_entries heb
  unfold Builtin.Dict.samePairs Builtin.Dict.showsAll
  rw [ha, hb, if_neg Bool.false_ne_true]
  refine wpAny_bind (wpAny_pure (wpAny_bind (wpAny_pure (wpAny_bind (wpAny_dictEntries hoa hda ?_)))))
  dsimp only
  refine wpAny_bind (wpAny_dictEntries hob hdb ?_)
  rw [la, lb]
  by_cases hsz : ya.length = yb.length
  case neg =>
    have e : (ya.length == yb.length) = false := by simpa using hsz
    rw [e, Bool.false_and] at h
    rw [if_pos (by simpa using hsz)]
    exact wpAny_bind (wpAny_rule (wpAny_pure h))
  rw [hsz, beq_self_eq_true, Bool.true_and] at h
  rw [hsz, if_neg (by simp)]
  refine wpAny_bind (wpAny_dictEpoch hoa hda (wpAny_bind ?_))
  rw [Std.Legacy.Range.forIn_eq_forIn_range']
  simp only [Std.Legacy.Range.size, Nat.sub_zero, Nat.add_sub_cancel, Nat.div_one]
  refine wpAny_forIn_list _ (fun rest q s' => s' = s ∧ q = (none, ()) ∧ ∃ i, i + rest.length = ya.length ∧ rest = List.range' i rest.length ∧ (ya.take i).all (hitB yb) = true) _ ?_ ?_ _ _
    ⟨rfl, rfl, 0, by rw [List.length_range', hsz]; omega, by rw [List.length_range'], rfl⟩
  · rintro x rest q s' ⟨rfl, rfl, i, hl, hr, hall⟩
    rw [List.length_cons, List.range'_succ] at hr
    injection hr with h1 h2
    subst h1
    rw [List.length_cons] at hl
    have hlt : x < ya.length := by omega
    have hlt' : x < es.size := by omega
    have hex : es[x]? = some (entryOfKey (nestedKind prog w) ya[x]) := by rw [entry_at hea, List.getElem?_eq_getElem hlt, Option.map_some]
    refine wpAny_bind (wpAny_dictEntries hoa hda ?_)
    rw [hex]
    have hmem : ya[x] ∈ ya := List.getElem_mem hlt
    obtain ⟨i1, t1, e1⟩ := ia _ hmem
    have hstep : (ya.take (x + 1)).all (hitB yb) = hitB yb ya[x] := by
      rw [List.take_add_one, List.getElem?_eq_getElem hlt, Option.toList_some, List.all_append, hall, Bool.true_and, List.all_cons, List.all_nil, Bool.and_true]
    have no : hitB yb ya[x] = false → ya.all (hitB yb) = false := fun e => by
      rw [List.all_eq_false]
      exact ⟨_, hmem, by rw [e]; decide⟩
    show wpAny _ _ (holding [_, _] _ >>= _) _ _ _
    refine wpAny_bind (wpAny_holding (wpAny_bind (wpAny_dictFind_heap (xs := yb) (k := ya[x].1) (knd := nestedKind prog w) hu (hka _ hmem) hob hdb heb hkb hnb (fun none' => ?_) fun j p hj => ?_)))
    · have e : hitB yb ya[x] = false := by unfold hitB; rw [no_hit none']
      rw [no e] at h
      refine wpAny_pure ?_
      show wpAny _ _ (if (!false) = true then _ else _) _ _ _
      rw [if_pos (by decide)]
      exact wpAny_pure (wpAny_pure h)
    · have hjx : es'[j]? = some (entryOfKey (nestedKind prog w) (ya[x].1, p)) := by rw [entry_at heb, hj, Option.map_some]
      obtain ⟨i2, t2, e2⟩ := ib _ (List.mem_of_getElem? hj)
      have e2' : p.2 = Value.int i2 t2 := e2
      have e : hitB yb ya[x] = (i1 == i2) := by unfold hitB; rw [hit_at hnb hj, e1]; show (i1 == tI p.2) = _; rw [e2']; rfl
      refine wpAny_bind (wpAny_dictEntries hob hdb ?_)
      rw [hjx]
      refine wpAny_holding ?_
      show wpAny _ _ (eqBool ya[x].2.2 p.2) _ _ _
      rw [e1, e2']
      refine wpAny_eqBool_int ?_
      rw [← e]
      cases q : hitB yb ya[x] with
      | false =>
        rw [no q] at h
        show wpAny _ _ (if (!false) = true then _ else _) _ _ _
        rw [if_pos (by decide)]
        exact wpAny_pure (wpAny_pure h)
      | true =>
        show wpAny _ _ (if (!true) = true then _ else _) _ _ _
        rw [if_neg (by decide)]
        refine wpAny_bind (wpAny_dictEpoch hoa hda ?_)
        rw [if_neg (by simp)]
        exact wpAny_pure ⟨rfl, rfl, x + 1, by omega, h2, hstep.trans q⟩
  · rintro q s' ⟨rfl, rfl, i, hl, _, hall⟩
    rw [List.length_nil, Nat.add_zero] at hl
    rw [hl, List.take_length] at hall
    rw [hall] at h
    exact wpAny_pure h
end
section
variable {X : Cx}
def intV : V → Int
  | .int i => i
  | _ => 0
/-- two dicts with ints for values say the same -/
def sameX (xs ys : List Ent) : Bool := xs.length == ys.length && xs.all fun p => match valX ys p.1 with
  | some v => intV p.2.2 == intV v
  | none => false
def rEqX : R2 := fun x y H Q => ∃ d ep xs e ep' ys, x = .ref d ∧ y = .ref e ∧ DictX H d ep xs ∧ DictX H e ep' ys ∧ (∀ p ∈ xs, ∃ i, p.2.2 = V.int i) ∧ (∀ p ∈ ys, ∃ i, p.2.2 = V.int i) ∧ Q (.bl (sameX xs ys)) H
theorem EntR.ints {xs : List Ent} {ys : List (NestedKey × Addr × Value)} (r : Paired EntR xs ys) (h : ∀ p ∈ xs, ∃ i, p.2.2 = V.int i) : ∀ y ∈ ys, ∃ i t, y.2.2 = Value.int i t := by
  intro y m
  obtain ⟨x, hx, q⟩ := EntR.mem r y m
  obtain ⟨i, e⟩ := h x hx
  have := q.2.2
  rw [e] at this
  obtain ⟨t, e'⟩ := this
  exact ⟨i, t, e'⟩
theorem EntR.sameB {xs ys : List Ent} {xs' ys' : List (NestedKey × Addr × Value)} (r : Paired EntR xs xs') (q : Paired EntR ys ys') (hx : ∀ p ∈ xs, ∃ i, p.2.2 = V.int i) (hy : ∀ p ∈ ys, ∃ i, p.2.2 = V.int i) :
    (xs'.length == ys'.length && xs'.all (hitB ys')) = sameX xs ys := by
  unfold sameX
  have l1 := Paired.length r
  have l2 := Paired.length q
  rw [← l1, ← l2]
  congr 1
  clear l1
  induction r with
  | nil => rfl
  | @cons x x' xs xs' r t ih =>
    rw [List.all_cons, List.all_cons, ih fun p m => hx p (List.mem_cons_of_mem _ m)]
    congr 1
    obtain ⟨i, e⟩ := hx x List.mem_cons_self
    have hv := EntR.val q x.1
    unfold hitB
    rw [← r.1]
    cases c : atKey ys' x.1 with
    | none =>
      rw [c] at hv
      cases c2 : valX ys x.1 with
      | none => rfl
      | some v => rw [c2] at hv; exact hv.elim
    | some p =>
      rw [c] at hv
      cases c2 : valX ys x.1 with
      | none => rw [c2] at hv; exact hv.elim
      | some v =>
        rw [c2] at hv
        have hv' : RelV v p.2 := hv
        have : ∃ j, v = .int j := by
          unfold valX at c2
          obtain ⟨z, hz, e'⟩ := Option.map_eq_some_iff.mp c2
          obtain ⟨j, ej⟩ := hy z (List.mem_of_find?_eq_some hz)
          exact ⟨j, e' ▸ ej⟩
        obtain ⟨j, rfl⟩ := this
        obtain ⟨t2, e2⟩ := hv'
        have rv := r.2.2
        rw [e] at rv
        obtain ⟨t1, e1⟩ := rv
        show (tI x'.2.2 == tI p.2) = (intV x.2.2 == intV (.int j))
        rw [e1, e2, e]
        rfl
theorem op_eqX (hu : X.A.units + 64 < cLine) : OpR X (compareOp .Eq) rEqX := by
  intro pins s σ H x y v u Q I rx ry h
  obtain ⟨d, ep, xs, e, ep', ys, rfl, rfl, D, D', hx, hy, q⟩ := h
  cases rx
  cases ry
  obtain ⟨_, xs', r, hm, _⟩ := D.ofH I.hok
  obtain ⟨_, ys', r', hm', _⟩ := D'.ofH I.hok
  refine wpAny_richCompare_same_room (op := .Eq) hm.typeIs hm'.typeIs PySem.F.slot_dict_eq (wpAny_call_entry PySem.F.slot_dict_eq hm.typeIs PySem.F.entry_dict_eq ?_ (PySem.F.args_dict_eq_2 _ _)) (by omega)
  show wpAny _ _ (Builtin.Dict.dictSlotArgs "__eq__" ⟨[.ref d, .ref e], []⟩ >>= _) _ _ s
  refine wpAny_bind ?_
  unfold Builtin.Dict.dictSlotArgs
  refine wpAny_bind (wpAny_notOrdered_dict hm.typeIs ?_)
  show wpAny _ _ (pure (Value.ref d, Value.ref e)) _ _ s
  refine wpAny_pure (wpAny_bind (wpAny_isInstance (T := "dict") hm'.typeIs PySem.F.sub_dict_dict ?_))
  simp only [Bool.not_true, Bool.false_eq_true, if_false]
  refine wpAny_bind (wpAny_pure (wpAny_bind (wpAny_pure (wpAny_bind (samePairsX D.low D'.low hm hm' (EntR.ints r hx) (EntR.ints r' hy) (by show X.A.units + 1 + 8 < cLine; omega) ?_)))))
  rw [EntR.sameB r r' hx hy]
  have fin : EP X pins σ Q (Value.bool (sameX xs ys == true)) s := ⟨.bl (sameX xs ys), H, I, by show _ = Value.bool _; simp, q⟩
  exact wpAny_pure ⟨_, rfl, (fun z => nomatch z), fin⟩
/-! ### sorted(d), the keys pairs of names -/
def kn (x : Nm) : NestedKey := .tup (x.map fun (n : Nat) => .num (n : Int))
def kk (k : Ky) : NestedKey := .tup [kn k.1, kn k.2]
def dn (x : Nm) : PyData := .tuple (x.map fun (n : Nat) => .int (n : Int))
def dk (k : Ky) : PyData := .tuple [dn k.1, dn k.2]
theorem ints_map (x : Nm) : (x.map fun (n : Nat) => PyData.int (n : Int)) = (x.map fun (n : Nat) => (n : Int)).map PyData.int := by rw [List.map_map]; rfl
theorem lt_nm : ∀ x y : Nm, decide ((x.map fun (n : Nat) => (n : Int)) < (y.map fun (n : Nat) => (n : Int))) = SctBook.before x y
  | [], [] => rfl
  | [], b :: r => by simp [SctBook.before]
  | a :: l, [] => by simp [SctBook.before]
  | a :: l, b :: r => by
    have ih := lt_nm l r
    rw [before_cons, ← ih]
    simp only [List.map_cons, List.cons_lt_cons_iff, Int.ofNat_lt, Int.ofNat_inj]
    by_cases e : a = b
    · subst e; simp
    · simp [e]
theorem dataLt_dn (x y : Nm) : PySem.W.dataLt (dn x) (dn y) = SctBook.before x y := by
  unfold dn
  rw [PySem.W.dataLt_tuple]
  show PySem.W.rowLt _ _ = _
  rw [ints_map, ints_map, PySem.W.dataLt_ints, lt_nm]
theorem eqv_ints : ∀ x y : Nm, PyData.eqvAll (x.map fun (n : Nat) => .int (n : Int)) (y.map fun (n : Nat) => .int (n : Int)) = decide (x = y)
  | [], [] => by simp [PyData.eqvAll]
  | [], _ :: _ => by simp [PyData.eqvAll]
  | _ :: _, [] => by simp [PyData.eqvAll]
  | a :: l, b :: r => by
    rw [List.map_cons, List.map_cons, PyData.eqvAll, eqv_ints l r]
    by_cases e : a = b
    · subst e; simp [PyData.eqv]
    · have : ¬ ((a : Int) = b) := by omega
      simp [PyData.eqv, e, this]
theorem eqv_dn (x y : Nm) : PyData.eqv (dn x) (dn y) = decide (x = y) := by
  unfold dn
  rw [PyData.eqv, eqv_ints]
theorem alike_dn (x y : Nm) : PySem.W.alike (dn x) (dn y) = true := by
  unfold dn
  rw [PySem.W.alike, ints_map, ints_map, PySem.W.alike_ints]
theorem dataLt_dk (a b : Ky) : PySem.W.dataLt (dk a) (dk b) = SctBook.keyBefore a b := by
  unfold dk
  rw [PySem.W.dataLt_pair (alike_dn _ _) (alike_dn _ _), eqv_dn, eqv_dn, dataLt_dn, dataLt_dn]
  unfold SctBook.keyBefore
  by_cases e : a.1 = b.1
  · rw [e, before_irrefl]
    by_cases e2 : a.2 = b.2
    · rw [e2, before_irrefl]; simp
    · simp [e2]
  · simp [e]
theorem alike_dk (a b : Ky) : PySem.W.alike (dk a) (dk b) = true := by
  unfold dk
  rw [PySem.W.alike, PySem.W.alikeAll, PySem.W.alikeAll, PySem.W.alikeAll, alike_dn, alike_dn]
  rfl
theorem depth_dk (a : Ky) : (dk a).depth ≤ 3 := by
  unfold dk dn
  simp only [PyData.depth, PyData.depthAll, ints_map, PySem.W.depth_ints]
  omega
/-! ### where names and pairs of names stand -/
def vn (x : Nm) : List V := x.map fun (n : Nat) => V.int (n : Int)
def NameAt (H : Hp) (a : Addr) (x : Nm) : Prop := H a = some (.tup (vn x))
def KeyAt (H : Hp) (a : Addr) (k : Ky) : Prop := ∃ a1 a2, H a = some (.tup [.ref a1, .ref a2]) ∧ NameAt H a1 k.1 ∧ NameAt H a2 k.2
theorem NameAt.same {H H' : Hp} {a : Addr} {x : Nm} (s : Same H H') (h : NameAt H a x) : NameAt H' a x := s _ _ h
theorem KeyAt.same {H H' : Hp} {a : Addr} {k : Ky} (s : Same H H') (h : KeyAt H a k) : KeyAt H' a k := by
  obtain ⟨a1, a2, h1, h2, h3⟩ := h
  exact ⟨a1, a2, s _ _ h1, s _ _ h2, s _ _ h3⟩
theorem isKs_name {H : Hp} : ∀ x : Nm, IsKs H (x.map fun (n : Nat) => .num (n : Int)) (vn x)
  | [] => .nil
  | n :: x => .cons (.num _) (isKs_name x)
theorem NameAt.isK {H : Hp} {a : Addr} {x : Nm} (h : NameAt H a x) : IsK H (kn x) (.ref a) := .tup h (isKs_name x)
theorem KeyAt.isK {H : Hp} {a : Addr} {k : Ky} (h : KeyAt H a k) : IsK H (kk k) (.ref a) := by
  obtain ⟨a1, a2, h1, h2, h3⟩ := h
  exact .tup h1 (.cons h2.isK (.cons h3.isK .nil))
theorem depth_all (x : Nm) : NestedKey.depthAll (x.map fun (n : Nat) => .num (n : Int)) = 0 := by
  induction x with
  | nil => rfl
  | cons n x ih => rw [List.map_cons, NestedKey.depthAll, ih, NestedKey.depth]; rfl
theorem depth_kn (x : Nm) : (kn x).depth ≤ 8 := by
  unfold kn
  rw [NestedKey.depth, depth_all]
  omega
theorem depth_kk (k : Ky) : (kk k).depth ≤ 8 := by
  unfold kk kn
  simp only [NestedKey.depth, NestedKey.depthAll, depth_all]
  omega
theorem nums_inj : ∀ {x y : Nm}, (x.map fun (n : Nat) => NestedKey.num (n : Int)) = (y.map fun (n : Nat) => NestedKey.num (n : Int)) → x = y
  | [], [], _ => rfl
  | [], _ :: _, h => nomatch h
  | _ :: _, [], h => nomatch h
  | a :: l, b :: r, h => by
    rw [List.map_cons, List.map_cons] at h
    injection h with h1 h2
    injection h1 with h1
    rw [nums_inj h2, Int.ofNat_inj.mp h1]
theorem kn_inj {x y : Nm} (h : kn x = kn y) : x = y := by
  unfold kn at h
  injection h with h
  exact nums_inj h
theorem kk_inj {x y : Ky} (h : kk x = kk y) : x = y := by
  unfold kk at h
  injection h with h
  injection h with h1 h2
  injection h2 with h2 _
  exact Prod.ext (kn_inj h1) (kn_inj h2)
theorem vn_length (x : Nm) : (vn x).length = x.length := List.length_map _
theorem reads_vn {h : Heap} : ∀ (x : Nm) {us : List Value}, Vals (vn x) us → ReadsAll h us (x.map fun (n : Nat) => .int (n : Int)) []
  | [], _, r => by cases r; exact .nil
  | n :: x, _, r => by
    cases r with
    | cons r t =>
      obtain ⟨t', rfl⟩ := r
      exact .cons (as := []) (bs := []) (.int _ _) (reads_vn x t)
theorem NameAt.reads {P : Program} {w : World} {H : Hp} {h : Heap} {a : Addr} {x : Nm} (ok : HOk P w H h) (n : NameAt H a x) : Reads h (.ref a) (dn x) [] := by
  obtain ⟨_, its, rv, o, ho, hc, k, hd⟩ := (show ObjOk P w H h a (.tup (vn x)) from ok _ _ n)
  exact .tuple ho hc hd (by simpa using reads_vn (h := h) x rv)
theorem KeyAt.reads {P : Program} {w : World} {H : Hp} {h : Heap} {a : Addr} {k : Ky} (ok : HOk P w H h) (n : KeyAt H a k) : Reads h (.ref a) (dk k) [] := by
  obtain ⟨a1, a2, h1, h2, h3⟩ := n
  obtain ⟨_, its, rv, o, ho, hc, j, hd⟩ := (show ObjOk P w H h a (.tup [.ref a1, .ref a2]) from ok _ _ h1)
  have q1 := h2.reads ok
  have q2 := h3.reads ok
  cases rv with
  | cons r1 t =>
    cases t with
    | cons r2 t =>
      cases t
      cases r1
      cases r2
      exact .tuple ho hc hd (.cons (as := []) (bs := []) q1 (.cons (as := []) (bs := []) q2 .nil))
/-- an entry of a dict with such keys -/
abbrev KEnt := Ky × Addr × V
def entK (x : KEnt) : Ent := (kk x.1, x.2.1, x.2.2)
theorem each_out {bs : List KEnt} {out : List Value} (e : PySem.W.EachIs (fun v b => v = Value.ref b.2.1) out bs) : out = bs.map fun b => Value.ref b.2.1 := by
  induction e with
  | nil => rfl
  | cons h _ ih => rw [List.map_cons, ← h, ← ih]
def rSortedX : List V → Hp → VK → Prop := fun vs H Q => ∃ (d : Addr) (ep : Nat) (bs : List KEnt), vs = [.ref d] ∧ DictX H d ep (bs.map entK) ∧ (∀ b ∈ bs, KeyAt H b.2.1 b.1) ∧
  ∀ (ys : List KEnt) (p : Addr), ys.Perm bs → (ys.map (·.1)).Pairwise (fun a b => SctBook.keyBefore a b = true) → H p = none → Q (.ref p) (upd H p (.lst (ys.map fun b => .ref b.2.1)))
theorem call_sortedX (hcalm : X.calm = true) (hu : X.A.units + 64 < cLine) : CallR X (.builtin "sorted") rSortedX := by
  intro pins s σ H xs us Q I r q
  obtain ⟨d, ep, bs, ex, D, hkeys, q⟩ := q
  subst ex
  obtain ⟨u, eu, rx⟩ := vals1 r
  subst eu
  cases rx
  obtain ⟨es, zs, rr, hm, hraw, he, hsz⟩ := D.ofH I.hok
  have hbs : bs.length ≤ sizeLine := by have := D.size; rwa [List.length_map] at this
  have hnd : (bs.map (·.1)).Nodup := by
    have h1 := D.nodup
    rw [List.map_map] at h1
    have h2 : (bs.map (·.1)).map kk = bs.map ((fun x : Ent => x.1) ∘ entK) := by rw [List.map_map]; rfl
    rw [← h2] at h1
    exact (List.pairwise_map.mp h1).imp fun h e => h (congrArg kk e)
  refine Calls.call_function_entry PyProof.Rows.kind_sorted PyProof.Rows.plain_sorted PyProof.Rows.entry_sorted (PyProof.Rows.args_sorted1 _) ?_
  unfold Builtin.«sorted»
  refine wpAny_bind (m := checkCount "sorted" 1 1 _) (wpAny_pure ?_)
  refine wpAny_bind (PySem.W.kdu_collect (A := X.A.in1) (KdlSrc.rawDict D.low) (I.ok.hd hcalm) hraw (by rw [hsz, List.length_map]; exact hbs) fun h' tk acc hk hacc => ?_)
  have ea := keys_vals rr he hsz (acc := acc.toList) (by rw [Array.length_toList]; exact hacc.1) fun j v e => hacc.2 j v (by rw [← Array.getElem?_toList]; exact e)
  rw [List.map_map] at ea
  have ea' : acc.toList = bs.map fun b => Value.ref b.2.1 := ea
  have I1 : Inv X pins σ H { s with heap := h', toks := tk } := I.kept hk
  have hlen : acc.toList.length = bs.length := by rw [ea', List.length_map]
  refine wpAny_bind (wpAny_newList ?_ (by rw [hlen]; exact hbs))
  have hoL : (h'.push (seqObj "list" acc.toList.toArray 0)).get? h'.objs.size = some (seqObj "list" acc.toList.toArray 0) := Heap.get?_push_size _ rfl
  show wpAny _ _ _ _ _ { s with heap := h'.push (seqObj "list" acc.toList.toArray 0), toks := tk }
  have hE : ∀ l : List KEnt, PySem.W.EachIs (fun v b => v = Value.ref b.2.1) (l.map fun b => Value.ref b.2.1) l := by
    intro l
    induction l with
    | nil => exact .nil
    | cons b l ih => exact .cons rfl ih
  have hR : ∀ l : List KEnt, (∀ b ∈ l, KeyAt H b.2.1 b.1) → PySem.W.EachIs (fun v (b : KEnt) => ∃ as, Reads (h'.push (seqObj "list" acc.toList.toArray 0)) v (dk b.1) as ∧ h'.objs.size ∉ as) (l.map fun b => Value.ref b.2.1) l := by
    intro l hl
    induction l with
    | nil => exact .nil
    | cons b l ih =>
      refine .cons ⟨[], ?_, fun m => nomatch m⟩ (ih fun c m => hl c (List.mem_cons_of_mem _ m))
      exact PyProof.Rows.Reads.keeps (fun _ _ e => Heap.get?_push_of_some _ e) ((hl b List.mem_cons_self).reads (P := X.prog) (w := X.w) I1.hok)
  have hal : PySem.W.AllAlike (bs.map fun b => dk b.1) := PySem.W.AllAlike.of fun a b => alike_dk _ _
  refine wpAny_bind (wpAny_holding (PySem.W.list_sort_data (s := { s with heap := h'.push (seqObj "list" acc.toList.toArray 0), toks := tk }) (enc := fun b : KEnt => dk b.1) (R := fun v b => v = Value.ref b.2.1) hoL (by rw [ea']; exact hE bs) (by have hR' := hR bs hkeys; rw [← ea'] at hR'; exact hR') hal
    (PySem.W.Sortable.tuples fun b => ⟨_, _, rfl⟩) hbs (fun b _ => ?_) fun out hl hout => ?_))
  · have := depth_dk b.1
    show X.A.units + 1 + 1 + (dk b.1).depth < cLine
    omega
  have hle : PySem.W.dataLe false (fun b : KEnt => dk b.1) = fun a b => kLe a.1 b.1 := by
    rw [PySem.W.dataLe_eq]
    funext a b
    show (!PySem.W.dataLt (dk b.1) (dk a.1)) = _
    rw [dataLt_dk]
    rfl
  rw [hle] at hout
  have hp := List.mergeSort_perm bs fun a b => kLe a.1 b.1
  have hs := sorted_strict (fun b : KEnt => b.1) bs hnd
  generalize (bs.mergeSort fun a b => kLe a.1 b.1) = ys at hout hp hs
  have eo := each_out hout
  obtain ⟨e', he'⟩ := PyProof.Rows.sortedHeap_at (vs := acc.toList) (out := out.toArray) hoL
  have hlen' : (ys.map fun b : KEnt => V.ref b.2.1).length ≤ sizeLine := by rw [List.length_map, hp.length_eq]; exact hbs
  refine wpAny_pure ⟨_, rfl, .ref h'.objs.size, upd H h'.objs.size (.lst (ys.map fun b => .ref b.2.1)), I1.laid (t' := tk) (fun b u e => ?_) (Nat.le_refl _)
    (show ObjOk X.prog X.w _ _ _ (.lst (ys.map fun b => .ref b.2.1)) from ⟨hlen', out, e', ?_, he'⟩), rfl, q ys _ hp (List.pairwise_map.mpr hs) (I1.hok.fresh (Nat.le_refl _))⟩
  · have hb : b < h'.objs.size := Heap.lt_size e
    rw [PyProof.Rows.sortedHeap_old (Nat.ne_of_lt hb) (by rw [Heap.size_push]; exact Nat.lt_succ_of_lt hb)]
    exact Heap.get?_push_of_some _ e
  · rw [eo]
    have := vals_refs (ys.map fun b : KEnt => b.2.1)
    rw [List.map_map, List.map_map] at this
    exact this
end
end Fb
end
section
set_option Elab.async false
set_option maxRecDepth 100000
set_option maxHeartbeats 4000000
/-! Words of our own for the walk. -/
namespace Fb
open PySem PySem.Spec PyProof.Rows L2

/-! ### two lists, item by item -/
inductive F2 {α β : Type} (R : α → β → Prop) : List α → List β → Prop
  | nil : F2 R [] []
  | cons {a : α} {b : β} {l : List α} {r : List β} : R a b → F2 R l r → F2 R (a :: l) (b :: r)
section
variable {α β γ : Type} {R S : α → β → Prop}
theorem F2.length : ∀ {l : List α} {r : List β}, F2 R l r → l.length = r.length
  | _, _, .nil => rfl
  | _, _, .cons _ t => congrArg Nat.succ (F2.length t)
theorem F2.imp (f : ∀ a b, R a b → S a b) : ∀ {l : List α} {r : List β}, F2 R l r → F2 S l r
  | _, _, .nil => .nil
  | _, _, .cons h t => .cons (f _ _ h) (F2.imp f t)
theorem F2.snoc {a : α} {b : β} (h : R a b) : ∀ {l : List α} {r : List β}, F2 R l r → F2 R (l ++ [a]) (r ++ [b])
  | _, _, .nil => .cons h .nil
  | _, _, .cons q t => .cons q (F2.snoc h t)
theorem F2.app : ∀ {l l' : List α} {r r' : List β}, F2 R l r → F2 R l' r' → F2 R (l ++ l') (r ++ r')
  | _, _, _, _, .nil, s => s
  | _, _, _, _, .cons q t, s => .cons q (F2.app t s)
theorem F2.get : ∀ {l : List α} {r : List β} {i : Nat} {a : α}, F2 R l r → l[i]? = some a → ∃ b, r[i]? = some b ∧ R a b
  | _, _, _, _, .nil, e => by simp at e
  | _, _, 0, _, .cons h _, e => by
    simp only [List.getElem?_cons_zero, Option.some.injEq] at e
    subst e
    exact ⟨_, rfl, h⟩
  | _, _, i + 1, _, .cons _ t, e => by
    obtain ⟨b, h1, h2⟩ := F2.get (i := i) t (by simpa using e)
    exact ⟨b, by simpa using h1, h2⟩
theorem F2.get' : ∀ {l : List α} {r : List β} {i : Nat} {b : β}, F2 R l r → r[i]? = some b → ∃ a, l[i]? = some a ∧ R a b
  | _, _, _, _, .nil, e => by simp at e
  | _, _, 0, _, .cons h _, e => by
    simp only [List.getElem?_cons_zero, Option.some.injEq] at e
    subst e
    exact ⟨_, rfl, h⟩
  | _, _, i + 1, _, .cons _ t, e => by
    obtain ⟨b, h1, h2⟩ := F2.get' (i := i) t (by simpa using e)
    exact ⟨b, by simpa using h1, h2⟩
theorem F2.map_l {f : γ → α} : ∀ {l : List γ} {r : List β}, F2 (fun c b => R (f c) b) l r → F2 R (l.map f) r
  | _, _, .nil => .nil
  | _, _, .cons h t => .cons h (F2.map_l t)
theorem F2.self_map {f : β → α} (h : ∀ b, R (f b) b) : ∀ l : List β, F2 R (l.map f) l
  | [] => .nil
  | b :: l => .cons (h b) (F2.self_map h l)
theorem F2.of_mem {f : β → α} : ∀ {l : List β}, (∀ b ∈ l, R (f b) b) → F2 R (l.map f) l
  | [], _ => .nil
  | b :: l, h => .cons (h b List.mem_cons_self) (F2.of_mem fun c m => h c (List.mem_cons_of_mem _ m))
end

/-! ### what stays -/
/-- an object that the program, once it stands, doesn't change -/
def Fixed : HO → Prop
  | .tup _ => True
  | .ins _ _ _ => True
  | _ => False
/-- the tuples and the instances stay -/
def Kp (H H' : Hp) : Prop := ∀ b o, Fixed o → H b = some o → H' b = some o
theorem Same.kp {H H' : Hp} (s : Same H H') : Kp H H' := fun b o _ e => s b o e
theorem Kp.refl (H : Hp) : Kp H H := fun _ _ _ e => e
theorem Kp.trans {H H1 H2 : Hp} (a : Kp H H1) (b : Kp H1 H2) : Kp H H2 := fun c o f e => b c o f (a c o f e)
theorem Kp.upd {H : Hp} {l : Addr} {o u : HO} (h : H l = some u) (n : ¬ Fixed u) : Kp H (upd H l o) := fun b v f e => by
  rw [upd_ne]
  · exact e
  · rintro rfl
    rw [h] at e
    cases e
    exact n f
theorem Kp.lst {H : Hp} {l : Addr} {o : HO} {xs : List V} (h : H l = some (.lst xs)) : Kp H (L2.upd H l o) := Kp.upd h fun f => f
theorem Kp.dict {H : Hp} {l : Addr} {o : HO} {ep : Nat} {xs : List Ent} (h : DictX H l ep xs) : Kp H (L2.upd H l o) := Kp.upd h.at_ fun f => f
theorem Same.new {H : Hp} {p : Addr} {o : HO} (h : H p = none) : Same H (L2.upd H p o) := fun b u e => by
  rw [upd_ne (ne_of_none e h)]
  exact e
/-- what H does not know may change -/
theorem Same.mut {H H' : Hp} {p : Addr} {o : HO} (s : Same H H') (h : H p = none) : Same H (L2.upd H' p o) := fun b u e => by
  rw [upd_ne (ne_of_none e h)]
  exact s b u e
theorem NameAt.kp {H H' : Hp} {a : Addr} {x : Nm} (s : Kp H H') (h : NameAt H a x) : NameAt H' a x := s _ _ trivial h
theorem KeyAt.kp {H H' : Hp} {a : Addr} {k : Ky} (s : Kp H H') (h : KeyAt H a k) : KeyAt H' a k := by
  obtain ⟨a1, a2, h1, h2, h3⟩ := h
  exact ⟨a1, a2, s _ _ trivial h1, h2.kp s, h3.kp s⟩

/-! ### what is handed back -/
/-- an error's dict: its answer -/
def RefAt (H0 H : Hp) (d : Addr) (ans : List Int) : Prop := ∃ l, H0 l = none ∧ H d = some (.xd [(("answer" : Str), .ref l)]) ∧ H l = some (.lst (ans.map V.int))
theorem RefAt.pre {H0 H1 H : Hp} {d : Addr} {ans : List Int} (s : Same H0 H1) (h : RefAt H1 H d ans) : RefAt H0 H d ans := by
  obtain ⟨l, h0, h1, h2⟩ := h
  refine ⟨l, ?_, h1, h2⟩
  cases q : H0 l with
  | none => rfl
  | some o => rw [s _ _ q] at h0; cases h0
/-- of what is reckoned: its value, by what stands for it; or the refusal -/
structure Ret {β : Type} (K : PySem.W.Frag) (Q : VK) (E : XK) (H : Hp) (post : β → V → Hp → Prop) (r : Except (List Int) β) : Prop where
  ok : ∀ b, r = .ok b → ∀ v H', Same H H' → post b v H' → Q v H'
  err : ∀ ans, r = .error ans → ∀ d H', Same H H' → RefAt H H' d ans → E (.ref (He.ga K "Refusal")) (some d) H'
/-! ### defs, by their names -/
/-- the def x of the module keeps its promise -/
structure Gd (P : Program) (w : World) (K : PySem.W.Frag) (mg : Str → Option Value) (base : Heap) (CX : CXT) (k : Nat) (x : Str) (ps : List Str) (sp : Sp) : Prop where
  ex : ∃ f fd, FnOk P w K mg base CX k f fd ps sp ∧ Binds K fd ps [] ∧ mg x = some (.ref f) ∧ PySem.W.keepIn K (.ref f) = true
/-- the method m of the class at C keeps its promise -/
structure Md (P : Program) (w : World) (K : PySem.W.Frag) (mg : Str → Option Value) (base : Heap) (CX : CXT) (k : Nat) (C : Addr) (m : Str) (ps : List Str) (sp : Sp) : Prop where
  ex : ∃ f fd, FnOk P w K mg base CX k f fd ps sp ∧ Binds K fd ps [] ∧ Meth K C m f
/-- the class x, at C, is made -/
structure Cd (P : Program) (w : World) (K : PySem.W.Frag) (mg : Str → Option Value) (base : Heap) (k : Nat) (x : Str) (C : Addr) (ps : List Str) (sp : Sp) : Prop where
  ex : ∃ f fd, FnOk P w K mg base CX0 k f fd ps sp ∧ Binds K fd ps [] ∧ mg x = some (.ref C) ∧ Mk K C f
section
variable {X : Cx} {CX : CXT} {j k : Nat} {ps : List Str} {sp : Sp} {E : XK} {x m : Str} {C : Addr} {p pos apos : Pos} {e o : Expr} {es : List Expr} {ta : TE} {t : TA}
theorem pe_gd (G : Gd X.prog X.w X.K X.mg X.base CX k x ps sp) (hr : Room j X.A) (hx : Passes CX X E) (ha : PA X (e :: es) t) (hj : k ≤ j := by decide) (hg : Gl X x := by rfl) (hdb : (x == ("__debug__" : Str)) = false := by decide)
    (he : starEach (e :: es) X.env = (false, eval e X.env) :: starEach es X.env := by rfl) (hpl : (backTo pos (starEach es X.env)).any (·.1) = false := by rfl) : PE X (.Call (.Name x p) (e :: es) [] pos) (tCall sp [] E t) := by
  obtain ⟨f, fd, F, b, g, kp⟩ := G.ex
  exact pe_call F (hr.mono hj) hg g kp b .nil hx ha hdb he hpl
theorem pe_md {pl : Sem Bool} (G : Md X.prog X.w X.K X.mg X.base CX k C m ps sp) (he : PE X o ta) (c : Cls X.K C) (hr : Room j X.A) (hx : Passes CX X E) (ha : PA X (e :: es) t) (hj : k ≤ j := by decide)
    (hst : starEach (e :: es) X.env = (false, eval e X.env) :: starEach es X.env := by rfl) (hpl : (backTo pos (starEach es X.env)).any (·.1) = false := by rfl)
    (ht : eval (.Call (.Attribute o m apos) (e :: es) [] pos) X.env = (do
      let ov ← eval o X.env
      standAt apos.atName
      let (f, first) ← holding [ov] (getMethod ov m pl)
      callWith pos f first (backTo pos (starEach (e :: es) X.env)) (backToKw pos (keywordEach [] X.env))) := by rfl) :
    PE X (.Call (.Attribute o m apos) (e :: es) [] pos) (tMeth C m sp [] E ta t) := by
  obtain ⟨f, fd, F, b, mt⟩ := G.ex
  exact pe_meth he c mt F (hr.mono hj) b .nil hx ha hst hpl ht
theorem pe_md0 {pl : Sem Bool} (G : Md X.prog X.w X.K X.mg X.base CX k C m ps sp) (he : PE X o ta) (c : Cls X.K C) (hr : Room j X.A) (hx : Passes CX X E) (hj : k ≤ j := by decide)
    (ht : eval (.Call (.Attribute o m apos) [] [] pos) X.env = (do
      let ov ← eval o X.env
      standAt apos.atName
      let (f, first) ← holding [ov] (getMethod ov m pl)
      callWith pos f first (backTo pos (starEach [] X.env)) (backToKw pos (keywordEach [] X.env))) := by rfl) :
    PE X (.Call (.Attribute o m apos) [] [] pos) (tMeth C m sp [] E ta tNil) := by
  obtain ⟨f, fd, F, b, mt⟩ := G.ex
  exact pe_meth0 he c mt F (hr.mono hj) b .nil hx ht
theorem pe_cd (G : Cd X.prog X.w X.K X.mg X.base k x C ps sp) (hr : Room j X.A) (ha : PA X (e :: es) t) (hj : k + 1 ≤ j := by decide) (hg : Gl X x := by rfl) (hdb : (x == ("__debug__" : Str)) = false := by decide)
    (he : starEach (e :: es) X.env = (false, eval e X.env) :: starEach es X.env := by rfl) (hpl : (backTo pos (starEach es X.env)).any (·.1) = false := by rfl) : PE X (.Call (.Name x p) (e :: es) [] pos) (tMake C sp [] E0 t) := by
  obtain ⟨f, fd, F, b, g, mk⟩ := G.ex
  exact pe_make mk F (hr.mono hj) hg g b .nil pass0 ha hdb he hpl
theorem pe_cd0 (G : Cd X.prog X.w X.K X.mg X.base k x C ps sp) (hr : Room j X.A) (hj : k + 1 ≤ j := by decide) (hg : Gl X x := by rfl) (hdb : (x == ("__debug__" : Str)) = false := by decide) : PE X (.Call (.Name x p) [] [] pos) (tMake C sp [] E0 tNil) := by
  obtain ⟨f, fd, F, b, g, mk⟩ := G.ex
  exact pe_make0 mk F (hr.mono hj) hg g b .nil pass0 hdb
/-- a module's int, text -/
theorem pe_gi {i : Int} (h : ∃ t, X.mg x = some (.int i t)) (hg : Gl X x := by rfl) (hd : (x == ("__debug__" : Str)) = false := by decide) : PE X (.Name x pos) (tC (.int i)) := by
  obtain ⟨t, h⟩ := h
  exact pe_glob hg h ⟨t, rfl⟩ hd
theorem pe_gs {z : Str} (h : ∃ t, X.mg x = some (.str z t)) (hg : Gl X x := by rfl) (hd : (x == ("__debug__" : Str)) = false := by decide) : PE X (.Name x pos) (tC (.str z)) := by
  obtain ⟨t, h⟩ := h
  exact pe_glob hg h ⟨t, rfl⟩ hd
theorem pe_gr {a : Addr} (h : X.mg x = some (.ref a)) (hg : Gl X x := by rfl) (hd : (x == ("__debug__" : Str)) = false := by decide) : PE X (.Name x pos) (tC (.ref a)) := pe_glob hg h rfl hd
end
section
variable {P : Program} {w : World} {K : PySem.W.Frag} {mg : Str → Option Value} {base : Heap} {x qual : Str} {params : Arguments} {body : List Stmt} {scope : Scope} {f C : Addr} {fd : FuncData} {N ps : List Str} {k : Nat} {sp : Sp}
/-- a body where nothing is raised -/
abbrev Body0 (P : Program) (w : World) (K : PySem.W.Frag) (mg : Str → Option Value) (base : Heap) (N : List Str) (qual : Str) (scope : Scope) (body : List Stmt) (f : Addr) (k : Nat) (sp : Sp) : Prop :=
  ∀ (cdv : Value) (A : Around) (outer : List Env) (s : Shared) (H : Hp) (vs : List V) (Q : VK) (E : XK), Room k (A.deeper (envOfC qual scope s.heap.objs.size f cdv)) → sp vs H Q E →
      ∃ t, PSs (cxOf CX0 P w K mg base N qual scope f cdv A outer s H E).nox body t ∧ t { nx := fun _ H' => Q .non H', rt := Q } (start N vs) H
/-- a body that may raise -/
abbrev BodyX (P : Program) (w : World) (K : PySem.W.Frag) (mg : Str → Option Value) (base : Heap) (N : List Str) (qual : Str) (scope : Scope) (body : List Stmt) (f : Addr) (k : Nat) (sp : Sp) : Prop :=
  ∀ (cdv : Value) (A : Around) (outer : List Env) (s : Shared) (H : Hp) (vs : List V) (Q : VK) (E : XK), Room k (A.deeper (envOfC qual scope s.heap.objs.size f cdv)) → sp vs H Q E →
      ∃ t, PSs (cxOf (L2.CX P w) P w K mg base N qual scope f cdv A outer s H E) body t ∧ t { nx := fun _ H' => Q .non H', rt := Q } (start N vs) H
theorem fn0 (F : FunD K x qual params body scope [] [] f fd) (S : FnScope N ps scope) (len : ∀ vs H Q E, sp vs H Q E → vs.length = ps.length) (hb : Body0 P w K mg base N qual scope body f k sp) : FnOk P w K mg base CX0 (k + 1) f fd ps sp :=
  F.ok S len fun cdv A outer s H vs Q E hr h => let ⟨t, h1, h2⟩ := hb cdv A outer s H vs Q E hr h; ⟨t, PSs.nox h1, h2⟩
theorem fnX (F : FunD K x qual params body scope [] [] f fd) (S : FnScope N ps scope) (len : ∀ vs H Q E, sp vs H Q E → vs.length = ps.length) (hb : BodyX P w K mg base N qual scope body f k sp) : FnOk P w K mg base (L2.CX P w) (k + 1) f fd ps sp :=
  F.ok S len fun cdv A outer s H vs Q E hr h => hb cdv A outer s H vs Q E hr h
end

/-! ### loops over lists, by what is left -/
theorem take_drop {α : Type} {xs : List α} {i : Nat} {x : α} (h : xs[i]? = some x) : xs.take i ++ x :: xs.drop (i + 1) = xs ∧ xs.take (i + 1) = xs.take i ++ [x] ∧ xs.drop i = x :: xs.drop (i + 1) := by
  obtain ⟨hi, e⟩ := List.getElem?_eq_some_iff.mp h
  have e1 : xs.drop i = x :: xs.drop (i + 1) := by rw [List.drop_eq_getElem_cons hi, e]
  refine ⟨?_, ?_, e1⟩
  · rw [← e1, List.take_append_drop]
  · rw [List.take_add_one, h]
    rfl
theorem for_each {α : Type} {K : PySem.W.Frag} {a : Addr} {as : List V} {xs : List α} {R : V → α → Prop} {g : TG} {tb : TS} {D : Ends} {σ : L2.St} {H : Hp} (hF : F2 R as xs) (Pv : List α → List α → L2.St → Hp → Prop) (h0 : Pv [] xs σ H)
    (hl : ∀ d r σ H, Pv d r σ H → SqL K H a as)
    (hs : ∀ d x r v σ H, d ++ x :: r = xs → R v x → Pv d (x :: r) σ H → g v σ H fun σ2 H2 => tb { D with nx := Pv (d ++ [x]) r, ct := Pv (d ++ [x]) r, bk := D.nx } σ2 H2) (hd : ∀ σ H, Pv xs [] σ H → D.nx σ H) :
    ∃ W : Nat → Nat → L2.St → Hp → Prop, (∃ m, W 0 m σ H) ∧ ∀ i m σ H, W i m σ H →
      ((Itl K a).stop i H ∧ D.nx σ H) ∨ ((Itl K a).go i H ∧ ∃ N : L2.St → Hp → Prop, (∀ σ' H', N σ' H' → ∃ m', m' < m ∧ W (i + 1) m' σ' H') ∧ ∀ x H', (Itl K a).yld i H x H' → g x σ H' fun σ2 H2 => tb { D with nx := N, ct := N, bk := D.nx } σ2 H2) := by
  refine for_list (K := K) (a := a) (xs := as) (fun i σ H => Pv (xs.take i) (xs.drop i) σ H) (by simpa using h0) (fun i σ H _ p => hl _ _ σ H p) (fun i v σ H hv p => ?_) (fun σ H p => ?_)
  · obtain ⟨x, hx, r⟩ := hF.get hv
    obtain ⟨e1, e2, e3⟩ := take_drop hx
    rw [e3] at p
    have := hs _ x _ v σ H e1 r p
    rw [← e2] at this
    exact this
  · rw [hF.length, List.take_length, List.drop_length] at p
    exact hd σ H p
/-- over a dict's keys -/
theorem for_keys {d : Addr} {ep : Nat} {xs : List Ent} {g : TG} {tb : TS} {D : Ends} {σ : L2.St} {H : Hp} (Pv : List Ent → List Ent → L2.St → Hp → Prop) (h0 : Pv [] xs σ H) (hl : ∀ l r σ H, Pv l r σ H → DictX H d ep xs)
    (hs : ∀ l x r σ H, l ++ x :: r = xs → Pv l (x :: r) σ H → g (.ref x.2.1) σ H fun σ2 H2 => tb { D with nx := Pv (l ++ [x]) r, ct := Pv (l ++ [x]) r, bk := D.nx } σ2 H2) (hd : ∀ σ H, Pv xs [] σ H → D.nx σ H) :
    ∃ W : Nat → Nat → L2.St → Hp → Prop, (∃ m, W 0 m σ H) ∧ ∀ i m σ H, W i m σ H →
      ((ItX d ep xs).stop i H ∧ D.nx σ H) ∨ ((ItX d ep xs).go i H ∧ ∃ N : L2.St → Hp → Prop, (∀ σ' H', N σ' H' → ∃ m', m' < m ∧ W (i + 1) m' σ' H') ∧ ∀ x H', (ItX d ep xs).yld i H x H' → g x σ H' fun σ2 H2 => tb { D with nx := N, ct := N, bk := D.nx } σ2 H2) := by
  refine for_X (xs := xs) (fun i σ H => Pv (xs.take i) (xs.drop i) σ H) (by simpa using h0) (fun i σ H _ p => hl _ _ σ H p) (fun i x σ H hx p => ?_) (fun σ H p => ?_)
  · obtain ⟨e1, e2, e3⟩ := take_drop hx
    rw [e3] at p
    have := hs _ x _ σ H e1 p
    rw [← e2] at this
    exact this
  · rw [List.take_length, List.drop_length] at p
    exact hd σ H p
/-- a comprehension over a list -/
theorem lc_each {α : Type} {K : PySem.W.Frag} {a : Addr} {as : List V} {xs : List α} {R : V → α → Prop} {g : TG} {tt : TT} {te : TE} {vs : List Nat} {σ : L2.St} {H1 : Hp} {D : Addr} {Qd : Hp → Prop} (hF : F2 R as xs) (Pv : List α → List α → Hp → Prop) (h0 : Pv [] xs (upd H1 D (.lst [])))
    (hl : ∀ d r H, Pv d r H → SqL K H a as)
    (hs : ∀ d x r v H, d ++ x :: r = xs → R v x → Pv d (x :: r) H → g v (wipe σ vs) H fun σ2 H2 => wipe σ2 vs = wipe σ vs ∧ tt σ2 H2 fun b H3 =>
      if b = true then te σ2 H3 fun y H4 => ∃ acc, H4 D = some (.lst acc) ∧ acc.length < sizeLine ∧ Pv (d ++ [x]) r (upd H4 D (.lst (acc ++ [y]))) else Pv (d ++ [x]) r H3) (hd : ∀ H, Pv xs [] H → Qd H) :
    ∃ W : Nat → Nat → Hp → Prop, (∃ m, W 0 m (upd H1 D (.lst []))) ∧ ∀ i m H, W i m H →
      ((Itl K a).stop i H ∧ Qd H) ∨ ((Itl K a).go i H ∧ ∃ Nx : Hp → Prop, (∀ H', Nx H' → ∃ m', m' < m ∧ W (i + 1) m' H') ∧ ∀ x H', (Itl K a).yld i H x H' → g x (wipe σ vs) H' fun σ2 H2 => wipe σ2 vs = wipe σ vs ∧ tt σ2 H2 fun b H3 =>
        if b = true then te σ2 H3 fun y H4 => ∃ acc, H4 D = some (.lst acc) ∧ acc.length < sizeLine ∧ Nx (upd H4 D (.lst (acc ++ [y]))) else Nx H3) := by
  refine lc_list (K := K) (a := a) (xs := as) (fun i H => Pv (xs.take i) (xs.drop i) H) (by simpa using h0) (fun i H _ p => hl _ _ H p) (fun i v H hv p => ?_) (fun H p => ?_)
  · obtain ⟨x, hx, r⟩ := hF.get hv
    obtain ⟨e1, e2, e3⟩ := take_drop hx
    rw [e3] at p
    have := hs _ x _ v H e1 r p
    rw [← e2] at this
    exact this
  · rw [hF.length, List.take_length, List.drop_length] at p
    exact hd H p
/-! ### small things -/
theorem if_t {c : Bool} {A B : Prop} (hc : c = true) (h : A) : if c = true then A else B := by
  rw [if_pos hc]
  exact h
theorem if_f {c : Bool} {A B : Prop} (hc : c = false) (h : B) : if c = true then A else B := by
  rw [hc, if_neg Bool.false_ne_true]
  exact h
theorem if_b {c : Bool} {A B : Prop} (h1 : c = true → A) (h2 : c = false → B) : if c = true then A else B := by
  cases c with
  | true => exact if_t rfl (h1 rfl)
  | false => exact if_f rfl (h2 rfl)
theorem fits {n : Nat} (h : n ≤ 16000000) : n ≤ sizeLine := by rw [sizeLine_eq]; omega
theorem fits' {n : Nat} (h : n ≤ 16000000) : n < sizeLine := by rw [sizeLine_eq]; omega
end Fb
end
section
set_option Elab.async false
set_option maxRecDepth 100000
set_option maxHeartbeats 4000000
/-! What the top has written, fact by fact (printed by gen_tx.py). -/
namespace Fb
open PySem PySem.Spec PyProof.Rows L2
def refChk (K : PySem.W.Frag) : Bool := PySem.W.excInitIn K (He.ga K "Refusal") PySem.RefX.eTail "Exception.__new__" && (PySem.W.excOver K (He.ga K "Refusal") PySem.RefX.eTail && (He.eqO (PySem.W.findIn K (.ref (He.ga K "Refusal")) "__setattr__") (some (some (.builtin "object.__setattr__"))) &&
  (He.eqO (PySem.W.findIn K (.ref (He.ga K "Refusal")) "__getattribute__") (some (some (.builtin "BaseException.__getattribute__"))) && (He.eqO (PySem.W.findIn K (.ref (He.ga K "Refusal")) "__getattr__") (some none) && (He.eqO (PySem.W.findIn K (.ref (He.ga K "Refusal")) "answer") (some none) &&
  (He.eqO (PySem.W.findIn K (.ref (He.ga K "Refusal")) "__init__") (some (some (.ref (He.ma K (He.ga K "Refusal") "__init__")))) && (decide (PySem.W.typeIn K (.ref (He.ma K (He.ga K "Refusal") "__init__")) = some (.type "function")) && (PySem.W.keepIn K (.ref (He.ga K "Refusal")) &&
  (decide (PySem.W.subIn K (.ref (He.ga K "Refusal")) (.type "BaseException") = some true) && (decide (PySem.W.typeIn K (.ref (He.ga K "Refusal")) = some (.type "type")) && (PySem.W.hasDictIn K (He.ga K "Refusal") && decide (PySem.W.exmOne K (.ref (He.ga K "Refusal")) (.ref (He.ga K "Refusal")) = some true))))))))))))
def chkT (K : PySem.W.Frag) : Bool := (faL.all fun f => f.ok K) && (refChk K && (He.tupB K "SCALES" [.int 1000, .int 100, .int 10, .int 1] && He.tupB K "NUMBERS" [.int 0, .int 0, .int 0, .int 1, .int 1, .int 2, .int 2, .int 1, .int 0, .int 3, .int 1, .int 1, .int 1, .int 1, .int 1] && He.tupB K "ROWS" [.int 0, .int 1, .int 1, .int 0, .int 0, .int 0, .int 0, .int 1, .int 1, .int 0, .int 2, .int 1, .int 1, .int 1, .int 0]))
/-- the top has run: K is what it has written, mg what its names hold -/
structure Tx (K : PySem.W.Frag) (mg : Str → Option Value) : Prop where
  says : SaysF chkT fnL K
  at_ : ∃ h, K.In h ∧ h.Ns mainGlobals mg
section
variable {K : PySem.W.Frag} {mg : Str → Option Value}
theorem Tx.fact (T : Tx K mg) (i : Nat) {f : He.Fa} (h : faL[i]? = some f := by rfl) : f.ok K = true := List.all_eq_true.mp (He.ba T.says.chkd).1 f (List.mem_of_getElem? h)
theorem Tx.g_refuse_if (T : Tx K mg) : mg "refuse_if" = some (.ref (He.ga K "refuse_if")) := let ⟨_, X, G⟩ := T.at_; He.glo_ok X G (T.fact 0)
theorem Tx.g_refuse_at (T : Tx K mg) : mg "refuse_at" = some (.ref (He.ga K "refuse_at")) := let ⟨_, X, G⟩ := T.at_; He.glo_ok X G (T.fact 1)
theorem Tx.g_thing (T : Tx K mg) : mg "thing" = some (.ref (He.ga K "thing")) := let ⟨_, X, G⟩ := T.at_; He.glo_ok X G (T.fact 2)
theorem Tx.g_is_thing (T : Tx K mg) : mg "is_thing" = some (.ref (He.ga K "is_thing")) := let ⟨_, X, G⟩ := T.at_; He.glo_ok X G (T.fact 3)
theorem Tx.g_said (T : Tx K mg) : mg "said" = some (.ref (He.ga K "said")) := let ⟨_, X, G⟩ := T.at_; He.glo_ok X G (T.fact 4)
theorem Tx.g_has_thing (T : Tx K mg) : mg "has_thing" = some (.ref (He.ga K "has_thing")) := let ⟨_, X, G⟩ := T.at_; He.glo_ok X G (T.fact 5)
theorem Tx.g_things_of (T : Tx K mg) : mg "things_of" = some (.ref (He.ga K "things_of")) := let ⟨_, X, G⟩ := T.at_; He.glo_ok X G (T.fact 6)
theorem Tx.g_accords_of (T : Tx K mg) : mg "accords_of" = some (.ref (He.ga K "accords_of")) := let ⟨_, X, G⟩ := T.at_; He.glo_ok X G (T.fact 7)
theorem Tx.g_parts_of (T : Tx K mg) : mg "parts_of" = some (.ref (He.ga K "parts_of")) := let ⟨_, X, G⟩ := T.at_; He.glo_ok X G (T.fact 8)
theorem Tx.g_standing_in (T : Tx K mg) : mg "standing_in" = some (.ref (He.ga K "standing_in")) := let ⟨_, X, G⟩ := T.at_; He.glo_ok X G (T.fact 9)
theorem Tx.g_parts_are_known (T : Tx K mg) : mg "parts_are_known" = some (.ref (He.ga K "parts_are_known")) := let ⟨_, X, G⟩ := T.at_; He.glo_ok X G (T.fact 10)
theorem Tx.g_is_right (T : Tx K mg) : mg "is_right" = some (.ref (He.ga K "is_right")) := let ⟨_, X, G⟩ := T.at_; He.glo_ok X G (T.fact 11)
theorem Tx.g_renamed (T : Tx K mg) : mg "renamed" = some (.ref (He.ga K "renamed")) := let ⟨_, X, G⟩ := T.at_; He.glo_ok X G (T.fact 12)
theorem Tx.g_without_thing (T : Tx K mg) : mg "without_thing" = some (.ref (He.ga K "without_thing")) := let ⟨_, X, G⟩ := T.at_; He.glo_ok X G (T.fact 13)
theorem Tx.g_users_of (T : Tx K mg) : mg "users_of" = some (.ref (He.ga K "users_of")) := let ⟨_, X, G⟩ := T.at_; He.glo_ok X G (T.fact 14)
theorem Tx.g_first_ready (T : Tx K mg) : mg "first_ready" = some (.ref (He.ga K "first_ready")) := let ⟨_, X, G⟩ := T.at_; He.glo_ok X G (T.fact 15)
theorem Tx.g_told_order (T : Tx K mg) : mg "told_order" = some (.ref (He.ga K "told_order")) := let ⟨_, X, G⟩ := T.at_; He.glo_ok X G (T.fact 16)
theorem Tx.g_byte_at (T : Tx K mg) : mg "byte_at" = some (.ref (He.ga K "byte_at")) := let ⟨_, X, G⟩ := T.at_; He.glo_ok X G (T.fact 17)
theorem Tx.g_is_letter (T : Tx K mg) : mg "is_letter" = some (.ref (He.ga K "is_letter")) := let ⟨_, X, G⟩ := T.at_; He.glo_ok X G (T.fact 18)
theorem Tx.g_is_digit (T : Tx K mg) : mg "is_digit" = some (.ref (He.ga K "is_digit")) := let ⟨_, X, G⟩ := T.at_; He.glo_ok X G (T.fact 19)
theorem Tx.g_is_name_byte (T : Tx K mg) : mg "is_name_byte" = some (.ref (He.ga K "is_name_byte")) := let ⟨_, X, G⟩ := T.at_; He.glo_ok X G (T.fact 20)
theorem Tx.g_is_name (T : Tx K mg) : mg "is_name" = some (.ref (He.ga K "is_name")) := let ⟨_, X, G⟩ := T.at_; He.glo_ok X G (T.fact 21)
theorem Tx.g_refuse_here (T : Tx K mg) : mg "refuse_here" = some (.ref (He.ga K "refuse_here")) := let ⟨_, X, G⟩ := T.at_; He.glo_ok X G (T.fact 22)
theorem Tx.g_expect (T : Tx K mg) : mg "expect" = some (.ref (He.ga K "expect")) := let ⟨_, X, G⟩ := T.at_; He.glo_ok X G (T.fact 23)
theorem Tx.g_expect_word (T : Tx K mg) : mg "expect_word" = some (.ref (He.ga K "expect_word")) := let ⟨_, X, G⟩ := T.at_; He.glo_ok X G (T.fact 24)
theorem Tx.g_name_end (T : Tx K mg) : mg "name_end" = some (.ref (He.ga K "name_end")) := let ⟨_, X, G⟩ := T.at_; He.glo_ok X G (T.fact 25)
theorem Tx.g_digits_end (T : Tx K mg) : mg "digits_end" = some (.ref (He.ga K "digits_end")) := let ⟨_, X, G⟩ := T.at_; He.glo_ok X G (T.fact 26)
theorem Tx.g_number_of (T : Tx K mg) : mg "number_of" = some (.ref (He.ga K "number_of")) := let ⟨_, X, G⟩ := T.at_; He.glo_ok X G (T.fact 27)
theorem Tx.g_whole_end (T : Tx K mg) : mg "whole_end" = some (.ref (He.ga K "whole_end")) := let ⟨_, X, G⟩ := T.at_; He.glo_ok X G (T.fact 28)
theorem Tx.g_amount_of (T : Tx K mg) : mg "amount_of" = some (.ref (He.ga K "amount_of")) := let ⟨_, X, G⟩ := T.at_; He.glo_ok X G (T.fact 29)
theorem Tx.g_amount_bytes (T : Tx K mg) : mg "amount_bytes" = some (.ref (He.ga K "amount_bytes")) := let ⟨_, X, G⟩ := T.at_; He.glo_ok X G (T.fact 30)
theorem Tx.g_remark_end (T : Tx K mg) : mg "remark_end" = some (.ref (He.ga K "remark_end")) := let ⟨_, X, G⟩ := T.at_; He.glo_ok X G (T.fact 31)
theorem Tx.g_thing_line (T : Tx K mg) : mg "thing_line" = some (.ref (He.ga K "thing_line")) := let ⟨_, X, G⟩ := T.at_; He.glo_ok X G (T.fact 32)
theorem Tx.g_part_line (T : Tx K mg) : mg "part_line" = some (.ref (He.ga K "part_line")) := let ⟨_, X, G⟩ := T.at_; He.glo_ok X G (T.fact 33)
theorem Tx.g_lines_of (T : Tx K mg) : mg "lines_of" = some (.ref (He.ga K "lines_of")) := let ⟨_, X, G⟩ := T.at_; He.glo_ok X G (T.fact 34)
theorem Tx.g_first_repeated_booktexts (T : Tx K mg) : mg "first_repeated_booktexts" = some (.ref (He.ga K "first_repeated_booktexts")) := let ⟨_, X, G⟩ := T.at_; He.glo_ok X G (T.fact 35)
theorem Tx.g_first_unknown (T : Tx K mg) : mg "first_unknown" = some (.ref (He.ga K "first_unknown")) := let ⟨_, X, G⟩ := T.at_; He.glo_ok X G (T.fact 36)
theorem Tx.g_first_without_parts (T : Tx K mg) : mg "first_without_parts" = some (.ref (He.ga K "first_without_parts")) := let ⟨_, X, G⟩ := T.at_; He.glo_ok X G (T.fact 37)
theorem Tx.g_first_in_itself (T : Tx K mg) : mg "first_in_itself" = some (.ref (He.ga K "first_in_itself")) := let ⟨_, X, G⟩ := T.at_; He.glo_ok X G (T.fact 38)
theorem Tx.g_first_too_many (T : Tx K mg) : mg "first_too_many" = some (.ref (He.ga K "first_too_many")) := let ⟨_, X, G⟩ := T.at_; He.glo_ok X G (T.fact 39)
theorem Tx.g_read_book (T : Tx K mg) : mg "read_book" = some (.ref (He.ga K "read_book")) := let ⟨_, X, G⟩ := T.at_; He.glo_ok X G (T.fact 40)
theorem Tx.g_thing_bytes (T : Tx K mg) : mg "thing_bytes" = some (.ref (He.ga K "thing_bytes")) := let ⟨_, X, G⟩ := T.at_; He.glo_ok X G (T.fact 41)
theorem Tx.g_fact_bytes_booktexts (T : Tx K mg) : mg "fact_bytes_booktexts" = some (.ref (He.ga K "fact_bytes_booktexts")) := let ⟨_, X, G⟩ := T.at_; He.glo_ok X G (T.fact 42)
theorem Tx.g_book_text (T : Tx K mg) : mg "book_text" = some (.ref (He.ga K "book_text")) := let ⟨_, X, G⟩ := T.at_; He.glo_ok X G (T.fact 43)
theorem Tx.g_parts_text (T : Tx K mg) : mg "parts_text" = some (.ref (He.ga K "parts_text")) := let ⟨_, X, G⟩ := T.at_; He.glo_ok X G (T.fact 44)
theorem Tx.g_names_text (T : Tx K mg) : mg "names_text" = some (.ref (He.ga K "names_text")) := let ⟨_, X, G⟩ := T.at_; He.glo_ok X G (T.fact 45)
theorem Tx.g_is_word (T : Tx K mg) : mg "is_word" = some (.ref (He.ga K "is_word")) := let ⟨_, X, G⟩ := T.at_; He.glo_ok X G (T.fact 46)
theorem Tx.g_change_line (T : Tx K mg) : mg "change_line" = some (.ref (He.ga K "change_line")) := let ⟨_, X, G⟩ := T.at_; He.glo_ok X G (T.fact 47)
theorem Tx.g_change_lines (T : Tx K mg) : mg "change_lines" = some (.ref (He.ga K "change_lines")) := let ⟨_, X, G⟩ := T.at_; He.glo_ok X G (T.fact 48)
theorem Tx.g_first_repeated_changes (T : Tx K mg) : mg "first_repeated_changes" = some (.ref (He.ga K "first_repeated_changes")) := let ⟨_, X, G⟩ := T.at_; He.glo_ok X G (T.fact 49)
theorem Tx.g_read_change (T : Tx K mg) : mg "read_change" = some (.ref (He.ga K "read_change")) := let ⟨_, X, G⟩ := T.at_; He.glo_ok X G (T.fact 50)
theorem Tx.g_change_of (T : Tx K mg) : mg "change_of" = some (.ref (He.ga K "change_of")) := let ⟨_, X, G⟩ := T.at_; He.glo_ok X G (T.fact 51)
theorem Tx.g_fits (T : Tx K mg) : mg "fits" = some (.ref (He.ga K "fits")) := let ⟨_, X, G⟩ := T.at_; He.glo_ok X G (T.fact 52)
theorem Tx.g_first_unfit (T : Tx K mg) : mg "first_unfit" = some (.ref (He.ga K "first_unfit")) := let ⟨_, X, G⟩ := T.at_; He.glo_ok X G (T.fact 53)
theorem Tx.g_changed (T : Tx K mg) : mg "changed" = some (.ref (He.ga K "changed")) := let ⟨_, X, G⟩ := T.at_; He.glo_ok X G (T.fact 54)
theorem Tx.g_turned (T : Tx K mg) : mg "turned" = some (.ref (He.ga K "turned")) := let ⟨_, X, G⟩ := T.at_; He.glo_ok X G (T.fact 55)
theorem Tx.g_difference (T : Tx K mg) : mg "difference" = some (.ref (He.ga K "difference")) := let ⟨_, X, G⟩ := T.at_; He.glo_ok X G (T.fact 56)
theorem Tx.g_fact_bytes_changes (T : Tx K mg) : mg "fact_bytes_changes" = some (.ref (He.ga K "fact_bytes_changes")) := let ⟨_, X, G⟩ := T.at_; He.glo_ok X G (T.fact 57)
theorem Tx.g_subjects_of (T : Tx K mg) : mg "subjects_of" = some (.ref (He.ga K "subjects_of")) := let ⟨_, X, G⟩ := T.at_; He.glo_ok X G (T.fact 58)
theorem Tx.g_change_text (T : Tx K mg) : mg "change_text" = some (.ref (He.ga K "change_text")) := let ⟨_, X, G⟩ := T.at_; He.glo_ok X G (T.fact 59)
theorem Tx.g_contradict (T : Tx K mg) : mg "contradict" = some (.ref (He.ga K "contradict")) := let ⟨_, X, G⟩ := T.at_; He.glo_ok X G (T.fact 60)
theorem Tx.g_contradictions (T : Tx K mg) : mg "contradictions" = some (.ref (He.ga K "contradictions")) := let ⟨_, X, G⟩ := T.at_; He.glo_ok X G (T.fact 61)
theorem Tx.g_merged_saying (T : Tx K mg) : mg "merged_saying" = some (.ref (He.ga K "merged_saying")) := let ⟨_, X, G⟩ := T.at_; He.glo_ok X G (T.fact 62)
theorem Tx.g_merged (T : Tx K mg) : mg "merged" = some (.ref (He.ga K "merged")) := let ⟨_, X, G⟩ := T.at_; He.glo_ok X G (T.fact 63)
theorem Tx.g_subjects_text (T : Tx K mg) : mg "subjects_text" = some (.ref (He.ga K "subjects_text")) := let ⟨_, X, G⟩ := T.at_; He.glo_ok X G (T.fact 64)
theorem Tx.g_refuse_long (T : Tx K mg) : mg "refuse_long" = some (.ref (He.ga K "refuse_long")) := let ⟨_, X, G⟩ := T.at_; He.glo_ok X G (T.fact 65)
theorem Tx.g_refuse_below (T : Tx K mg) : mg "refuse_below" = some (.ref (He.ga K "refuse_below")) := let ⟨_, X, G⟩ := T.at_; He.glo_ok X G (T.fact 66)
theorem Tx.g_refuse_no_name (T : Tx K mg) : mg "refuse_no_name" = some (.ref (He.ga K "refuse_no_name")) := let ⟨_, X, G⟩ := T.at_; He.glo_ok X G (T.fact 67)
theorem Tx.g_call_judge (T : Tx K mg) : mg "call_judge" = some (.ref (He.ga K "call_judge")) := let ⟨_, X, G⟩ := T.at_; He.glo_ok X G (T.fact 68)
theorem Tx.g_call_invert (T : Tx K mg) : mg "call_invert" = some (.ref (He.ga K "call_invert")) := let ⟨_, X, G⟩ := T.at_; He.glo_ok X G (T.fact 69)
theorem Tx.g_call_of_texts (T : Tx K mg) : mg "call_of_texts" = some (.ref (He.ga K "call_of_texts")) := let ⟨_, X, G⟩ := T.at_; He.glo_ok X G (T.fact 70)
theorem Tx.g_call_of_names (T : Tx K mg) : mg "call_of_names" = some (.ref (He.ga K "call_of_names")) := let ⟨_, X, G⟩ := T.at_; He.glo_ok X G (T.fact 71)
theorem Tx.g_call_of_versions (T : Tx K mg) : mg "call_of_versions" = some (.ref (He.ga K "call_of_versions")) := let ⟨_, X, G⟩ := T.at_; He.glo_ok X G (T.fact 72)
theorem Tx.g_do_call (T : Tx K mg) : mg "do_call" = some (.ref (He.ga K "do_call")) := let ⟨_, X, G⟩ := T.at_; He.glo_ok X G (T.fact 73)
theorem Tx.g_next_answer (T : Tx K mg) : mg "next_answer" = some (.ref (He.ga K "next_answer")) := let ⟨_, X, G⟩ := T.at_; He.glo_ok X G (T.fact 74)
theorem Tx.g_answers (T : Tx K mg) : mg "answers" = some (.ref (He.ga K "answers")) := let ⟨_, X, G⟩ := T.at_; He.glo_ok X G (T.fact 75)
theorem Tx.b_len (T : Tx K mg) : mg "len" = none := let ⟨_, X, G⟩ := T.at_; He.free_ok X G (T.fact 76)
theorem Tx.b_range (T : Tx K mg) : mg "range" = none := let ⟨_, X, G⟩ := T.at_; He.free_ok X G (T.fact 77)
theorem Tx.b_sorted (T : Tx K mg) : mg "sorted" = none := let ⟨_, X, G⟩ := T.at_; He.free_ok X G (T.fact 78)
theorem Tx.b_list (T : Tx K mg) : mg "list" = none := let ⟨_, X, G⟩ := T.at_; He.free_ok X G (T.fact 79)
theorem Tx.b_tuple (T : Tx K mg) : mg "tuple" = none := let ⟨_, X, G⟩ := T.at_; He.free_ok X G (T.fact 80)
theorem Tx.b_min (T : Tx K mg) : mg "min" = none := let ⟨_, X, G⟩ := T.at_; He.free_ok X G (T.fact 81)
theorem Tx.b_ord (T : Tx K mg) : mg "ord" = none := let ⟨_, X, G⟩ := T.at_; He.free_ok X G (T.fact 82)
theorem Tx.b_str (T : Tx K mg) : mg "str" = none := let ⟨_, X, G⟩ := T.at_; He.free_ok X G (T.fact 83)
theorem Tx.b_all (T : Tx K mg) : mg "all" = none := let ⟨_, X, G⟩ := T.at_; He.free_ok X G (T.fact 84)
theorem Tx.b_Exception (T : Tx K mg) : mg "Exception" = none := let ⟨_, X, G⟩ := T.at_; He.free_ok X G (T.fact 85)
theorem Tx.i_NOTHING (T : Tx K mg) : ∃ t, mg "NOTHING" = some (.int (0) t) := let ⟨_, X, G⟩ := T.at_; He.int_ok X G (T.fact 86)
theorem Tx.i_MATERIAL (T : Tx K mg) : ∃ t, mg "MATERIAL" = some (.int (-1) t) := let ⟨_, X, G⟩ := T.at_; He.int_ok X G (T.fact 87)
theorem Tx.i_ACCORD (T : Tx K mg) : ∃ t, mg "ACCORD" = some (.int (-2) t) := let ⟨_, X, G⟩ := T.at_; He.int_ok X G (T.fact 88)
theorem Tx.i_MOST_THINGS (T : Tx K mg) : ∃ t, mg "MOST_THINGS" = some (.int (40) t) := let ⟨_, X, G⟩ := T.at_; He.int_ok X G (T.fact 89)
theorem Tx.i_MOST_PARTS (T : Tx K mg) : ∃ t, mg "MOST_PARTS" = some (.int (12) t) := let ⟨_, X, G⟩ := T.at_; He.int_ok X G (T.fact 90)
theorem Tx.i_LINE_END (T : Tx K mg) : ∃ t, mg "LINE_END" = some (.int (10) t) := let ⟨_, X, G⟩ := T.at_; He.int_ok X G (T.fact 91)
theorem Tx.i_BLANK (T : Tx K mg) : ∃ t, mg "BLANK" = some (.int (32) t) := let ⟨_, X, G⟩ := T.at_; He.int_ok X G (T.fact 92)
theorem Tx.i_REMARK (T : Tx K mg) : ∃ t, mg "REMARK" = some (.int (35) t) := let ⟨_, X, G⟩ := T.at_; He.int_ok X G (T.fact 93)
theorem Tx.i_PLUS (T : Tx K mg) : ∃ t, mg "PLUS" = some (.int (43) t) := let ⟨_, X, G⟩ := T.at_; He.int_ok X G (T.fact 94)
theorem Tx.i_MINUS (T : Tx K mg) : ∃ t, mg "MINUS" = some (.int (45) t) := let ⟨_, X, G⟩ := T.at_; He.int_ok X G (T.fact 95)
theorem Tx.i_POINT (T : Tx K mg) : ∃ t, mg "POINT" = some (.int (46) t) := let ⟨_, X, G⟩ := T.at_; He.int_ok X G (T.fact 96)
theorem Tx.i_NOUGHT (T : Tx K mg) : ∃ t, mg "NOUGHT" = some (.int (48) t) := let ⟨_, X, G⟩ := T.at_; He.int_ok X G (T.fact 97)
theorem Tx.i_MOST_NAME (T : Tx K mg) : ∃ t, mg "MOST_NAME" = some (.int (16) t) := let ⟨_, X, G⟩ := T.at_; He.int_ok X G (T.fact 98)
theorem Tx.i_MOST_WHOLE (T : Tx K mg) : ∃ t, mg "MOST_WHOLE" = some (.int (6) t) := let ⟨_, X, G⟩ := T.at_; He.int_ok X G (T.fact 99)
theorem Tx.i_MOST_BEHIND (T : Tx K mg) : ∃ t, mg "MOST_BEHIND" = some (.int (3) t) := let ⟨_, X, G⟩ := T.at_; He.int_ok X G (T.fact 100)
theorem Tx.i_MOST_VERSIONS (T : Tx K mg) : ∃ t, mg "MOST_VERSIONS" = some (.int (12) t) := let ⟨_, X, G⟩ := T.at_; He.int_ok X G (T.fact 101)
theorem Tx.i_MOST_BYTES (T : Tx K mg) : ∃ t, mg "MOST_BYTES" = some (.int (4000) t) := let ⟨_, X, G⟩ := T.at_; He.int_ok X G (T.fact 102)
theorem Tx.s_MATERIAL_WORD (T : Tx K mg) : ∃ t, mg "MATERIAL_WORD" = some (.str "material" t) := let ⟨_, X, G⟩ := T.at_; He.str_ok X G (T.fact 103)
theorem Tx.s_ACCORD_WORD (T : Tx K mg) : ∃ t, mg "ACCORD_WORD" = some (.str "accord" t) := let ⟨_, X, G⟩ := T.at_; He.str_ok X G (T.fact 104)
theorem Tx.g_Reader (T : Tx K mg) : mg "Reader" = some (.ref (He.ga K "Reader")) := let ⟨_, X, G⟩ := T.at_; He.glo_ok X G (T.fact 105)
theorem Tx.c_Reader (T : Tx K mg) : Cls K (He.ga K "Reader") := He.cls_ok (T.fact 106)
theorem Tx.k_Reader (T : Tx K mg) : Mk K (He.ga K "Reader") (He.ma K (He.ga K "Reader") "__init__") := He.mkr_ok (T.fact 107)
theorem Tx.n_Reader_calls (T : Tx K mg) : NoAttr K (He.ga K "Reader") "calls" := He.noat_ok (T.fact 108)
theorem Tx.n_Reader_at (T : Tx K mg) : NoAttr K (He.ga K "Reader") "at" := He.noat_ok (T.fact 109)
theorem Tx.m_Reader_more (T : Tx K mg) : Meth K (He.ga K "Reader") "more" (He.ma K (He.ga K "Reader") "more") := He.meth_ok (T.fact 110)
theorem Tx.m_Reader_number (T : Tx K mg) : Meth K (He.ga K "Reader") "number" (He.ma K (He.ga K "Reader") "number") := He.meth_ok (T.fact 111)
theorem Tx.m_Reader_row (T : Tx K mg) : Meth K (He.ga K "Reader") "row" (He.ma K (He.ga K "Reader") "row") := He.meth_ok (T.fact 112)
theorem Tx.g_Refusal (T : Tx K mg) : mg "Refusal" = some (.ref (He.ga K "Refusal")) := let ⟨_, X, G⟩ := T.at_; He.glo_ok X G (T.fact 113)
theorem Tx.g_Line (T : Tx K mg) : mg "Line" = some (.ref (He.ga K "Line")) := let ⟨_, X, G⟩ := T.at_; He.glo_ok X G (T.fact 114)
theorem Tx.c_Line (T : Tx K mg) : Cls K (He.ga K "Line") := He.cls_ok (T.fact 115)
theorem Tx.k_Line (T : Tx K mg) : Mk K (He.ga K "Line") (He.ma K (He.ga K "Line") "__init__") := He.mkr_ok (T.fact 116)
theorem Tx.n_Line_subject (T : Tx K mg) : NoAttr K (He.ga K "Line") "subject" := He.noat_ok (T.fact 117)
theorem Tx.n_Line_told (T : Tx K mg) : NoAttr K (He.ga K "Line") "told" := He.noat_ok (T.fact 118)
theorem Tx.n_Line_place (T : Tx K mg) : NoAttr K (He.ga K "Line") "place" := He.noat_ok (T.fact 119)
theorem Tx.g_ChangeLine (T : Tx K mg) : mg "ChangeLine" = some (.ref (He.ga K "ChangeLine")) := let ⟨_, X, G⟩ := T.at_; He.glo_ok X G (T.fact 120)
theorem Tx.c_ChangeLine (T : Tx K mg) : Cls K (He.ga K "ChangeLine") := He.cls_ok (T.fact 121)
theorem Tx.k_ChangeLine (T : Tx K mg) : Mk K (He.ga K "ChangeLine") (He.ma K (He.ga K "ChangeLine") "__init__") := He.mkr_ok (T.fact 122)
theorem Tx.n_ChangeLine_comes (T : Tx K mg) : NoAttr K (He.ga K "ChangeLine") "comes" := He.noat_ok (T.fact 123)
theorem Tx.n_ChangeLine_subject (T : Tx K mg) : NoAttr K (He.ga K "ChangeLine") "subject" := He.noat_ok (T.fact 124)
theorem Tx.n_ChangeLine_told (T : Tx K mg) : NoAttr K (He.ga K "ChangeLine") "told" := He.noat_ok (T.fact 125)
theorem Tx.n_ChangeLine_place (T : Tx K mg) : NoAttr K (He.ga K "ChangeLine") "place" := He.noat_ok (T.fact 126)
theorem Tx.g_Change (T : Tx K mg) : mg "Change" = some (.ref (He.ga K "Change")) := let ⟨_, X, G⟩ := T.at_; He.glo_ok X G (T.fact 127)
theorem Tx.c_Change (T : Tx K mg) : Cls K (He.ga K "Change") := He.cls_ok (T.fact 128)
theorem Tx.k_Change (T : Tx K mg) : Mk K (He.ga K "Change") (He.ma K (He.ga K "Change") "__init__") := He.mkr_ok (T.fact 129)
theorem Tx.n_Change_going (T : Tx K mg) : NoAttr K (He.ga K "Change") "going" := He.noat_ok (T.fact 130)
theorem Tx.n_Change_coming (T : Tx K mg) : NoAttr K (He.ga K "Change") "coming" := He.noat_ok (T.fact 131)
theorem Tx.g_Shelf (T : Tx K mg) : mg "Shelf" = some (.ref (He.ga K "Shelf")) := let ⟨_, X, G⟩ := T.at_; He.glo_ok X G (T.fact 132)
theorem Tx.c_Shelf (T : Tx K mg) : Cls K (He.ga K "Shelf") := He.cls_ok (T.fact 133)
theorem Tx.k_Shelf (T : Tx K mg) : Mk K (He.ga K "Shelf") (He.ma K (He.ga K "Shelf") "__init__") := He.mkr_ok (T.fact 134)
theorem Tx.n_Shelf_versions (T : Tx K mg) : NoAttr K (He.ga K "Shelf") "versions" := He.noat_ok (T.fact 135)
theorem Tx.m_Shelf_version (T : Tx K mg) : Meth K (He.ga K "Shelf") "version" (He.ma K (He.ga K "Shelf") "version") := He.meth_ok (T.fact 136)
theorem Tx.m_Shelf_version_with (T : Tx K mg) : Meth K (He.ga K "Shelf") "version_with" (He.ma K (He.ga K "Shelf") "version_with") := He.meth_ok (T.fact 137)
theorem Tx.m_Shelf_keep (T : Tx K mg) : Meth K (He.ga K "Shelf") "keep" (He.ma K (He.ga K "Shelf") "keep") := He.meth_ok (T.fact 138)
theorem Tx.m_Shelf_keep_if_right (T : Tx K mg) : Meth K (He.ga K "Shelf") "keep_if_right" (He.ma K (He.ga K "Shelf") "keep_if_right") := He.meth_ok (T.fact 139)
theorem Tx.m_Shelf_call_read (T : Tx K mg) : Meth K (He.ga K "Shelf") "call_read" (He.ma K (He.ga K "Shelf") "call_read") := He.meth_ok (T.fact 140)
theorem Tx.m_Shelf_call_text (T : Tx K mg) : Meth K (He.ga K "Shelf") "call_text" (He.ma K (He.ga K "Shelf") "call_text") := He.meth_ok (T.fact 141)
theorem Tx.m_Shelf_call_count (T : Tx K mg) : Meth K (He.ga K "Shelf") "call_count" (He.ma K (He.ga K "Shelf") "call_count") := He.meth_ok (T.fact 142)
theorem Tx.m_Shelf_call_same (T : Tx K mg) : Meth K (He.ga K "Shelf") "call_same" (He.ma K (He.ga K "Shelf") "call_same") := He.meth_ok (T.fact 143)
theorem Tx.m_Shelf_call_diff (T : Tx K mg) : Meth K (He.ga K "Shelf") "call_diff" (He.ma K (He.ga K "Shelf") "call_diff") := He.meth_ok (T.fact 144)
theorem Tx.m_Shelf_call_apply (T : Tx K mg) : Meth K (He.ga K "Shelf") "call_apply" (He.ma K (He.ga K "Shelf") "call_apply") := He.meth_ok (T.fact 145)
theorem Tx.m_Shelf_call_merge (T : Tx K mg) : Meth K (He.ga K "Shelf") "call_merge" (He.ma K (He.ga K "Shelf") "call_merge") := He.meth_ok (T.fact 146)
theorem Tx.m_Shelf_call_rename (T : Tx K mg) : Meth K (He.ga K "Shelf") "call_rename" (He.ma K (He.ga K "Shelf") "call_rename") := He.meth_ok (T.fact 147)
theorem Tx.m_Shelf_call_drop (T : Tx K mg) : Meth K (He.ga K "Shelf") "call_drop" (He.ma K (He.ga K "Shelf") "call_drop") := He.meth_ok (T.fact 148)
theorem Tx.m_Shelf_call_parts (T : Tx K mg) : Meth K (He.ga K "Shelf") "call_parts" (He.ma K (He.ga K "Shelf") "call_parts") := He.meth_ok (T.fact 149)
theorem Tx.m_Shelf_call_users (T : Tx K mg) : Meth K (He.ga K "Shelf") "call_users" (He.ma K (He.ga K "Shelf") "call_users") := He.meth_ok (T.fact 150)
theorem Tx.m_Shelf_call_order (T : Tx K mg) : Meth K (He.ga K "Shelf") "call_order" (He.ma K (He.ga K "Shelf") "call_order") := He.meth_ok (T.fact 151)
theorem Tx.g_SCALES (T : Tx K mg) : mg "SCALES" = some (.ref (He.ga K "SCALES")) := let ⟨_, X, G⟩ := T.at_; He.glo_ok X G (T.fact 152)
theorem Tx.g_NUMBERS (T : Tx K mg) : mg "NUMBERS" = some (.ref (He.ga K "NUMBERS")) := let ⟨_, X, G⟩ := T.at_; He.glo_ok X G (T.fact 153)
theorem Tx.g_ROWS (T : Tx K mg) : mg "ROWS" = some (.ref (He.ga K "ROWS")) := let ⟨_, X, G⟩ := T.at_; He.glo_ok X G (T.fact 154)
theorem Tx.f_Reader_init (T : Tx K mg) : ∃ fd, FunD K "__init__" "Reader.__init__" (defArgs s_Reader_init) (defBody s_Reader_init) (defScope s_Reader_init) [] [] (He.fAd K ("Reader", some "__init__")) fd := T.says.fun_ 0 (d := d_Reader_init)
theorem Tx.f_Reader_more (T : Tx K mg) : ∃ fd, FunD K "more" "Reader.more" (defArgs s_Reader_more) (defBody s_Reader_more) (defScope s_Reader_more) [] [] (He.fAd K ("Reader", some "more")) fd := T.says.fun_ 1 (d := d_Reader_more)
theorem Tx.f_Reader_number (T : Tx K mg) : ∃ fd, FunD K "number" "Reader.number" (defArgs s_Reader_number) (defBody s_Reader_number) (defScope s_Reader_number) [] [] (He.fAd K ("Reader", some "number")) fd := T.says.fun_ 2 (d := d_Reader_number)
theorem Tx.f_Reader_row (T : Tx K mg) : ∃ fd, FunD K "row" "Reader.row" (defArgs s_Reader_row) (defBody s_Reader_row) (defScope s_Reader_row) [] [] (He.fAd K ("Reader", some "row")) fd := T.says.fun_ 3 (d := d_Reader_row)
theorem Tx.f_Refusal_init (T : Tx K mg) : ∃ fd, FunD K "__init__" "Refusal.__init__" (defArgs s_Refusal_init) (defBody s_Refusal_init) (defScope s_Refusal_init) [] [] (He.fAd K ("Refusal", some "__init__")) fd := T.says.fun_ 4 (d := d_Refusal_init)
theorem Tx.f_refuse_if (T : Tx K mg) : ∃ fd, FunD K "refuse_if" "refuse_if" (defArgs s_refuse_if) (defBody s_refuse_if) (defScope s_refuse_if) [] [] (He.fAd K ("refuse_if", none)) fd := T.says.fun_ 5 (d := d_refuse_if)
theorem Tx.f_refuse_at (T : Tx K mg) : ∃ fd, FunD K "refuse_at" "refuse_at" (defArgs s_refuse_at) (defBody s_refuse_at) (defScope s_refuse_at) [] [] (He.fAd K ("refuse_at", none)) fd := T.says.fun_ 6 (d := d_refuse_at)
theorem Tx.f_thing (T : Tx K mg) : ∃ fd, FunD K "thing" "thing" (defArgs s_thing) (defBody s_thing) (defScope s_thing) [] [] (He.fAd K ("thing", none)) fd := T.says.fun_ 7 (d := d_thing)
theorem Tx.f_is_thing (T : Tx K mg) : ∃ fd, FunD K "is_thing" "is_thing" (defArgs s_is_thing) (defBody s_is_thing) (defScope s_is_thing) [] [] (He.fAd K ("is_thing", none)) fd := T.says.fun_ 8 (d := d_is_thing)
theorem Tx.f_said (T : Tx K mg) : ∃ fd, FunD K "said" "said" (defArgs s_said) (defBody s_said) (defScope s_said) [] [] (He.fAd K ("said", none)) fd := T.says.fun_ 9 (d := d_said)
theorem Tx.f_has_thing (T : Tx K mg) : ∃ fd, FunD K "has_thing" "has_thing" (defArgs s_has_thing) (defBody s_has_thing) (defScope s_has_thing) [] [] (He.fAd K ("has_thing", none)) fd := T.says.fun_ 10 (d := d_has_thing)
theorem Tx.f_things_of (T : Tx K mg) : ∃ fd, FunD K "things_of" "things_of" (defArgs s_things_of) (defBody s_things_of) (defScope s_things_of) [] [] (He.fAd K ("things_of", none)) fd := T.says.fun_ 11 (d := d_things_of)
theorem Tx.f_accords_of (T : Tx K mg) : ∃ fd, FunD K "accords_of" "accords_of" (defArgs s_accords_of) (defBody s_accords_of) (defScope s_accords_of) [] [] (He.fAd K ("accords_of", none)) fd := T.says.fun_ 12 (d := d_accords_of)
theorem Tx.f_parts_of (T : Tx K mg) : ∃ fd, FunD K "parts_of" "parts_of" (defArgs s_parts_of) (defBody s_parts_of) (defScope s_parts_of) [] [] (He.fAd K ("parts_of", none)) fd := T.says.fun_ 13 (d := d_parts_of)
theorem Tx.f_standing_in (T : Tx K mg) : ∃ fd, FunD K "standing_in" "standing_in" (defArgs s_standing_in) (defBody s_standing_in) (defScope s_standing_in) [] [] (He.fAd K ("standing_in", none)) fd := T.says.fun_ 14 (d := d_standing_in)
theorem Tx.f_parts_are_known (T : Tx K mg) : ∃ fd, FunD K "parts_are_known" "parts_are_known" (defArgs s_parts_are_known) (defBody s_parts_are_known) (defScope s_parts_are_known) [] [] (He.fAd K ("parts_are_known", none)) fd := T.says.fun_ 15 (d := d_parts_are_known)
theorem Tx.f_is_right (T : Tx K mg) : ∃ fd, FunD K "is_right" "is_right" (defArgs s_is_right) (defBody s_is_right) (defScope s_is_right) [] [] (He.fAd K ("is_right", none)) fd := T.says.fun_ 16 (d := d_is_right)
theorem Tx.f_renamed (T : Tx K mg) : ∃ fd, FunD K "renamed" "renamed" (defArgs s_renamed) (defBody s_renamed) (defScope s_renamed) [] [] (He.fAd K ("renamed", none)) fd := T.says.fun_ 17 (d := d_renamed)
theorem Tx.f_without_thing (T : Tx K mg) : ∃ fd, FunD K "without_thing" "without_thing" (defArgs s_without_thing) (defBody s_without_thing) (defScope s_without_thing) [] [] (He.fAd K ("without_thing", none)) fd := T.says.fun_ 18 (d := d_without_thing)
theorem Tx.f_users_of (T : Tx K mg) : ∃ fd, FunD K "users_of" "users_of" (defArgs s_users_of) (defBody s_users_of) (defScope s_users_of) [] [] (He.fAd K ("users_of", none)) fd := T.says.fun_ 19 (d := d_users_of)
theorem Tx.f_first_ready (T : Tx K mg) : ∃ fd, FunD K "first_ready" "first_ready" (defArgs s_first_ready) (defBody s_first_ready) (defScope s_first_ready) [] [] (He.fAd K ("first_ready", none)) fd := T.says.fun_ 20 (d := d_first_ready)
theorem Tx.f_told_order (T : Tx K mg) : ∃ fd, FunD K "told_order" "told_order" (defArgs s_told_order) (defBody s_told_order) (defScope s_told_order) [] [] (He.fAd K ("told_order", none)) fd := T.says.fun_ 21 (d := d_told_order)
theorem Tx.f_byte_at (T : Tx K mg) : ∃ fd, FunD K "byte_at" "byte_at" (defArgs s_byte_at) (defBody s_byte_at) (defScope s_byte_at) [] [] (He.fAd K ("byte_at", none)) fd := T.says.fun_ 22 (d := d_byte_at)
theorem Tx.f_is_letter (T : Tx K mg) : ∃ fd, FunD K "is_letter" "is_letter" (defArgs s_is_letter) (defBody s_is_letter) (defScope s_is_letter) [] [] (He.fAd K ("is_letter", none)) fd := T.says.fun_ 23 (d := d_is_letter)
theorem Tx.f_is_digit (T : Tx K mg) : ∃ fd, FunD K "is_digit" "is_digit" (defArgs s_is_digit) (defBody s_is_digit) (defScope s_is_digit) [] [] (He.fAd K ("is_digit", none)) fd := T.says.fun_ 24 (d := d_is_digit)
theorem Tx.f_is_name_byte (T : Tx K mg) : ∃ fd, FunD K "is_name_byte" "is_name_byte" (defArgs s_is_name_byte) (defBody s_is_name_byte) (defScope s_is_name_byte) [] [] (He.fAd K ("is_name_byte", none)) fd := T.says.fun_ 25 (d := d_is_name_byte)
theorem Tx.f_is_name (T : Tx K mg) : ∃ fd, FunD K "is_name" "is_name" (defArgs s_is_name) (defBody s_is_name) (defScope s_is_name) [] [] (He.fAd K ("is_name", none)) fd := T.says.fun_ 26 (d := d_is_name)
theorem Tx.f_refuse_here (T : Tx K mg) : ∃ fd, FunD K "refuse_here" "refuse_here" (defArgs s_refuse_here) (defBody s_refuse_here) (defScope s_refuse_here) [] [] (He.fAd K ("refuse_here", none)) fd := T.says.fun_ 27 (d := d_refuse_here)
theorem Tx.f_expect (T : Tx K mg) : ∃ fd, FunD K "expect" "expect" (defArgs s_expect) (defBody s_expect) (defScope s_expect) [] [] (He.fAd K ("expect", none)) fd := T.says.fun_ 28 (d := d_expect)
theorem Tx.f_expect_word (T : Tx K mg) : ∃ fd, FunD K "expect_word" "expect_word" (defArgs s_expect_word) (defBody s_expect_word) (defScope s_expect_word) [] [] (He.fAd K ("expect_word", none)) fd := T.says.fun_ 29 (d := d_expect_word)
theorem Tx.f_name_end (T : Tx K mg) : ∃ fd, FunD K "name_end" "name_end" (defArgs s_name_end) (defBody s_name_end) (defScope s_name_end) [] [] (He.fAd K ("name_end", none)) fd := T.says.fun_ 30 (d := d_name_end)
theorem Tx.f_digits_end (T : Tx K mg) : ∃ fd, FunD K "digits_end" "digits_end" (defArgs s_digits_end) (defBody s_digits_end) (defScope s_digits_end) [] [] (He.fAd K ("digits_end", none)) fd := T.says.fun_ 31 (d := d_digits_end)
theorem Tx.f_number_of (T : Tx K mg) : ∃ fd, FunD K "number_of" "number_of" (defArgs s_number_of) (defBody s_number_of) (defScope s_number_of) [] [] (He.fAd K ("number_of", none)) fd := T.says.fun_ 32 (d := d_number_of)
theorem Tx.f_whole_end (T : Tx K mg) : ∃ fd, FunD K "whole_end" "whole_end" (defArgs s_whole_end) (defBody s_whole_end) (defScope s_whole_end) [] [] (He.fAd K ("whole_end", none)) fd := T.says.fun_ 33 (d := d_whole_end)
theorem Tx.f_amount_of (T : Tx K mg) : ∃ fd, FunD K "amount_of" "amount_of" (defArgs s_amount_of) (defBody s_amount_of) (defScope s_amount_of) [] [] (He.fAd K ("amount_of", none)) fd := T.says.fun_ 34 (d := d_amount_of)
theorem Tx.f_amount_bytes (T : Tx K mg) : ∃ fd, FunD K "amount_bytes" "amount_bytes" (defArgs s_amount_bytes) (defBody s_amount_bytes) (defScope s_amount_bytes) [] [] (He.fAd K ("amount_bytes", none)) fd := T.says.fun_ 35 (d := d_amount_bytes)
theorem Tx.f_Line_init (T : Tx K mg) : ∃ fd, FunD K "__init__" "Line.__init__" (defArgs s_Line_init) (defBody s_Line_init) (defScope s_Line_init) [] [] (He.fAd K ("Line", some "__init__")) fd := T.says.fun_ 36 (d := d_Line_init)
theorem Tx.f_remark_end (T : Tx K mg) : ∃ fd, FunD K "remark_end" "remark_end" (defArgs s_remark_end) (defBody s_remark_end) (defScope s_remark_end) [] [] (He.fAd K ("remark_end", none)) fd := T.says.fun_ 37 (d := d_remark_end)
theorem Tx.f_thing_line (T : Tx K mg) : ∃ fd, FunD K "thing_line" "thing_line" (defArgs s_thing_line) (defBody s_thing_line) (defScope s_thing_line) [] [] (He.fAd K ("thing_line", none)) fd := T.says.fun_ 38 (d := d_thing_line)
theorem Tx.f_part_line (T : Tx K mg) : ∃ fd, FunD K "part_line" "part_line" (defArgs s_part_line) (defBody s_part_line) (defScope s_part_line) [] [] (He.fAd K ("part_line", none)) fd := T.says.fun_ 39 (d := d_part_line)
theorem Tx.f_lines_of (T : Tx K mg) : ∃ fd, FunD K "lines_of" "lines_of" (defArgs s_lines_of) (defBody s_lines_of) (defScope s_lines_of) [] [] (He.fAd K ("lines_of", none)) fd := T.says.fun_ 40 (d := d_lines_of)
theorem Tx.f_first_repeated_booktexts (T : Tx K mg) : ∃ fd, FunD K "first_repeated" "first_repeated" (defArgs s_first_repeated_booktexts) (defBody s_first_repeated_booktexts) (defScope s_first_repeated_booktexts) [] [] (He.fAd K ("first_repeated_booktexts", none)) fd := T.says.fun_ 41 (d := d_first_repeated_booktexts)
theorem Tx.f_first_unknown (T : Tx K mg) : ∃ fd, FunD K "first_unknown" "first_unknown" (defArgs s_first_unknown) (defBody s_first_unknown) (defScope s_first_unknown) [] [] (He.fAd K ("first_unknown", none)) fd := T.says.fun_ 42 (d := d_first_unknown)
theorem Tx.f_first_without_parts (T : Tx K mg) : ∃ fd, FunD K "first_without_parts" "first_without_parts" (defArgs s_first_without_parts) (defBody s_first_without_parts) (defScope s_first_without_parts) [] [] (He.fAd K ("first_without_parts", none)) fd := T.says.fun_ 43 (d := d_first_without_parts)
theorem Tx.f_first_in_itself (T : Tx K mg) : ∃ fd, FunD K "first_in_itself" "first_in_itself" (defArgs s_first_in_itself) (defBody s_first_in_itself) (defScope s_first_in_itself) [] [] (He.fAd K ("first_in_itself", none)) fd := T.says.fun_ 44 (d := d_first_in_itself)
theorem Tx.f_first_too_many (T : Tx K mg) : ∃ fd, FunD K "first_too_many" "first_too_many" (defArgs s_first_too_many) (defBody s_first_too_many) (defScope s_first_too_many) [] [] (He.fAd K ("first_too_many", none)) fd := T.says.fun_ 45 (d := d_first_too_many)
theorem Tx.f_read_book (T : Tx K mg) : ∃ fd, FunD K "read_book" "read_book" (defArgs s_read_book) (defBody s_read_book) (defScope s_read_book) [] [] (He.fAd K ("read_book", none)) fd := T.says.fun_ 46 (d := d_read_book)
theorem Tx.f_thing_bytes (T : Tx K mg) : ∃ fd, FunD K "thing_bytes" "thing_bytes" (defArgs s_thing_bytes) (defBody s_thing_bytes) (defScope s_thing_bytes) [] [] (He.fAd K ("thing_bytes", none)) fd := T.says.fun_ 47 (d := d_thing_bytes)
theorem Tx.f_fact_bytes_booktexts (T : Tx K mg) : ∃ fd, FunD K "fact_bytes" "fact_bytes" (defArgs s_fact_bytes_booktexts) (defBody s_fact_bytes_booktexts) (defScope s_fact_bytes_booktexts) [] [] (He.fAd K ("fact_bytes_booktexts", none)) fd := T.says.fun_ 48 (d := d_fact_bytes_booktexts)
theorem Tx.f_book_text (T : Tx K mg) : ∃ fd, FunD K "book_text" "book_text" (defArgs s_book_text) (defBody s_book_text) (defScope s_book_text) [] [] (He.fAd K ("book_text", none)) fd := T.says.fun_ 49 (d := d_book_text)
theorem Tx.f_parts_text (T : Tx K mg) : ∃ fd, FunD K "parts_text" "parts_text" (defArgs s_parts_text) (defBody s_parts_text) (defScope s_parts_text) [] [] (He.fAd K ("parts_text", none)) fd := T.says.fun_ 50 (d := d_parts_text)
theorem Tx.f_names_text (T : Tx K mg) : ∃ fd, FunD K "names_text" "names_text" (defArgs s_names_text) (defBody s_names_text) (defScope s_names_text) [] [] (He.fAd K ("names_text", none)) fd := T.says.fun_ 51 (d := d_names_text)
theorem Tx.f_ChangeLine_init (T : Tx K mg) : ∃ fd, FunD K "__init__" "ChangeLine.__init__" (defArgs s_ChangeLine_init) (defBody s_ChangeLine_init) (defScope s_ChangeLine_init) [] [] (He.fAd K ("ChangeLine", some "__init__")) fd := T.says.fun_ 52 (d := d_ChangeLine_init)
theorem Tx.f_Change_init (T : Tx K mg) : ∃ fd, FunD K "__init__" "Change.__init__" (defArgs s_Change_init) (defBody s_Change_init) (defScope s_Change_init) [] [] (He.fAd K ("Change", some "__init__")) fd := T.says.fun_ 53 (d := d_Change_init)
theorem Tx.f_is_word (T : Tx K mg) : ∃ fd, FunD K "is_word" "is_word" (defArgs s_is_word) (defBody s_is_word) (defScope s_is_word) [] [] (He.fAd K ("is_word", none)) fd := T.says.fun_ 54 (d := d_is_word)
theorem Tx.f_change_line (T : Tx K mg) : ∃ fd, FunD K "change_line" "change_line" (defArgs s_change_line) (defBody s_change_line) (defScope s_change_line) [] [] (He.fAd K ("change_line", none)) fd := T.says.fun_ 55 (d := d_change_line)
theorem Tx.f_change_lines (T : Tx K mg) : ∃ fd, FunD K "change_lines" "change_lines" (defArgs s_change_lines) (defBody s_change_lines) (defScope s_change_lines) [] [] (He.fAd K ("change_lines", none)) fd := T.says.fun_ 56 (d := d_change_lines)
theorem Tx.f_first_repeated_changes (T : Tx K mg) : ∃ fd, FunD K "first_repeated" "first_repeated" (defArgs s_first_repeated_changes) (defBody s_first_repeated_changes) (defScope s_first_repeated_changes) [] [] (He.fAd K ("first_repeated_changes", none)) fd := T.says.fun_ 57 (d := d_first_repeated_changes)
theorem Tx.f_read_change (T : Tx K mg) : ∃ fd, FunD K "read_change" "read_change" (defArgs s_read_change) (defBody s_read_change) (defScope s_read_change) [] [] (He.fAd K ("read_change", none)) fd := T.says.fun_ 58 (d := d_read_change)
theorem Tx.f_change_of (T : Tx K mg) : ∃ fd, FunD K "change_of" "change_of" (defArgs s_change_of) (defBody s_change_of) (defScope s_change_of) [] [] (He.fAd K ("change_of", none)) fd := T.says.fun_ 59 (d := d_change_of)
theorem Tx.f_fits (T : Tx K mg) : ∃ fd, FunD K "fits" "fits" (defArgs s_fits) (defBody s_fits) (defScope s_fits) [] [] (He.fAd K ("fits", none)) fd := T.says.fun_ 60 (d := d_fits)
theorem Tx.f_first_unfit (T : Tx K mg) : ∃ fd, FunD K "first_unfit" "first_unfit" (defArgs s_first_unfit) (defBody s_first_unfit) (defScope s_first_unfit) [] [] (He.fAd K ("first_unfit", none)) fd := T.says.fun_ 61 (d := d_first_unfit)
theorem Tx.f_changed (T : Tx K mg) : ∃ fd, FunD K "changed" "changed" (defArgs s_changed) (defBody s_changed) (defScope s_changed) [] [] (He.fAd K ("changed", none)) fd := T.says.fun_ 62 (d := d_changed)
theorem Tx.f_turned (T : Tx K mg) : ∃ fd, FunD K "turned" "turned" (defArgs s_turned) (defBody s_turned) (defScope s_turned) [] [] (He.fAd K ("turned", none)) fd := T.says.fun_ 63 (d := d_turned)
theorem Tx.f_difference (T : Tx K mg) : ∃ fd, FunD K "difference" "difference" (defArgs s_difference) (defBody s_difference) (defScope s_difference) [] [] (He.fAd K ("difference", none)) fd := T.says.fun_ 64 (d := d_difference)
theorem Tx.f_fact_bytes_changes (T : Tx K mg) : ∃ fd, FunD K "fact_bytes" "fact_bytes" (defArgs s_fact_bytes_changes) (defBody s_fact_bytes_changes) (defScope s_fact_bytes_changes) [] [] (He.fAd K ("fact_bytes_changes", none)) fd := T.says.fun_ 65 (d := d_fact_bytes_changes)
theorem Tx.f_subjects_of (T : Tx K mg) : ∃ fd, FunD K "subjects_of" "subjects_of" (defArgs s_subjects_of) (defBody s_subjects_of) (defScope s_subjects_of) [] [] (He.fAd K ("subjects_of", none)) fd := T.says.fun_ 66 (d := d_subjects_of)
theorem Tx.f_change_text (T : Tx K mg) : ∃ fd, FunD K "change_text" "change_text" (defArgs s_change_text) (defBody s_change_text) (defScope s_change_text) [] [] (He.fAd K ("change_text", none)) fd := T.says.fun_ 67 (d := d_change_text)
theorem Tx.f_contradict (T : Tx K mg) : ∃ fd, FunD K "contradict" "contradict" (defArgs s_contradict) (defBody s_contradict) (defScope s_contradict) [] [] (He.fAd K ("contradict", none)) fd := T.says.fun_ 68 (d := d_contradict)
theorem Tx.f_contradictions (T : Tx K mg) : ∃ fd, FunD K "contradictions" "contradictions" (defArgs s_contradictions) (defBody s_contradictions) (defScope s_contradictions) [] [] (He.fAd K ("contradictions", none)) fd := T.says.fun_ 69 (d := d_contradictions)
theorem Tx.f_merged_saying (T : Tx K mg) : ∃ fd, FunD K "merged_saying" "merged_saying" (defArgs s_merged_saying) (defBody s_merged_saying) (defScope s_merged_saying) [] [] (He.fAd K ("merged_saying", none)) fd := T.says.fun_ 70 (d := d_merged_saying)
theorem Tx.f_merged (T : Tx K mg) : ∃ fd, FunD K "merged" "merged" (defArgs s_merged) (defBody s_merged) (defScope s_merged) [] [] (He.fAd K ("merged", none)) fd := T.says.fun_ 71 (d := d_merged)
theorem Tx.f_subjects_text (T : Tx K mg) : ∃ fd, FunD K "subjects_text" "subjects_text" (defArgs s_subjects_text) (defBody s_subjects_text) (defScope s_subjects_text) [] [] (He.fAd K ("subjects_text", none)) fd := T.says.fun_ 72 (d := d_subjects_text)
theorem Tx.f_refuse_long (T : Tx K mg) : ∃ fd, FunD K "refuse_long" "refuse_long" (defArgs s_refuse_long) (defBody s_refuse_long) (defScope s_refuse_long) [] [] (He.fAd K ("refuse_long", none)) fd := T.says.fun_ 73 (d := d_refuse_long)
theorem Tx.f_refuse_below (T : Tx K mg) : ∃ fd, FunD K "refuse_below" "refuse_below" (defArgs s_refuse_below) (defBody s_refuse_below) (defScope s_refuse_below) [] [] (He.fAd K ("refuse_below", none)) fd := T.says.fun_ 74 (d := d_refuse_below)
theorem Tx.f_refuse_no_name (T : Tx K mg) : ∃ fd, FunD K "refuse_no_name" "refuse_no_name" (defArgs s_refuse_no_name) (defBody s_refuse_no_name) (defScope s_refuse_no_name) [] [] (He.fAd K ("refuse_no_name", none)) fd := T.says.fun_ 75 (d := d_refuse_no_name)
theorem Tx.f_call_judge (T : Tx K mg) : ∃ fd, FunD K "call_judge" "call_judge" (defArgs s_call_judge) (defBody s_call_judge) (defScope s_call_judge) [] [] (He.fAd K ("call_judge", none)) fd := T.says.fun_ 76 (d := d_call_judge)
theorem Tx.f_call_invert (T : Tx K mg) : ∃ fd, FunD K "call_invert" "call_invert" (defArgs s_call_invert) (defBody s_call_invert) (defScope s_call_invert) [] [] (He.fAd K ("call_invert", none)) fd := T.says.fun_ 77 (d := d_call_invert)
theorem Tx.f_Shelf_init (T : Tx K mg) : ∃ fd, FunD K "__init__" "Shelf.__init__" (defArgs s_Shelf_init) (defBody s_Shelf_init) (defScope s_Shelf_init) [] [] (He.fAd K ("Shelf", some "__init__")) fd := T.says.fun_ 78 (d := d_Shelf_init)
theorem Tx.f_Shelf_version (T : Tx K mg) : ∃ fd, FunD K "version" "Shelf.version" (defArgs s_Shelf_version) (defBody s_Shelf_version) (defScope s_Shelf_version) [] [] (He.fAd K ("Shelf", some "version")) fd := T.says.fun_ 79 (d := d_Shelf_version)
theorem Tx.f_Shelf_version_with (T : Tx K mg) : ∃ fd, FunD K "version_with" "Shelf.version_with" (defArgs s_Shelf_version_with) (defBody s_Shelf_version_with) (defScope s_Shelf_version_with) [] [] (He.fAd K ("Shelf", some "version_with")) fd := T.says.fun_ 80 (d := d_Shelf_version_with)
theorem Tx.f_Shelf_keep (T : Tx K mg) : ∃ fd, FunD K "keep" "Shelf.keep" (defArgs s_Shelf_keep) (defBody s_Shelf_keep) (defScope s_Shelf_keep) [] [] (He.fAd K ("Shelf", some "keep")) fd := T.says.fun_ 81 (d := d_Shelf_keep)
theorem Tx.f_Shelf_keep_if_right (T : Tx K mg) : ∃ fd, FunD K "keep_if_right" "Shelf.keep_if_right" (defArgs s_Shelf_keep_if_right) (defBody s_Shelf_keep_if_right) (defScope s_Shelf_keep_if_right) [] [] (He.fAd K ("Shelf", some "keep_if_right")) fd := T.says.fun_ 82 (d := d_Shelf_keep_if_right)
theorem Tx.f_Shelf_call_read (T : Tx K mg) : ∃ fd, FunD K "call_read" "Shelf.call_read" (defArgs s_Shelf_call_read) (defBody s_Shelf_call_read) (defScope s_Shelf_call_read) [] [] (He.fAd K ("Shelf", some "call_read")) fd := T.says.fun_ 83 (d := d_Shelf_call_read)
theorem Tx.f_Shelf_call_text (T : Tx K mg) : ∃ fd, FunD K "call_text" "Shelf.call_text" (defArgs s_Shelf_call_text) (defBody s_Shelf_call_text) (defScope s_Shelf_call_text) [] [] (He.fAd K ("Shelf", some "call_text")) fd := T.says.fun_ 84 (d := d_Shelf_call_text)
theorem Tx.f_Shelf_call_count (T : Tx K mg) : ∃ fd, FunD K "call_count" "Shelf.call_count" (defArgs s_Shelf_call_count) (defBody s_Shelf_call_count) (defScope s_Shelf_call_count) [] [] (He.fAd K ("Shelf", some "call_count")) fd := T.says.fun_ 85 (d := d_Shelf_call_count)
theorem Tx.f_Shelf_call_same (T : Tx K mg) : ∃ fd, FunD K "call_same" "Shelf.call_same" (defArgs s_Shelf_call_same) (defBody s_Shelf_call_same) (defScope s_Shelf_call_same) [] [] (He.fAd K ("Shelf", some "call_same")) fd := T.says.fun_ 86 (d := d_Shelf_call_same)
theorem Tx.f_Shelf_call_diff (T : Tx K mg) : ∃ fd, FunD K "call_diff" "Shelf.call_diff" (defArgs s_Shelf_call_diff) (defBody s_Shelf_call_diff) (defScope s_Shelf_call_diff) [] [] (He.fAd K ("Shelf", some "call_diff")) fd := T.says.fun_ 87 (d := d_Shelf_call_diff)
theorem Tx.f_Shelf_call_apply (T : Tx K mg) : ∃ fd, FunD K "call_apply" "Shelf.call_apply" (defArgs s_Shelf_call_apply) (defBody s_Shelf_call_apply) (defScope s_Shelf_call_apply) [] [] (He.fAd K ("Shelf", some "call_apply")) fd := T.says.fun_ 88 (d := d_Shelf_call_apply)
theorem Tx.f_Shelf_call_merge (T : Tx K mg) : ∃ fd, FunD K "call_merge" "Shelf.call_merge" (defArgs s_Shelf_call_merge) (defBody s_Shelf_call_merge) (defScope s_Shelf_call_merge) [] [] (He.fAd K ("Shelf", some "call_merge")) fd := T.says.fun_ 89 (d := d_Shelf_call_merge)
theorem Tx.f_Shelf_call_rename (T : Tx K mg) : ∃ fd, FunD K "call_rename" "Shelf.call_rename" (defArgs s_Shelf_call_rename) (defBody s_Shelf_call_rename) (defScope s_Shelf_call_rename) [] [] (He.fAd K ("Shelf", some "call_rename")) fd := T.says.fun_ 90 (d := d_Shelf_call_rename)
theorem Tx.f_Shelf_call_drop (T : Tx K mg) : ∃ fd, FunD K "call_drop" "Shelf.call_drop" (defArgs s_Shelf_call_drop) (defBody s_Shelf_call_drop) (defScope s_Shelf_call_drop) [] [] (He.fAd K ("Shelf", some "call_drop")) fd := T.says.fun_ 91 (d := d_Shelf_call_drop)
theorem Tx.f_Shelf_call_parts (T : Tx K mg) : ∃ fd, FunD K "call_parts" "Shelf.call_parts" (defArgs s_Shelf_call_parts) (defBody s_Shelf_call_parts) (defScope s_Shelf_call_parts) [] [] (He.fAd K ("Shelf", some "call_parts")) fd := T.says.fun_ 92 (d := d_Shelf_call_parts)
theorem Tx.f_Shelf_call_users (T : Tx K mg) : ∃ fd, FunD K "call_users" "Shelf.call_users" (defArgs s_Shelf_call_users) (defBody s_Shelf_call_users) (defScope s_Shelf_call_users) [] [] (He.fAd K ("Shelf", some "call_users")) fd := T.says.fun_ 93 (d := d_Shelf_call_users)
theorem Tx.f_Shelf_call_order (T : Tx K mg) : ∃ fd, FunD K "call_order" "Shelf.call_order" (defArgs s_Shelf_call_order) (defBody s_Shelf_call_order) (defScope s_Shelf_call_order) [] [] (He.fAd K ("Shelf", some "call_order")) fd := T.says.fun_ 94 (d := d_Shelf_call_order)
theorem Tx.f_call_of_texts (T : Tx K mg) : ∃ fd, FunD K "call_of_texts" "call_of_texts" (defArgs s_call_of_texts) (defBody s_call_of_texts) (defScope s_call_of_texts) [] [] (He.fAd K ("call_of_texts", none)) fd := T.says.fun_ 95 (d := d_call_of_texts)
theorem Tx.f_call_of_names (T : Tx K mg) : ∃ fd, FunD K "call_of_names" "call_of_names" (defArgs s_call_of_names) (defBody s_call_of_names) (defScope s_call_of_names) [] [] (He.fAd K ("call_of_names", none)) fd := T.says.fun_ 96 (d := d_call_of_names)
theorem Tx.f_call_of_versions (T : Tx K mg) : ∃ fd, FunD K "call_of_versions" "call_of_versions" (defArgs s_call_of_versions) (defBody s_call_of_versions) (defScope s_call_of_versions) [] [] (He.fAd K ("call_of_versions", none)) fd := T.says.fun_ 97 (d := d_call_of_versions)
theorem Tx.f_do_call (T : Tx K mg) : ∃ fd, FunD K "do_call" "do_call" (defArgs s_do_call) (defBody s_do_call) (defScope s_do_call) [] [] (He.fAd K ("do_call", none)) fd := T.says.fun_ 98 (d := d_do_call)
theorem Tx.f_next_answer (T : Tx K mg) : ∃ fd, FunD K "next_answer" "next_answer" (defArgs s_next_answer) (defBody s_next_answer) (defScope s_next_answer) [] [] (He.fAd K ("next_answer", none)) fd := T.says.fun_ 99 (d := d_next_answer)
theorem Tx.f_answers (T : Tx K mg) : ∃ fd, FunD K "answers" "answers" (defArgs s_answers) (defBody s_answers) (defScope s_answers) [] [] (He.fAd K ("answers", none)) fd := T.says.fun_ 100 (d := d_answers)
theorem Tx.t_SCALES (T : Tx K mg) (H : Hp) : SqT K H (He.ga K "SCALES") [.int 1000, .int 100, .int 10, .int 1] := by
  have h := (He.ba (He.ba T.says.chkd).2).2
  simp only [Bool.and_eq_true] at h
  exact He.tupB_ok (h.1.1) H
theorem Tx.t_NUMBERS (T : Tx K mg) (H : Hp) : SqT K H (He.ga K "NUMBERS") [.int 0, .int 0, .int 0, .int 1, .int 1, .int 2, .int 2, .int 1, .int 0, .int 3, .int 1, .int 1, .int 1, .int 1, .int 1] := by
  have h := (He.ba (He.ba T.says.chkd).2).2
  simp only [Bool.and_eq_true] at h
  exact He.tupB_ok (h.1.2) H
theorem Tx.t_ROWS (T : Tx K mg) (H : Hp) : SqT K H (He.ga K "ROWS") [.int 0, .int 1, .int 1, .int 0, .int 0, .int 0, .int 0, .int 1, .int 1, .int 0, .int 2, .int 1, .int 1, .int 1, .int 0] := by
  have h := (He.ba (He.ba T.says.chkd).2).2
  simp only [Bool.and_eq_true] at h
  exact He.tupB_ok (h.2) H
theorem Tx.ref (T : Tx K mg) : PySem.RefX.RefTxt K mg (He.ga K "Refusal") (He.ma K (He.ga K "Refusal") "__init__") := by
  have h := (He.ba (He.ba T.says.chkd).2).1
  unfold refChk at h
  simp only [Bool.and_eq_true] at h
  obtain ⟨a1, a2, a3, a4, a5, a6, a7, a8, a9, a10, a11, a12, a13⟩ := h
  obtain ⟨fd, F⟩ := T.f_Refusal_init
  obtain ⟨oc, od, dV, kV, doc, pm, an, cdv, ct, osl, rfl, lk, hcd, hD, _⟩ := F.ex
  have e : dV = .none := by
    rcases hD with ⟨_, e⟩ | ⟨e, _⟩
    · exact e
    · exact absurd rfl e
  subst e
  exact { gC := T.g_Refusal, cls := a1, ov := a2, sa := He.eqO_ok a3, ga := He.eqO_ok a4, gg := He.eqO_ok a5, noN := He.eqO_ok a6, iC := He.eqO_ok a7, tC := of_decide_eq_true a8, kC := a9, exC := of_decide_eq_true a10, tyC := of_decide_eq_true a11, hdC := a12, te := of_decide_eq_true a13, fn := ⟨oc, od, kV, doc, pm, an, cdv, ct, osl, _, _, _, _, _, _, lk, hcd⟩ }
end
end Fb
end
section
set_option Elab.async false
set_option maxRecDepth 100000
set_option maxHeartbeats 0
/-! The top's run, once, in the kernel. -/
namespace Fb
open PySem PySem.Spec PyProof.Rows L2
abbrev RR : PySem.W.OpenSpec := PySem.Challenge.rw_formulabook_s01_answers
abbrev qv : Program := PySem.W.view RR.prog [116]
def looseA : List PySem.Str := (RR.prog.main.scope.names.map (·.1)).filter fun x => decide (x ≠ "answers")
abbrev hk : PySem.W.Hook := hookF chkT fnL
def ob (s : PySem.W.SharedT) : He.AlD := obsFG chkT fnL (HandSHeadRun.getT s)
theorem ob_eq (s : PySem.W.SharedT) : ob s = hk.obs s.abs := obsFG_eq (HandSHeadRun.getT_eq s)
theorem topRun (w : World) : HandSHeadRun.RunEqS RR qv hk ob 6000 looseA w := by
  intro os
  kernel_rfl
end Fb
end
section
/-! The mirror, first part: reading a text byte by byte. A text is a list of bytes (whole numbers), a place a whole number. -/
namespace Fb
open SctBook
/-- a refusal's answer, or what is reckoned -/
abbrev Mi (α : Type) := Except (List Int) α
def byteAt (T : List Nat) (p : Nat) : Int := match T[p]? with
  | some x => (x : Int)
  | none => -1
def letterI (b : Int) : Bool := decide (97 ≤ b) && decide (b ≤ 122)
def digitI (b : Int) : Bool := decide (48 ≤ b) && decide (b ≤ 57)
def nameI (b : Int) : Bool := letterI b || (digitI b || decide (b = 45))
def mIf (b : Bool) (n : Int) : Mi Unit := if b = true then .error [n] else .ok ()
def mAt (kind place : Int) : Mi Unit := if place ≥ 0 then .error [-5, kind, place] else .ok ()
/-- a fault of kind 1 -/
def bad (p : Nat) : List Int := [-5, 1, (p : Int)]
def mHere (holds : Bool) (p : Nat) : Mi Unit := if holds = true then .error (bad p) else .ok ()
def mExpect (T : List Nat) (p : Nat) (b : Int) : Mi Nat := if byteAt T p = b then .ok (p + 1) else .error (bad p)
def mWord (T : List Nat) : Nat → List Nat → Mi Nat
  | p, [] => .ok p
  | p, c :: w => match mExpect T p c with
    | .error e => .error e
    | .ok q => mWord T q w
/-- as long as the test holds, so many at most -/
def run (f : Int → Bool) (T : List Nat) : Nat → Nat → Nat
  | 0, p => p
  | n + 1, p => if f (byteAt T p) = true then run f T n (p + 1) else p
def mName (T : List Nat) (p : Nat) : Mi Nat := if letterI (byteAt T p) = true then .ok (run nameI T 15 (p + 1)) else .error (bad p)
def numOf (T : List Nat) (p q : Nat) : Int := ((T.drop p).take (q - p)).foldl (fun (v : Int) (x : Nat) => v * 10 + x - 48) 0
def mWhole (T : List Nat) (p : Nat) : Mi Nat := if byteAt T p = 48 then .ok (p + 1) else if run digitI T 6 p = p then .error (bad p) else .ok (run digitI T 6 p)
def scale : Nat → Int
  | 0 => 1000
  | 1 => 100
  | 2 => 10
  | _ => 1
def mAmount (T : List Nat) (p : Nat) : Mi (Nat × Int) := match mWhole T p with
  | .error e => .error e
  | .ok q =>
    if numOf T p q > 0 ∧ byteAt T q ≠ 46 then .ok (q, numOf T p q * 1000) else
    match mExpect T q 46 with
    | .error e => .error e
    | .ok s =>
      if run digitI T 3 s = s then .error (bad s) else
      if numOf T p q * 1000 + numOf T s (run digitI T 3 s) * scale (run digitI T 3 s - s) = 0 then .error (bad (min (run digitI T 3 s) (s + 2))) else
      .ok (run digitI T 3 s, numOf T p q * 1000 + numOf T s (run digitI T 3 s) * scale (run digitI T 3 s - s))
end Fb
namespace Fb
open SctBook
def mIsName (T : List Nat) : Bool := decide (1 ≤ T.length) && (decide (T.length ≤ 16) && (letterI (byteAt T 0) && T.all fun y => nameI y))
theorem mHere_ok {b : Bool} {p : Nat} {u : Unit} (h : mHere b p = .ok u) : b = false := by
  unfold mHere at h
  cases b with
  | false => rfl
  | true => cases h
theorem mHere_err {b : Bool} {p : Nat} {e : List Int} (h : mHere b p = .error e) : b = true ∧ e = bad p := by
  unfold mHere at h
  cases b with
  | false => cases h
  | true =>
    cases h
    exact ⟨rfl, rfl⟩
theorem mIf_ok {b : Bool} {n : Int} {u : Unit} (h : mIf b n = .ok u) : b = false := by
  unfold mIf at h
  cases b with
  | false => rfl
  | true => cases h
theorem mIf_err {b : Bool} {n : Int} {e : List Int} (h : mIf b n = .error e) : b = true ∧ e = [n] := by
  unfold mIf at h
  cases b with
  | false => cases h
  | true =>
    cases h
    exact ⟨rfl, rfl⟩
/-! ### how far a reading goes -/
theorem run_ge (f : Int → Bool) (T : List Nat) : ∀ n p, p ≤ run f T n p
  | 0, p => Nat.le_refl p
  | n + 1, p => by
    unfold run
    split
    · exact Nat.le_trans (Nat.le_succ p) (run_ge f T n (p + 1))
    · exact Nat.le_refl p
theorem run_len {f : Int → Bool} {T : List Nat} (hf : f (-1) = false) : ∀ n p, p ≤ T.length → run f T n p ≤ T.length
  | 0, p, h => h
  | n + 1, p, h => by
    unfold run
    split
    · rename_i c
      refine run_len hf n (p + 1) ?_
      by_cases e : p < T.length
      · exact e
      · unfold byteAt at c
        rw [List.getElem?_eq_none (by omega), hf] at c
        cases c
    · exact h
theorem run_top (f : Int → Bool) (T : List Nat) : ∀ n p, run f T n p ≤ p + n
  | 0, p => Nat.le_refl p
  | n + 1, p => by
    unfold run
    split
    · have := run_top f T n (p + 1)
      omega
    · omega
theorem byteAt_lt {T : List Nat} {p : Nat} {b : Int} (h : byteAt T p = b) (hb : b ≠ -1) : p < T.length := by
  by_cases e : p < T.length
  · exact e
  · unfold byteAt at h
    rw [List.getElem?_eq_none (by omega)] at h
    exact absurd h.symm hb
theorem mExpect_ok {T : List Nat} {p q : Nat} {b : Int} (h : mExpect T p b = .ok q) (hb : b ≠ -1) : q = p + 1 ∧ p < T.length ∧ byteAt T p = b := by
  unfold mExpect at h
  split at h
  · rename_i c
    cases h
    exact ⟨rfl, byteAt_lt c hb, c⟩
  · cases h
theorem run_moved {f : Int → Bool} {T : List Nat} (hf : f (-1) = false) {n p : Nat} (h : run f T n p ≠ p) : p < T.length := by
  cases n with
  | zero => exact absurd rfl h
  | succ n =>
    unfold run at h
    split at h
    · rename_i c
      by_cases e : p < T.length
      · exact e
      · unfold byteAt at c
        rw [List.getElem?_eq_none (by omega), hf] at c
        cases c
    · exact absurd rfl h
theorem mWhole_ok {T : List Nat} {p q : Nat} (h : mWhole T p = .ok q) : p < q ∧ q ≤ T.length := by
  unfold mWhole at h
  split at h
  · rename_i c
    cases h
    exact ⟨Nat.lt_succ_self p, byteAt_lt c (by decide)⟩
  · split at h
    · cases h
    · rename_i c
      cases h
      have h1 := run_moved (by decide) c
      have h2 := run_ge digitI T 6 p
      exact ⟨by omega, run_len (by decide) 6 p (by omega)⟩
theorem mName_ok {T : List Nat} {p q : Nat} (h : mName T p = .ok q) : p < q ∧ q ≤ T.length := by
  unfold mName at h
  split at h
  · rename_i c
    cases h
    have h1 : p < T.length := by
      by_cases e : p < T.length
      · exact e
      · unfold byteAt at c
        rw [List.getElem?_eq_none (by omega)] at c
        exact absurd c (by decide)
    have h2 := run_ge nameI T 15 (p + 1)
    exact ⟨by omega, run_len (by decide) 15 (p + 1) (by omega)⟩
  · cases h
theorem mWord_ok {T : List Nat} : ∀ {w : List Nat} {p q : Nat}, mWord T p w = .ok q → q = p + w.length ∧ (w ≠ [] → q ≤ T.length)
  | [], p, q, h => by
    cases h
    exact ⟨rfl, fun h => absurd rfl h⟩
  | c :: w, p, q, h => by
    unfold mWord at h
    split at h
    · cases h
    · rename_i q1 e
      have h1 := mExpect_ok e (by omega)
      obtain ⟨h2, h3⟩ := mWord_ok h
      refine ⟨by simp; omega, fun _ => ?_⟩
      by_cases ew : w = []
      · subst ew
        simp at h2
        omega
      · exact h3 ew
theorem mAmount_ok {T : List Nat} {p : Nat} {r : Nat × Int} (h : mAmount T p = .ok r) : p < r.1 ∧ r.1 ≤ T.length := by
  unfold mAmount at h
  split at h
  · cases h
  · rename_i q e
    obtain ⟨h1, h2⟩ := mWhole_ok e
    split at h
    · cases h
      exact ⟨h1, h2⟩
    · split at h
      · cases h
      · rename_i s e2
        obtain ⟨rfl, h3, -⟩ := mExpect_ok e2 (by decide)
        split at h
        · cases h
        · rename_i c
          split at h
          · cases h
          · cases h
            have h4 := run_ge digitI T 3 (q + 1)
            exact ⟨by simp only []; omega, run_len (by decide) 3 (q + 1) (by omega)⟩
end Fb
end
section
set_option Elab.async false
set_option maxRecDepth 100000
set_option maxHeartbeats 4000000
/-! More words of our own for the walk. -/
namespace Fb
open PySem PySem.Spec PyProof.Rows L2
section
variable {α β : Type} {K : PySem.W.Frag} {Q Q' : VK} {E : XK} {H H1 : Hp} {post : β → V → Hp → Prop} {post' : α → V → Hp → Prop} {r : Except (List Int) β} {r' : Except (List Int) α}
theorem Ret.sub (R : Ret K Q E H post r) (s : Same H H1) (he : ∀ ans, r' = .error ans → r = .error ans) (ok : ∀ a, r' = .ok a → ∀ v H2, Same H1 H2 → post' a v H2 → Q' v H2) : Ret K Q' E H1 post' r' :=
  ⟨ok, fun ans e d H2 s2 ra => R.err ans (he ans e) d H2 (fun b o h => s2 b o (s b o h)) (ra.pre s)⟩
theorem Ret.done (R : Ret K Q E H post r) {b : β} (e : r = .ok b) {v : V} {H' : Hp} (s : Same H H') (p : post b v H') : Q v H' := R.ok b e v H' s p
theorem Ret.raised (R : Ret K Q E H post r) {ans : List Int} {vs : List V} (e : r = .error ans) (hv : vs = ans.map V.int) (s : Same H H1) {l d : Addr} (hl : H1 l = none) (hd : (upd H1 l (.lst vs)) d = none) :
    E (.ref (He.ga K "Refusal")) (some d) (upd (upd H1 l (.lst vs)) d (.xd [(("answer" : Str), .ref l)])) := by
  subst hv
  refine R.err ans e d _ (fun b o h => ?_) ⟨l, ?_, upd_same, ?_⟩
  · exact Same.new hd _ _ (Same.new hl _ _ (s _ _ h))
  · cases q : H l with
    | none => rfl
    | some o => rw [s _ _ q] at hl; cases hl
  · exact Same.new hd _ _ upd_same
theorem Same.refl (H : Hp) : Same H H := fun _ _ h => h
theorem Same.trans' {H H1 H2 : Hp} (a : Same H H1) (b : Same H1 H2) : Same H H2 := fun _ _ h => b _ _ (a _ _ h)
end
/-- a text, sign by sign -/
theorem for_str {z : Str} {g : TG} {tb : TS} {D : Ends} {σ : L2.St} {H : Hp} (Pv : List Nat → List Nat → L2.St → Hp → Prop) (h0 : Pv [] z.cps.toList σ H)
    (hs : ∀ d x r σ H, d ++ x :: r = z.cps.toList → Pv d (x :: r) σ H → g (.str ⟨#[x]⟩) σ H fun σ2 H2 => tb { D with nx := Pv (d ++ [x]) r, ct := Pv (d ++ [x]) r, bk := D.nx } σ2 H2) (hd : ∀ σ H, Pv z.cps.toList [] σ H → D.nx σ H) :
    ∃ W : Nat → Nat → L2.St → Hp → Prop, (∃ m, W 0 m σ H) ∧ ∀ i m σ H, W i m σ H →
      ((Its z).stop i H ∧ D.nx σ H) ∨ ((Its z).go i H ∧ ∃ N : L2.St → Hp → Prop, (∀ σ' H', N σ' H' → ∃ m', m' < m ∧ W (i + 1) m' σ' H') ∧ ∀ x H', (Its z).yld i H x H' → g x σ H' fun σ2 H2 => tb { D with nx := N, ct := N, bk := D.nx } σ2 H2) := by
  refine for_it walk_str (fun i σ H => Pv (z.cps.toList.take i) (z.cps.toList.drop i) σ H) (by simpa using h0) (fun _ _ _ _ _ => trivial) (fun i x σ H H' hi p y => ?_) (fun σ H p => ?_)
  · obtain ⟨rfl, c, hc, rfl⟩ := y
    obtain ⟨e1, e2, e3⟩ := take_drop (xs := z.cps.toList) (i := i) (x := c) (by rw [← hc]; exact Array.getElem?_toList)
    rw [e3] at p
    have := hs _ c _ σ H' e1 p
    rw [← e2] at this
    exact this
  · have e : z.cps.size = z.cps.toList.length := by simp
    rw [e, List.take_length, List.drop_length] at p
    exact hd σ H p
/-- a comprehension over a text -/
theorem lc_str {z : Str} {g : TG} {tt : TT} {te : TE} {vs : List Nat} {σ : L2.St} {H1 : Hp} {D : Addr} {Qd : Hp → Prop} (Pv : List Nat → List Nat → Hp → Prop) (h0 : Pv [] z.cps.toList (upd H1 D (.lst [])))
    (hs : ∀ d x r H, d ++ x :: r = z.cps.toList → Pv d (x :: r) H → g (.str ⟨#[x]⟩) (wipe σ vs) H fun σ2 H2 => wipe σ2 vs = wipe σ vs ∧ tt σ2 H2 fun b H3 =>
      if b = true then te σ2 H3 fun y H4 => ∃ acc, H4 D = some (.lst acc) ∧ acc.length < sizeLine ∧ Pv (d ++ [x]) r (upd H4 D (.lst (acc ++ [y]))) else Pv (d ++ [x]) r H3) (hd : ∀ H, Pv z.cps.toList [] H → Qd H) :
    ∃ W : Nat → Nat → Hp → Prop, (∃ m, W 0 m (upd H1 D (.lst []))) ∧ ∀ i m H, W i m H →
      ((Its z).stop i H ∧ Qd H) ∨ ((Its z).go i H ∧ ∃ Nx : Hp → Prop, (∀ H', Nx H' → ∃ m', m' < m ∧ W (i + 1) m' H') ∧ ∀ x H', (Its z).yld i H x H' → g x (wipe σ vs) H' fun σ2 H2 => wipe σ2 vs = wipe σ vs ∧ tt σ2 H2 fun b H3 =>
        if b = true then te σ2 H3 fun y H4 => ∃ acc, H4 D = some (.lst acc) ∧ acc.length < sizeLine ∧ Nx (upd H4 D (.lst (acc ++ [y]))) else Nx H3) := by
  refine lc_it walk_str (fun i H => Pv (z.cps.toList.take i) (z.cps.toList.drop i) H) (by simpa using h0) (fun _ _ _ _ => trivial) (fun i x H H' hi p y => ?_) (fun H p => ?_)
  · obtain ⟨rfl, c, hc, rfl⟩ := y
    obtain ⟨e1, e2, e3⟩ := take_drop (xs := z.cps.toList) (i := i) (x := c) (by rw [← hc]; exact Array.getElem?_toList)
    rw [e3] at p
    have := hs _ c _ H' e1 p
    rw [← e2] at this
    exact this
  · have e : z.cps.size = z.cps.toList.length := by simp
    rw [e, List.take_length, List.drop_length] at p
    exact hd H p
/-- a text of bytes -/
abbrev TextAt (H : Hp) (a : Addr) (T : List Nat) : Prop := H a = some (.lst (vn T))
theorem vn_get {T : List Nat} {i x : Nat} (h : T[i]? = some x) : (vn T)[i]? = some (V.int (x : Int)) := by
  rw [vn, List.getElem?_map, h]
  rfl
theorem cut_nat (T : List Nat) {p q : Nat} (h : p ≤ q) (hq : q ≤ T.length) : cutV (vn T) (some (p : Int)) (some (q : Int)) = vn ((T.drop p).take (q - p)) := by
  have a : ∀ n d j : Nat, HT.sIx n d (some (j : Int)) = min j n := fun n d j => by
    unfold HT.sIx
    simp only []
    by_cases h : (j : Int) < 0
    · omega
    · simp only [h, if_false]
      omega
  unfold cutV
  rw [a, a, vn_length, Nat.min_eq_left hq, Nat.min_eq_left (Nat.le_trans h hq)]
  unfold vn
  rw [List.map_take, List.map_drop]
theorem pe_fldK {X : Cx} {K : PySem.W.Frag} {e : Expr} {f : Str} {pos : Pos} {ta : TE} (hK : X.K = K) (he : PE X e ta) (hb : attributeBase e f X.env (eval e X.env) = eval e X.env) : PE X (.Attribute e f pos) (tFld K ta f) := by
  subst hK
  exact pe_fld he hb
/-- two ways that lead to one place -/
theorem with_rest (C : Prop) {N G : Prop} (main : (C → N) → G) (rest : C → N) : G := main rest
/-- a new list -/
def NewL (Q : VK) (H : Hp) (zs : List V) : Prop := ∀ p H', Same H H' → H p = none → H' p = some (.lst zs) → Q (.ref p) H'
theorem NewL.sub {Q : VK} {H H1 : Hp} {zs : List V} (n : NewL Q H zs) (s : Same H H1) : NewL Q H1 zs := fun p H' s2 h e => n p H' (Same.trans' s s2) (by
  cases q : H p with
  | none => rfl
  | some o => rw [s _ _ q] at h; cases h) e
theorem NewL.new {Q : VK} {H H1 : Hp} {zs : List V} (n : NewL Q H zs) (s : Same H H1) {p : Addr} (h : H1 p = none) : Q (.ref p) (upd H1 p (.lst zs)) := n.sub s p _ (Same.new h) h upd_same
theorem dec_ne (a b : V) : (!decide (a = b)) = decide (a ≠ b) := by simp
theorem dec_int (a b : Int) : decide (V.int a = V.int b) = decide (a = b) := by simp
end Fb
end
section
/-! The mirror, second part: what each def of the program reckons, in plain Lean, dicts as lists of pairs in the order in which they were put. -/
namespace Fb
open SctBook
section
variable {κ : Type} [DecidableEq κ]
def lookG {β : Type} (D : List (κ × β)) (k : κ) : Option β := (D.find? fun x => decide (x.1 = k)).map (·.2)
def putG {β : Type} (D : List (κ × β)) (k : κ) (v : β) : List (κ × β) := if (D.any fun x => decide (x.1 = k)) = true then D.map fun x => if x.1 = k then (x.1, v) else x else D ++ [(k, v)]
/-- a set, in the order in which its members came -/
def addS (s : List κ) (k : κ) : List κ := if k ∈ s then s else s ++ [k]
def memB (s : List κ) (k : κ) : Bool := s.any fun x => decide (x = k)
theorem memB_iff {s : List κ} {k : κ} : memB s k = true ↔ k ∈ s := by
  unfold memB
  rw [List.any_eq_true]
  constructor
  · rintro ⟨x, hx, e⟩
    rw [← of_decide_eq_true e]
    exact hx
  · exact fun h => ⟨k, h, decide_eq_true rfl⟩
theorem memB_false {s : List κ} {k : κ} : memB s k = false ↔ k ∉ s := by
  rw [← Bool.not_eq_true, memB_iff]
end
abbrev Bk := List (Ky × Int)
def mSame (B C : Bk) : Bool := B.length == C.length && B.all fun b => decide (lookG C b.1 = some b.2)
def keysOfB (B : Bk) : List Ky := (B.map (·.1)).mergeSort kLe
def saidB (B : Bk) (k : Ky) : Int := (lookG B k).getD 0
def hasB (B : Bk) (x : Nm) : Bool := (lookG B (x, [])).isSome
/-! ### books -/
def thingsB (B : Bk) : List Nm := ((keysOfB B).filter fun k => decide (k.2 = [])).map (·.1)
def accordsB (B : Bk) : List Nm := (thingsB B).filter fun x => decide (saidB B (x, []) = -2)
abbrev Pt := List (Nm × List Nm)
def addP (P : Pt) (k : Ky) : Pt := if k.2 = [] then putG P k.1 [] else P.map fun p => if p.1 = k.1 then (p.1, p.2 ++ [k.2]) else p
def partsB (B : Bk) : Pt := (keysOfB B).foldl addP []
def inP (P : Pt) (x : Nm) : List Nm := (lookG P x).getD []
/-- the parts of one thing, those not yet found: found, deeper -/
def seeOne : List Nm × List Nm → List Nm → List Nm × List Nm
  | s, [] => s
  | s, x :: r => if x ∈ s.1 then seeOne s r else seeOne (s.1 ++ [x], s.2 ++ [x]) r
def seeAll (P : Pt) : List Nm × List Nm → List Nm → List Nm × List Nm
  | s, [] => s
  | s, y :: r => seeAll P (seeOne s (inP P y)) r
def seeFrom (P : Pt) : Nat → List Nm → List Nm → List Nm
  | 0, found, _ => found
  | f + 1, found, layer => if layer = [] then found else seeFrom P f (seeAll P (found, []) layer).1 (seeAll P (found, []) layer).2
def standB (P : Pt) (x : Nm) : List Nm := seeFrom P (P.length + 2) [] [x]
def knownB (B : Bk) : Bool := B.all fun b => decide (b.1.2 = []) || (decide (saidB B (b.1.1, []) = -2) && hasB B b.1.2)
def rightB (B : Bk) : Bool := if (thingsB B).length > 40 then false else if knownB B = false then false else (accordsB B).all fun y => decide (1 ≤ (inP (partsB B) y).length) && (decide ((inP (partsB B) y).length ≤ 12) && !memB (standB (partsB B) y) y)
def renK (a z : Nm) (k : Ky) : Ky := (if k.1 = a then z else k.1, if k.2 = a then z else k.2)
def renP (a z : Nm) (M : Bk) (b : Ky × Int) : Bk := putG M (renK a z b.1) b.2
def renB (B : Bk) (a z : Nm) : Bk := B.foldl (renP a z) []
def dropB (B : Bk) (a : Nm) : Bk := B.filter fun b => decide (b.1.1 ≠ a) && decide (b.1.2 ≠ a)
def usersB (B : Bk) (x : Nm) : List Nm := (thingsB B).filter fun y => memB (standB (partsB B) y) x
def readyB (P : Pt) (told : List Nm) : Nm := match P.find? fun p => !memB told p.1 && p.2.all fun x => memB told x with
  | some p => p.1
  | none => []
def orderB (P : Pt) : Nat → List Nm → List Nm
  | 0, told => told
  | n + 1, told => orderB P n (addS told (readyB P told))
def toldB (B : Bk) : List Nm := orderB (partsB B) (partsB B).length []
/-! ### texts read -/
structure Ln where
  key : Ky
  told : Int
  place : Nat
def cut (T : List Nat) (p q : Nat) : List Nat := (T.drop p).take (q - p)
def notEnd (b : Int) : Bool := decide (b ≠ 10) && decide (b ≠ -1)
def mRemark (T : List Nat) (p : Nat) : Mi Nat := mExpect T (run notEnd T (T.length - p) p) 10
def mThingLine (T : List Nat) (p : Nat) : Mi (Nat × Ln) := match mWord T p (if byteAt T p = 109 then MATERIAL else ACCORD) with
  | .error e => .error e
  | .ok q => match mExpect T q 32 with
    | .error e => .error e
    | .ok s => match mName T s with
      | .error e => .error e
      | .ok z => match mExpect T z 10 with
        | .error e => .error e
        | .ok b => .ok (b, ⟨(cut T s z, []), if byteAt T p = 109 then -1 else -2, s⟩)
def mPartLine (T : List Nat) (p : Nat) (acc : Nm) : Mi (Nat × Ln) := match mWord T p [32, 32] with
  | .error e => .error e
  | .ok s => match mName T s with
    | .error e => .error e
    | .ok z => match mExpect T z 32 with
      | .error e => .error e
      | .ok g => match mAmount T g with
        | .error e => .error e
        | .ok h => match mExpect T h.1 10 with
          | .error e => .error e
          | .ok b => .ok (b, ⟨(acc, cut T s z), h.2, s⟩)
def mLine (T : List Nat) (p : Nat) (acc : Nm) : Mi (Nat × Option Ln × Nm) :=
  if byteAt T p = 10 then .ok (p + 1, none, acc) else
  if byteAt T p = 35 then match mRemark T p with
    | .error e => .error e
    | .ok q => .ok (q, none, acc)
  else if byteAt T p = 32 ∧ acc ≠ [] then match mPartLine T p acc with
    | .error e => .error e
    | .ok r => .ok (r.1, some r.2, acc)
  else match mThingLine T p with
    | .error e => .error e
    | .ok r => .ok (r.1, some r.2, if r.2.told = -2 then r.2.key.1 else [])
def mLines (T : List Nat) : Nat → Nat → Nm → Mi (List Ln)
  | 0, _, _ => .ok []
  | f + 1, p, acc => if p < T.length then match mLine T p acc with
      | .error e => .error e
      | .ok r => match mLines T f r.1 r.2.2 with
        | .error e => .error e
        | .ok ls => .ok (r.2.1.toList ++ ls)
    else .ok []
def mLinesOf (T : List Nat) : Mi (List Ln) := mLines T (T.length + 1) 0 []
def mRep : List Ky → List Ln → Int
  | _, [] => -1
  | seen, l :: r => if l.key ∈ seen then (l.place : Nat) else mRep (seen ++ [l.key]) r
def placeOf (f : Ln → Bool) (ls : List Ln) : Int := match ls.find? f with
  | some l => (l.place : Nat)
  | none => -1
def mUnknown (B : Bk) (ps : List Ln) : Int := placeOf (fun l => !hasB B l.key.2) ps
def mWithout (ts ps : List Ln) : Int := placeOf (fun l => decide (l.told = -2) && !memB (ps.foldl (fun s l => addS s l.key.1) []) l.key.1) ts
def mInItself (B : Bk) (ts : List Ln) : Int := placeOf (fun l => memB (standB (partsB B) l.key.1) l.key.1) ts
def mMany : Nat → List (Nm × Int) → List Ln → Int
  | _, _, [] => -1
  | n, c, l :: r => if l.key.2 = [] then (if n = 40 then (l.place : Nat) else mMany (n + 1) c r) else
    if (lookG c l.key.1).getD 0 = 12 then (l.place : Nat) else mMany n (putG c l.key.1 ((lookG c l.key.1).getD 0 + 1)) r
def bookOf (ls : List Ln) : Bk := ls.foldl (fun B l => putG B l.key l.told) []
def mReadBook (T : List Nat) : Mi Bk := match mLinesOf T with
  | .error e => .error e
  | .ok ls =>
    match mAt 2 (mRep [] (ls.filter fun l => decide (l.key.2 = []))) with
    | .error e => .error e
    | .ok _ => match mAt 3 (mRep [] (ls.filter fun l => !decide (l.key.2 = []))) with
      | .error e => .error e
      | .ok _ => match mAt 4 (mUnknown (bookOf ls) (ls.filter fun l => !decide (l.key.2 = []))) with
        | .error e => .error e
        | .ok _ => match mAt 5 (mWithout (ls.filter fun l => decide (l.key.2 = [])) (ls.filter fun l => !decide (l.key.2 = []))) with
          | .error e => .error e
          | .ok _ => match mAt 6 (mInItself (bookOf ls) (ls.filter fun l => decide (l.key.2 = []))) with
            | .error e => .error e
            | .ok _ => match mAt 7 (mMany 0 [] ls) with
              | .error e => .error e
              | .ok _ => .ok (bookOf ls)
/-! ### texts written -/
def mThing (x : Nm) (n : Int) : List Nat := (if n = -1 then MATERIAL else ACCORD) ++ [32] ++ x
def mFact (k : Ky) (n : Int) : List Nat := if k.2 = [] then mThing k.1 n ++ [10] else [32, 32] ++ k.2 ++ [32] ++ amountText n.toNat ++ [10]
def mText (B : Bk) : List Nat := (keysOfB B).flatMap fun k => mFact k (saidB B k)
def mParts (B : Bk) (x : Nm) : List Nat := ((keysOfB B).filter fun k => decide (k.1 = x) && !decide (k.2 = [])).flatMap fun k => mFact k (saidB B k)
def mNames (l : List Nm) : List Nat := l.flatMap fun x => x ++ [10]
/-! ### changes -/
structure Cl where
  comes : Bool
  key : Ky
  told : Int
  place : Nat
def mChangeLine (T : List Nat) (p : Nat) : Mi (Nat × Cl) := if byteAt T p ≠ 43 ∧ byteAt T p ≠ 45 then .error (bad p) else
  match mName T (p + 1) with
  | .error e => .error e
  | .ok z => if byteAt T z = 32 ∧ (cut T (p + 1) z = MATERIAL ∨ cut T (p + 1) z = ACCORD) then match mName T (z + 1) with
      | .error e => .error e
      | .ok s => match mExpect T s 10 with
        | .error e => .error e
        | .ok b => .ok (b, ⟨decide (byteAt T p = 43), (cut T (z + 1) s, []), if cut T (p + 1) z = MATERIAL then -1 else -2, p⟩)
    else match mExpect T z 46 with
      | .error e => .error e
      | .ok s => match mName T s with
        | .error e => .error e
        | .ok z2 => match mExpect T z2 32 with
          | .error e => .error e
          | .ok g => match mAmount T g with
            | .error e => .error e
            | .ok h => match mExpect T h.1 10 with
              | .error e => .error e
              | .ok b => .ok (b, ⟨decide (byteAt T p = 43), (cut T (p + 1) z, cut T s z2), h.2, p⟩)
def mChangeLines (T : List Nat) : Nat → Nat → Mi (List Cl)
  | 0, _ => .ok []
  | f + 1, p => if p < T.length then match mChangeLine T p with
      | .error e => .error e
      | .ok r => match mChangeLines T f r.1 with
        | .error e => .error e
        | .ok ls => .ok (r.2 :: ls)
    else .ok []
def mCRep : List (Bool × Ky) → List Cl → Int
  | _, [] => -1
  | seen, l :: r => if (l.comes, l.key) ∈ seen then (l.place : Nat) else mCRep (seen ++ [(l.comes, l.key)]) r
def mReadChange (T : List Nat) : Mi (List Cl) := match mChangeLines T (T.length + 1) 0 with
  | .error e => .error e
  | .ok ls => match mAt 2 (mCRep [] ls) with
    | .error e => .error e
    | .ok _ => .ok ls
/-- what goes, what comes -/
structure Chg where
  going : Bk
  coming : Bk
def mChangeOf (ls : List Cl) : Chg := ls.foldl (fun c l => if l.comes = true then ⟨c.going, putG c.coming l.key l.told⟩ else ⟨putG c.going l.key l.told, c.coming⟩) ⟨[], []⟩
def fitsB (B : Bk) (c : Chg) (l : Cl) : Bool := if l.comes = true then decide (saidB B l.key = 0) || decide (saidB c.going l.key = saidB B l.key) else decide (saidB B l.key = l.told)
def mUnfit (B : Bk) (c : Chg) (ls : List Cl) : Int := match ls.find? fun l => !fitsB B c l with
  | some l => (l.place : Nat)
  | none => -1
def putAll (M : Bk) (l : Bk) : Bk := l.foldl (fun M b => putG M b.1 b.2) M
def mMade (B : Bk) (c : Chg) : Bk := putAll (B.filter fun b => !(lookG c.going b.1).isSome) c.coming
def mChanged (B : Bk) (ls : List Cl) : Mi Bk := match mAt 3 (mUnfit B (mChangeOf ls) ls) with
  | .error e => .error e
  | .ok _ => .ok (mMade B (mChangeOf ls))
def mDiff (B C : Bk) : Chg := ⟨B.filter fun b => decide (saidB C b.1 ≠ b.2), C.filter fun b => decide (saidB B b.1 ≠ b.2)⟩
def mSigned (s : Nat) (k : Ky) (n : Int) : List Nat := if k.2 = [] then [s] ++ mThing k.1 n ++ [10] else [s] ++ (k.1 ++ [46] ++ k.2 ++ [32] ++ amountText n.toNat) ++ [10]
def addKeys (s : List Ky) (B : Bk) : List Ky := B.foldl (fun s b => addS s b.1) s
def subjectsB (Bs : List Bk) : List Ky := (Bs.foldl addKeys []).mergeSort kLe
def chunk (s : Nat) (D : Bk) (k : Ky) : List Nat := match lookG D k with
  | some n => mSigned s k n
  | none => []
theorem chunk_some {s : Nat} {D : Bk} {k : Ky} {n : Int} (h : lookG D k = some n) : chunk s D k = mSigned s k n := by
  unfold chunk
  rw [h]
theorem chunk_none {s : Nat} {D : Bk} {k : Ky} (h : lookG D k = none) : chunk s D k = [] := by
  unfold chunk
  rw [h]
def mChangeText (c : Chg) : List Nat := (subjectsB [c.going, c.coming]).flatMap fun k => chunk 45 c.going k ++ chunk 43 c.coming k
/-! ### merging -/
def contraB (a b c : Bk) (k : Ky) : Bool := decide (saidB b k ≠ saidB c k) && (decide (saidB b k ≠ saidB a k) && decide (saidB c k ≠ saidB a k))
def contrasB (a b c : Bk) : List Ky := (subjectsB [a, b, c]).filter fun k => contraB a b c k
def mergeSay (a b c : Bk) (k : Ky) : Int := if saidB b k = saidB a k then saidB c k else saidB b k
def mergeL (a b c : Bk) (l : List Ky) : Bk := l.foldl (fun M k => if mergeSay a b c k ≠ 0 then putG M k (mergeSay a b c k) else M) []
def mergeB (a b c : Bk) : Bk := mergeL a b c (subjectsB [a, b, c])
def mSubjects (l : List Ky) : List Nat := l.flatMap fun k => k.1 ++ ((if k.2 = [] then [] else [46] ++ k.2) ++ [10])
/-! ### the shelf -/
abbrev Sh := List Bk
def asInts (l : List Nat) : List Int := l.map fun (n : Nat) => (n : Int)
def mLong {β : Type} (T : List Nat) (r : Mi β) : Mi β := if T.length > 4000 then .error [-1] else r
def mBelow {β : Type} (v : Int) (r : Mi β) : Mi β := if v < 0 then .error [-1] else r
def mNamed {β : Type} (T : List Nat) (r : Mi β) : Mi β := if mIsName T = false then .error [-1] else r
def mVersion (S : Sh) (v : Int) : Mi Bk := if v ≥ S.length then .error [-3] else match S[v.toNat]? with
  | some B => .ok B
  | none => .error [-3]
def mVersionWith (S : Sh) (v : Int) (x : Nm) : Mi Bk := match mVersion S v with
  | .error e => .error e
  | .ok B => if hasB B x = false then .error [-3] else .ok B
def mKeep (S : Sh) (B : Bk) : Mi (Sh × List Int) := if S.length ≥ 12 then .error [-9] else .ok (S ++ [B], [0, (S.length : Nat)])
def mKeepRight (S : Sh) (B : Bk) : Mi (Sh × List Int) := if rightB B = false then .error [-4] else mKeep S B
def mRead (S : Sh) (T : List Nat) : Mi (Sh × List Int) := mLong T (match mReadBook T with
  | .error e => .error e
  | .ok B => mKeep S B)
def mJudge (T : List Nat) : Mi (List Int) := mLong T (match mReadBook T with
  | .error e => .error e
  | .ok B => .ok [0, ((thingsB B).length : Nat), ((accordsB B).length : Nat)])
def mInvert (T : List Nat) : Mi (List Int) := mLong T (match mReadChange T with
  | .error e => .error e
  | .ok ls => .ok (0 :: asInts (mChangeText ⟨(mChangeOf ls).coming, (mChangeOf ls).going⟩)))
def mOne (S : Sh) (v : Int) (f : Bk → List Int) : Mi (List Int) := mBelow v (match mVersion S v with
  | .error e => .error e
  | .ok B => .ok (f B))
def mCallText (S : Sh) (v : Int) : Mi (List Int) := mOne S v fun B => 0 :: asInts (mText B)
def mCount (S : Sh) (v : Int) : Mi (List Int) := mOne S v fun B => [0, ((thingsB B).length : Nat), ((accordsB B).length : Nat), (B.length : Nat)]
def mOrder (S : Sh) (v : Int) : Mi (List Int) := mOne S v fun B => 0 :: asInts (mNames (toldB B))
def mTwo (S : Sh) (v w : Int) (f : Bk → Bk → List Int) : Mi (List Int) := mBelow (min v w) (match mVersion S v with
  | .error e => .error e
  | .ok B => match mVersion S w with
    | .error e => .error e
    | .ok C => .ok (f B C))
def mCallSame (S : Sh) (v w : Int) : Mi (List Int) := mTwo S v w fun B C => if mSame B C = true then [0, 1] else [0, 0]
def mCallDiff (S : Sh) (v w : Int) : Mi (List Int) := mTwo S v w fun B C => 0 :: asInts (mChangeText (mDiff B C))
def mApply (S : Sh) (v : Int) (T : List Nat) : Mi (Sh × List Int) := mBelow v (mLong T (match mVersion S v with
  | .error e => .error e
  | .ok B => match mReadChange T with
    | .error e => .error e
    | .ok ls => match mChanged B ls with
      | .error e => .error e
      | .ok M => mKeepRight S M))
def mCallMerge (S : Sh) (a v w : Int) : Mi (Sh × List Int) := mBelow (min (min a v) w) (match mVersion S a with
  | .error e => .error e
  | .ok A => match mVersion S v with
    | .error e => .error e
    | .ok B => match mVersion S w with
      | .error e => .error e
      | .ok C => if contrasB A B C ≠ [] then .ok (S, 1 :: asInts (mSubjects (contrasB A B C))) else mKeepRight S (mergeB A B C))
def mCallRename (S : Sh) (v : Int) (x z : List Nat) : Mi (Sh × List Int) := mBelow v (mNamed x (mNamed z (match mVersionWith S v x with
  | .error e => .error e
  | .ok B => if hasB B z = true then .error [-8] else mKeep S (renB B x z))))
def mCallDrop (S : Sh) (v : Int) (x : List Nat) : Mi (Sh × List Int) := mBelow v (mNamed x (match mVersionWith S v x with
  | .error e => .error e
  | .ok B => mKeepRight S (dropB B x)))
def mCallParts (S : Sh) (v : Int) (x : List Nat) : Mi (List Int) := mBelow v (mNamed x (match mVersionWith S v x with
  | .error e => .error e
  | .ok B => .ok (0 :: asInts (mParts B x))))
def mCallUsers (S : Sh) (v : Int) (x : List Nat) : Mi (List Int) := mBelow v (mNamed x (match mVersionWith S v x with
  | .error e => .error e
  | .ok B => .ok (0 :: asInts (mNames (usersB B x)))))
def still (S : Sh) : Mi (List Int) → Mi (Sh × List Int)
  | .error e => .error e
  | .ok l => .ok (S, l)
/-- one call: its number, its whole numbers, its rows -/
def mCall (S : Sh) (c : Int) (ns : List Int) (rows : List (List Nat)) : Mi (Sh × List Int) :=
  if c = 1 then mRead S (rows.getD 0 []) else if c = 2 then still S (mJudge (rows.getD 0 [])) else if c = 7 then mApply S (ns.getD 0 0) (rows.getD 0 []) else if c = 8 then still S (mInvert (rows.getD 0 [])) else
  if c = 10 then mCallRename S (ns.getD 0 0) (rows.getD 0 []) (rows.getD 1 []) else if c = 11 then mCallDrop S (ns.getD 0 0) (rows.getD 0 []) else if c = 12 then still S (mCallParts S (ns.getD 0 0) (rows.getD 0 [])) else if c = 13 then still S (mCallUsers S (ns.getD 0 0) (rows.getD 0 [])) else
  if c = 3 then still S (mCallText S (ns.getD 0 0)) else if c = 4 then still S (mCount S (ns.getD 0 0)) else if c = 5 then still S (mCallSame S (ns.getD 0 0) (ns.getD 1 0)) else if c = 6 then still S (mCallDiff S (ns.getD 0 0) (ns.getD 1 0)) else
  if c = 9 then mCallMerge S (ns.getD 0 0) (ns.getD 1 0) (ns.getD 2 0) else still S (mOrder S (ns.getD 0 0))
/-- .. and the answer, a refusal too -/
def mStep (S : Sh) (c : Int) (ns : List Int) (rows : List (List Nat)) : Sh × List Int := match mCall S c ns rows with
  | .error e => (S, e)
  | .ok r => r
end Fb
namespace Fb
open SctBook
/-- what a book says of one key, within bounds -/
structure FactOk (k : Ky) (n : Int) : Prop where
  fst : k.1.length ≤ 16
  snd : k.2.length ≤ 16
  big : n.natAbs ≤ 1000000000000
  pos : k.2 ≠ [] → 0 ≤ n
structure BookOk (B : Bk) : Prop where
  len : B.length ≤ 20000
  each : ∀ b ∈ B, FactOk b.1 b.2
end Fb
end
section
set_option Elab.async false
set_option maxRecDepth 100000
set_option maxHeartbeats 4000000
/-! Dicts by what their keys stand for. -/
namespace Fb
open PySem PySem.Spec PyProof.Rows L2
/-- the tuples stay -/
def Tp (H H' : Hp) : Prop := ∀ b xs, H b = some (.tup xs) → H' b = some (.tup xs)
/-- a kind of keys -/
structure KT (κ : Type) where
  nk : κ → NestedKey
  At : Hp → Addr → κ → Prop
  inj : ∀ {a b : κ}, nk a = nk b → a = b
  isK : ∀ {H : Hp} {a : Addr} {k : κ}, At H a k → IsK H (nk k) (.ref a)
  depth : ∀ k : κ, (nk k).depth ≤ 8
  tp : ∀ {H H' : Hp} {a : Addr} {k : κ}, Tp H H' → At H a k → At H' a k
theorem KT.kp {κ : Type} (t : KT κ) {H H' : Hp} {a : Addr} {k : κ} (s : Kp H H') (h : t.At H a k) : t.At H' a k := t.tp (fun _ _ e => s _ _ trivial e) h
theorem NameAt.tp {H H' : Hp} {a : Addr} {x : Nm} (s : Tp H H') (h : NameAt H a x) : NameAt H' a x := s _ _ h
theorem KeyAt.tp {H H' : Hp} {a : Addr} {k : Ky} (s : Tp H H') (h : KeyAt H a k) : KeyAt H' a k := by
  obtain ⟨a1, a2, h1, h2, h3⟩ := h
  exact ⟨a1, a2, s _ _ h1, h2.tp s, h3.tp s⟩
def tK : KT Ky := ⟨kk, KeyAt, kk_inj, KeyAt.isK, depth_kk, fun s h => h.tp s⟩
def tN : KT Nm := ⟨kn, NameAt, kn_inj, NameAt.isK, depth_kn, fun s h => h.tp s⟩
section
variable {κ : Type} [DecidableEq κ] {t : KT κ}
def entG (t : KT κ) (x : κ × Addr × V) : Ent := (t.nk x.1, x.2.1, x.2.2)
def DG (t : KT κ) (H : Hp) (d : Addr) (D : List (κ × V)) : Prop := ∃ (ep : Nat) (xs : List (κ × Addr × V)), DictX H d ep (xs.map (entG t)) ∧ (∀ x ∈ xs, t.At H x.2.1 x.1) ∧ xs.map (fun x => (x.1, x.2.2)) = D
theorem nodup_of_map {α β : Type} (f : α → β) : ∀ {l : List α}, (l.map f).Nodup → l.Nodup
  | [], _ => List.nodup_nil
  | a :: l, h => by
    rw [List.map_cons, List.nodup_cons] at h
    exact List.nodup_cons.mpr ⟨fun m => h.1 (List.mem_map_of_mem m), nodup_of_map f h.2⟩
theorem nk_eq (t : KT κ) (a b : κ) : decide (t.nk a = t.nk b) = decide (a = b) := decide_eq_decide.mpr ⟨t.inj, fun h => by rw [h]⟩
theorem val_G (t : KT κ) (k : κ) : ∀ xs : List (κ × Addr × V), valX (xs.map (entG t)) (t.nk k) = lookG (xs.map fun x => (x.1, x.2.2)) k
  | [] => rfl
  | x :: xs => by
    have ih := val_G t k xs
    unfold valX lookG at *
    rw [List.map_cons, List.map_cons, List.find?_cons, List.find?_cons]
    show Option.map _ (match decide (t.nk x.1 = t.nk k) with | true => _ | false => _) = _
    rw [nk_eq]
    cases decide (x.1 = k) with
    | true => rfl
    | false => exact ih
theorem any_G (t : KT κ) (k : κ) (xs : List (κ × Addr × V)) : ((xs.map (entG t)).any fun x => decide (x.1 = t.nk k)) = ((xs.map fun x => (x.1, x.2.2)).any fun x => decide (x.1 = k)) := by
  rw [List.any_map, List.any_map]
  congr 1
  funext x
  exact nk_eq t x.1 k
/-- the entries behind a store -/
def putE (xs : List (κ × Addr × V)) (k : κ) (a : Addr) (v : V) : List (κ × Addr × V) := if (xs.any fun x => decide (x.1 = k)) = true then xs.map fun x => if x.1 = k then (x.1, x.2.1, v) else x else xs ++ [(k, a, v)]
theorem put_G (t : KT κ) (k : κ) (a : Addr) (v : V) (xs : List (κ × Addr × V)) : putX (xs.map (entG t)) (t.nk k) a v = (putE xs k a v).map (entG t) := by
  have e : ((xs.map (entG t)).any fun x => decide (x.1 = t.nk k)) = (xs.any fun x => decide (x.1 = k)) := by
    rw [any_G, List.any_map]
    rfl
  unfold putX putE
  rw [e]
  split
  · rw [List.map_map, List.map_map]
    refine List.map_congr_left fun x _ => ?_
    show (if t.nk x.1 = t.nk k then _ else _) = entG t (if x.1 = k then _ else _)
    by_cases h : x.1 = k
    · rw [if_pos h, if_pos (by rw [h])]
      rfl
    · rw [if_neg h, if_neg fun e => h (t.inj e)]
  · rw [List.map_append]
    rfl
theorem putE_G (k : κ) (a : Addr) (v : V) (xs : List (κ × Addr × V)) : (putE xs k a v).map (fun x => (x.1, x.2.2)) = putG (xs.map fun x => (x.1, x.2.2)) k v := by
  unfold putE putG
  rw [List.any_map]
  show (if (xs.any fun x => decide (x.1 = k)) = true then _ else _ : List _).map _ = if (xs.any fun x => decide (x.1 = k)) = true then _ else _
  split
  · rw [List.map_map, List.map_map]
    refine List.map_congr_left fun x _ => ?_
    show (fun (x : κ × Addr × V) => (x.1, x.2.2)) (if x.1 = k then (x.1, x.2.1, v) else x) = if x.1 = k then (x.1, v) else (x.1, x.2.2)
    split <;> rfl
  · rw [List.map_append]
    rfl
theorem putE_mem {xs : List (κ × Addr × V)} {k : κ} {a : Addr} {v : V} {y : κ × Addr × V} (h : y ∈ putE xs k a v) : (∃ x ∈ xs, x.1 = y.1 ∧ x.2.1 = y.2.1) ∨ y = (k, a, v) := by
  unfold putE at h
  split at h
  · obtain ⟨x, hx, e⟩ := List.mem_map.mp h
    refine .inl ⟨x, hx, ?_⟩
    rw [← e]
    split <;> exact ⟨rfl, rfl⟩
  · rcases List.mem_append.mp h with h | h
    · exact .inl ⟨y, h, rfl, rfl⟩
    · exact .inr (List.mem_singleton.mp h)
variable {H H' : Hp} {d a : Addr} {D : List (κ × V)} {k : κ} {v : V} {Q : VK}
theorem KT.same (t : KT κ) (s : Same H H') (h : t.At H a k) : t.At H' a k := t.kp (Same.kp s) h
theorem DG.same (s : Same H H') (h : DG t H d D) : DG t H' d D := by
  obtain ⟨ep, xs, h1, h2, h3⟩ := h
  exact ⟨ep, xs, h1.same s, fun x m => t.same s (h2 x m), h3⟩
theorem DG.at_ (h : DG t H d D) : ∃ f, H d = some (.ext f) := by
  obtain ⟨ep, xs, h1, h2, h3⟩ := h
  exact ⟨_, h1.at_⟩
theorem DG.size (h : DG t H d D) : D.length ≤ sizeLine := by
  obtain ⟨ep, xs, h1, h2, rfl⟩ := h
  have := h1.size
  rw [List.length_map] at *
  exact this
theorem DG.nodup (h : DG t H d D) : (D.map (·.1)).Nodup := by
  obtain ⟨ep, xs, h1, h2, rfl⟩ := h
  have := h1.nodup
  rw [List.map_map] at *
  have e : (xs.map ((·.1) ∘ entG t)) = (xs.map ((·.1) ∘ fun x => (x.1, x.2.2))).map t.nk := by
    rw [List.map_map]
    rfl
  rw [e] at this
  exact nodup_of_map t.nk this
theorem DG.kpe (h : DG t H d D) {o : HO} : Kp H (upd H d o) := by
  obtain ⟨f, h⟩ := h.at_
  exact Kp.upd h fun f => f
/-- what does not know d -/
theorem DG.frame (h : DG t H d D) (tp : Tp H H') (e : H' d = H d) : DG t H' d D := by
  obtain ⟨ep, xs, h1, h2, h3⟩ := h
  refine ⟨ep, xs, ⟨by rw [e]; exact h1.at_, h1.size, h1.low, fun y m => ?_, h1.nodup⟩, fun x m => t.tp tp (h2 x m), h3⟩
  obtain ⟨x, hx, rfl⟩ := List.mem_map.mp m
  exact ⟨t.isK (t.tp tp (h2 x hx)), t.depth _⟩
theorem DG.other {l : Addr} {o u : HO} (h : DG t H d D) (hl : H l = some u) (nf : ¬ Fixed u) (ne : l ≠ d) : DG t (upd H l o) d D :=
  h.frame (fun b xs e => by rw [upd_ne (fun q => by rw [q, hl] at e; cases e; exact nf trivial)]; exact e) (upd_ne (Ne.symm ne))
theorem DG.in_ (h : DG t H d D) (ha : t.At H a k) (q : Q (.bl (lookG D k).isSome) H) : rInX (.ref a) (.ref d) H Q := by
  obtain ⟨ep, xs, h1, h2, rfl⟩ := h
  exact ⟨t.nk k, a, d, ep, _, rfl, rfl, h1, t.isK ha, t.depth k, by rw [val_G]; exact q⟩
theorem DG.notin (h : DG t H d D) (ha : t.At H a k) (q : Q (.bl (!(lookG D k).isSome)) H) : rNotInX (.ref a) (.ref d) H Q := by
  obtain ⟨ep, xs, h1, h2, rfl⟩ := h
  exact ⟨t.nk k, a, d, ep, _, rfl, rfl, h1, t.isK ha, t.depth k, by rw [val_G]; exact q⟩
theorem DG.ix (h : DG t H d D) (ha : t.At H a k) {v : V} (e : lookG D k = some v) (q : Q v H) : rIxX (.ref d) (.ref a) H Q := by
  obtain ⟨ep, xs, h1, h2, rfl⟩ := h
  exact ⟨t.nk k, a, d, ep, _, v, rfl, rfl, h1, t.isK ha, t.depth k, by rw [val_G]; exact e, q⟩
theorem DG.some_ (h : DG t H d D) : ∃ ep xs, DictX H d ep xs := by
  obtain ⟨ep, xs, h1, h2, rfl⟩ := h
  exact ⟨_, _, h1⟩
theorem DG.get {z : V} (h : DG t H d D) (ha : t.At H a k) (q : Q ((lookG D k).getD z) H) : ∃ k a' ep xs, V.ref a = .ref a' ∧ DictX H d ep xs ∧ IsK H k (.ref a') ∧ k.depth ≤ 8 ∧ Q ((valX xs k).getD z) H := by
  obtain ⟨ep, xs, h1, h2, rfl⟩ := h
  exact ⟨t.nk k, a, ep, _, rfl, h1, t.isK ha, t.depth k, by rw [val_G]; exact q⟩
theorem DG.gets (h : DG t H d D) (k : κ) : ∃ (ep : Nat) (xs : List Ent), DictX H d ep xs ∧ valX xs (t.nk k) = lookG D k := by
  obtain ⟨ep, xs, h1, h2, rfl⟩ := h
  exact ⟨ep, _, h1, val_G t k xs⟩
theorem DG.len (h : DG t H d D) (q : Q (.int D.length) H) : ∃ d' ep xs, [V.ref d] = [.ref d'] ∧ DictX H d' ep xs ∧ Q (.int xs.length) H := by
  obtain ⟨ep, xs, h1, h2, rfl⟩ := h
  refine ⟨d, ep, _, rfl, h1, ?_⟩
  rw [List.length_map] at *
  exact q
theorem DG.lens (h : DG t H d D) : ∃ (ep : Nat) (xs : List Ent), DictX H d ep xs ∧ xs.length = D.length := by
  obtain ⟨ep, xs, h1, h2, rfl⟩ := h
  exact ⟨ep, _, h1, by rw [List.length_map, List.length_map]⟩
theorem DG.new {p : Addr} {ep : Nat} (h : DictX (upd H p (DXo p ep [])) p ep []) : DG t (upd H p (DXo p ep [])) p [] := ⟨ep, [], h, (fun x m => absurd m List.not_mem_nil), rfl⟩
theorem DG.set_ {Q : Hp → Prop} (h : DG t H d D) (ha : t.At H a k) (hl : D.length < sizeLine) (q : ∀ o, DG t (upd H d o) d (putG D k v) → Q (upd H d o)) : rSetX (.ref d) (.ref a) v H Q := by
  have hk := h
  obtain ⟨ep, xs, h1, h2, rfl⟩ := h
  rw [List.length_map] at hl
  refine ⟨d, t.nk k, a, ep, _, rfl, rfl, h1, t.isK ha, t.depth k, by rw [List.length_map]; exact hl, fun ep' h' => q _ ⟨ep', putE xs k a v, by rw [put_G] at h' ⊢; exact h', fun x m => ?_, putE_G k a v xs⟩⟩
  rcases putE_mem m with ⟨y, hy, e1, e2⟩ | rfl
  · rw [← e1, ← e2]
    exact t.kp hk.kpe (h2 y hy)
  · exact t.kp hk.kpe ha
/-- a for over its keys -/
theorem for_DG {g : TG} {tb : TS} {E : Ends} {σ : L2.St} {H1 : Hp} (h : DG t H d D) (Pv : List (κ × V) → List (κ × V) → L2.St → Hp → Prop) (h0 : Pv [] D σ H1) (hl : ∀ l r σ H', Pv l r σ H' → Same H H')
    (hs : ∀ l x r a σ H', l ++ x :: r = D → t.At H' a x.1 → Pv l (x :: r) σ H' → g (.ref a) σ H' fun σ2 H2 => tb { E with nx := Pv (l ++ [x]) r, ct := Pv (l ++ [x]) r, bk := E.nx } σ2 H2) (hd : ∀ σ H', Pv D [] σ H' → E.nx σ H') :
    ∃ d' ep xs, V.ref d = .ref d' ∧ DictX H1 d' ep xs ∧ ∃ W : Nat → Nat → L2.St → Hp → Prop, (∃ m, W 0 m σ H1) ∧ ∀ i m σ H, W i m σ H →
      ((ItX d' ep xs).stop i H ∧ E.nx σ H) ∨ ((ItX d' ep xs).go i H ∧ ∃ N : L2.St → Hp → Prop, (∀ σ' H', N σ' H' → ∃ m', m' < m ∧ W (i + 1) m' σ' H') ∧ ∀ x H', (ItX d' ep xs).yld i H x H' → g x σ H' fun σ2 H2 => tb { E with nx := N, ct := N, bk := E.nx } σ2 H2) := by
  obtain ⟨ep, xs, h1, h2, rfl⟩ := h
  have s0 := hl _ _ _ _ h0
  refine ⟨d, ep, _, rfl, h1.same s0, for_X (fun i σ H => Pv ((xs.map fun x => (x.1, x.2.2)).take i) ((xs.map fun x => (x.1, x.2.2)).drop i) σ H) (by simpa using h0) (fun i σ H _ p => h1.same (hl _ _ _ _ p)) (fun i x σ H' hx p => ?_) (fun σ H p => ?_)⟩
  · rw [List.getElem?_map] at hx
    obtain ⟨y, hy, rfl⟩ := Option.map_eq_some_iff.mp hx
    obtain ⟨e1, e2, e3⟩ := take_drop (xs := xs.map fun x => (x.1, x.2.2)) (i := i) (x := (y.1, y.2.2)) (by rw [List.getElem?_map, hy]; rfl)
    have s := hl _ _ _ _ p
    rw [e3] at p
    have := hs _ _ _ y.2.1 σ H' e1 (t.same s (h2 y (List.mem_of_getElem? hy))) p
    rw [← e2] at this
    exact this
  · rw [List.length_map, ← List.length_map (as := xs) (f := fun x => (x.1, x.2.2)), List.take_length, List.drop_length] at p
    exact hd σ H p
end
/-- the names of a list of references, in order -/
theorem DG.list {H : Hp} {d : Addr} {D : List (Nm × V)} {Q : VK} (h : DG tN H d D) (q : ∀ p as, H p = none → F2 (fun v x => ∃ a, v = V.ref a ∧ NameAt H a x) as (D.map (·.1)) → Q (.ref p) (upd H p (.lst as))) : ∃ d' ep xs, [V.ref d] = [.ref d'] ∧ DictX H d' ep xs ∧ ∀ p, H p = none → Q (.ref p) (upd H p (.lst (xs.map fun x => .ref x.2.1))) := by
  obtain ⟨ep, xs, h1, h2, rfl⟩ := h
  refine ⟨d, ep, _, rfl, h1, fun p hp => q p _ hp ?_⟩
  rw [List.map_map, List.map_map]
  have : ∀ ys : List (Nm × Addr × V), (∀ y ∈ ys, NameAt H y.2.1 y.1) → F2 (fun v x => ∃ a, v = V.ref a ∧ NameAt H a x) (ys.map ((fun x => V.ref x.2.1) ∘ entG tN)) (ys.map ((·.1) ∘ fun x => (x.1, x.2.2))) := by
    intro ys hy
    induction ys with
    | nil => exact .nil
    | cons y ys ih => exact .cons ⟨y.2.1, rfl, hy y List.mem_cons_self⟩ (ih fun z m => hy z (List.mem_cons_of_mem _ m))
  exact this xs h2
/-- the keys in order -/
def keysB (D : List (Ky × V)) : List Ky := (D.map (·.1)).mergeSort kLe
theorem DG.sorted {H : Hp} {d : Addr} {D : List (Ky × V)} {Q : VK} (h : DG tK H d D) (q : ∀ p as, H p = none → F2 (fun v k => ∃ a, v = V.ref a ∧ KeyAt H a k) as (keysB D) → Q (.ref p) (upd H p (.lst as))) : ∃ (d' : Addr) (ep : Nat) (bs : List KEnt), [V.ref d] = [.ref d'] ∧ DictX H d' ep (bs.map entK) ∧ (∀ b ∈ bs, KeyAt H b.2.1 b.1) ∧ ∀ (ys : List KEnt) (p : Addr), ys.Perm bs → (ys.map (·.1)).Pairwise (fun a b => SctBook.keyBefore a b = true) → H p = none → Q (.ref p) (upd H p (.lst (ys.map fun b => .ref b.2.1))) := by
  have hn := h.nodup
  obtain ⟨ep, xs, h1, h2, rfl⟩ := h
  refine ⟨d, ep, xs, rfl, h1, h2, fun ys p pm pw hp => q p _ hp ?_⟩
  have e : keysB (xs.map fun x => (x.1, x.2.2)) = ys.map (·.1) := by
    unfold keysB
    have e1 : ((xs.map fun x => (x.1, x.2.2)).map (·.1)) = xs.map (·.1) := by
      rw [List.map_map]
      rfl
    rw [e1] at hn ⊢
    have h3 := sorted_strict (fun k : Ky => k) (xs.map (·.1)) (by rw [List.map_id']; exact hn)
    have h4 : ((xs.map (·.1)).mergeSort fun a b => kLe a b).Perm (ys.map (·.1)) := ((List.mergeSort_perm _ _).trans (pm.map (·.1)).symm)
    exact sorted_one (fun k : Ky => k) h4 h3 pw
  rw [e]
  have : ∀ zs : List KEnt, (∀ y ∈ zs, KeyAt H y.2.1 y.1) → F2 (fun v k => ∃ a, v = V.ref a ∧ KeyAt H a k) (zs.map fun x => V.ref x.2.1) (zs.map (·.1)) := by
    intro zs hy
    induction zs with
    | nil => exact .nil
    | cons y zs ih => exact .cons ⟨y.2.1, rfl, hy y List.mem_cons_self⟩ (ih fun z m => hy z (List.mem_cons_of_mem _ m))
  exact this ys fun y m => h2 y (pm.subset m)

/-! ### books -/
def vB (B : Bk) : List (Ky × V) := B.map fun b => (b.1, V.int b.2)
def BookAt (H : Hp) (d : Addr) (B : Bk) : Prop := DG tK H d (vB B)
theorem look_map {κ β γ : Type} [DecidableEq κ] (f : β → γ) (k : κ) : ∀ D : List (κ × β), lookG (D.map fun x => (x.1, f x.2)) k = (lookG D k).map f
  | [] => rfl
  | x :: D => by
    have ih := look_map f k D
    unfold lookG at *
    rw [List.map_cons, List.find?_cons, List.find?_cons]
    cases decide (x.1 = k) with
    | true => rfl
    | false => exact ih
theorem put_map {κ β γ : Type} [DecidableEq κ] (f : β → γ) (k : κ) (v : β) (D : List (κ × β)) : putG (D.map fun x => (x.1, f x.2)) k (f v) = (putG D k v).map fun x => (x.1, f x.2) := by
  unfold putG
  rw [List.any_map]
  show (if (D.any fun x => decide (x.1 = k)) = true then _ else _) = (if (D.any fun x => decide (x.1 = k)) = true then _ else _ : List _).map _
  split
  · rw [List.map_map, List.map_map]
    refine List.map_congr_left fun x _ => ?_
    show (if x.1 = k then (x.1, f v) else (x.1, f x.2)) = (fun (x : κ × β) => (x.1, f x.2)) (if x.1 = k then (x.1, v) else x)
    split <;> rfl
  · rw [List.map_append]
    rfl
theorem look_vB (B : Bk) (k : Ky) : lookG (vB B) k = (lookG B k).map V.int := look_map V.int k B
theorem put_vB (B : Bk) (k : Ky) (v : Int) : putG (vB B) k (.int v) = vB (putG B k v) := put_map V.int k v B
theorem vB_length (B : Bk) : (vB B).length = B.length := List.length_map _
theorem vB_keys (B : Bk) : (vB B).map (·.1) = B.map (·.1) := by
  unfold vB
  rw [List.map_map]
  rfl
theorem same_vB (t : KT Ky) : ∀ (ys : List (Ky × Addr × V)) (C : Bk), ys.map (fun x => (x.1, x.2.2)) = vB C → ∀ (xs : List (Ky × Addr × V)) (B : Bk), xs.map (fun x => (x.1, x.2.2)) = vB B → sameX (xs.map (entG tK)) (ys.map (entG tK)) = mSame B C := by
  intro ys C hy xs B hx
  have l1 : xs.length = B.length := by have := congrArg List.length hx; simpa [vB] using this
  have l2 : ys.length = C.length := by have := congrArg List.length hy; simpa [vB] using this
  unfold sameX mSame
  rw [List.length_map, List.length_map, l1, l2]
  congr 1
  clear l1 l2
  induction xs generalizing B with
  | nil =>
    cases B with
    | nil => rfl
    | cons b B => cases hx
  | cons x xs ih =>
    cases B with
    | nil => cases hx
    | cons b B =>
      rw [List.map_cons, vB, List.map_cons] at hx
      injection hx with h1 h2
      rw [List.map_cons, List.all_cons, List.all_cons, ih B h2]
      congr 1
      have e1 : x.1 = b.1 := congrArg Prod.fst h1
      have e2 : x.2.2 = V.int b.2 := congrArg Prod.snd h1
      show (match valX (ys.map (entG tK)) (tK.nk x.1) with | some w => _ | none => _) = _
      rw [val_G, hy, look_vB, e1]
      cases lookG C b.1 with
      | none => rfl
      | some j =>
        show decide (intV x.2.2 = intV (V.int j)) = _
        rw [e2]
        show decide (b.2 = j) = _
        by_cases h : b.2 = j
        · rw [h]; simp
        · simp [h, Ne.symm h]
theorem BookAt.eq {H : Hp} {d e : Addr} {B C : Bk} {Q : VK} (h : BookAt H d B) (h' : BookAt H e C) (q : Q (.bl (mSame B C)) H) : rEqX (.ref d) (.ref e) H Q := by
  obtain ⟨ep, xs, h1, h2, h3⟩ := h
  obtain ⟨ep', ys, k1, k2, k3⟩ := h'
  have ix : ∀ (xs : List (Ky × Addr × V)) (B : Bk), xs.map (fun x => (x.1, x.2.2)) = vB B → ∀ p ∈ xs.map (entG tK), ∃ i, p.2.2 = V.int i := by
    intro xs B e p m
    obtain ⟨x, hx, rfl⟩ := List.mem_map.mp m
    have : (x.1, x.2.2) ∈ vB B := by rw [← e]; exact List.mem_map_of_mem hx
    obtain ⟨b, _, eb⟩ := List.mem_map.mp this
    exact ⟨b.2, (congrArg Prod.snd eb).symm⟩
  exact ⟨d, ep, _, e, ep', _, rfl, rfl, h1, k1, ix _ _ h3, ix _ _ k3, by rw [same_vB tK _ _ k3 _ _ h3]; exact q⟩
end Fb
end
section
set_option Elab.async false
set_option maxRecDepth 100000
set_option maxHeartbeats 4000000
/-! Lists of names and keys, sets, and what parts_of makes. -/
namespace Fb
open PySem PySem.Spec PyProof.Rows L2
def NameR (H : Hp) (v : V) (x : Nm) : Prop := ∃ a, v = .ref a ∧ NameAt H a x
def KeyR (H : Hp) (v : V) (k : Ky) : Prop := ∃ a, v = .ref a ∧ KeyAt H a k
theorem NameR.kp {H H' : Hp} {v : V} {x : Nm} (s : Kp H H') (h : NameR H v x) : NameR H' v x := let ⟨a, e, h⟩ := h; ⟨a, e, h.kp s⟩
theorem KeyR.kp {H H' : Hp} {v : V} {x : Ky} (s : Kp H H') (h : KeyR H v x) : KeyR H' v x := let ⟨a, e, h⟩ := h; ⟨a, e, h.kp s⟩
theorem F2.kpN {H H' : Hp} {vs : List V} {xs : List Nm} (s : Kp H H') (h : F2 (NameR H) vs xs) : F2 (NameR H') vs xs := h.imp fun _ _ q => q.kp s
theorem F2.kpK {H H' : Hp} {vs : List V} {xs : List Ky} (s : Kp H H') (h : F2 (KeyR H) vs xs) : F2 (KeyR H') vs xs := h.imp fun _ _ q => q.kp s
theorem none_of {H H' : Hp} {p : Addr} (s : Same H H') (h : H' p = none) : H p = none := by
  cases q : H p with
  | none => rfl
  | some o => rw [s _ _ q] at h; cases h
/-- a new list of names -/
def NewN (Q : VK) (H : Hp) (xs : List Nm) : Prop := ∀ p vs H', Same H H' → H p = none → H' p = some (.lst vs) → F2 (NameR H') vs xs → Q (.ref p) H'
def NewK (Q : VK) (H : Hp) (xs : List Ky) : Prop := ∀ p vs H', Same H H' → H p = none → H' p = some (.lst vs) → F2 (KeyR H') vs xs → Q (.ref p) H'
theorem filterMap_snoc {α γ : Type} (f : α → Option γ) (l : List α) (x : α) : (l ++ [x]).filterMap f = l.filterMap f ++ (f x).toList := by
  rw [List.filterMap_append]
  cases h : f x with
  | none => simp [h]
  | some c => simp [h]
/-- a comprehension over a list: f says which are in, and as what -/
theorem lc_fm {α γ : Type} {K : PySem.W.Frag} {a : Addr} {as : List V} {xs : List α} {R : V → α → Prop} {S : Hp → V → γ → Prop} {g : TG} {tt : TT} {te : TE} {vs : List Nat} {σ : L2.St} {H1 : Hp} {D : Addr} {Qd : Hp → Prop}
    (f : α → Option γ) (hF : F2 R as xs) (hsq : SqL K H1 a as) (hz : xs.length ≤ sizeLine) (hD : H1 D = none) (hS : ∀ H H' v c, Kp H H' → S H v c → S H' v c)
    (hs : ∀ x v H (Y : VK) (N : Hp → Prop), x ∈ xs → R v x → Same H1 H → (f x = none → ∀ H3, Same H H3 → N H3) → (∀ c, f x = some c → ∀ y H4, Same H H4 → S H4 y c → Y y H4) →
      g v (wipe σ vs) H fun σ2 H2 => wipe σ2 vs = wipe σ vs ∧ tt σ2 H2 fun b H3 => if b = true then te σ2 H3 Y else N H3)
    (hd : ∀ vs H, Same H1 H → H D = some (.lst vs) → F2 (S H) vs (xs.filterMap f) → Qd H) :
    ∃ W : Nat → Nat → Hp → Prop, (∃ m, W 0 m (upd H1 D (.lst []))) ∧ ∀ i m H, W i m H →
      ((Itl K a).stop i H ∧ Qd H) ∨ ((Itl K a).go i H ∧ ∃ Nx : Hp → Prop, (∀ H', Nx H' → ∃ m', m' < m ∧ W (i + 1) m' H') ∧ ∀ x H', (Itl K a).yld i H x H' → g x (wipe σ vs) H' fun σ2 H2 => wipe σ2 vs = wipe σ vs ∧ tt σ2 H2 fun b H3 =>
        if b = true then te σ2 H3 fun y H4 => ∃ acc, H4 D = some (.lst acc) ∧ acc.length < sizeLine ∧ Nx (upd H4 D (.lst (acc ++ [y]))) else Nx H3) := by
  have sq : ∀ H, Same H1 H → SqL K H a as := by
    intro H s
    rcases hsq with h | h
    · rcases h with h | ⟨o, h⟩
      · exact .inl (.inl (s _ _ h))
      · exact .inl (.inr ⟨o, s _ _ h⟩)
    · exact .inr h
  refine lc_each (xs := xs) (R := R) hF (fun d r H => Same H1 H ∧ ∃ us, H D = some (.lst us) ∧ F2 (S H) us (d.filterMap f)) ⟨Same.new hD, [], upd_same, .nil⟩ (fun d r H p => sq H p.1) (fun d x r v H e hv ⟨s, us, hu, hf⟩ => ?_) (fun H ⟨s, us, hu, hf⟩ => hd us H s hu hf)
  refine hs x v H _ _ (by rw [← e]; simp) hv s (fun hn H3 s3 => ⟨Same.trans' s s3, us, s3 _ _ hu, ?_⟩) (fun c hc y H4 s4 hy => ⟨us, s4 _ _ hu, ?_, Same.mut (Same.trans' s s4) hD, us ++ [y], upd_same, ?_⟩)
  · rw [filterMap_snoc, hn]
    simpa using hf.imp fun _ _ q => hS _ _ _ _ (Same.kp s3) q
  · have h1 := hf.length
    have h2 : (d.filterMap f).length ≤ d.length := List.length_filterMap_le f d
    have h3 : d.length < xs.length := by rw [← e]; simp
    omega
  · have k : Kp H (upd H4 D (.lst (us ++ [y]))) := Kp.trans (Same.kp s4) (Kp.lst (s4 _ _ hu))
    rw [filterMap_snoc, hc]
    exact (hf.imp fun _ _ q => hS _ _ _ _ k q).app (.cons (hS _ _ _ _ (Kp.lst (s4 _ _ hu)) hy) .nil)
theorem filterMap_if {α γ : Type} (p : α → Bool) (g : α → γ) (l : List α) : l.filterMap (fun x => if p x = true then some (g x) else none) = (l.filter p).map g := by
  induction l with
  | nil => rfl
  | cons x l ih =>
    rw [List.filterMap_cons, List.filter_cons]
    by_cases h : p x = true
    · rw [if_pos h, if_pos h, ih]; rfl
    · rw [if_neg h, if_neg h, ih]
theorem filterMap_all {α γ : Type} (g : α → γ) (l : List α) : l.filterMap (fun x => some (g x)) = l.map g := by
  induction l with
  | nil => rfl
  | cons x l ih => rw [List.filterMap_cons, ih]; rfl

/-! ### sets of names -/
section
variable {κ : Type} [DecidableEq κ] {t : KT κ}
def setD (s : List κ) : List (κ × V) := s.map fun k => (k, V.bl true)
def SetAt (t : KT κ) (H : Hp) (d : Addr) (s : List κ) : Prop := DG t H d (setD s)
theorem look_set (k : κ) : ∀ s : List κ, (lookG (setD s) k).isSome = memB s k
  | [] => rfl
  | x :: s => by
    have ih := look_set k s
    unfold lookG setD memB at *
    rw [List.map_cons, List.find?_cons, List.any_cons]
    cases decide (x = k) with
    | true => rfl
    | false => rw [Bool.false_or]; exact ih
theorem any_set (k : κ) (s : List κ) : ((setD s).any fun x => decide (x.1 = k)) = memB s k := by
  unfold setD memB
  rw [List.any_map]
  rfl
theorem put_set (k : κ) (s : List κ) : putG (setD s) k (V.bl true) = setD (addS s k) := by
  unfold putG addS
  rw [any_set]
  by_cases h : k ∈ s
  · rw [if_pos (memB_iff.mpr h), if_pos h]
    unfold setD
    rw [List.map_map]
    refine List.map_congr_left fun x _ => ?_
    show (if x = k then (x, V.bl true) else (x, V.bl true)) = _
    split <;> rfl
  · rw [if_neg (fun e => h (memB_iff.mp e)), if_neg h]
    unfold setD
    rw [List.map_append]
    rfl
theorem setD_keys (s : List κ) : (setD s).map (·.1) = s := by
  unfold setD
  rw [List.map_map]
  exact List.map_id' s
theorem setD_length (s : List κ) : (setD s).length = s.length := List.length_map _
theorem addS_new {s : List κ} {k : κ} (h : k ∉ s) : addS s k = s ++ [k] := if_neg h
theorem SetAt.nodup {H : Hp} {d : Addr} {s : List κ} (h : SetAt t H d s) : s.Nodup := by
  have := DG.nodup h
  rw [setD_keys] at this
  exact this
theorem nodup_le : ∀ {s r : List κ}, s.Nodup → (∀ x ∈ s, x ∈ r) → s.length ≤ r.length
  | [], r, _, _ => Nat.zero_le _
  | x :: s, r, h, f => by
    have hx := f x List.mem_cons_self
    obtain ⟨h1, h2⟩ := List.nodup_cons.mp h
    have := nodup_le (s := s) (r := r.erase x) h2 fun y m => by
      have : y ≠ x := fun e => h1 (e ▸ m)
      exact (List.mem_erase_of_ne this).mpr (f y (List.mem_cons_of_mem _ m))
    rw [List.length_erase_of_mem hx] at this
    have : 0 < r.length := List.length_pos_of_mem hx
    simp only [List.length_cons]
    omega
end

/-! ### what parts_of makes -/
def PartR (H : Hp) (e : Nm × V) (p : Nm × List Nm) : Prop := e.1 = p.1 ∧ ∃ l as, e.2 = .ref l ∧ H l = some (.lst as) ∧ F2 (NameR H) as p.2
/-- H0 knows nothing of it -/
structure PartsI (H0 H : Hp) (d : Addr) (P : Pt) (vs : List (Nm × V)) : Prop where
  dg : DG tN H d vs
  rel : F2 (PartR H) vs P
  own : (vs.map (·.2)).Nodup
  new : H0 d = none
  news : ∀ e ∈ vs, ∀ l, e.2 = .ref l → H0 l = none
  same : Same H0 H
def PartsAt (H : Hp) (d : Addr) (P : Pt) : Prop := ∃ vs, DG tN H d vs ∧ F2 (PartR H) vs P
theorem PartR.same {H H' : Hp} {e : Nm × V} {p : Nm × List Nm} (s : Same H H') (h : PartR H e p) : PartR H' e p := by
  obtain ⟨h1, l, as, h2, h3, h4⟩ := h
  exact ⟨h1, l, as, h2, s _ _ h3, h4.kpN (Same.kp s)⟩
theorem PartsAt.same {H H' : Hp} {d : Addr} {P : Pt} (s : Same H H') (h : PartsAt H d P) : PartsAt H' d P := by
  obtain ⟨vs, h1, h2⟩ := h
  exact ⟨vs, h1.same s, h2.imp fun _ _ q => q.same s⟩
theorem PartsI.step {H0 H H' : Hp} {d : Addr} {P : Pt} {vs : List (Nm × V)} (s : Same H H') (h : PartsI H0 H d P vs) : PartsI H0 H' d P vs :=
  ⟨h.dg.same s, h.rel.imp fun _ _ q => q.same s, h.own, h.new, h.news, Same.trans' h.same s⟩
theorem F2.look {H : Hp} {vs : List (Nm × V)} {P : Pt} (h : F2 (PartR H) vs P) (x : Nm) : (lookG P x = none ∧ lookG vs x = none) ∨ ∃ ys l as, lookG P x = some ys ∧ lookG vs x = some (.ref l) ∧ H l = some (.lst as) ∧ F2 (NameR H) as ys := by
  induction h with
  | nil => exact .inl ⟨rfl, rfl⟩
  | cons q t ih =>
    rename_i e p es ps
    obtain ⟨h1, l, as, h2, h3, h4⟩ := q
    unfold lookG at *
    rw [List.find?_cons, List.find?_cons, h1]
    by_cases hx : p.1 = x
    · rw [decide_eq_true hx]
      exact .inr ⟨p.2, l, as, rfl, by rw [← h2]; rfl, h3, h4⟩
    · rw [decide_eq_false hx]
      exact ih
theorem PartsAt.look {H : Hp} {d : Addr} {P : Pt} (h : PartsAt H d P) {x : Nm} {ys : List Nm} (e : lookG P x = some ys) : ∃ vs l as, DG tN H d vs ∧ lookG vs x = some (.ref l) ∧ H l = some (.lst as) ∧ F2 (NameR H) as ys := by
  obtain ⟨vs, h1, h2⟩ := h
  rcases h2.look x with ⟨e1, _⟩ | ⟨zs, l, as, e1, h3, h4, h5⟩
  · rw [e1] at e; cases e
  · rw [e1] at e; cases e
    exact ⟨vs, l, as, h1, h3, h4, h5⟩
theorem F2.keys {H : Hp} {vs : List (Nm × V)} {P : Pt} (h : F2 (PartR H) vs P) : vs.map (·.1) = P.map (·.1) := by
  induction h with
  | nil => rfl
  | cons q t ih => rw [List.map_cons, List.map_cons, q.1, ih]
theorem F2.anyP {H : Hp} {vs : List (Nm × V)} {P : Pt} (h : F2 (PartR H) vs P) (x : Nm) : (vs.any fun e => decide (e.1 = x)) = (P.any fun e => decide (e.1 = x)) := by
  induction h with
  | nil => rfl
  | cons q t ih => rw [List.any_cons, List.any_cons, q.1, ih]
theorem putG_new {κ β : Type} [DecidableEq κ] {D : List (κ × β)} {k : κ} {v : β} (h : k ∉ D.map (·.1)) : putG D k v = D ++ [(k, v)] := by
  unfold putG
  rw [if_neg]
  intro e
  obtain ⟨x, hx, q⟩ := List.any_eq_true.mp e
  exact h (by rw [← of_decide_eq_true q]; exact List.mem_map_of_mem hx)
theorem F2.fresh {H : Hp} {vs : List (Nm × V)} {P : Pt} {l : Addr} (h : F2 (PartR H) vs P) (hl : H l = none) : ∀ e ∈ vs, e.2 ≠ .ref l := by
  induction h with
  | nil => exact fun e m => absurd m List.not_mem_nil
  | cons r t ih =>
    intro e m q
    rcases List.mem_cons.mp m with rfl | m
    · obtain ⟨_, m', as, q2, q3, _⟩ := r
      rw [q] at q2
      cases q2
      rw [hl] at q3
      cases q3
    · exact ih e m q
/-- a new name, with no parts yet -/
theorem PartsI.put {H0 H : Hp} {d l : Addr} {P : Pt} {vs : List (Nm × V)} {x : Nm} {o : HO} (h : PartsI H0 H d P vs) (hl : H l = none) (hx : x ∉ P.map (·.1)) (hd : DG tN (upd (upd H l (.lst [])) d o) d (putG vs x (.ref l))) :
    PartsI H0 (upd (upd H l (.lst [])) d o) d (putG P x []) (putG vs x (.ref l)) := by
  obtain ⟨f, hf⟩ := h.dg.at_
  have ne : l ≠ d := fun e => by rw [e, hf] at hl; cases hl
  have hl' : upd (upd H l (.lst [])) d o l = some (.lst []) := by rw [upd_ne ne, upd_same]
  have s1 : Same H (upd H l (.lst [])) := Same.new hl
  have keepL : ∀ b us, H b = some (.lst us) → upd (upd H l (.lst [])) d o b = some (.lst us) := fun b us e => by
    rw [upd_ne (fun q => by rw [q, hf] at e; cases e)]
    exact s1 _ _ e
  have kp : Kp H (upd (upd H l (.lst [])) d o) := Kp.trans (Same.kp s1) (Kp.upd (s1 _ _ hf) fun f => f)
  have old : F2 (PartR (upd (upd H l (.lst [])) d o)) vs P := h.rel.imp fun e p ⟨q1, m, as, q2, q3, q4⟩ => ⟨q1, m, as, q2, keepL _ _ q3, q4.kpN kp⟩
  have l0 : H0 l = none := none_of h.same hl
  have hx' : x ∉ vs.map (·.1) := by rw [h.rel.keys]; exact hx
  rw [putG_new hx'] at hd ⊢
  rw [putG_new hx]
  refine ⟨hd, old.snoc ⟨rfl, l, [], rfl, hl', .nil⟩, ?_, h.new, ?_, Same.mut (Same.mut h.same l0) h.new⟩
  · rw [List.map_append, List.map_cons, List.map_nil]
    refine List.nodup_append.mpr ⟨h.own, by simp, fun a ha b hb => ?_⟩
    rw [List.mem_singleton] at hb
    subst hb
    obtain ⟨e, m, rfl⟩ := List.mem_map.mp ha
    exact h.rel.fresh hl e m
  · intro e m b q
    rcases List.mem_append.mp m with m | m
    · exact h.news e m b q
    · rw [List.mem_singleton] at m
      subst m
      cases q
      exact l0
theorem look_mem {κ β : Type} [DecidableEq κ] {D : List (κ × β)} {k : κ} {v : β} (h : lookG D k = some v) : (k, v) ∈ D := by
  unfold lookG at h
  obtain ⟨x, hx, rfl⟩ := Option.map_eq_some_iff.mp h
  have := List.find?_some hx
  have e : x.1 = k := of_decide_eq_true this
  rw [← e]
  exact List.mem_of_find?_eq_some hx
/-- one part more of a name -/
theorem PartsI.app {H0 H : Hp} {d l : Addr} {P : Pt} {vs : List (Nm × V)} {x y : Nm} {as : List V} {v : V} (h : PartsI H0 H d P vs) (hv : lookG vs x = some (.ref l)) (hl : H l = some (.lst as)) (hy : NameR H v y) :
    PartsI H0 (upd H l (.lst (as ++ [v]))) d (P.map fun p => if p.1 = x then (p.1, p.2 ++ [y]) else p) vs := by
  have m := look_mem hv
  have l0 : H0 l = none := h.news _ m l rfl
  have ne : l ≠ d := by
    obtain ⟨f, hf⟩ := h.dg.at_
    intro e
    rw [e, hf] at hl
    cases hl
  have kp : Kp H (upd H l (.lst (as ++ [v]))) := Kp.lst hl
  refine ⟨h.dg.other hl (fun f => f) ne, ?_, h.own, h.new, h.news, Same.mut h.same l0⟩
  have hn := h.dg.nodup
  have ho := h.own
  have hr := h.rel
  clear hv h
  induction hr with
  | nil => exact .nil
  | cons q t ih =>
    rename_i e p es ps
    obtain ⟨q1, b, us, q2, q3, q4⟩ := q
    rw [List.map_cons, List.nodup_cons] at hn ho
    rw [List.map_cons]
    by_cases hx : p.1 = x
    · have em : e = (x, .ref l) := by
        rcases List.mem_cons.mp m with r | r
        · exact r.symm
        · exact absurd (List.mem_map_of_mem (f := (·.1)) r) (by rw [← hx, ← q1]; exact hn.1)
      subst em
      cases q2
      rw [hl] at q3
      cases q3
      rw [if_pos hx]
      refine .cons ⟨q1, l, _, rfl, upd_same, (q4.kpN kp).snoc (hy.kp kp)⟩ ?_
      have rest : ∀ {es : List (Nm × V)} {ps : Pt}, F2 (PartR H) es ps → V.ref l ∉ es.map (·.2) → x ∉ es.map (·.1) → F2 (PartR (upd H l (.lst (as ++ [v])))) es (ps.map fun p => if p.1 = x then (p.1, p.2 ++ [y]) else p) := by
        intro es ps hh n1 n2
        induction hh with
        | nil => exact .nil
        | cons r tt ih2 =>
          rename_i e2 p2 es2 ps2
          rw [List.map_cons, List.mem_cons, not_or] at n1 n2
          obtain ⟨r1, b2, us2, r2, r3, r4⟩ := r
          rw [List.map_cons, if_neg (fun z => n2.1 (by rw [r1, z]))]
          refine .cons ⟨r1, b2, us2, r2, ?_, r4.kpN kp⟩ (ih2 n1.2 n2.2)
          rw [upd_ne]
          · exact r3
          · rintro rfl
            exact n1.1 r2.symm
      exact rest t ho.1 (by have := hn.1; rw [← hx]; rw [q1] at this; exact this)
    · have m' : (x, V.ref l) ∈ es := by
        rcases List.mem_cons.mp m with r | r
        · exact absurd (by rw [← q1, ← r]) hx
        · exact r
      rw [if_neg hx]
      refine .cons ⟨q1, b, us, q2, ?_, q4.kpN kp⟩ (ih m' hn.2 ho.2)
      rw [upd_ne]
      · exact q3
      · rintro rfl
        exact ho.1 (by rw [q2]; exact List.mem_map_of_mem (f := (·.2)) m')
end Fb
end
section
/-! What the mirror's books know of themselves. -/
namespace Fb
open SctBook
section
variable {κ : Type} [DecidableEq κ]
theorem look_isSome {β : Type} (D : List (κ × β)) (k : κ) : (lookG D k).isSome = true ↔ k ∈ D.map (·.1) := by
  unfold lookG
  rw [Option.isSome_map, List.find?_isSome]
  constructor
  · rintro ⟨x, hx, e⟩
    rw [← of_decide_eq_true e]
    exact List.mem_map_of_mem hx
  · intro h
    obtain ⟨x, hx, rfl⟩ := List.mem_map.mp h
    exact ⟨x, hx, decide_eq_true rfl⟩
theorem look_of_mem {β : Type} {D : List (κ × β)} {k : κ} {v : β} (hn : (D.map (·.1)).Nodup) (h : (k, v) ∈ D) : lookG D k = some v := by
  induction D with
  | nil => cases h
  | cons x D ih =>
    rw [List.map_cons, List.nodup_cons] at hn
    unfold lookG at *
    rw [List.find?_cons]
    rcases List.mem_cons.mp h with h | h
    · subst h
      simp
    · have : x.1 ≠ k := fun e => hn.1 (by rw [e]; exact List.mem_map_of_mem (f := (·.1)) h)
      rw [decide_eq_false this]
      exact ih hn.2 h
theorem putG_keys {β : Type} (D : List (κ × β)) (k : κ) (v : β) : (putG D k v).map (·.1) = addS (D.map (·.1)) k := by
  unfold putG addS
  by_cases h : k ∈ D.map (·.1)
  · rw [if_pos h, if_pos]
    · rw [List.map_map]
      refine List.map_congr_left fun x _ => ?_
      show (if x.1 = k then (x.1, v) else x).1 = x.1
      split <;> rfl
    · obtain ⟨x, hx, rfl⟩ := List.mem_map.mp h
      exact List.any_eq_true.mpr ⟨x, hx, decide_eq_true rfl⟩
  · rw [if_neg h, if_neg]
    · rw [List.map_append]
      rfl
    · intro e
      obtain ⟨x, hx, q⟩ := List.any_eq_true.mp e
      exact h (by rw [← of_decide_eq_true q]; exact List.mem_map_of_mem hx)
theorem mem_addS {s : List κ} {k x : κ} : x ∈ addS s k ↔ x ∈ s ∨ x = k := by
  unfold addS
  split
  · rename_i h
    constructor
    · exact .inl
    · rintro (h1 | rfl)
      · exact h1
      · exact h
  · simp
theorem addS_length (s : List κ) (k : κ) : (addS s k).length ≤ s.length + 1 := by
  unfold addS
  split <;> simp
theorem addS_nodup {s : List κ} {k : κ} (h : s.Nodup) : (addS s k).Nodup := by
  unfold addS
  split
  · exact h
  · rename_i hk
    exact List.nodup_append.mpr ⟨h, by simp, fun a ha b hb => by
      rw [List.mem_singleton] at hb
      subst hb
      exact fun e => hk (e ▸ ha)⟩
theorem putG_length {β : Type} (D : List (κ × β)) (k : κ) (v : β) : (putG D k v).length ≤ D.length + 1 := by
  have h := congrArg List.length (putG_keys D k v)
  rw [List.length_map] at h
  have := addS_length (D.map (·.1)) k
  rw [List.length_map] at this
  omega
end
theorem keys_perm (B : Bk) : (keysOfB B).Perm (B.map (·.1)) := List.mergeSort_perm _ _
theorem keys_mem {B : Bk} {k : Ky} : k ∈ keysOfB B ↔ k ∈ B.map (·.1) := (keys_perm B).mem_iff
theorem keys_length (B : Bk) : (keysOfB B).length = B.length := by rw [(keys_perm B).length_eq, List.length_map]
theorem keys_strict {B : Bk} (hn : (B.map (·.1)).Nodup) : (keysOfB B).Pairwise fun a b => keyBefore a b = true := by
  have := sorted_strict (fun k : Ky => k) (B.map (fun b => b.1)) (by rw [List.map_id']; exact hn)
  exact this
theorem keys_nodup {B : Bk} (hn : (B.map (·.1)).Nodup) : (keysOfB B).Nodup := (keys_perm B).nodup_iff.mpr hn
theorem addP_keys (P : Pt) (k : Ky) : (addP P k).map (·.1) = if k.2 = [] then addS (P.map (·.1)) k.1 else P.map (·.1) := by
  unfold addP
  split
  · exact putG_keys P k.1 []
  · rw [List.map_map]
    refine List.map_congr_left fun x _ => ?_
    show (if x.1 = k.1 then (x.1, x.2 ++ [k.2]) else x).1 = x.1
    split <;> rfl
theorem foldP_keys {x : Nm} : ∀ (l : List Ky) (P : Pt), x ∈ (l.foldl addP P).map (·.1) ↔ x ∈ P.map (·.1) ∨ (x, []) ∈ l
  | [], P => by simp
  | k :: l, P => by
    rw [List.foldl_cons, foldP_keys l, addP_keys]
    by_cases h : k.2 = []
    · rw [if_pos h, mem_addS, List.mem_cons]
      constructor
      · rintro ((h1 | rfl) | h1)
        · exact .inl h1
        · exact .inr (.inl (by rw [← h]))
        · exact .inr (.inr h1)
      · rintro (h1 | h1 | h1)
        · exact .inl (.inl h1)
        · exact .inl (.inr (congrArg Prod.fst h1))
        · exact .inr h1
    · rw [if_neg h, List.mem_cons]
      constructor
      · rintro (h1 | h1)
        · exact .inl h1
        · exact .inr (.inr h1)
      · rintro (h1 | h1 | h1)
        · exact .inl h1
        · exact absurd (congrArg Prod.snd h1).symm h
        · exact .inr h1
theorem parts_mem {B : Bk} {x : Nm} : x ∈ (partsB B).map (·.1) ↔ (x, []) ∈ B.map (·.1) := by
  unfold partsB
  rw [foldP_keys, keys_mem]
  simp
theorem foldP_length : ∀ (l : List Ky) (P : Pt), (l.foldl addP P).length ≤ P.length + l.length
  | [], P => by simp
  | k :: l, P => by
    rw [List.foldl_cons]
    have := foldP_length l (addP P k)
    have h2 : (addP P k).length ≤ P.length + 1 := by
      unfold addP
      split
      · exact putG_length P k.1 []
      · simp
    simp only [List.length_cons]
    omega
theorem parts_length (B : Bk) : (partsB B).length ≤ B.length := by
  have := foldP_length (keysOfB B) []
  rw [keys_length] at this
  simpa [partsB] using this
theorem mem_putG {κ β : Type} [DecidableEq κ] {D : List (κ × β)} {k : κ} {v : β} {y : κ × β} (h : y ∈ putG D k v) : y ∈ D ∨ y = (k, v) := by
  unfold putG at h
  split at h
  · obtain ⟨x, hx, e⟩ := List.mem_map.mp h
    by_cases q : x.1 = k
    · rw [if_pos q] at e
      exact .inr (by rw [← e, q])
    · rw [if_neg q] at e
      exact .inl (e ▸ hx)
  · rcases List.mem_append.mp h with h | h
    · exact .inl h
    · exact .inr (List.mem_singleton.mp h)
theorem foldP_in {y x : Nm} {ys : List Nm} : ∀ (l : List Ky) (P : Pt), (y, ys) ∈ l.foldl addP P → x ∈ ys → (∃ zs, (y, zs) ∈ P ∧ x ∈ zs) ∨ ((y, x) ∈ l ∧ x ≠ [])
  | [], P, h, hx => .inl ⟨ys, h, hx⟩
  | k :: l, P, h, hx => by
    rw [List.foldl_cons] at h
    rcases foldP_in l _ h hx with ⟨zs, hz, hxz⟩ | ⟨h1, h2⟩
    · unfold addP at hz
      split at hz
      · rcases mem_putG hz with hz | hz
        · exact .inl ⟨zs, hz, hxz⟩
        · cases hz
          cases hxz
      · rename_i hk
        obtain ⟨p, hp, e⟩ := List.mem_map.mp hz
        by_cases q : p.1 = k.1
        · rw [if_pos q] at e
          have e1 : p.1 = y := congrArg Prod.fst e
          have e2 : p.2 ++ [k.2] = zs := congrArg Prod.snd e
          rw [← e2] at hxz
          rcases List.mem_append.mp hxz with hxz | hxz
          · exact .inl ⟨p.2, by rw [← e1]; exact hp, hxz⟩
          · rw [List.mem_singleton] at hxz
            subst hxz
            exact .inr ⟨by rw [← e1, q]; exact List.mem_cons_self, hk⟩
        · rw [if_neg q] at e
          subst e
          exact .inl ⟨zs, hp, hxz⟩
    · exact .inr ⟨List.mem_cons_of_mem _ h1, h2⟩
theorem parts_in {B : Bk} {y x : Nm} {ys : List Nm} (h : (y, ys) ∈ partsB B) (hx : x ∈ ys) : (y, x) ∈ B.map (·.1) ∧ x ≠ [] := by
  rcases foldP_in _ _ h hx with ⟨zs, hz, _⟩ | ⟨h1, h2⟩
  · cases hz
  · exact ⟨keys_mem.mp h1, h2⟩
theorem look_mem0 {κ β : Type} [DecidableEq κ] {D : List (κ × β)} {k : κ} {v : β} (h : lookG D k = some v) : (k, v) ∈ D := by
  unfold lookG at h
  obtain ⟨x, hx, rfl⟩ := Option.map_eq_some_iff.mp h
  have := List.find?_some hx
  have e : x.1 = k := of_decide_eq_true this
  rw [← e]
  exact List.mem_of_find?_eq_some hx
/-- accords that are told, things that there are -/
def KnownA (B : Bk) : Prop := ∀ k ∈ B.map (·.1), k.2 ≠ [] → (k.1, []) ∈ B.map (·.1)
def KnownP (B : Bk) : Prop := ∀ k ∈ B.map (·.1), k.2 ≠ [] → (k.2, []) ∈ B.map (·.1)
theorem thing_first {x y : Nm} (h : y ≠ []) : keyBefore (x, []) (x, y) = true := by
  rw [keyBefore_iff]
  refine .inr ⟨rfl, ?_⟩
  cases y with
  | nil => exact absurd rfl h
  | cons a y => rfl
/-- the thing stands before its parts -/
theorem before_parts {B : Bk} (hn : (B.map (·.1)).Nodup) (hk : KnownA B) {d r : List Ky} {k : Ky} (e : d ++ k :: r = keysOfB B) (h : k.2 ≠ []) : (k.1, []) ∈ d := by
  have hs := keys_strict hn
  have hm : k ∈ keysOfB B := by rw [← e]; simp
  have h1 : (k.1, []) ∈ keysOfB B := keys_mem.mpr (hk k (keys_mem.mp hm) h)
  rw [← e] at h1 hs
  rcases List.mem_append.mp h1 with h1 | h1
  · exact h1
  · rcases List.mem_cons.mp h1 with h1 | h1
    · exact absurd (congrArg Prod.snd h1).symm h
    · have h2 := (List.pairwise_append.mp hs).2.1
      have h3 := (List.pairwise_cons.mp h2).1 _ h1
      have h4 := thing_first (x := k.1) h
      have := keyBefore_asymm h4
      rw [h3] at this
      cases this
theorem seeOne_app (s : List Nm × List Nm) : ∀ a : List Nm, seeOne s a = seeOne s a := fun _ => rfl
theorem notin_done {B : Bk} (hn : (B.map (·.1)).Nodup) {d r : List Ky} {k : Ky} (e : d ++ k :: r = keysOfB B) : k ∉ d := by
  have := keys_nodup hn
  rw [← e] at this
  intro m
  exact (List.nodup_append.mp this).2.2 k m k List.mem_cons_self rfl
end Fb
namespace Fb
open SctBook
theorem things_mem {B : Bk} {x : Nm} : x ∈ thingsB B ↔ (x, []) ∈ B.map (·.1) := by
  unfold thingsB
  constructor
  · intro h
    obtain ⟨k, hk, rfl⟩ := List.mem_map.mp h
    obtain ⟨h1, h2⟩ := List.mem_filter.mp hk
    have := keys_mem.mp h1
    rw [show k = (k.1, []) by rw [← of_decide_eq_true h2]] at this
    exact this
  · intro h
    exact List.mem_map.mpr ⟨(x, []), List.mem_filter.mpr ⟨keys_mem.mpr h, by simp⟩, rfl⟩
theorem things_length (B : Bk) : (thingsB B).length ≤ B.length := by
  unfold thingsB
  rw [List.length_map]
  exact Nat.le_trans (List.length_filter_le _ _) (Nat.le_of_eq (keys_length B))
end Fb
namespace Fb
open SctBook
/-- every part is a name of its own -/
def Closed (P : Pt) : Prop := ∀ p ∈ P, ∀ x ∈ p.2, x ∈ P.map (·.1)
theorem closed_parts {B : Bk} (h : KnownP B) : Closed (partsB B) := fun p hp x hx => by
  obtain ⟨h1, h2⟩ := parts_in (y := p.1) (ys := p.2) hp hx
  exact parts_mem.mpr (h _ h1 h2)
theorem seeFrom_done (P : Pt) (f : Nat) (found : List Nm) : seeFrom P f found [] = found := by
  cases f with
  | zero => rfl
  | succ f => unfold seeFrom; rw [if_pos rfl]
end Fb
namespace Fb
open SctBook
theorem foldP_le : ∀ (l : List Ky) (P : Pt) {y : Nm} {ys : List Nm} (n : Nat), (∀ p ∈ P, p.2.length ≤ n) → (y, ys) ∈ l.foldl addP P → ys.length ≤ n + l.length
  | [], P, y, ys, n, h, m => h _ m
  | k :: l, P, y, ys, n, h, m => by
    rw [List.foldl_cons] at m
    have := foldP_le l (addP P k) (n + 1) (fun p hp => by
      unfold addP at hp
      split at hp
      · rcases mem_putG hp with hp | rfl
        · exact Nat.le_succ_of_le (h p hp)
        · exact Nat.zero_le _
      · obtain ⟨p', hp', e⟩ := List.mem_map.mp hp
        have := h p' hp'
        split at e
        · rw [← e]
          simp only [List.length_append, List.length_cons, List.length_nil]
          omega
        · rw [← e]
          omega) m
    simp only [List.length_cons]
    omega
theorem look_parts_le {d : List Ky} {x : Nm} {zs : List Nm} (h : lookG (d.foldl addP []) x = some zs) : zs.length ≤ d.length := by
  have := foldP_le d [] (y := x) (ys := zs) 0 (fun p hp => by cases hp) (look_mem0 h)
  omega
end Fb
namespace Fb
open SctBook
theorem known_of {B : Bk} (h : knownB B = true) : KnownA B ∧ KnownP B := by
  unfold knownB at h
  rw [List.all_eq_true] at h
  constructor
  · intro k hk hne
    obtain ⟨b, hb, rfl⟩ := List.mem_map.mp hk
    have := h b hb
    rw [decide_eq_false hne, Bool.false_or, Bool.and_eq_true] at this
    have h1 := of_decide_eq_true this.1
    rw [← look_isSome]
    unfold saidB at h1
    cases e : lookG B (b.1.1, []) with
    | none => rw [e] at h1; cases h1
    | some n => rfl
  · intro k hk hne
    obtain ⟨b, hb, rfl⟩ := List.mem_map.mp hk
    have := h b hb
    rw [decide_eq_false hne, Bool.false_or, Bool.and_eq_true] at this
    rw [← look_isSome]
    exact this.2
end Fb
namespace Fb
open SctBook
theorem foldP_nodup : ∀ (l : List Ky) (P : Pt), (P.map (·.1)).Nodup → ((l.foldl addP P).map (·.1)).Nodup
  | [], P, h => h
  | k :: l, P, h => by
    rw [List.foldl_cons]
    refine foldP_nodup l _ ?_
    rw [addP_keys]
    split
    · exact addS_nodup h
    · exact h
theorem parts_nodup (B : Bk) : ((partsB B).map (·.1)).Nodup := foldP_nodup _ [] List.nodup_nil
end Fb
namespace Fb
open SctBook
theorem parts_each {B : Bk} : ∀ p ∈ partsB B, p.2.length ≤ B.length := fun p hp => by
  have := foldP_le (keysOfB B) [] (y := p.1) (ys := p.2) 0 (fun p hp => by cases hp) hp
  rw [keys_length] at this
  omega
end Fb
end
section
set_option Elab.async false
set_option maxRecDepth 100000
set_option maxHeartbeats 4000000
/-! Names as data; what stands ready for the defs of books. -/
namespace Fb
open PySem PySem.Spec PyProof.Rows L2
theorem canLayAll_ints : ∀ x : Nm, PyData.canLayAll0 (x.map fun (n : Nat) => .int (n : Int)) = true
  | [] => rfl
  | n :: x => by
    rw [List.map_cons, PyData.canLayAll0, canLayAll_ints x]
    rfl
theorem shaped_dn (x : Nm) : SeqAt.shaped (dn x) = true := by
  unfold SeqAt.shaped
  have h1 : (dn x).canLay0 = true := canLayAll_ints x
  have h2 : (dn x).depth ≤ 3 := by
    have := depth_dk (x, [])
    unfold dk at this
    simp only [PyData.depth, PyData.depthAll] at this ⊢
    unfold dn at *
    simp only [PyData.depth] at *
    omega
  rw [h1, Bool.true_and]
  exact decide_eq_true (by omega)
theorem dpAll_ints {K : PySem.W.Frag} {H : Hp} : ∀ x : Nm, DpAll K H (vn x) (x.map fun (n : Nat) => .int (n : Int))
  | [] => .nil
  | n :: x => .cons (.int _) (dpAll_ints x)
theorem NameAt.dp {K : PySem.W.Frag} {H : Hp} {a : Addr} {x : Nm} (h : NameAt H a x) : Dp K H (.ref a) (dn x) := .tup (SqT.of h) (dpAll_ints x)
theorem NameAt.eq {K : PySem.W.Frag} {H : Hp} {a b : Addr} {x y : Nm} {Q : VK} (h : NameAt H a x) (h' : NameAt H b y) (q : Q (.bl (decide (x = y))) H) : rEqD K (.ref a) (.ref b) H Q :=
  ⟨_, _, h.dp, h'.dp, shaped_dn x, shaped_dn y, by rw [eqv_dn]; exact q⟩
theorem NameAt.ne {K : PySem.W.Frag} {H : Hp} {a b : Addr} {x y : Nm} {Q : VK} (h : NameAt H a x) (h' : NameAt H b y) (q : Q (.bl (!decide (x = y))) H) : rNeD K (.ref a) (.ref b) H Q :=
  ⟨_, _, h.dp, h'.dp, shaped_dn x, shaped_dn y, by rw [eqv_dn]; exact q⟩
/-- a text (a list) against another -/
theorem dp_text {K : PySem.W.Frag} {H : Hp} {a : Addr} {x : Nm} (h : H a = some (.lst (vn x))) : Dp K H (.ref a) (.list (x.map fun (n : Nat) => .int (n : Int))) := .lst (SqL.of h) (dpAll_ints x)
theorem shaped_list (x : Nm) : SeqAt.shaped (.list (x.map fun (n : Nat) => .int (n : Int))) = true := by
  unfold SeqAt.shaped
  have h1 : (PyData.list (x.map fun (n : Nat) => .int (n : Int))).canLay0 = true := canLayAll_ints x
  have h2 := SeqAt.depth_of_shaped (shaped_dn x)
  rw [h1, Bool.true_and]
  exact decide_eq_true h2
theorem text_eq {K : PySem.W.Frag} {H : Hp} {a b : Addr} {x y : Nm} {Q : VK} (h : H a = some (.lst (vn x))) (h' : H b = some (.lst (vn y))) (q : Q (.bl (decide (x = y))) H) : rEqD K (.ref a) (.ref b) H Q :=
  ⟨_, _, dp_text h, dp_text h', shaped_list x, shaped_list y, by
    have := eqv_dn x y
    show Q (.bl (PyData.eqvAll _ _)) H
    rw [eqv_ints]
    exact q⟩
theorem NameAt.kp0 {H : Hp} {p : Addr} : NameAt (upd H p (.tup [])) p [] := upd_same
theorem SetAt.same {κ : Type} [DecidableEq κ] {t : KT κ} {H H' : Hp} {d : Addr} {s : List κ} (h : SetAt t H d s) (q : Same H H') : SetAt t H' d s := DG.same q h
theorem BookAt.same {H H' : Hp} {d : Addr} {B : Bk} (h : BookAt H d B) (q : Same H H') : BookAt H' d B := DG.same q h
theorem BookAt.nodup {H : Hp} {d : Addr} {B : Bk} (h : BookAt H d B) : (B.map (·.1)).Nodup := by
  have := DG.nodup h
  rw [vB_keys] at this
  exact this
theorem BookAt.sorted {H : Hp} {d : Addr} {B : Bk} {Q : VK} (h : BookAt H d B) (q : ∀ p as, H p = none → F2 (KeyR H) as (keysOfB B) → Q (.ref p) (upd H p (.lst as))) : ∃ (d' : Addr) (ep : Nat) (bs : List KEnt), [V.ref d] = [.ref d'] ∧ DictX H d' ep (bs.map entK) ∧ (∀ b ∈ bs, KeyAt H b.2.1 b.1) ∧ ∀ (ys : List KEnt) (p : Addr), ys.Perm bs → (ys.map (·.1)).Pairwise (fun a b => SctBook.keyBefore a b = true) → H p = none → Q (.ref p) (upd H p (.lst (ys.map fun b => .ref b.2.1))) :=
  DG.sorted h fun p as hp hF => q p as hp (by
    have : keysB (vB B) = keysOfB B := by unfold keysB keysOfB; rw [vB_keys]
    rw [← this]
    exact hF)
theorem BookAt.len {H : Hp} {d : Addr} {B : Bk} (h : BookAt H d B) : B.length ≤ sizeLine := by
  have := DG.size h
  rw [vB_length] at this
  exact this
theorem BookAt.ix {H : Hp} {d a : Addr} {B : Bk} {k : Ky} {Q : VK} {n : Int} (h : BookAt H d B) (ha : KeyAt H a k) (e : lookG B k = some n) (q : Q (.int n) H) : rIxX (.ref d) (.ref a) H Q :=
  DG.ix (t := tK) h ha (by rw [look_vB, e]; rfl) q
/-- a key's halves -/
theorem KeyAt.fst {K : PySem.W.Frag} {H : Hp} {a : Addr} {k : Ky} (h : KeyAt H a k) : ∃ a1 a2, NameAt H a1 k.1 ∧ NameAt H a2 k.2 ∧ SqT K H a [.ref a1, .ref a2] := by
  obtain ⟨a1, a2, h1, h2, h3⟩ := h
  exact ⟨a1, a2, h2, h3, SqT.of h1⟩
theorem PartsAt.keys {H : Hp} {d : Addr} {P : Pt} (h : PartsAt H d P) : ∃ vs, DG tN H d vs ∧ F2 (PartR H) vs P ∧ vs.map (·.1) = P.map (·.1) := by
  obtain ⟨vs, h1, h2⟩ := h
  exact ⟨vs, h1, h2, h2.keys⟩
end Fb
namespace Fb
open PySem PySem.Spec PyProof.Rows L2
theorem BookAt.sort {H : Hp} {d : Addr} {B : Bk} (h : BookAt H d B) : ∃ (ep : Nat) (bs : List KEnt), DictX H d ep (bs.map entK) ∧ (∀ b ∈ bs, KeyAt H b.2.1 b.1) ∧
    ∀ (ys : List KEnt), ys.Perm bs → (ys.map (·.1)).Pairwise (fun a b => SctBook.keyBefore a b = true) → F2 (KeyR H) (ys.map fun b => .ref b.2.1) (keysOfB B) := by
  have hn := h.nodup
  obtain ⟨ep, xs, h1, h2, h3⟩ := h
  refine ⟨ep, xs, h1, h2, fun ys pm pw => ?_⟩
  have e1 : xs.map (·.1) = B.map (·.1) := by
    have := congrArg (List.map (·.1)) h3
    rw [vB_keys, List.map_map] at this
    exact this
  have e : keysOfB B = ys.map (·.1) := by
    have h4 : (keysOfB B).Perm (ys.map (·.1)) := (keys_perm B).trans (e1 ▸ (pm.map (·.1)).symm)
    exact sorted_one (fun k : Ky => k) h4 (keys_strict hn) pw
  rw [e]
  have : ∀ zs : List KEnt, (∀ y ∈ zs, KeyAt H y.2.1 y.1) → F2 (KeyR H) (zs.map fun x => V.ref x.2.1) (zs.map (·.1)) := by
    intro zs hy
    induction zs with
    | nil => exact .nil
    | cons y zs ih => exact .cons ⟨y.2.1, rfl, hy y List.mem_cons_self⟩ (ih fun z m => hy z (List.mem_cons_of_mem _ m))
  exact this ys fun y m => h2 y (pm.subset m)
/-- a dict of names as a list -/
theorem SetAt.lst {H : Hp} {d : Addr} {s : List Nm} (h : SetAt tN H d s) : ∃ (ep : Nat) (xs : List Ent), DictX H d ep xs ∧ F2 (NameR H) (xs.map fun x => .ref x.2.1) s := by
  have e := setD_keys s
  obtain ⟨ep, xs, h1, h2, h3⟩ := h
  refine ⟨ep, _, h1, ?_⟩
  rw [← e, ← h3, List.map_map, List.map_map]
  have : ∀ ys : List (Nm × Addr × V), (∀ y ∈ ys, NameAt H y.2.1 y.1) → F2 (NameR H) (ys.map ((fun x => V.ref x.2.1) ∘ entG tN)) (ys.map ((·.1) ∘ fun x => (x.1, x.2.2))) := by
    intro ys hy
    induction ys with
    | nil => exact .nil
    | cons y ys ih => exact .cons ⟨y.2.1, rfl, hy y List.mem_cons_self⟩ (ih fun z m => hy z (List.mem_cons_of_mem _ m))
  exact this xs h2
end Fb
namespace Fb
open PySem PySem.Spec PyProof.Rows L2
theorem kp_upd {H H' : Hp} {p : Addr} {o : HO} (nf : ¬ Fixed o) (hp : H p = none) (s : Same H H') : Kp (upd H p o) H' := fun b v f e => by
  by_cases h : b = p
  · subst h
    rw [upd_same] at e
    cases e
    exact absurd f nf
  · rw [upd_ne h] at e
    exact s _ _ e
theorem same_two {H : Hp} {p q : Addr} {o u : HO} (hp : H p = none) (hq : upd H p o q = none) : Same (upd H q u) (upd (upd H p o) q u) := fun b v e => by
  by_cases h : b = q
  · subst h
    rw [upd_same] at e ⊢
    exact e
  · rw [upd_ne h] at e ⊢
    exact Same.new hp _ _ e
end Fb
namespace Fb
open PySem PySem.Spec PyProof.Rows L2
theorem nfX {p : Addr} {ep : Nat} {xs : List Ent} : ¬ Fixed (DXo p ep xs) := fun f => f
end Fb
namespace Fb
open PySem PySem.Spec PyProof.Rows L2
/-- a new book -/
def NewB (Q : VK) (H : Hp) (B : Bk) : Prop := ∀ p H', Same H H' → H p = none → BookAt H' p B → Q (.ref p) H'
def unV (l : List (Ky × V)) : Bk := l.map fun x => (x.1, intV x.2)
/-- a for over a book -/
theorem for_book {B : Bk} {H : Hp} {d : Addr} {g : TG} {tb : TS} {E : Ends} {σ : L2.St} {H1 : Hp} (h : BookAt H d B) (Pv : Bk → Bk → L2.St → Hp → Prop) (h0 : Pv [] B σ H1) (hl : ∀ l r σ H', Pv l r σ H' → Same H H')
    (hs : ∀ l x r a σ H', l ++ x :: r = B → KeyAt H' a x.1 → Pv l (x :: r) σ H' → g (.ref a) σ H' fun σ2 H2 => tb { E with nx := Pv (l ++ [x]) r, ct := Pv (l ++ [x]) r, bk := E.nx } σ2 H2) (hd : ∀ σ H', Pv B [] σ H' → E.nx σ H') :
    ∃ d' ep xs, V.ref d = .ref d' ∧ DictX H1 d' ep xs ∧ ∃ W : Nat → Nat → L2.St → Hp → Prop, (∃ m, W 0 m σ H1) ∧ ∀ i m σ H, W i m σ H →
      ((ItX d' ep xs).stop i H ∧ E.nx σ H) ∨ ((ItX d' ep xs).go i H ∧ ∃ N : L2.St → Hp → Prop, (∀ σ' H', N σ' H' → ∃ m', m' < m ∧ W (i + 1) m' σ' H') ∧ ∀ x H', (ItX d' ep xs).yld i H x H' → g x σ H' fun σ2 H2 => tb { E with nx := N, ct := N, bk := E.nx } σ2 H2) := by
  have un : ∀ B : Bk, unV (vB B) = B := fun B => by
    unfold unV vB
    rw [List.map_map]
    exact List.map_id' B
  refine for_DG h (fun l r => Pv (unV l) (unV r)) (by rw [un]; exact h0) (fun l r σ H' p => hl _ _ _ _ p) (fun l x r a σ H' e ha p => ?_) (fun σ H' p => hd σ H' (by rw [un] at p; exact p))
  have := hs (unV l) (x.1, intV x.2) (unV r) a σ H' (by rw [← un B, ← e]; unfold unV; rw [List.map_append, List.map_cons]) ha p
  have e2 : unV (l ++ [x]) = unV l ++ [(x.1, intV x.2)] := by unfold unV; rw [List.map_append]; rfl
  rw [e2]
  exact this
end Fb
end
section
/-! How far the lines go. -/
namespace Fb
open SctBook
theorem mThingLine_ok {T : List Nat} {p : Nat} {r : Nat × Ln} (h : mThingLine T p = .ok r) : p < r.1 ∧ r.1 ≤ T.length ∧ r.2.key.2 = [] ∧ (r.2.told = -1 ∨ r.2.told = -2) ∧ r.2.key.1 ≠ [] := by
  unfold mThingLine at h
  split at h
  · cases h
  rename_i q e1
  split at h
  · cases h
  rename_i s e2
  split at h
  · cases h
  rename_i z e3
  split at h
  · cases h
  rename_i b e4
  cases h
  obtain ⟨h1, -⟩ := mWord_ok e1
  obtain ⟨rfl, h2, -⟩ := mExpect_ok e2 (by decide)
  have h3 := mName_ok e3
  obtain ⟨rfl, h4, -⟩ := mExpect_ok e4 (by decide)
  refine ⟨by simp only []; omega, h4, rfl, ?_, ?_⟩
  · simp only []
    split
    · exact .inl rfl
    · exact .inr rfl
  · intro e
    have := congrArg List.length e
    simp only [cut, List.length_take, List.length_drop, List.length_nil] at this
    omega
theorem mPartLine_ok {T : List Nat} {p : Nat} {acc : Nm} {r : Nat × Ln} (h : mPartLine T p acc = .ok r) : p < r.1 ∧ r.1 ≤ T.length ∧ r.2.key.2 ≠ [] ∧ r.2.key.1 = acc := by
  unfold mPartLine at h
  split at h
  · cases h
  rename_i s e2
  split at h
  · cases h
  rename_i z e3
  split at h
  · cases h
  rename_i g e4
  split at h
  · cases h
  rename_i a e5
  split at h
  · cases h
  rename_i b e6
  cases h
  obtain ⟨h1, -⟩ := mWord_ok e2
  have h3 := mName_ok e3
  obtain ⟨rfl, h4, -⟩ := mExpect_ok e4 (by decide)
  have h5 := mAmount_ok e5
  obtain ⟨rfl, h6, -⟩ := mExpect_ok e6 (by decide)
  refine ⟨by simp only []; omega, h6, ?_, rfl⟩
  intro e
  have := congrArg List.length e
  simp only [cut, List.length_take, List.length_drop, List.length_nil] at this
  omega
theorem mLine_ok {T : List Nat} {p : Nat} {acc : Nm} {r : Nat × Option Ln × Nm} (h : mLine T p acc = .ok r) (hp : p < T.length) : p < r.1 ∧ r.1 ≤ T.length := by
  unfold mLine at h
  split at h
  · cases h
    exact ⟨Nat.lt_succ_self p, hp⟩
  split at h
  · split at h
    · cases h
    rename_i q e
    cases h
    have h2 := mExpect_ok e (by decide)
    have h3 := run_ge notEnd T (T.length - p) p
    exact ⟨by simp only []; omega, by simp only []; omega⟩
  split at h
  · split at h
    · cases h
    rename_i q e
    cases h
    exact ⟨(mPartLine_ok e).1, (mPartLine_ok e).2.1⟩
  · split at h
    · cases h
    rename_i q e
    cases h
    exact ⟨(mThingLine_ok e).1, (mThingLine_ok e).2.1⟩
/-- what a line says of the accord begun last -/
theorem mLine_acc {T : List Nat} {p : Nat} {acc : Nm} {r : Nat × Option Ln × Nm} (h : mLine T p acc = .ok r) :
    (r.2.1 = none ∧ r.2.2 = acc) ∨ (∃ l, r.2.1 = some l ∧ l.key.2 ≠ [] ∧ l.key.1 = acc ∧ acc ≠ [] ∧ r.2.2 = acc) ∨ (∃ l, r.2.1 = some l ∧ l.key.2 = [] ∧ l.key.1 ≠ [] ∧ r.2.2 = (if l.told = -2 then l.key.1 else []) ∧ (l.told = -1 ∨ l.told = -2)) := by
  unfold mLine at h
  split at h
  · cases h
    exact .inl ⟨rfl, rfl⟩
  split at h
  · split at h
    · cases h
    cases h
    exact .inl ⟨rfl, rfl⟩
  split at h
  · rename_i c
    split at h
    · cases h
    rename_i q e
    cases h
    exact .inr (.inl ⟨_, rfl, (mPartLine_ok e).2.2.1, (mPartLine_ok e).2.2.2, c.2, rfl⟩)
  · split at h
    · cases h
    rename_i q e
    cases h
    exact .inr (.inr ⟨_, rfl, (mThingLine_ok e).2.2.1, (mThingLine_ok e).2.2.2.2, rfl, (mThingLine_ok e).2.2.2.1⟩)
/-- every part's accord has been told before -/
theorem mLines_acc {T : List Nat} : ∀ (f p : Nat) (acc : Nm) (ls : List Ln), mLines T f p acc = .ok ls → ∀ l ∈ ls, l.key.2 ≠ [] → (l.key.1 = acc ∧ acc ≠ []) ∨ ∃ m ∈ ls, m.key = (l.key.1, []) ∧ m.told = -2
  | 0, p, acc, ls, h, l, m, _ => by
    cases h
    cases m
  | f + 1, p, acc, ls, h, l, m, hne => by
    unfold mLines at h
    split at h
    · split at h
      · cases h
      rename_i r e
      split at h
      · cases h
      rename_i ls' e'
      cases h
      have ih := mLines_acc f _ _ _ e'
      rcases mLine_acc e with ⟨h1, h2⟩ | ⟨l0, h1, h2, h3, h4, h5⟩ | ⟨l0, h1, h2, h3, h4, h5⟩
      · rw [h1] at m ⊢
        rw [h2] at ih
        exact ih l (by simpa using m) hne
      · rw [h1] at m ⊢
        rw [h5] at ih
        rcases List.mem_append.mp m with m | m
        · have : l = l0 := by simpa using m
          subst this
          exact .inl ⟨h3, h4⟩
        · rcases ih l m hne with q | ⟨m0, q1, q2⟩
          · exact .inl q
          · exact .inr ⟨m0, List.mem_append_right _ q1, q2⟩
      · rw [h1] at m ⊢
        rcases List.mem_append.mp m with m | m
        · have : l = l0 := by simpa using m
          subst this
          exact absurd h2 hne
        · rcases ih l m hne with ⟨q, q'⟩ | ⟨m0, q1, q2⟩
          · rw [h4] at q q'
            by_cases c : l0.told = -2
            · rw [if_pos c] at q
              refine .inr ⟨l0, by simp, ?_, c⟩
              rw [q, ← h2]
            · rw [if_neg c] at q'
              exact absurd rfl q'
          · exact .inr ⟨m0, List.mem_append_right _ q1, q2⟩
    · cases h
      cases m
theorem mLines_length {T : List Nat} : ∀ (f p : Nat) (acc : Nm) (ls : List Ln), mLines T f p acc = .ok ls → p ≤ T.length → ls.length + p ≤ T.length
  | 0, p, acc, ls, h, hp => by
    cases h
    simpa using hp
  | f + 1, p, acc, ls, h, hp => by
    unfold mLines at h
    split at h
    · split at h
      · cases h
      rename_i r e
      split at h
      · cases h
      rename_i c r2 ls' e'
      cases h
      have h1 := mLine_ok e (by assumption)
      have := mLines_length f _ _ _ e' h1.2
      rw [List.length_append]
      have : r.2.1.toList.length ≤ 1 := by cases r.2.1 <;> simp
      omega
    · cases h
      simpa using hp
end Fb
namespace Fb
open SctBook
def mPre {α : Type} (ls : List α) (r : Mi (List α)) : Mi (List α) := match r with
  | .error e => .error e
  | .ok l => .ok (ls ++ l)
theorem mPre_nil {α : Type} (r : Mi (List α)) : mPre [] r = r := by cases r <;> rfl
theorem mPre_app {α : Type} (l k : List α) (r : Mi (List α)) : mPre l (mPre k r) = mPre (l ++ k) r := by
  cases r with
  | error e => rfl
  | ok r => unfold mPre; simp
theorem mLines_step {T : List Nat} {p m : Nat} {acc : Nm} {r : Nat × Option Ln × Nm} (hp : p < T.length) (e : mLine T p acc = .ok r) : mLines T (m + 1) p acc = mPre r.2.1.toList (mLines T m r.1 r.2.2) := by
  conv => lhs; unfold mLines
  rw [if_pos hp, e]
  unfold mPre
  simp only []
  split <;> simp_all
theorem mLines_err {T : List Nat} {p m : Nat} {acc : Nm} {x : List Int} (hp : p < T.length) (e : mLine T p acc = .error x) : mLines T (m + 1) p acc = .error x := by
  unfold mLines
  rw [if_pos hp, e]
theorem mLines_end {T : List Nat} {p m : Nat} {acc : Nm} (hp : ¬ p < T.length) : mLines T m p acc = .ok [] := by
  cases m with
  | zero => rfl
  | succ m => unfold mLines; rw [if_neg hp]
theorem known_lines {T : List Nat} {ls : List Ln} (h : mLinesOf T = .ok ls) : ∀ l ∈ ls, l.key.2 ≠ [] → ∃ m ∈ ls, m.key = (l.key.1, []) ∧ m.told = -2 := fun l hl hne => by
  rcases mLines_acc _ _ _ _ h l hl hne with ⟨-, q⟩ | q
  · exact absurd rfl q
  · exact q
theorem foldB_keys {k : Ky} : ∀ (ls : List Ln) (B : Bk), k ∈ (ls.foldl (fun B l => putG B l.key l.told) B).map (·.1) ↔ k ∈ B.map (·.1) ∨ ∃ l ∈ ls, l.key = k
  | [], B => by simp
  | l :: ls, B => by
    rw [List.foldl_cons, foldB_keys ls, putG_keys, mem_addS]
    constructor
    · rintro ((h | rfl) | ⟨m, hm, e⟩)
      · exact .inl h
      · exact .inr ⟨l, List.mem_cons_self, rfl⟩
      · exact .inr ⟨m, List.mem_cons_of_mem _ hm, e⟩
    · rintro (h | ⟨m, hm, e⟩)
      · exact .inl (.inl h)
      · rcases List.mem_cons.mp hm with rfl | hm
        · exact .inl (.inr e.symm)
        · exact .inr ⟨m, hm, e⟩
theorem bookOf_keys {k : Ky} {ls : List Ln} : k ∈ (bookOf ls).map (·.1) ↔ ∃ l ∈ ls, l.key = k := by
  unfold bookOf
  rw [foldB_keys]
  simp
theorem known_bookOf {T : List Nat} {ls : List Ln} (h : mLinesOf T = .ok ls) : KnownA (bookOf ls) := fun k hk hne => by
  obtain ⟨l, hl, rfl⟩ := bookOf_keys.mp hk
  obtain ⟨m, hm, e, -⟩ := known_lines h l hl hne
  exact bookOf_keys.mpr ⟨m, hm, e⟩
theorem foldB_length : ∀ (ls : List Ln) (B : Bk), (ls.foldl (fun B l => putG B l.key l.told) B).length ≤ B.length + ls.length
  | [], B => by simp
  | l :: ls, B => by
    rw [List.foldl_cons]
    have := foldB_length ls (putG B l.key l.told)
    have := putG_length B l.key l.told
    simp only [List.length_cons]
    omega
theorem bookOf_length (ls : List Ln) : (bookOf ls).length ≤ ls.length := by
  have := foldB_length ls []
  simpa [bookOf] using this
theorem mAt_ok {k p : Int} {u : Unit} (h : mAt k p = .ok u) : p < 0 := by
  unfold mAt at h
  split at h
  · cases h
  · omega
theorem placeOf_neg {f : Ln → Bool} {ls : List Ln} (h : placeOf f ls < 0) : ∀ l ∈ ls, f l = false := by
  unfold placeOf at h
  split at h
  · omega
  · rename_i e
    intro l hl
    have := List.find?_eq_none.mp e l hl
    simpa using this
theorem known_things {ls : List Ln} (h : mUnknown (bookOf ls) (ls.filter fun l => !decide (l.key.2 = [])) < 0) : KnownP (bookOf ls) := fun k hk hne => by
  obtain ⟨l, hl, rfl⟩ := bookOf_keys.mp hk
  have := placeOf_neg h l (List.mem_filter.mpr ⟨hl, by simpa using hne⟩)
  have h2 : hasB (bookOf ls) l.key.2 = true := by simpa using this
  exact (look_isSome _ _).mp h2
end Fb
end
section
set_option Elab.async false
set_option maxRecDepth 100000
set_option maxHeartbeats 4000000
/-! Lines over the heap. -/
namespace Fb
open PySem PySem.Spec PyProof.Rows L2
def LineAt (K : PySem.W.Frag) (H : Hp) (a : Addr) (l : Ln) : Prop := ∃ dx k, H a = some (.ins (He.ga K "Line") dx [("subject", .ref k), ("told", .int l.told), ("place", .int (l.place : Nat))]) ∧ KeyAt H k l.key
def LineR (K : PySem.W.Frag) (H : Hp) (v : V) (l : Ln) : Prop := ∃ a, v = .ref a ∧ LineAt K H a l
theorem LineAt.kp {K : PySem.W.Frag} {H H' : Hp} {a : Addr} {l : Ln} (s : Kp H H') (h : LineAt K H a l) : LineAt K H' a l := by
  obtain ⟨dx, k, h1, h2⟩ := h
  exact ⟨dx, k, s _ _ trivial h1, h2.kp s⟩
theorem LineR.kp {K : PySem.W.Frag} {H H' : Hp} {v : V} {l : Ln} (s : Kp H H') (h : LineR K H v l) : LineR K H' v l := let ⟨a, e, h⟩ := h; ⟨a, e, h.kp s⟩
theorem F2.kpL {K : PySem.W.Frag} {H H' : Hp} {vs : List V} {xs : List Ln} (s : Kp H H') (h : F2 (LineR K H) vs xs) : F2 (LineR K H') vs xs := h.imp fun _ _ q => q.kp s
/-- two ways that lead to one place, by slots and heap -/
theorem with_rest2 {N : L2.St → Hp → Prop} {G : Prop} (P : L2.St → Hp → Prop) (main : (∀ σ H, P σ H → N σ H) → G) (rest : ∀ σ H, P σ H → N σ H) : G := main rest
/-- what a new object and its dict leave -/
theorem same_made {H : Hp} {x dx : Addr} {o u o2 : HO} (hx : H x = none) (hd : H dx = none) : Same H (upd (upd (upd H dx o) x u) x o2) := Same.mut (Same.mut (Same.new hd) hx) hx
end Fb
namespace Fb
open PySem PySem.Spec PyProof.Rows L2
theorem putF_le {f : Str} {y : V} : ∀ {fs : List (Str × V)} {n : Nat}, fs.length ≤ n → (putF f y fs).length ≤ n + 1
  | [], n, _ => by show 1 ≤ n + 1; omega
  | (g, x) :: r, n, h => by
    unfold putF
    split
    · simp only [List.length_cons] at *; omega
    · have := putF_le (f := f) (y := y) (fs := r) (n := n - 1) (by simp only [List.length_cons] at h; omega)
      simp only [List.length_cons] at *
      omega
theorem few0 : ([] : List (Str × V)).length < 1000 := by decide
theorem few1 {f : Str} {y : V} : (putF f y []).length < 1000 := Nat.lt_of_le_of_lt (putF_le (n := 0) (Nat.le_refl 0)) (by decide)
theorem few2 {f g : Str} {y z : V} : (putF f y (putF g z [])).length < 1000 := Nat.lt_of_le_of_lt (putF_le (putF_le (n := 0) (Nat.le_refl 0))) (by decide)
theorem few3 {f g h : Str} {y z u : V} : (putF f y (putF g z (putF h u []))).length < 1000 := Nat.lt_of_le_of_lt (putF_le (putF_le (putF_le (n := 0) (Nat.le_refl 0)))) (by decide)
end Fb
namespace Fb
open PySem PySem.Spec PyProof.Rows L2
/-- a text's codes -/
theorem lc_codes {z : Str} {g : TG} {tt : TT} {te : TE} {vs : List Nat} {σ : L2.St} {H1 : Hp} {D : Addr} {Qd : Hp → Prop} (hD : H1 D = none) (hz : z.cps.toList.length ≤ 1000000)
    (hs : ∀ x H (Y : VK) (N : Hp → Prop), Same H1 H → Y (.int (x : Nat)) H → g (.str ⟨#[x]⟩) (wipe σ vs) H fun σ2 H2 => wipe σ2 vs = wipe σ vs ∧ tt σ2 H2 fun b H3 => if b = true then te σ2 H3 Y else N H3)
    (hd : ∀ H, Same H1 H → H D = some (.lst (vn z.cps.toList)) → Qd H) :
    ∃ W : Nat → Nat → Hp → Prop, (∃ m, W 0 m (upd H1 D (.lst []))) ∧ ∀ i m H, W i m H →
      ((Its z).stop i H ∧ Qd H) ∨ ((Its z).go i H ∧ ∃ Nx : Hp → Prop, (∀ H', Nx H' → ∃ m', m' < m ∧ W (i + 1) m' H') ∧ ∀ x H', (Its z).yld i H x H' → g x (wipe σ vs) H' fun σ2 H2 => wipe σ2 vs = wipe σ vs ∧ tt σ2 H2 fun b H3 =>
        if b = true then te σ2 H3 fun y H4 => ∃ acc, H4 D = some (.lst acc) ∧ acc.length < sizeLine ∧ Nx (upd H4 D (.lst (acc ++ [y]))) else Nx H3) := by
  refine lc_str (fun d r H => Same H1 H ∧ H D = some (.lst (vn d))) ⟨Same.new hD, upd_same⟩ (fun d x r H e ⟨s, h⟩ => ?_) (fun H ⟨s, h⟩ => hd H s h)
  refine hs x H _ _ s ⟨vn d, h, ?_, Same.mut s hD, ?_⟩
  · have : d.length < z.cps.toList.length := by rw [← e]; simp
    rw [vn_length]
    exact fits' (by omega)
  · rw [upd_same]
    unfold vn
    rw [List.map_append]
    rfl
theorem vn_app (x y : List Nat) : vn (x ++ y) = vn x ++ vn y := List.map_append
theorem decimal_num (m : Nat) : (Str.ofString (toString ((m : Nat) : Int))).cps.toList = SctBook.decimal m := TL.tl_num m
theorem decimal_len {m : Nat} (h : m < 10 ^ 20) : (SctBook.decimal m).length ≤ 20 := TL.numL_len (n := m) (k := 20) (by decide) h
theorem pointOf_len (n : Nat) : (SctBook.pointOf n).length ≤ 4 := by
  unfold SctBook.pointOf
  split
  · simp
  split
  · simp
  split <;> simp
theorem amountText_len {n : Nat} (h : n ≤ 1000000000000) : (SctBook.amountText n).length ≤ 24 := by
  unfold SctBook.amountText
  rw [List.length_append]
  have h1 := decimal_len (m := n / 1000) (Nat.lt_of_le_of_lt (Nat.div_le_self n 1000) (Nat.lt_of_le_of_lt h (by decide)))
  have h2 := pointOf_len (n % 1000)
  omega
theorem mThing_len (x : Nm) (n : Int) : (mThing x n).length ≤ 9 + x.length := by
  unfold mThing
  rw [List.length_append, List.length_append]
  split
  · simp only [SctBook.MATERIAL, List.length_cons, List.length_nil]; omega
  · simp only [SctBook.ACCORD, List.length_cons, List.length_nil]; omega
theorem mFact_len {k : Ky} {n : Int} (h : FactOk k n) : (mFact k n).length ≤ 100 := by
  have h1 := h.fst
  have h2 := h.snd
  have h3 := amountText_len (n := n.toNat) (by have := h.big; omega)
  have h4 := mThing_len k.1 n
  unfold mFact
  split
  · rw [List.length_append]; simp only [List.length_cons, List.length_nil]; omega
  · rw [List.length_append, List.length_append, List.length_append, List.length_append]; simp only [List.length_cons, List.length_nil]; omega
theorem flat_len {α : Type} (f : α → List Nat) (c : Nat) : ∀ l : List α, (∀ x ∈ l, (f x).length ≤ c) → (l.flatMap f).length ≤ c * l.length
  | [], _ => by simp
  | x :: l, h => by
    have h1 := h x List.mem_cons_self
    have h2 := flat_len f c l fun y m => h y (List.mem_cons_of_mem _ m)
    rw [List.flatMap_cons, List.length_append, List.length_cons, Nat.mul_succ]
    omega
theorem BookOk.said {B : Bk} (h : BookOk B) {k : Ky} (hk : k ∈ B.map (·.1)) : ∃ n, lookG B k = some n ∧ saidB B k = n ∧ FactOk k n := by
  obtain ⟨n, hn⟩ := Option.isSome_iff_exists.mp ((look_isSome B k).mpr hk)
  exact ⟨n, hn, by unfold saidB; rw [hn]; rfl, h.each (k, n) (look_mem0 hn)⟩
theorem nameR_list {K : PySem.W.Frag} {H : Hp} {a : Addr} {x : Nm} (h : NameAt H a x) : SqT K H a (vn x) := SqT.of h
end Fb
namespace Fb
open PySem PySem.Spec PyProof.Rows L2
theorem cat_ok {Q : VK} {H : Hp} {l b : Addr} {x y : List Nat} (hl : H l = some (.lst (vn x))) (hb : H b = some (.lst (vn y))) (hz : x.length + y.length ≤ 16000000) (q : ∀ p, H p = none → Q (.ref p) (upd H p (.lst (vn (x ++ y))))) : rCat (.ref l) (.ref b) H Q :=
  ⟨l, b, _, _, rfl, rfl, hl, hb, fits (by rw [vn_length, vn_length]; exact hz), fun p hp => by rw [← vn_app]; exact q p hp⟩
/-- .. with a list just written -/
theorem cat_new {Q : VK} {H : Hp} {l b : Addr} {x y : List Nat} {us : List V} (hb : H b = none) (hl : H l = some (.lst (vn x))) (hu : us = vn y) (hz : x.length + y.length ≤ 16000000) (q : ∀ p H', Same H H' → H p = none → H' p = some (.lst (vn (x ++ y))) → Q (.ref p) H') : rCat (.ref l) (.ref b) (upd H b (.lst us)) Q := by
  subst hu
  exact cat_ok (Same.new hb _ _ hl) upd_same hz fun p hp => q p _ (Same.trans' (Same.new hb) (Same.new hp)) (none_of (Same.new hb) hp) upd_same
end Fb
end
section
/-! Changes: how far their lines go. -/
namespace Fb
open SctBook
theorem mChangeLine_ok {T : List Nat} {p : Nat} {r : Nat × Cl} (h : mChangeLine T p = .ok r) : p < r.1 ∧ r.1 ≤ T.length := by
  unfold mChangeLine at h
  split at h
  · cases h
  split at h
  · cases h
  rename_i z e1
  have h1 := mName_ok e1
  split at h
  · split at h
    · cases h
    rename_i s e2
    split at h
    · cases h
    rename_i b e3
    cases h
    have h2 := mName_ok e2
    obtain ⟨rfl, h3, -⟩ := mExpect_ok e3 (by decide)
    exact ⟨by simp only []; omega, h3⟩
  · split at h
    · cases h
    rename_i s e2
    split at h
    · cases h
    rename_i z2 e3
    split at h
    · cases h
    rename_i g e4
    split at h
    · cases h
    rename_i a e5
    split at h
    · cases h
    rename_i b e6
    cases h
    obtain ⟨rfl, h2, -⟩ := mExpect_ok e2 (by decide)
    have h3 := mName_ok e3
    obtain ⟨rfl, h4, -⟩ := mExpect_ok e4 (by decide)
    have h5 := mAmount_ok e5
    obtain ⟨rfl, h6, -⟩ := mExpect_ok e6 (by decide)
    exact ⟨by simp only []; omega, h6⟩
theorem mChangeLines_step {T : List Nat} {p m : Nat} {r : Nat × Cl} (hp : p < T.length) (e : mChangeLine T p = .ok r) : mChangeLines T (m + 1) p = mPre [r.2] (mChangeLines T m r.1) := by
  conv => lhs; unfold mChangeLines
  rw [if_pos hp, e]
  unfold mPre
  simp only []
  split <;> simp_all
theorem mChangeLines_err {T : List Nat} {p m : Nat} {x : List Int} (hp : p < T.length) (e : mChangeLine T p = .error x) : mChangeLines T (m + 1) p = .error x := by
  unfold mChangeLines
  rw [if_pos hp, e]
theorem mChangeLines_end {T : List Nat} {p m : Nat} (hp : ¬ p < T.length) : mChangeLines T m p = .ok [] := by
  cases m with
  | zero => rfl
  | succ m => unfold mChangeLines; rw [if_neg hp]
theorem mChangeLines_length {T : List Nat} : ∀ (f p : Nat) (ls : List Cl), mChangeLines T f p = .ok ls → p ≤ T.length → ls.length + p ≤ T.length
  | 0, p, ls, h, hp => by
    cases h
    simpa using hp
  | f + 1, p, ls, h, hp => by
    unfold mChangeLines at h
    split at h
    · split at h
      · cases h
      rename_i r e
      split at h
      · cases h
      rename_i c r2 ls' e'
      cases h
      have h1 := mChangeLine_ok e
      have := mChangeLines_length f _ _ e' h1.2
      simp only [List.length_cons]
      omega
    · cases h
      simpa using hp
def stepC (c : Chg) (l : Cl) : Chg := if l.comes = true then ⟨c.going, putG c.coming l.key l.told⟩ else ⟨putG c.going l.key l.told, c.coming⟩
theorem mChangeOf_eq (ls : List Cl) : mChangeOf ls = ls.foldl stepC ⟨[], []⟩ := rfl
theorem stepC_len (c : Chg) (l : Cl) (n : Nat) (h : c.going.length + c.coming.length ≤ n) : (stepC c l).going.length + (stepC c l).coming.length ≤ n + 1 := by
  unfold stepC
  split
  · have := putG_length c.coming l.key l.told
    simp only []
    omega
  · have := putG_length c.going l.key l.told
    simp only []
    omega
theorem foldC_len : ∀ (ls : List Cl) (c : Chg), (ls.foldl stepC c).going.length + (ls.foldl stepC c).coming.length ≤ c.going.length + c.coming.length + ls.length
  | [], c => by simp
  | l :: ls, c => by
    rw [List.foldl_cons]
    have := foldC_len ls (stepC c l)
    have := stepC_len c l _ (Nat.le_refl _)
    simp only [List.length_cons]
    omega
theorem putAll_snoc (M l : Bk) (b : Ky × Int) : putAll M (l ++ [b]) = putG (putAll M l) b.1 b.2 := by
  unfold putAll
  rw [List.foldl_append]
  rfl
theorem foldPut_len : ∀ (l M : Bk), (putAll M l).length ≤ M.length + l.length
  | [], M => by simp [putAll]
  | b :: l, M => by
    show (putAll (putG M b.1 b.2) l).length ≤ _
    have := foldPut_len l (putG M b.1 b.2)
    have := putG_length M b.1 b.2
    simp only [List.length_cons]
    omega
theorem foldAdd_len {κ : Type} [DecidableEq κ] {β : Type} (f : β → κ) : ∀ (l : List β) (s : List κ), (l.foldl (fun s b => addS s (f b)) s).length ≤ s.length + l.length
  | [], s => by simp
  | b :: l, s => by
    rw [List.foldl_cons]
    have := foldAdd_len f l (addS s (f b))
    have := addS_length s (f b)
    simp only [List.length_cons]
    omega
theorem mem_foldAdd {κ : Type} [DecidableEq κ] {β : Type} (f : β → κ) {x : κ} : ∀ (l : List β) (s : List κ), x ∈ l.foldl (fun s b => addS s (f b)) s ↔ x ∈ s ∨ ∃ b ∈ l, f b = x
  | [], s => by simp
  | b :: l, s => by
    rw [List.foldl_cons, mem_foldAdd f l, mem_addS]
    constructor
    · rintro ((h | rfl) | ⟨c, hc, e⟩)
      · exact .inl h
      · exact .inr ⟨b, List.mem_cons_self, rfl⟩
      · exact .inr ⟨c, List.mem_cons_of_mem _ hc, e⟩
    · rintro (h | ⟨c, hc, e⟩)
      · exact .inl (.inl h)
      · rcases List.mem_cons.mp hc with rfl | hc
        · exact .inl (.inr e.symm)
        · exact .inr ⟨c, hc, e⟩
theorem addKeys_snoc (s : List Ky) (l : Bk) (b : Ky × Int) : addKeys s (l ++ [b]) = addS (addKeys s l) b.1 := by
  unfold addKeys
  rw [List.foldl_append]
  rfl
theorem addKeys_len (s : List Ky) (B : Bk) : (addKeys s B).length ≤ s.length + B.length := foldAdd_len (fun b : Ky × Int => b.1) B s
theorem mem_addKeys {x : Ky} (s : List Ky) (B : Bk) : x ∈ addKeys s B ↔ x ∈ s ∨ ∃ b ∈ B, b.1 = x := mem_foldAdd (fun b : Ky × Int => b.1) B s
theorem mem_keysIn {x : Ky} : ∀ (Bs : List Bk) (s : List Ky), x ∈ Bs.foldl addKeys s ↔ x ∈ s ∨ ∃ B ∈ Bs, x ∈ B.map (·.1)
  | [], s => by simp
  | B :: Bs, s => by
    rw [List.foldl_cons, mem_keysIn Bs, mem_addKeys]
    constructor
    · rintro ((h | ⟨b, hb, e⟩) | ⟨C, hC, e⟩)
      · exact .inl h
      · exact .inr ⟨B, List.mem_cons_self, by rw [← e]; exact List.mem_map_of_mem hb⟩
      · exact .inr ⟨C, List.mem_cons_of_mem _ hC, e⟩
    · rintro (h | ⟨C, hC, e⟩)
      · exact .inl (.inl h)
      · rcases List.mem_cons.mp hC with rfl | hC
        · obtain ⟨b, hb, e2⟩ := List.mem_map.mp e
          exact .inl (.inr ⟨b, hb, e2⟩)
        · exact .inr ⟨C, hC, e⟩
theorem subjects_mem {x : Ky} {Bs : List Bk} : x ∈ subjectsB Bs ↔ ∃ B ∈ Bs, x ∈ B.map (·.1) := by
  unfold subjectsB
  rw [List.mem_mergeSort, mem_keysIn]
  simp
theorem keysIn_len : ∀ (Bs : List Bk) (s : List Ky), (Bs.foldl addKeys s).length ≤ s.length + (Bs.map List.length).foldr (· + ·) 0
  | [], s => by simp
  | B :: Bs, s => by
    rw [List.foldl_cons]
    have h1 := keysIn_len Bs (addKeys s B)
    have h2 := addKeys_len s B
    rw [List.map_cons, List.foldr_cons]
    omega
theorem subjects_len (Bs : List Bk) : (subjectsB Bs).length ≤ (Bs.map List.length).foldr (· + ·) 0 := by
  unfold subjectsB
  rw [List.length_mergeSort]
  have := keysIn_len Bs []
  simpa using this
theorem merge_len (a b c : Bk) : ∀ (l : List Ky) (M : Bk), (l.foldl (fun M k => if mergeSay a b c k ≠ 0 then putG M k (mergeSay a b c k) else M) M).length ≤ M.length + l.length
  | [], M => by simp
  | k :: l, M => by
    rw [List.foldl_cons]
    have h1 := merge_len a b c l (if mergeSay a b c k ≠ 0 then putG M k (mergeSay a b c k) else M)
    have h2 := putG_length M k (mergeSay a b c k)
    simp only [List.length_cons]
    by_cases c0 : mergeSay a b c k ≠ 0
    · rw [if_pos c0] at h1 ⊢
      omega
    · rw [if_neg c0] at h1 ⊢
      omega
end Fb
namespace Fb
theorem mergeL_snoc (a b c : Bk) (l : List Ky) (k : Ky) : mergeL a b c (l ++ [k]) = if mergeSay a b c k ≠ 0 then putG (mergeL a b c l) k (mergeSay a b c k) else mergeL a b c l := by
  unfold mergeL
  rw [List.foldl_append]
  rfl
theorem mergeL_len (a b c : Bk) (l : List Ky) : (mergeL a b c l).length ≤ l.length := by
  have := merge_len a b c l []
  unfold mergeL
  exact Nat.le_trans this (by simp)
end Fb
end
section
/-! What is read is within bounds. -/
namespace Fb
open SctBook
theorem numOf_digits : ∀ (l : List Nat) (v : Int), 0 ≤ v → (∀ x ∈ l, 48 ≤ x ∧ x ≤ 57) → 0 ≤ l.foldl (fun (v : Int) (x : Nat) => v * 10 + x - 48) v ∧ l.foldl (fun (v : Int) (x : Nat) => v * 10 + x - 48) v < (v + 1) * 10 ^ l.length
  | [], v, hv, _ => by simp; omega
  | x :: l, v, hv, h => by
    rw [List.foldl_cons]
    obtain ⟨h1, h2⟩ := h x List.mem_cons_self
    have ih := numOf_digits l (v * 10 + x - 48) (by omega) fun y m => h y (List.mem_cons_of_mem _ m)
    refine ⟨ih.1, Int.lt_of_lt_of_le ih.2 ?_⟩
    rw [List.length_cons, Int.pow_succ, Int.mul_comm (10 ^ l.length) 10, ← Int.mul_assoc]
    refine Int.mul_le_mul_of_nonneg_right (by omega) (Int.pow_nonneg (by omega))
theorem run_all {f : Int → Bool} {T : List Nat} (hf : f (-1) = false) : ∀ (n p : Nat), ∀ x ∈ (T.drop p).take (run f T n p - p), f (x : Nat) = true
  | 0, p, x, m => by
    unfold run at m
    simp at m
  | n + 1, p, x, m => by
    unfold run at m
    split at m
    · rename_i c
      have hp : p < T.length := by
        by_cases e : p < T.length
        · exact e
        · unfold byteAt at c
          rw [List.getElem?_eq_none (by omega), hf] at c
          cases c
      have h1 := run_ge f T n (p + 1)
      rw [List.drop_eq_getElem_cons hp, show run f T n (p + 1) - p = (run f T n (p + 1) - (p + 1)) + 1 by omega, List.take_succ_cons] at m
      rcases List.mem_cons.mp m with rfl | m
      · unfold byteAt at c
        rw [List.getElem?_eq_getElem hp] at c
        exact c
      · exact run_all hf n (p + 1) x m
    · simp at m
theorem digit_range {x : Nat} (h : digitI (x : Nat) = true) : 48 ≤ x ∧ x ≤ 57 := by
  unfold digitI at h
  rw [Bool.and_eq_true] at h
  have h1 := of_decide_eq_true h.1
  have h2 := of_decide_eq_true h.2
  omega
theorem numOf_run (T : List Nat) (n p : Nat) : 0 ≤ numOf T p (run digitI T n p) ∧ numOf T p (run digitI T n p) < 10 ^ n := by
  have h := numOf_digits ((T.drop p).take (run digitI T n p - p)) 0 (by omega) fun x m => digit_range (run_all (by decide) n p x m)
  refine ⟨h.1, Int.lt_of_lt_of_le h.2 ?_⟩
  have h1 := run_top digitI T n p
  rw [Int.zero_add, Int.one_mul]
  have h3 : ((T.drop p).take (run digitI T n p - p)).length ≤ n := by
    rw [List.length_take]
    omega
  have := Nat.pow_le_pow_right (n := 10) (by decide) h3
  exact_mod_cast this
theorem numOf_one (T : List Nat) (p : Nat) (h : byteAt T p = 48) : numOf T p (p + 1) = 0 := by
  have hp := byteAt_lt h (by decide)
  unfold byteAt at h
  rw [List.getElem?_eq_getElem hp] at h
  unfold numOf
  rw [show p + 1 - p = 1 by omega, List.drop_eq_getElem_cons hp]
  simp only [List.take_succ_cons, List.take_zero, List.foldl_cons, List.foldl_nil]
  simp only [] at h
  omega
theorem mWhole_num {T : List Nat} {p q : Nat} (h : mWhole T p = .ok q) : 0 ≤ numOf T p q ∧ numOf T p q < 1000000 := by
  unfold mWhole at h
  split at h
  · rename_i c
    cases h
    rw [numOf_one T p c]
    omega
  · split at h
    · cases h
    · cases h
      have := numOf_run T 6 p
      omega
theorem scale_range (n : Nat) : 1 ≤ scale n ∧ scale n ≤ 1000 := by
  unfold scale
  split <;> omega
theorem mAmount_num {T : List Nat} {p : Nat} {r : Nat × Int} (h : mAmount T p = .ok r) : 0 ≤ r.2 ∧ r.2 ≤ 1000000000000 := by
  unfold mAmount at h
  split at h
  · cases h
  · rename_i q e
    have h1 := mWhole_num e
    split at h
    · cases h
      simp only []
      omega
    · split at h
      · cases h
      · rename_i s e2
        split at h
        · cases h
        · split at h
          · cases h
          · cases h
            simp only []
            have h2 := numOf_run T 3 s
            have h3 := scale_range (run digitI T 3 s - s)
            have h4 : 0 ≤ numOf T s (run digitI T 3 s) * scale (run digitI T 3 s - s) := Int.mul_nonneg h2.1 (by omega)
            have h5 : numOf T s (run digitI T 3 s) * scale (run digitI T 3 s - s) ≤ 1000 * 1000 := Int.mul_le_mul (by omega) h3.2 (by omega) (by omega)
            omega
theorem mName_len {T : List Nat} {p q : Nat} (h : mName T p = .ok q) : (cut T p q).length ≤ 16 := by
  unfold mName at h
  split at h
  · cases h
    have := run_top nameI T 15 (p + 1)
    unfold cut
    rw [List.length_take]
    omega
  · cases h
theorem mThingLine_fact {T : List Nat} {p : Nat} {r : Nat × Ln} (h : mThingLine T p = .ok r) : FactOk r.2.key r.2.told := by
  unfold mThingLine at h
  split at h
  · cases h
  split at h
  · cases h
  split at h
  · cases h
  rename_i e3
  split at h
  · cases h
  cases h
  refine ⟨mName_len e3, by simp, ?_, fun h => absurd rfl h⟩
  simp only []
  split <;> decide
theorem mPartLine_fact {T : List Nat} {p : Nat} {acc : Nm} {r : Nat × Ln} (h : mPartLine T p acc = .ok r) (ha : acc.length ≤ 16) : FactOk r.2.key r.2.told := by
  unfold mPartLine at h
  split at h
  · cases h
  split at h
  · cases h
  rename_i e3
  split at h
  · cases h
  split at h
  · cases h
  rename_i e5
  split at h
  · cases h
  cases h
  have := mAmount_num e5
  exact ⟨ha, mName_len e3, by simp only []; omega, fun _ => this.1⟩
theorem mLine_fact {T : List Nat} {p : Nat} {acc : Nm} {r : Nat × Option Ln × Nm} (h : mLine T p acc = .ok r) (ha : acc.length ≤ 16) : (∀ l, r.2.1 = some l → FactOk l.key l.told) ∧ r.2.2.length ≤ 16 := by
  unfold mLine at h
  split at h
  · cases h
    exact ⟨(fun l e => by cases e), ha⟩
  split at h
  · split at h
    · cases h
    cases h
    exact ⟨(fun l e => by cases e), ha⟩
  split at h
  · split at h
    · cases h
    rename_i e
    cases h
    exact ⟨(fun l e2 => by cases e2; exact mPartLine_fact e ha), ha⟩
  · split at h
    · cases h
    rename_i e
    cases h
    have hf := mThingLine_fact e
    refine ⟨(fun l e2 => by cases e2; exact hf), ?_⟩
    simp only []
    split
    · exact hf.fst
    · simp
theorem mLines_fact {T : List Nat} : ∀ (f p : Nat) (acc : Nm) (ls : List Ln), mLines T f p acc = .ok ls → acc.length ≤ 16 → ∀ l ∈ ls, FactOk l.key l.told
  | 0, p, acc, ls, h, _, l, m => by
    cases h
    cases m
  | f + 1, p, acc, ls, h, ha, l, m => by
    unfold mLines at h
    split at h
    · split at h
      · cases h
      rename_i r e
      split at h
      · cases h
      rename_i ls' e'
      cases h
      have h1 := mLine_fact e ha
      rcases List.mem_append.mp m with m | m
      · refine h1.1 l ?_
        cases q : r.2.1 with
        | none => rw [q] at m; cases m
        | some l0 =>
          rw [q] at m
          have : l = l0 := by simpa using m
          rw [this]
      · exact mLines_fact f _ _ _ e' h1.2 l m
    · cases h
      cases m
theorem foldB_each {ls : List Ln} (h : ∀ l ∈ ls, FactOk l.key l.told) : ∀ (B : Bk), (∀ b ∈ B, FactOk b.1 b.2) → ∀ b ∈ ls.foldl (fun B l => putG B l.key l.told) B, FactOk b.1 b.2 := by
  induction ls with
  | nil => exact fun B hB => hB
  | cons l ls ih =>
    intro B hB
    rw [List.foldl_cons]
    refine ih (fun m hm => h m (List.mem_cons_of_mem _ hm)) _ fun b hb => ?_
    rcases mem_putG hb with hb | rfl
    · exact hB b hb
    · exact h l List.mem_cons_self
theorem mReadBook_lines {T : List Nat} {B : Bk} (h : mReadBook T = .ok B) : ∃ ls, mLinesOf T = .ok ls ∧ B = bookOf ls ∧ KnownP B := by
  unfold mReadBook at h
  split at h
  · cases h
  rename_i ls e
  split at h
  · cases h
  split at h
  · cases h
  split at h
  · cases h
  rename_i e4
  split at h
  · cases h
  split at h
  · cases h
  split at h
  · cases h
  cases h
  exact ⟨ls, e, rfl, known_things (mAt_ok e4)⟩
theorem mReadBook_ok {T : List Nat} {B : Bk} (h : mReadBook T = .ok B) (hT : T.length ≤ 4100) : BookOk B ∧ B.length ≤ 5000 ∧ KnownA B ∧ KnownP B := by
  obtain ⟨ls, e, rfl, kP⟩ := mReadBook_lines h
  have h1 := bookOf_length ls
  have h2 := mLines_length _ _ _ _ e (Nat.zero_le _)
  refine ⟨⟨by omega, foldB_each (fun l m => mLines_fact _ _ _ _ e (by simp) l m) [] (fun b hb => by cases hb)⟩, by omega, known_bookOf e, kP⟩
theorem mChangeLine_fact {T : List Nat} {p : Nat} {r : Nat × Cl} (h : mChangeLine T p = .ok r) : FactOk r.2.key r.2.told := by
  unfold mChangeLine at h
  split at h
  · cases h
  split at h
  · cases h
  rename_i z e1
  split at h
  · split at h
    · cases h
    rename_i s e2
    split at h
    · cases h
    cases h
    refine ⟨mName_len e2, by simp, ?_, fun h => absurd rfl h⟩
    simp only []
    split <;> decide
  · split at h
    · cases h
    split at h
    · cases h
    rename_i e3
    split at h
    · cases h
    split at h
    · cases h
    rename_i e5
    split at h
    · cases h
    cases h
    have := mAmount_num e5
    exact ⟨mName_len e1, mName_len e3, by simp only []; omega, fun _ => this.1⟩
theorem mChangeLines_fact {T : List Nat} : ∀ (f p : Nat) (ls : List Cl), mChangeLines T f p = .ok ls → ∀ l ∈ ls, FactOk l.key l.told
  | 0, p, ls, h, l, m => by
    cases h
    cases m
  | f + 1, p, ls, h, l, m => by
    unfold mChangeLines at h
    split at h
    · split at h
      · cases h
      rename_i r e
      split at h
      · cases h
      rename_i ls' e'
      cases h
      rcases List.mem_cons.mp m with rfl | m
      · exact mChangeLine_fact e
      · exact mChangeLines_fact f _ _ e' l m
    · cases h
      cases m
theorem foldC_each {ls : List Cl} (h : ∀ l ∈ ls, FactOk l.key l.told) : ∀ (c : Chg), (∀ b ∈ c.going, FactOk b.1 b.2) → (∀ b ∈ c.coming, FactOk b.1 b.2) → (∀ b ∈ (ls.foldl stepC c).going, FactOk b.1 b.2) ∧ ∀ b ∈ (ls.foldl stepC c).coming, FactOk b.1 b.2 := by
  induction ls with
  | nil => exact fun c h1 h2 => ⟨h1, h2⟩
  | cons l ls ih =>
    intro c h1 h2
    rw [List.foldl_cons]
    refine ih (fun m hm => h m (List.mem_cons_of_mem _ hm)) _ ?_ ?_
    · intro b hb
      unfold stepC at hb
      split at hb
      · exact h1 b hb
      · rcases mem_putG hb with hb | rfl
        · exact h1 b hb
        · exact h l List.mem_cons_self
    · intro b hb
      unfold stepC at hb
      split at hb
      · rcases mem_putG hb with hb | rfl
        · exact h2 b hb
        · exact h l List.mem_cons_self
      · exact h2 b hb
structure ChgOk (c : Chg) : Prop where
  going : BookOk c.going
  coming : BookOk c.coming
theorem mReadChange_lines {T : List Nat} {ls : List Cl} (h : mReadChange T = .ok ls) : mChangeLines T (T.length + 1) 0 = .ok ls := by
  unfold mReadChange at h
  split at h
  · cases h
  rename_i e
  split at h
  · cases h
  cases h
  exact e
theorem mReadChange_ok {T : List Nat} {ls : List Cl} (h : mReadChange T = .ok ls) (hT : T.length ≤ 4100) : ChgOk (mChangeOf ls) ∧ ls.length ≤ 1000000 ∧ (mChangeOf ls).going.length + (mChangeOf ls).coming.length ≤ 4100 := by
  have e := mReadChange_lines h
  have h2 := mChangeLines_length _ _ _ e (Nat.zero_le _)
  have h3 := foldC_len ls ⟨[], []⟩
  rw [← mChangeOf_eq] at h3
  simp only [List.length_nil, Nat.zero_add] at h3
  have h4 := foldC_each (fun l m => mChangeLines_fact _ _ _ e l m) ⟨[], []⟩ (fun b hb => by cases hb) (fun b hb => by cases hb)
  rw [← mChangeOf_eq] at h4
  exact ⟨⟨⟨by omega, h4.1⟩, ⟨by omega, h4.2⟩⟩, by omega, by omega⟩
end Fb
namespace Fb
open SctBook
/-- a book on the shelf -/
structure OkB (B : Bk) : Prop where
  nd : (B.map (·.1)).Nodup
  ok : BookOk B
  len : B.length ≤ 5000
  kA : KnownA B
  kP : KnownP B
def ShOk (S : Sh) : Prop := ∀ B ∈ S, OkB B
theorem mVersion_mem {S : Sh} {v : Int} {B : Bk} (h : mVersion S v = .ok B) : B ∈ S := by
  unfold mVersion at h
  split at h
  · cases h
  · split at h
    · rename_i e
      cases h
      exact List.mem_of_getElem? e
    · cases h
theorem mVersionWith_mem {S : Sh} {v : Int} {x : Nm} {B : Bk} (h : mVersionWith S v x = .ok B) : B ∈ S ∧ hasB B x = true := by
  unfold mVersionWith at h
  split at h
  · cases h
  · rename_i e
    split at h
    · cases h
    · rename_i c
      cases h
      exact ⟨mVersion_mem e, by simpa using c⟩
theorem things_len16 {B : Bk} (h : BookOk B) : ∀ x ∈ thingsB B, x.length ≤ 16 := fun x m => by
  obtain ⟨b, hb, e⟩ := List.mem_map.mp (things_mem.mp m)
  have := (h.each b hb).fst
  rw [e] at this
  exact this
theorem readyB_len {P : Pt} {told : List Nm} (h : ∀ p ∈ P, p.1.length ≤ 16) : (readyB P told).length ≤ 16 := by
  unfold readyB
  split
  · rename_i p e
    exact h p (List.mem_of_find?_eq_some e)
  · simp
theorem orderB_len {P : Pt} (h : ∀ p ∈ P, p.1.length ≤ 16) : ∀ (n : Nat) (told : List Nm), (∀ x ∈ told, x.length ≤ 16) → (∀ x ∈ orderB P n told, x.length ≤ 16) ∧ (orderB P n told).length ≤ told.length + n
  | 0, told, ht => ⟨ht, Nat.le_refl _⟩
  | n + 1, told, ht => by
    have ih := orderB_len h n (addS told (readyB P told)) fun x m => by
      rcases mem_addS.mp m with m | rfl
      · exact ht x m
      · exact readyB_len h
    refine ⟨ih.1, ?_⟩
    have := addS_length told (readyB P told)
    have := ih.2
    unfold orderB
    omega
theorem toldB_len {B : Bk} (h : BookOk B) : (∀ x ∈ toldB B, x.length ≤ 16) ∧ (toldB B).length ≤ B.length := by
  have h1 : ∀ p ∈ partsB B, p.1.length ≤ 16 := fun p hp => things_len16 h p.1 (things_mem.mpr (parts_mem.mp (List.mem_map_of_mem hp)))
  have := orderB_len h1 (partsB B).length [] (fun x m => by cases m)
  refine ⟨this.1, ?_⟩
  have h2 := parts_length B
  have h3 := this.2
  simp only [List.length_nil, Nat.zero_add] at h3
  unfold toldB
  omega
theorem mDiff_ok {B C : Bk} (hB : BookOk B) (hC : BookOk C) : BookOk (mDiff B C).going ∧ BookOk (mDiff B C).coming :=
  ⟨⟨Nat.le_trans (List.length_filter_le _ _) hB.len, fun b m => hB.each b (List.mem_filter.mp m).1⟩, ⟨Nat.le_trans (List.length_filter_le _ _) hC.len, fun b m => hC.each b (List.mem_filter.mp m).1⟩⟩
theorem contras_len16 {A B C : Bk} (hA : BookOk A) (hB : BookOk B) (hC : BookOk C) : ∀ k ∈ contrasB A B C, k.1.length ≤ 16 ∧ k.2.length ≤ 16 := fun k m => by
  obtain ⟨D, hD, hk⟩ := subjects_mem.mp (List.mem_filter.mp m).1
  obtain ⟨b, hb, rfl⟩ := List.mem_map.mp hk
  have : BookOk D := by
    rcases List.mem_cons.mp hD with rfl | hD
    · exact hA
    · rcases List.mem_cons.mp hD with rfl | hD
      · exact hB
      · rw [List.mem_singleton.mp hD]
        exact hC
  exact ⟨(this.each b hb).fst, (this.each b hb).snd⟩
end Fb
end
section
set_option Elab.async false
set_option maxRecDepth 100000
set_option maxHeartbeats 4000000
/-! list.extend by a tuple that is tracked. -/
namespace PySem.FbX
open PySem PySem.Calls PyProof.Rows PySem.AutoSeq1
theorem list_extend_tupleT (l : Addr) (items : Array Value) (n : Nat) (b : Addr) (items2 : Array Value) (n2 : Nat) (dk : Option Addr) (sl : Array (Option Value)) (hs0 : ¬(!items.isEmpty && Builtin.List.listTooLong (items.size + items2.size)) = true) (hs1 : items.size ≤ sizeLine) (hs2 : items.size + items2.size ≤ sizeLine + 1) :
    Meets (Builtin.«list.extend» ⟨[.ref l, .ref b], []⟩) (fun _ R s => s.heap.get? l = some { cls := .type "list", dict := none, data := .seq items n, slots := #[] } ∧ s.heap.get? b = some { cls := .type "tuple", dict := dk, data := .seq items2 n2, slots := sl } ∧ R (.ok (.ret Value.none)) { s with heap := s.heap.update l (Obj.mapSeq fun x => x ++ items2), toks := s.toks }) :=
  .of_wp fun prog w A R s h => by
    obtain ⟨hp, g, d, tk, os⟩ := s; obtain ⟨hl, hb, h⟩ := h; have f1 := idx_int; have f2 := AutoSeq1.sub_tuple_tuple; have f3 := AutoSeq1.sub_list_list; have f4 := AutoSeq1.sub_tuple_list; have f5 := AutoSeq1.sub_list_tuple;
    have hz' : (items ++ items2).size ≤ sizeLine + 1 := by rw [Array.size_append]; exact hs2
    wp_walk using (wpAny_updateSeq hl rfl (hz := hs1) (_hz' := hz')), wpAny_loadPart' hl, wpAny_loadPart' hb; exact ⟨_, rfl, h⟩
end PySem.FbX
namespace Fb
open PySem PySem.Spec PyProof.Rows L2
section
variable {X : Cx}
def rExtendT : V → List V → Hp → VK → Prop := fun x vs H Q => ∃ l b xs zs, x = .ref l ∧ vs = [.ref b] ∧ H l = some (.lst xs) ∧ H b = some (.tup zs) ∧ xs.length + zs.length ≤ sizeLine ∧ Q .non (upd H l (.lst (xs ++ zs)))
theorem mt_extendT : MtM X "list.extend" rExtendT := by
  intro pins s σ H x vs v us Q I rx rv h
  obtain ⟨l, b, xs, zs, rfl, rfl, hH, hB, hz, q⟩ := h
  cases rx
  obtain ⟨u, rfl, ru⟩ := rv.one
  cases ru
  obtain ⟨z, its, n, r, hl, e⟩ := I.lstM hH
  obtain ⟨its2, r2, ⟨o2, ho, hc, n2, hd⟩, _⟩ := I.tuple (SqT.of hB)
  obtain ⟨cls, dk, data, sl⟩ := o2
  subst hc
  subst hd
  have hl2 := r2.length
  have hsz : its.toArray.size + its2.toArray.size ≤ sizeLine := by rw [List.size_toArray, List.size_toArray]; omega
  have hlong : ¬ (!its.toArray.isEmpty && Builtin.List.listTooLong (its.toArray.size + its2.toArray.size)) = true := by
    rw [notLongL hsz, Bool.and_false]
    exact Bool.false_ne_true
  refine call_meets F.slot_list_extend ⟨_, e, rfl⟩ F.entry_list_extend (F.args_list_extend_2 _ _)
    (PySem.FbX.list_extend_tupleT l its.toArray n b its2.toArray n2 dk sl hlong (by rw [List.size_toArray]; omega) (by omega)) ⟨e, ho, ?_⟩
  refine ⟨.non, _, I.lset (its' := its ++ its2) hH e (by simp) (r.append r2) ?_, rfl, q⟩
  rw [List.length_append]
  omega
end
end Fb
end
section
set_option Elab.async false
set_option maxRecDepth 100000
set_option maxHeartbeats 4000000
/-! Changes over the heap. -/
namespace Fb
open PySem PySem.Spec PyProof.Rows L2
def CLineAt (K : PySem.W.Frag) (H : Hp) (a : Addr) (l : Cl) : Prop := ∃ dx k, H a = some (.ins (He.ga K "ChangeLine") dx [("comes", .bl l.comes), ("subject", .ref k), ("told", .int l.told), ("place", .int (l.place : Nat))]) ∧ KeyAt H k l.key
def CLineR (K : PySem.W.Frag) (H : Hp) (v : V) (l : Cl) : Prop := ∃ a, v = .ref a ∧ CLineAt K H a l
theorem CLineAt.kp {K : PySem.W.Frag} {H H' : Hp} {a : Addr} {l : Cl} (s : Kp H H') (h : CLineAt K H a l) : CLineAt K H' a l := by
  obtain ⟨dx, k, h1, h2⟩ := h
  exact ⟨dx, k, s _ _ trivial h1, h2.kp s⟩
theorem CLineR.kp {K : PySem.W.Frag} {H H' : Hp} {v : V} {l : Cl} (s : Kp H H') (h : CLineR K H v l) : CLineR K H' v l := let ⟨a, e, h⟩ := h; ⟨a, e, h.kp s⟩
theorem F2.kpC {K : PySem.W.Frag} {H H' : Hp} {vs : List V} {xs : List Cl} (s : Kp H H') (h : F2 (CLineR K H) vs xs) : F2 (CLineR K H') vs xs := h.imp fun _ _ q => q.kp s
def ChangeAt (K : PySem.W.Frag) (H : Hp) (a : Addr) (c : Chg) : Prop := ∃ dx g m, H a = some (.ins (He.ga K "Change") dx [("going", .ref g), ("coming", .ref m)]) ∧ BookAt H g c.going ∧ BookAt H m c.coming
theorem ChangeAt.same {K : PySem.W.Frag} {H H' : Hp} {a : Addr} {c : Chg} (h : ChangeAt K H a c) (s : Same H H') : ChangeAt K H' a c := by
  obtain ⟨dx, g, m, h1, h2, h3⟩ := h
  exact ⟨dx, g, m, s _ _ h1, h2.same s, h3.same s⟩
/-- keys: a sign and what is spoken of -/
def nkC (k : Bool × Ky) : NestedKey := .tup [.num (if k.1 = true then 1 else 0), kk k.2]
theorem nkC_inj {a b : Bool × Ky} (h : nkC a = nkC b) : a = b := by
  unfold nkC at h
  injection h with h
  injection h with h1 h2
  injection h2 with h2 h3
  have e2 := kk_inj h2
  injection h1 with h1
  obtain ⟨a1, a2⟩ := a
  obtain ⟨b1, b2⟩ := b
  cases e2
  congr
  cases a1 <;> cases b1 <;> first | rfl | (simp at h1)
theorem depth_nkC (k : Bool × Ky) : (nkC k).depth ≤ 8 := by
  have h : (kk k.2).depth ≤ 3 := by
    have h1 := depth_all k.2.1
    have h2 := depth_all k.2.2
    simp only [kk, kn, NestedKey.depth, NestedKey.depthAll]
    omega
  unfold nkC
  simp only [NestedKey.depth, NestedKey.depthAll]
  omega
def CKeyAt (H : Hp) (a : Addr) (k : Bool × Ky) : Prop := ∃ ka, H a = some (.tup [.bl k.1, .ref ka]) ∧ KeyAt H ka k.2
def tC' : KT (Bool × Ky) := ⟨nkC, CKeyAt, nkC_inj, fun ⟨ka, h1, h2⟩ => .tup h1 (.cons (.bl _) (.cons h2.isK .nil)), depth_nkC, fun s ⟨ka, h1, h2⟩ => ⟨ka, s _ _ h1, h2.tp s⟩⟩
/-- any dict by keys, sorted -/
theorem DG.sort {H : Hp} {d : Addr} {D : List (Ky × V)} (h : DG tK H d D) : ∃ (ep : Nat) (bs : List KEnt), DictX H d ep (bs.map entK) ∧ (∀ b ∈ bs, KeyAt H b.2.1 b.1) ∧
    ∀ (ys : List KEnt), ys.Perm bs → (ys.map (·.1)).Pairwise (fun a b => SctBook.keyBefore a b = true) → F2 (KeyR H) (ys.map fun b => .ref b.2.1) ((D.map (·.1)).mergeSort kLe) := by
  have hn := h.nodup
  obtain ⟨ep, xs, h1, h2, h3⟩ := h
  refine ⟨ep, xs, h1, h2, fun ys pm pw => ?_⟩
  have e1 : xs.map (·.1) = D.map (·.1) := by
    have := congrArg (List.map (·.1)) h3
    rw [List.map_map] at this
    exact this
  have e : (D.map (·.1)).mergeSort kLe = ys.map (·.1) := by
    have h4 : ((D.map (·.1)).mergeSort kLe).Perm (ys.map (·.1)) := (List.mergeSort_perm _ _).trans (e1 ▸ (pm.map (·.1)).symm)
    have h5 := sorted_strict (fun k : Ky => k) (D.map (fun b => b.1)) (by rw [List.map_id']; exact hn)
    exact sorted_one (fun k : Ky => k) h4 h5 pw
  rw [e]
  have : ∀ zs : List KEnt, (∀ y ∈ zs, KeyAt H y.2.1 y.1) → F2 (KeyR H) (zs.map fun x => V.ref x.2.1) (zs.map (·.1)) := by
    intro zs hy
    induction zs with
    | nil => exact .nil
    | cons y zs ih => exact .cons ⟨y.2.1, rfl, hy y List.mem_cons_self⟩ (ih fun z m => hy z (List.mem_cons_of_mem _ m))
  exact this ys fun y m => h2 y (pm.subset m)
/-- a list of books -/
def BookR (H : Hp) (v : V) (B : Bk) : Prop := ∃ d, v = .ref d ∧ BookAt H d B
theorem DG.getB {H : Hp} {d : Addr} {B : Bk} (h : BookAt H d B) (k : Ky) : ∃ (ep : Nat) (xs : List Ent), DictX H d ep xs ∧ valX xs (kk k) = (lookG B k).map V.int := by
  obtain ⟨ep, xs, h1, h2⟩ := DG.gets h k
  exact ⟨ep, xs, h1, by rw [← look_vB]; exact h2⟩
theorem mSigned_len {s : Nat} {k : Ky} {n : Int} (h : FactOk k n) : (mSigned s k n).length ≤ 100 := by
  have h1 := h.fst
  have h2 := h.snd
  have h3 := amountText_len (n := n.toNat) (by have := h.big; omega)
  have h4 := mThing_len k.1 n
  unfold mSigned
  split
  · rw [List.length_append, List.length_append]; simp only [List.length_cons, List.length_nil]; omega
  · simp only [List.length_append, List.length_cons, List.length_nil]; omega
end Fb
namespace Fb
open PySem PySem.Spec PyProof.Rows L2
/-- an if whose test is known beforehand -/
theorem ifS_by {c : TT} {t u : TS} {D : Ends} {σ : L2.St} {H : Hp} (b : Bool) (hc : ∀ N : Bool → Hp → Prop, (∀ H', Same H H' → N b H') → c σ H N) (h : ∀ H', Same H H' → if b = true then t D σ H' else u D σ H') : tIfS c t u D σ H := hc _ fun H' s => h H' s
end Fb
namespace Fb
theorem changeText_len {c : Chg} (h : ChgOk c) : (mChangeText c).length ≤ 200 * (c.going.length + c.coming.length) := by
  have hsub := subjects_len [c.going, c.coming]
  simp only [List.map_cons, List.map_nil, List.foldr_cons, List.foldr_nil, Nat.add_zero] at hsub
  have h1 : ∀ k, (chunk 45 c.going k).length ≤ 100 := fun k => by
    cases e1 : lookG c.going k with
    | none => rw [chunk_none e1]; simp
    | some n => rw [chunk_some e1]; exact mSigned_len (h.going.each _ (look_mem0 e1))
  have h2 : ∀ k, (chunk 43 c.coming k).length ≤ 100 := fun k => by
    cases e1 : lookG c.coming k with
    | none => rw [chunk_none e1]; simp
    | some n => rw [chunk_some e1]; exact mSigned_len (h.coming.each _ (look_mem0 e1))
  have h3 := flat_len (fun k => chunk 45 c.going k ++ chunk 43 c.coming k) 200 (subjectsB [c.going, c.coming]) fun k _ => by
    rw [List.length_append]
    have := h1 k
    have := h2 k
    omega
  unfold mChangeText
  omega
end Fb
end
section
/-! A list of whole numbers as calls. -/
namespace Fb
open SctBook
theorem shape_cases {c : Int} {n k : Nat} (h : PyWrsctf.shape c = some (n, k)) :
    (c = 1 ∧ n = 0 ∧ k = 1) ∨ (c = 2 ∧ n = 0 ∧ k = 1) ∨ (c = 3 ∧ n = 1 ∧ k = 0) ∨ (c = 4 ∧ n = 1 ∧ k = 0) ∨ (c = 5 ∧ n = 2 ∧ k = 0) ∨ (c = 6 ∧ n = 2 ∧ k = 0) ∨ (c = 7 ∧ n = 1 ∧ k = 1) ∨ (c = 8 ∧ n = 0 ∧ k = 1) ∨ (c = 9 ∧ n = 3 ∧ k = 0) ∨
    (c = 10 ∧ n = 1 ∧ k = 2) ∨ (c = 11 ∧ n = 1 ∧ k = 1) ∨ (c = 12 ∧ n = 1 ∧ k = 1) ∨ (c = 13 ∧ n = 1 ∧ k = 1) ∨ (c = 14 ∧ n = 1 ∧ k = 0) := by
  unfold PyWrsctf.shape at h
  by_cases h1 : c = 1
  · rw [if_pos h1] at h
    cases h
    exact .inl ⟨h1, rfl, rfl⟩
  rw [if_neg h1] at h
  by_cases h2 : c = 2
  · rw [if_pos h2] at h
    cases h
    exact .inr (.inl ⟨h2, rfl, rfl⟩)
  rw [if_neg h2] at h
  by_cases h3 : c = 3
  · rw [if_pos h3] at h
    cases h
    exact .inr (.inr (.inl ⟨h3, rfl, rfl⟩))
  rw [if_neg h3] at h
  by_cases h4 : c = 4
  · rw [if_pos h4] at h
    cases h
    exact .inr (.inr (.inr (.inl ⟨h4, rfl, rfl⟩)))
  rw [if_neg h4] at h
  by_cases h5 : c = 5
  · rw [if_pos h5] at h
    cases h
    exact .inr (.inr (.inr (.inr (.inl ⟨h5, rfl, rfl⟩))))
  rw [if_neg h5] at h
  by_cases h6 : c = 6
  · rw [if_pos h6] at h
    cases h
    exact .inr (.inr (.inr (.inr (.inr (.inl ⟨h6, rfl, rfl⟩)))))
  rw [if_neg h6] at h
  by_cases h7 : c = 7
  · rw [if_pos h7] at h
    cases h
    exact .inr (.inr (.inr (.inr (.inr (.inr (.inl ⟨h7, rfl, rfl⟩))))))
  rw [if_neg h7] at h
  by_cases h8 : c = 8
  · rw [if_pos h8] at h
    cases h
    exact .inr (.inr (.inr (.inr (.inr (.inr (.inr (.inl ⟨h8, rfl, rfl⟩)))))))
  rw [if_neg h8] at h
  by_cases h9 : c = 9
  · rw [if_pos h9] at h
    cases h
    exact .inr (.inr (.inr (.inr (.inr (.inr (.inr (.inr (.inl ⟨h9, rfl, rfl⟩))))))))
  rw [if_neg h9] at h
  by_cases h10 : c = 10
  · rw [if_pos h10] at h
    cases h
    exact .inr (.inr (.inr (.inr (.inr (.inr (.inr (.inr (.inr (.inl ⟨h10, rfl, rfl⟩)))))))))
  rw [if_neg h10] at h
  by_cases h11 : c = 11
  · rw [if_pos h11] at h
    cases h
    exact .inr (.inr (.inr (.inr (.inr (.inr (.inr (.inr (.inr (.inr (.inl ⟨h11, rfl, rfl⟩))))))))))
  rw [if_neg h11] at h
  by_cases h12 : c = 12
  · rw [if_pos h12] at h
    cases h
    exact .inr (.inr (.inr (.inr (.inr (.inr (.inr (.inr (.inr (.inr (.inr (.inl ⟨h12, rfl, rfl⟩)))))))))))
  rw [if_neg h12] at h
  by_cases h13 : c = 13
  · rw [if_pos h13] at h
    cases h
    exact .inr (.inr (.inr (.inr (.inr (.inr (.inr (.inr (.inr (.inr (.inr (.inr (.inl ⟨h13, rfl, rfl⟩))))))))))))
  rw [if_neg h13] at h
  by_cases h14 : c = 14
  · rw [if_pos h14] at h
    cases h
    exact .inr (.inr (.inr (.inr (.inr (.inr (.inr (.inr (.inr (.inr (.inr (.inr (.inr (⟨h14, rfl, rfl⟩)))))))))))))
  rw [if_neg h14] at h
  cases h
/-- the calls played on the mirror -/
def mPlay : Sh → List (List (List Int)) → List (List Int)
  | S, ((c :: ns) :: rows) :: r => (mStep S c ns (rows.map fun z => z.map Int.toNat)).2 :: mPlay (mStep S c ns (rows.map fun z => z.map Int.toNat)).1 r
  | _, _ => []
/-- bytes, not too many -/
def RowOk (z : List Int) : Prop := z.length ≤ 4100 ∧ ∀ x ∈ z, 0 ≤ x
theorem flat_call {l : List Int} {c : List (List Int)} {t : List Int} (h : PyFlat.call PyWrsctf.shape l = some (c, t)) : ∃ pc r n k xs, l = pc :: r ∧ PyWrsctf.shape pc = some (n, k) ∧ n ≤ r.length ∧ PyFlat.rows k (r.drop n) = some (xs, t) ∧ c = (pc :: r.take n) :: xs := by
  unfold PyFlat.call at h
  split at h
  · cases h
  · rename_i pc r
    split at h
    · cases h
    · rename_i n k e
      split at h
      · cases h
      · rename_i hl
        split at h
        · cases h
        · rename_i xs t' e2
          cases h
          exact ⟨pc, r, n, k, xs, rfl, e, by omega, e2, rfl⟩
theorem flat_row {l x s : List Int} (h : PyFlat.row l = some (x, s)) : ∃ n r, l = n :: r ∧ 0 ≤ n ∧ n.toNat ≤ r.length ∧ x = r.take n.toNat ∧ s = r.drop n.toNat := by
  unfold PyFlat.row at h
  split at h
  · cases h
  · rename_i n r
    split at h
    · rename_i c
      cases h
      exact ⟨n, r, rfl, c.1, c.2, rfl, rfl⟩
    · cases h
theorem flat_rows {k : Nat} {l : List Int} {xs : List (List Int)} {t : List Int} (h : PyFlat.rows (k + 1) l = some (xs, t)) : ∃ x s ys, PyFlat.row l = some (x, s) ∧ PyFlat.rows k s = some (ys, t) ∧ xs = x :: ys := by
  unfold PyFlat.rows at h
  split at h
  · cases h
  · rename_i x s e
    split at h
    · cases h
    · rename_i ys t' e2
      cases h
      exact ⟨x, s, ys, e, e2, rfl⟩
theorem flat_rows0 {l : List Int} {xs : List (List Int)} {t : List Int} (h : PyFlat.rows 0 l = some (xs, t)) : xs = [] ∧ t = l := by
  unfold PyFlat.rows at h
  cases h
  exact ⟨rfl, rfl⟩
theorem flat_rows_len {t : List Int} : ∀ {k : Nat} {l : List Int} {xs : List (List Int)}, PyFlat.rows k l = some (xs, t) → xs.length = k
  | 0, l, xs, h => by rw [(flat_rows0 h).1]; rfl
  | k + 1, l, xs, h => by
    obtain ⟨x, s, ys, e1, e2, rfl⟩ := flat_rows h
    rw [List.length_cons, flat_rows_len e2]
theorem flat_calls {f : Nat} {l : List Int} {cs : List (List (List Int))} (h : PyFlat.calls PyWrsctf.shape f l = some cs) : (l = [] ∧ cs = []) ∨ ∃ f' c t cs', f = f' + 1 ∧ l ≠ [] ∧ PyFlat.call PyWrsctf.shape l = some (c, t) ∧ PyFlat.calls PyWrsctf.shape f' t = some cs' ∧ cs = c :: cs' := by
  unfold PyFlat.calls at h
  split at h
  · cases h
    exact .inl ⟨rfl, rfl⟩
  · cases h
  · rename_i f' p r
    split at h
    · cases h
    · rename_i c t e
      split at h
      · cases h
      · rename_i cs' e2
        cases h
        exact .inr ⟨f', c, t, cs', rfl, by simp, e, e2, rfl⟩
end Fb
end
section
set_option Elab.async false
set_option maxRecDepth 100000
set_option maxHeartbeats 4000000
/-! The shelf and the reader over the heap. -/
namespace Fb
open PySem PySem.Spec PyProof.Rows L2
theorem mLong_err {β : Type} {T : List Nat} {r : Mi β} {ans : List Int} (e : mIf (decide (T.length > 4000)) (-1) = .error ans) : mLong T r = .error ans := by
  obtain ⟨c, rfl⟩ := mIf_err e
  unfold mLong
  rw [if_pos (of_decide_eq_true c)]
theorem mLong_ok {β : Type} {T : List Nat} {r : Mi β} {u : Unit} (e : mIf (decide (T.length > 4000)) (-1) = .ok u) : mLong T r = r := by
  unfold mLong
  rw [if_neg (of_decide_eq_false (mIf_ok e))]
theorem mBelow_err {β : Type} {v : Int} {r : Mi β} {ans : List Int} (e : mIf (decide (v < 0)) (-1) = .error ans) : mBelow v r = .error ans := by
  obtain ⟨c, rfl⟩ := mIf_err e
  unfold mBelow
  rw [if_pos (of_decide_eq_true c)]
theorem mBelow_ok {β : Type} {v : Int} {r : Mi β} {u : Unit} (e : mIf (decide (v < 0)) (-1) = .ok u) : mBelow v r = r ∧ 0 ≤ v := by
  have h := of_decide_eq_false (mIf_ok e)
  unfold mBelow
  rw [if_neg h]
  exact ⟨rfl, by omega⟩
theorem mNamed_err {β : Type} {T : List Nat} {r : Mi β} {ans : List Int} (e : mIf (!mIsName T) (-1) = .error ans) : mNamed T r = .error ans := by
  obtain ⟨c, rfl⟩ := mIf_err e
  unfold mNamed
  rw [if_pos (by simpa using c)]
theorem mNamed_ok {β : Type} {T : List Nat} {r : Mi β} {u : Unit} (e : mIf (!mIsName T) (-1) = .ok u) : mNamed T r = r ∧ mIsName T = true := by
  have h := mIf_ok e
  have h' : mIsName T = true := by simpa using h
  unfold mNamed
  rw [if_neg (by rw [h']; exact Bool.noConfusion)]
  exact ⟨rfl, h'⟩
theorem mIsName_len {T : List Nat} (h : mIsName T = true) : T.length ≤ 16 := by
  unfold mIsName at h
  rw [Bool.and_eq_true, Bool.and_eq_true] at h
  exact of_decide_eq_true h.2.1
theorem asInts_vn (T : List Nat) : (asInts T).map V.int = vn T := by
  unfold asInts vn
  rw [List.map_map]
  rfl
/-- an answer: a new list -/
def AnsP (H : Hp) (ans : List Int) (v : V) (H' : Hp) : Prop := ∃ p, v = .ref p ∧ H p = none ∧ H' p = some (.lst (ans.map V.int))
theorem AnsP.sub {H H1 : Hp} {ans : List Int} {v : V} {H' : Hp} (s : Same H H1) (h : AnsP H1 ans v H') : AnsP H ans v H' := let ⟨p, e, h1, h2⟩ := h; ⟨p, e, none_of s h1, h2⟩
/-- all but one object stays -/
def But (L : Addr) (H H' : Hp) : Prop := ∀ b o, b ≠ L → H b = some o → H' b = some o
theorem But.of {L : Addr} {H H' : Hp} (s : Same H H') : But L H H' := fun b o _ e => s b o e
theorem But.pre {L : Addr} {H H1 H' : Hp} (s : Same H H1) (h : But L H1 H') : But L H H' := fun b o n e => h b o n (s b o e)
def ShelfAt (K : PySem.W.Frag) (H : Hp) (a L : Addr) (S : Sh) : Prop := ∃ dx vs, H a = some (.ins (He.ga K "Shelf") dx [("versions", .ref L)]) ∧ H L = some (.lst vs) ∧ F2 (BookR H) vs S
theorem BookR.same {H H' : Hp} {v : V} {B : Bk} (s : Same H H') (h : BookR H v B) : BookR H' v B := let ⟨d, e, h⟩ := h; ⟨d, e, h.same s⟩
theorem ShelfAt.same {K : PySem.W.Frag} {H H' : Hp} {a L : Addr} {S : Sh} (h : ShelfAt K H a L S) (s : Same H H') : ShelfAt K H' a L S := by
  obtain ⟨dx, vs, h1, h2, h3⟩ := h
  exact ⟨dx, vs, s _ _ h1, s _ _ h2, h3.imp fun _ _ q => q.same s⟩
/-- something that no shelf has is changed -/
theorem BookR.frame {H H' : Hp} {v : V} {B : Bk} (tp : Tp H H') (hx : ∀ b f, H b = some (.ext f) → H' b = some (.ext f)) (h : BookR H v B) : BookR H' v B := by
  obtain ⟨d, e, h⟩ := h
  obtain ⟨f, hf⟩ := DG.at_ h
  exact ⟨d, e, DG.frame (t := tK) h tp (by rw [hf, hx _ _ hf])⟩
theorem ShelfAt.ins {K : PySem.W.Frag} {H : Hp} {a L r C dx : Addr} {fs fs' : List (Str × V)} {S : Sh} (h : ShelfAt K H a L S) (hr : H r = some (.ins C dx fs)) (ne : r ≠ a) : ShelfAt K (upd H r (.ins C dx fs')) a L S := by
  obtain ⟨dx', vs, h1, h2, h3⟩ := h
  have n2 : L ≠ r := fun e => by rw [e, hr] at h2; cases h2
  refine ⟨dx', vs, by rw [upd_ne (Ne.symm ne)]; exact h1, by rw [upd_ne n2]; exact h2, h3.imp fun _ _ q => q.frame (fun b xs e => ?_) fun b f e => ?_⟩
  · rw [upd_ne (fun z => by rw [z, hr] at e; cases e)]; exact e
  · rw [upd_ne (fun z => by rw [z, hr] at e; cases e)]; exact e
theorem ShelfAt.lst {K : PySem.W.Frag} {H : Hp} {a L r : Addr} {us : List V} {o : HO} {S : Sh} (h : ShelfAt K H a L S) (hr : H r = some (.lst us)) (ne : r ≠ L) : ShelfAt K (upd H r o) a L S := by
  obtain ⟨dx', vs, h1, h2, h3⟩ := h
  have n2 : a ≠ r := fun e => by rw [e, hr] at h1; cases h1
  refine ⟨dx', vs, by rw [upd_ne n2]; exact h1, by rw [upd_ne (Ne.symm ne)]; exact h2, h3.imp fun _ _ q => q.frame (fun b xs e => ?_) fun b f e => ?_⟩
  · rw [upd_ne (fun z => by rw [z, hr] at e; cases e)]; exact e
  · rw [upd_ne (fun z => by rw [z, hr] at e; cases e)]; exact e
/-- what a call leaves: the shelf, an answer -/
def CallP (K : PySem.W.Frag) (H : Hp) (a L : Addr) (r : Sh × List Int) (v : V) (H' : Hp) : Prop := But L H H' ∧ ShelfAt K H' a L r.1 ∧ AnsP H r.2 v H'
/-- .. a call that may raise: what it raises leaves the shelf -/
structure RetC (K : PySem.W.Frag) (Q : VK) (E : XK) (H : Hp) (a L : Addr) (r : Mi (Sh × List Int)) : Prop where
  ok : ∀ b, r = .ok b → ∀ v H', CallP K H a L b v H' → Q v H'
  err : ∀ ans, r = .error ans → ∀ d H', Same H H' → RefAt H H' d ans → E (.ref (He.ga K "Refusal")) (some d) H'
theorem RetC.sub {α : Type} {K : PySem.W.Frag} {Q Q' : VK} {E : XK} {H H1 : Hp} {a L : Addr} {r : Mi (Sh × List Int)} {r' : Mi α} {post' : α → V → Hp → Prop} (R : RetC K Q E H a L r) (s : Same H H1) (he : ∀ ans, r' = .error ans → r = .error ans)
    (ok : ∀ a, r' = .ok a → ∀ v H2, Same H1 H2 → post' a v H2 → Q' v H2) : Ret K Q' E H1 post' r' :=
  ⟨ok, fun ans e d H2 s2 ra => R.err ans (he ans e) d H2 (Same.trans' s s2) (ra.pre s)⟩
theorem RetC.last {K : PySem.W.Frag} {Q : VK} {E : XK} {H H1 : Hp} {a L : Addr} {r : Mi (Sh × List Int)} (R : RetC K Q E H a L r) (s : Same H H1) : RetC K Q E H1 a L r :=
  ⟨fun b e v H' ⟨h1, h2, h3⟩ => R.ok b e v H' ⟨But.pre s h1, h2, h3.sub s⟩, fun ans e d H2 s2 ra => R.err ans e d H2 (Same.trans' s s2) (ra.pre s)⟩
def ReaderAt (K : PySem.W.Frag) (H : Hp) (r c : Addr) (zs : List Int) (p : Nat) : Prop := ∃ dx, H r = some (.ins (He.ga K "Reader") dx [("calls", .ref c), ("at", .int (p : Nat))]) ∧ SqL K H c (zs.map V.int)
end Fb
namespace Fb
open PySem PySem.Spec PyProof.Rows L2
theorem nuMin3_int (a v w : Int) : nuMin3 (.int a) (.int v) (.int w) = some (.int (min (min a v) w)) := by
  have h2 : ∀ i j : Int, nuMin2 (.int i) (.int j) = some (.int (min i j)) := fun i j => by
    unfold nuMin2 nuLt
    show some (if decide (j < i) = true then V.int j else V.int i) = _
    by_cases h : j < i
    · rw [if_pos (decide_eq_true h)]
      congr 2
      omega
    · rw [if_neg (by simpa using h)]
      congr 2
      omega
  unfold nuMin3
  rw [h2]
  exact h2 _ _
theorem mNames_len {l : List Nm} (h : ∀ x ∈ l, x.length ≤ 16) : (mNames l).length ≤ 17 * l.length := flat_len (fun x : Nm => x ++ [10]) 17 l fun x m => by
  have := h x m
  simp only [List.length_append, List.length_cons, List.length_nil]
  omega
theorem mText_len {B : Bk} (h : BookOk B) : (mText B).length ≤ 100 * B.length := by
  have := flat_len (fun k => mFact k (saidB B k)) 100 (keysOfB B) fun x m => by
    obtain ⟨n2, _, hs2, hok2⟩ := h.said (keys_mem.mp m)
    show (mFact x (saidB B x)).length ≤ 100
    rw [hs2]
    exact mFact_len hok2
  rw [keys_length] at this
  exact this
theorem mParts_len {B : Bk} (h : BookOk B) (x : Nm) : (mParts B x).length ≤ 100 * B.length := by
  have := flat_len (fun k => mFact k (saidB B k)) 100 ((keysOfB B).filter fun k => decide (k.1 = x) && !decide (k.2 = [])) fun x m => by
    obtain ⟨n2, _, hs2, hok2⟩ := h.said (keys_mem.mp (List.mem_filter.mp m).1)
    show (mFact x (saidB B x)).length ≤ 100
    rw [hs2]
    exact mFact_len hok2
  have h2 : ((keysOfB B).filter fun k => decide (k.1 = x) && !decide (k.2 = [])).length ≤ (keysOfB B).length := List.length_filter_le _ _
  rw [keys_length] at h2
  unfold mParts
  omega
theorem mSubjects_len {l : List Ky} (h : ∀ k ∈ l, k.1.length ≤ 16 ∧ k.2.length ≤ 16) : (mSubjects l).length ≤ 40 * l.length := flat_len (fun k : Ky => k.1 ++ ((if k.2 = [] then [] else [46] ++ k.2) ++ [10])) 40 l fun k m => by
  obtain ⟨h1, h2⟩ := h k m
  rw [List.length_append, List.length_append]
  split
  · simp only [List.length_nil, List.length_cons]; omega
  · simp only [List.length_append, List.length_nil, List.length_cons]; omega
/-- [0] + text -/
theorem zero_cat {Q : VK} {E : XK} {K : PySem.W.Frag} {H H3 : Hp} {z p : Addr} {t : List Nat} {n : Nat} {r : Mi (List Int)} (R : Ret K Q E H (AnsP H) r) (s : Same H H3) (hz : H3 z = some (.lst [V.int (n : Nat)])) (hp : H3 p = some (.lst (vn t))) (hl : t.length ≤ 15000000) (e : r = .ok ((n : Int) :: asInts t)) : rCat (.ref z) (.ref p) H3 Q :=
  cat_ok (x := [n]) hz hp (by simp only [List.length_cons, List.length_nil]; omega) fun q hq => R.done e (Same.trans' s (Same.new hq)) ⟨q, rfl, none_of s hq, by rw [upd_same, List.map_cons, asInts_vn]; rfl⟩
end Fb
namespace Fb
open PySem PySem.Spec PyProof.Rows L2
/-- a call that leaves the shelf as it is -/
theorem RetC.still {K : PySem.W.Frag} {Q : VK} {E : XK} {H : Hp} {a L : Addr} {S : Sh} {r : Mi (List Int)} (R : RetC K Q E H a L (still S r)) (hS : ShelfAt K H a L S) : Ret K Q E H (AnsP H) r :=
  ⟨fun b e v H' s h => R.ok (S, b) (by rw [e]; rfl) v H' ⟨But.of s, hS.same s, h⟩, fun ans e d H' s ra => R.err ans (by rw [e]; rfl) d H' s ra⟩
/-- the rows of a call -/
def TextR (H : Hp) (v : V) (T : List Nat) : Prop := ∃ a, v = .ref a ∧ TextAt H a T
theorem inV_ints (c : Int) : ∀ l : List Int, inV (.int c) (l.map V.int) = l.any fun y => y == c
  | [] => rfl
  | y :: l => by
    have ih := inV_ints c l
    unfold inV at *
    rw [List.map_cons, List.any_cons, List.any_cons, ih]
    rfl
theorem SqL.but {K : PySem.W.Frag} {H H' : Hp} {c r : Addr} {xs : List V} {C dx : Addr} {fs : List (Str × V)} (b : But r H H') (hr : H r = some (.ins C dx fs)) (h : SqL K H c xs) : SqL K H' c xs := by
  have ne : ∀ o, H c = some o → (∀ C dx fs, o ≠ .ins C dx fs) → c ≠ r := fun o e n q => by
    rw [q, hr] at e
    cases e
    exact n _ _ _ rfl
  rcases h with h | h
  · rcases h with h | ⟨o, h⟩
    · exact .inl (.inl (b _ _ (ne _ h fun _ _ _ e => nomatch e) h))
    · exact .inl (.inr ⟨o, b _ _ (ne _ h fun _ _ _ e => nomatch e) h⟩)
  · exact .inr h
theorem ShelfAt.but {K : PySem.W.Frag} {H H' : Hp} {a L r C dx : Addr} {fs : List (Str × V)} {S : Sh} (h : ShelfAt K H a L S) (hr : H r = some (.ins C dx fs)) (ne : r ≠ a) (b : But r H H') : ShelfAt K H' a L S := by
  obtain ⟨dx', vs, h1, h2, h3⟩ := h
  refine ⟨dx', vs, b _ _ (Ne.symm ne) h1, b _ _ (fun e => by rw [e, hr] at h2; cases h2) h2, h3.imp fun _ _ q => q.frame (fun b' xs e => b _ _ (fun z => by rw [z, hr] at e; cases e) e) fun b' f e => b _ _ (fun z => by rw [z, hr] at e; cases e) e⟩
theorem But.trans {L : Addr} {H H1 H2 : Hp} (a : But L H H1) (b : But L H1 H2) : But L H H2 := fun x o n e => b x o n (a x o n e)
theorem But.upd {r : Addr} {H : Hp} {o : HO} : But r H (upd H r o) := fun b v n e => by rw [upd_ne n]; exact e
theorem But.new {r p : Addr} {H : Hp} {o : HO} (h : H p = none) : But r H (L2.upd H p o) := But.of (Same.new h)
end Fb
namespace Fb
open PySem PySem.Spec PyProof.Rows L2
theorem pe_gdS {X : Cx} {CX : CXT} {j k : Nat} {ps : List Str} {sp : Sp} {E : L2.St → XK} {x : Str} {p pos : Pos} {e : Expr} {es : List Expr} {t : TA} (G : Gd X.prog X.w X.K X.mg X.base CX k x ps sp) (hr : Room j X.A) (hx : ∀ σ, PassesAt CX X σ (E σ)) (ha : PA X (e :: es) t) (hj : k ≤ j := by decide) (hg : Gl X x := by rfl) (hdb : (x == ("__debug__" : Str)) = false := by decide)
    (he : starEach (e :: es) X.env = (false, eval e X.env) :: starEach es X.env := by rfl) (hpl : (backTo pos (starEach es X.env)).any (·.1) = false := by rfl) : PE X (.Call (.Name x p) (e :: es) [] pos) (tCallS sp E t) := by
  obtain ⟨f, fd, F, b, g, kp⟩ := G.ex
  exact pe_callS F (hr.mono hj) hg g kp b hx ha hdb he hpl
end Fb
namespace Fb
open PySem PySem.Spec PyProof.Rows L2
theorem cut_list (zs : List Int) {p q : Nat} (h : p ≤ q) (hq : q ≤ zs.length) : cutV (zs.map V.int) (some (p : Int)) (some (q : Int)) = ((zs.drop p).take (q - p)).map V.int := by
  have a : ∀ n d j : Nat, HT.sIx n d (some (j : Int)) = min j n := fun n d j => by
    unfold HT.sIx
    simp only []
    by_cases h : (j : Int) < 0
    · omega
    · simp only [h, if_false]
      omega
  unfold cutV
  rw [a, a, List.length_map, Nat.min_eq_left hq, Nat.min_eq_left (Nat.le_trans h hq), List.map_take, List.map_drop]
end Fb
namespace Fb
open PySem PySem.Spec PyProof.Rows L2
/-- the argument stays, whatever a list of ours does -/
theorem sqL_lst {K : PySem.W.Frag} {H H2 : Hp} {c N : Addr} {xs : List V} {o : HO} (h : SqL K H c xs) (b : ∀ x, H c = some x → (∀ C dx fs, x ≠ .ins C dx fs) → H2 c = some x) (hN : H N = none) : SqL K (upd H2 N o) c xs := by
  rcases h with h | h
  · rcases h with h | ⟨o', h⟩
    · exact .inl (.inl (by rw [upd_ne (ne_of_none h hN)]; exact b _ h fun _ _ _ e => nomatch e))
    · exact .inl (.inr ⟨o', by rw [upd_ne (ne_of_none h hN)]; exact b _ h fun _ _ _ e => nomatch e⟩)
  · exact .inr h
theorem row_vn {z : List Int} (h : RowOk z) : some (HO.lst (z.map V.int)) = some (HO.lst (vn (z.map Int.toNat))) := by
  congr 2
  unfold vn
  rw [List.map_map]
  refine List.map_congr_left fun x m => ?_
  show V.int x = V.int ((x.toNat : Nat) : Int)
  congr 1
  have := h.2 x m
  omega
end Fb
namespace Fb
open PySem PySem.Spec PyProof.Rows L2
theorem len2 {α : Type} {l : List α} (h : l.length = 2) : ∃ a b, l = [a, b] := by
  match l, h with
  | [a, b], _ => exact ⟨a, b, rfl⟩
theorem len3 {α : Type} {l : List α} (h : l.length = 3) : ∃ a b c, l = [a, b, c] := by
  match l, h with
  | [a, b, c], _ => exact ⟨a, b, c, rfl⟩
theorem sqL_same {K : PySem.W.Frag} {H H' : Hp} {c : Addr} {xs : List V} (s : Same H H') (h : SqL K H c xs) : SqL K H' c xs := by
  rcases h with h | h
  · rcases h with h | ⟨o, h⟩
    · exact .inl (.inl (s _ _ h))
    · exact .inl (.inr ⟨o, s _ _ h⟩)
  · exact .inr h
end Fb
end
section
set_option Elab.async false
set_option maxRecDepth 100000
set_option maxHeartbeats 4000000
namespace Fb
open PySem PySem.Spec PyProof.Rows L2
section
variable {P : Program} {w : World} {K : PySem.W.Frag} {mg : Str → Option Value} {base : Heap}
abbrev nm_byte_at : List Str := ["text", "at"]
theorem sc_byte_at : FnScope nm_byte_at ["text", "at"] (defScope s_byte_at) := ⟨rfl, rfl, rfl, by decide +kernel, rfl, by decide +kernel, by decide +kernel⟩
/-- byte_at(text, at) -/
def sp_byte_at (K : PySem.W.Frag) : Sp := fun vs H Q _ => ∃ (a : Addr) (T : List Nat) (p : Nat), vs = [.ref a, .int p] ∧ H a = some (.lst (vn T)) ∧ Q (.int (byteAt T p)) H
theorem good_byte_at (T : Tx K mg) : Gd P w K mg base CX0 1 "byte_at" ["text", "at"] (sp_byte_at K) := by
  obtain ⟨fd, F⟩ := T.f_byte_at
  refine ⟨_, fd, fn0 F sc_byte_at (fun vs H Q E h => ?_) (fun cdv A outer s H vs Q E hr h => ⟨_, (pss_cons (ps_if (pt_cmpR op_lt (pv 1) (pe_callB call_len_seq (by rfl) T.b_len PySem.boot_len (pa_cons (pv 0) pa_nil)) (nomark _)) (pss_one (ps_ret (pe_ix ix_list (pv 0) (pv 1) (fun _ _ => rfl)))) pss_nil)
      (pss_one (ps_ret (pe_un un_neg pe_int)))), ?_⟩), F.bindsN (fun _ _ _ _ _ _ us hl => match us, hl with | [_, _], _ => rfl), T.g_byte_at, F.kp⟩
  · obtain ⟨_, _, _, e, _⟩ := h
    subst e
    rfl
  · obtain ⟨a, T', p, rfl, ha, q⟩ := h
    have hl : (vn T').length = T'.length := vn_length T'
    refine ⟨_, rfl, _, rfl, a, _, rfl, .inl (SqL.of ha), _, _, rfl, rfl, _, rfl, if_b (fun c => ?_) fun c => ?_⟩
    · have c' : p < T'.length := by have := of_decide_eq_true c; omega
      refine ⟨_, rfl, _, rfl, a, _, _, _, rfl, rfl, SqL.of ha, atI_nat (by rw [vn, List.getElem?_map, List.getElem?_eq_getElem c']; rfl), ?_⟩
      have e : byteAt T' p = T'[p] := by unfold byteAt; rw [List.getElem?_eq_getElem c']
      rw [e] at q
      exact q
    · have c' : T'.length ≤ p := by have := of_decide_eq_false c; omega
      refine ⟨_, rfl, ?_⟩
      have e : byteAt T' p = -1 := by unfold byteAt; rw [List.getElem?_eq_none c']
      rw [e] at q
      exact q
abbrev nm_is_letter : List Str := ["byte"]
theorem sc_is_letter : FnScope nm_is_letter ["byte"] (defScope s_is_letter) := ⟨rfl, rfl, rfl, by decide +kernel, rfl, by decide +kernel, by decide +kernel⟩
def sp_is_letter (K : PySem.W.Frag) : Sp := fun vs H Q _ => ∃ (b : Int), vs = [.int b] ∧ Q (.bl (letterI b)) H
theorem good_is_letter (T : Tx K mg) : Gd P w K mg base CX0 1 "is_letter" ["byte"] (sp_is_letter K) := by
  obtain ⟨fd, F⟩ := T.f_is_letter
  refine ⟨_, fd, fn0 F sc_is_letter (fun vs H Q E h => ?_) (fun cdv A outer s H vs Q E hr h => ⟨_, (pss_one (ps_ret (pe_chain op_le op_le pe_int (pv 0) pe_int))), ?_⟩), F.bindsN (fun _ _ _ _ _ _ us hl => match us, hl with | [_], _ => rfl), T.g_is_letter, F.kp⟩
  · obtain ⟨_, e, _⟩ := h
    subst e
    rfl
  · obtain ⟨b, rfl, q⟩ := h
    unfold letterI at q
    refine ⟨_, rfl, _, _, rfl, rfl, _, rfl, if_b (fun c => ?_) fun c => ?_⟩
    · rw [c, Bool.true_and] at q
      exact ⟨_, _, rfl, rfl, q⟩
    · rw [c, Bool.false_and] at q
      exact q
abbrev nm_is_digit : List Str := ["byte"]
theorem sc_is_digit : FnScope nm_is_digit ["byte"] (defScope s_is_digit) := ⟨rfl, rfl, rfl, by decide +kernel, rfl, by decide +kernel, by decide +kernel⟩
def sp_is_digit (K : PySem.W.Frag) : Sp := fun vs H Q _ => ∃ (b : Int), vs = [.int b] ∧ Q (.bl (digitI b)) H
theorem good_is_digit (T : Tx K mg) : Gd P w K mg base CX0 1 "is_digit" ["byte"] (sp_is_digit K) := by
  obtain ⟨fd, F⟩ := T.f_is_digit
  refine ⟨_, fd, fn0 F sc_is_digit (fun vs H Q E h => ?_) (fun cdv A outer s H vs Q E hr h => ⟨_, (pss_one (ps_ret (pe_chain op_le op_le pe_int (pv 0) pe_int))), ?_⟩), F.bindsN (fun _ _ _ _ _ _ us hl => match us, hl with | [_], _ => rfl), T.g_is_digit, F.kp⟩
  · obtain ⟨_, e, _⟩ := h
    subst e
    rfl
  · obtain ⟨b, rfl, q⟩ := h
    unfold digitI at q
    refine ⟨_, rfl, _, _, rfl, rfl, _, rfl, if_b (fun c => ?_) fun c => ?_⟩
    · rw [c, Bool.true_and] at q
      exact ⟨_, _, rfl, rfl, q⟩
    · rw [c, Bool.false_and] at q
      exact q
abbrev nm_is_name_byte : List Str := ["byte"]
theorem sc_is_name_byte : FnScope nm_is_name_byte ["byte"] (defScope s_is_name_byte) := ⟨rfl, rfl, rfl, by decide +kernel, rfl, by decide +kernel, by decide +kernel⟩
def sp_is_name_byte (K : PySem.W.Frag) : Sp := fun vs H Q _ => ∃ (b : Int), vs = [.int b] ∧ Q (.bl (nameI b)) H
theorem good_is_name_byte (T : Tx K mg) : Gd P w K mg base CX0 2 "is_name_byte" ["byte"] (sp_is_name_byte K) := by
  obtain ⟨fd, F⟩ := T.f_is_name_byte
  refine ⟨_, fd, fn0 F sc_is_name_byte (fun vs H Q E h => ?_) (fun cdv A outer s H vs Q E hr h => ⟨_, (pss_one (ps_ret (pe_or (pe_gd (good_is_letter (P := P) (w := w) (base := base) T) hr pass0 (pa_cons (pv 0) pa_nil)) (pe_or (pe_gd (good_is_digit (P := P) (w := w) (base := base) T) hr pass0 (pa_cons (pv 0) pa_nil)) (pe_one (pe_cmpR op_eq (pv 0) (pe_gi T.i_MINUS) (nomark _))))))), ?_⟩), F.bindsN (fun _ _ _ _ _ _ us hl => match us, hl with | [_], _ => rfl), T.g_is_name_byte, F.kp⟩
  · obtain ⟨_, e, _⟩ := h
    subst e
    rfl
  · obtain ⟨b, rfl, q⟩ := h
    unfold nameI at q
    refine ⟨_, rfl, b, rfl, _, rfl, if_b (fun c => ?_) fun c => ?_⟩
    · rw [c, Bool.true_or] at q
      exact q
    rw [c, Bool.false_or] at q
    refine ⟨_, rfl, b, rfl, _, rfl, if_b (fun c => ?_) fun c => ?_⟩
    · rw [c, Bool.true_or] at q
      exact q
    rw [c, Bool.false_or] at q
    refine ⟨_, rfl, rfl, ?_⟩
    have e : decide (V.int b = V.int 45) = decide (b = 45) := by simp
    rw [e]
    exact q
abbrev nm_refuse_if : List Str := ["holds", "number"]
theorem sc_refuse_if : FnScope nm_refuse_if ["holds", "number"] (defScope s_refuse_if) := ⟨rfl, rfl, rfl, by decide +kernel, rfl, by decide +kernel, by decide +kernel⟩
def sp_refuse_if (K : PySem.W.Frag) : Sp := fun vs H Q E => ∃ (b : Bool) (n : Int), vs = [.bl b, .int n] ∧ Ret K Q E H (fun _ v H' => v = .non ∧ H' = H) (mIf b n)
theorem good_refuse_if (T : Tx K mg) : Gd P w K mg base (L2.CX P w) 1 "refuse_if" ["holds", "number"] (sp_refuse_if K) := by
  obtain ⟨fd, F⟩ := T.f_refuse_if
  refine ⟨_, fd, fnX F sc_refuse_if (fun vs H Q E h => ?_) (fun cdv A outer s H vs Q E hr h => ⟨_, (pss_one (ps_if (pt_val (pv 0)) (pss_one (ps_raiseRef rfl T.ref hr (takes_of rfl rfl rfl rfl) (pa_cons (pe_lst (pa_cons (pv 1) pa_nil)) pa_nil))) pss_nil)), ?_⟩), F.bindsN (fun _ _ _ _ _ _ us hl => match us, hl with | [_, _], _ => rfl), T.g_refuse_if, F.kp⟩
  · obtain ⟨_, _, e, _⟩ := h
    subst e
    rfl
  · obtain ⟨b, n, rfl, R⟩ := h
    refine ⟨_, rfl, _, rfl, if_b (fun c => ?_) fun c => ?_⟩
    · refine ⟨_, rfl, fits (by simp), fun l hl => ⟨_, rfl, fun d hd => R.raised (ans := [n]) (by unfold mIf; rw [if_pos c]) rfl (Same.refl H) hl hd⟩⟩
    · exact R.done (b := ()) (by unfold mIf; rw [c]; rfl) (Same.refl H) ⟨rfl, rfl⟩
abbrev nm_refuse_at : List Str := ["kind", "place"]
theorem sc_refuse_at : FnScope nm_refuse_at ["kind", "place"] (defScope s_refuse_at) := ⟨rfl, rfl, rfl, by decide +kernel, rfl, by decide +kernel, by decide +kernel⟩
def sp_refuse_at (K : PySem.W.Frag) : Sp := fun vs H Q E => ∃ (k p : Int), vs = [.int k, .int p] ∧ Ret K Q E H (fun _ v H' => v = .non ∧ H' = H) (mAt k p)
theorem good_refuse_at (T : Tx K mg) : Gd P w K mg base (L2.CX P w) 1 "refuse_at" ["kind", "place"] (sp_refuse_at K) := by
  obtain ⟨fd, F⟩ := T.f_refuse_at
  refine ⟨_, fd, fnX F sc_refuse_at (fun vs H Q E h => ?_) (fun cdv A outer s H vs Q E hr h => ⟨_, (pss_one (ps_if (pt_cmpR op_ge (pv 1) pe_int (nomark _)) (pss_one (ps_raiseRef rfl T.ref hr (takes_of rfl rfl rfl rfl) (pa_cons (pe_lst (pa_cons (pe_un un_neg pe_int) (pa_cons (pv 0) (pa_cons (pv 1) pa_nil)))) pa_nil))) pss_nil)), ?_⟩), F.bindsN (fun _ _ _ _ _ _ us hl => match us, hl with | [_, _], _ => rfl), T.g_refuse_at, F.kp⟩
  · obtain ⟨_, _, e, _⟩ := h
    subst e
    rfl
  · obtain ⟨k, p, rfl, R⟩ := h
    refine ⟨_, rfl, _, _, rfl, rfl, _, rfl, if_b (fun c => ?_) fun c => ?_⟩
    · have c' : p ≥ 0 := of_decide_eq_true c
      refine ⟨_, rfl, _, rfl, _, rfl, fits (by simp), fun l hl => ⟨_, rfl, fun d hd => R.raised (ans := [-5, k, p]) (by unfold mAt; rw [if_pos c']) rfl (Same.refl H) hl hd⟩⟩
    · have c' : ¬ p ≥ 0 := of_decide_eq_false c
      exact R.done (b := ()) (by unfold mAt; rw [if_neg c']) (Same.refl H) ⟨rfl, rfl⟩
abbrev nm_refuse_here : List Str := ["holds", "at"]
theorem sc_refuse_here : FnScope nm_refuse_here ["holds", "at"] (defScope s_refuse_here) := ⟨rfl, rfl, rfl, by decide +kernel, rfl, by decide +kernel, by decide +kernel⟩
def sp_refuse_here (K : PySem.W.Frag) : Sp := fun vs H Q E => ∃ (b : Bool) (p : Nat), vs = [.bl b, .int p] ∧ Ret K Q E H (fun _ v H' => v = .non ∧ H' = H) (mHere b p)
theorem good_refuse_here (T : Tx K mg) : Gd P w K mg base (L2.CX P w) 2 "refuse_here" ["holds", "at"] (sp_refuse_here K) := by
  obtain ⟨fd, F⟩ := T.f_refuse_here
  refine ⟨_, fd, fnX F sc_refuse_here (fun vs H Q E h => ?_) (fun cdv A outer s H vs Q E hr h => ⟨_, (pss_one (ps_if (pt_val (pv 0)) (pss_one (ps_expr (pe_gd (good_refuse_at (P := P) (w := w) (base := base) T) hr (passes_call (takes_of rfl rfl rfl rfl) (fun _ _ _ _ h => h)) (pa_cons pe_int (pa_cons (pv 1) pa_nil))))) pss_nil)), ?_⟩), F.bindsN (fun _ _ _ _ _ _ us hl => match us, hl with | [_, _], _ => rfl), T.g_refuse_here, F.kp⟩
  · obtain ⟨_, _, e, _⟩ := h
    subst e
    rfl
  · obtain ⟨b, p, rfl, R⟩ := h
    refine ⟨_, rfl, _, rfl, if_b (fun c => ?_) fun c => ?_⟩
    · refine ⟨_, rfl, 1, p, rfl, R.sub (Same.refl H) (fun ans e => ?_) fun a e v H2 s2 q => ?_⟩
      · have : mAt 1 (p : Int) = .error (bad p) := by unfold mAt bad; rw [if_pos (by omega)]
        rw [this] at e
        cases e
        unfold mHere
        rw [if_pos c]
      · have : mAt 1 (p : Int) = .error (bad p) := by unfold mAt bad; rw [if_pos (by omega)]
        rw [this] at e
        cases e
    · exact R.done (b := ()) (by unfold mHere; rw [c]; rfl) (Same.refl H) ⟨rfl, rfl⟩
abbrev nm_expect : List Str := ["text", "at", "byte"]
theorem sc_expect : FnScope nm_expect ["text", "at", "byte"] (defScope s_expect) := ⟨rfl, rfl, rfl, by decide +kernel, rfl, by decide +kernel, by decide +kernel⟩
def sp_expect (K : PySem.W.Frag) : Sp := fun vs H Q E => ∃ (a : Addr) (T : List Nat) (p : Nat) (b : Int), vs = [.ref a, .int p, .int b] ∧ TextAt H a T ∧ Ret K Q E H (fun n v H' => v = .int ((n : Nat) : Int) ∧ H' = H) (mExpect T p b)
theorem good_expect (T : Tx K mg) : Gd P w K mg base (L2.CX P w) 3 "expect" ["text", "at", "byte"] (sp_expect K) := by
  obtain ⟨fd, F⟩ := T.f_expect
  refine ⟨_, fd, fnX F sc_expect (fun vs H Q E h => ?_) (fun cdv A outer s H vs Q E hr h => ⟨_, (pss_cons (ps_expr (pe_gd (good_refuse_here (P := P) (w := w) (base := base) T) hr (passes_call (takes_of rfl rfl rfl rfl) (fun _ _ _ _ h => h)) (pa_cons (pe_cmpR op_ne (pe_gd (good_byte_at (P := P) (w := w) (base := base) T) hr pass0 (pa_cons (pv 0) (pa_cons (pv 1) pa_nil))) (pv 2) (nomark _)) (pa_cons (pv 1) pa_nil))))
      (pss_one (ps_ret (pe_op op_add (pv 1) pe_int)))), ?_⟩), F.bindsN (fun _ _ _ _ _ _ us hl => match us, hl with | [_, _, _], _ => rfl), T.g_expect, F.kp⟩
  · obtain ⟨_, _, _, _, e, _⟩ := h
    subst e
    rfl
  · obtain ⟨a, T', p, b, rfl, ha, R⟩ := h
    refine ⟨_, rfl, _, rfl, a, T', p, rfl, ha, _, rfl, rfl, _, rfl, _, p, rfl, R.sub (Same.refl H) (fun ans e => ?_) fun u e v H2 s2 q => ?_⟩
    · unfold mExpect
      unfold mHere at e
      by_cases c : byteAt T' p = b
      · simp [c] at e
      · simp [c] at e
        rw [if_neg c, e]
    · obtain ⟨-, rfl⟩ := q
      have c : byteAt T' p = b := by
        unfold mHere at e
        by_cases c : byteAt T' p = b
        · exact c
        · simp [c] at e
      refine ⟨_, rfl, _, _, rfl, rfl, R.done (b := p + 1) (by unfold mExpect; rw [if_pos c]) s2 ⟨by simp, rfl⟩⟩
abbrev nm_expect_word : List Str := ["text", "at", "word", "end", "sign"]
theorem sc_expect_word : FnScope nm_expect_word ["text", "at", "word"] (defScope s_expect_word) := ⟨rfl, rfl, rfl, by decide +kernel, rfl, by decide +kernel, by decide +kernel⟩
def sp_expect_word (K : PySem.W.Frag) : Sp := fun vs H Q E => ∃ (a : Addr) (T : List Nat) (p : Nat) (z : Str), vs = [.ref a, .int p, .str z] ∧ TextAt H a T ∧ Ret K Q E H (fun n v H' => v = .int ((n : Nat) : Int) ∧ H' = H) (mWord T p z.cps.toList)
theorem good_expect_word (T : Tx K mg) : Gd P w K mg base (L2.CX P w) 4 "expect_word" ["text", "at", "word"] (sp_expect_word K) := by
  obtain ⟨fd, F⟩ := T.f_expect_word
  refine ⟨_, fd, fnX F sc_expect_word (fun vs H Q E h => ?_) (fun cdv A outer s H vs Q E hr h => ⟨_, (pss_cons (ps_set (i := 3) sc_expect_word.nd rfl (Or.inl rfl) (pv 1))
      (pss_cons (ps_for (passes_of rfl) rfl (pi_str (pv 2)) (pg_name (i := 4) sc_expect_word.nd rfl (Or.inl rfl)) (pss_one (ps_set (i := 3) sc_expect_word.nd rfl (Or.inl rfl) (pe_gd (good_expect (P := P) (w := w) (base := base) T) hr (passes_call (takes_of rfl rfl rfl rfl) (fun _ _ _ _ h => h)) (pa_cons (pv 0) (pa_cons (pv 3) (pa_cons (pe_callB call_ord (by rfl) T.b_ord (by decide +kernel) (pa_cons (pv 4) pa_nil)) pa_nil)))))))
      (pss_one (ps_ret (pv 3))))), ?_⟩), F.bindsN (fun _ _ _ _ _ _ us hl => match us, hl with | [_, _, _], _ => rfl), T.g_expect_word, F.kp⟩
  · obtain ⟨_, _, _, _, e, _⟩ := h
    subst e
    rfl
  · obtain ⟨a, T', p, z, rfl, ha, R⟩ := h
    refine ⟨_, rfl, _, rfl, z, rfl, for_str (fun d r σ H' => H' = H ∧ ∃ (q : Nat) (m : Option V), σ = [some (.ref a), some (.int p), some (.str z), some (.int q), m] ∧ mWord T' p z.cps.toList = mWord T' q r) ⟨rfl, p, none, rfl, rfl⟩ ?_ ?_⟩
    · rintro d x r σ H' - ⟨rfl, q, m, rfl, e⟩
      refine ⟨_, rfl, _, rfl, _, rfl, ⟨⟨#[x]⟩, rfl, rfl, a, T', q, x, rfl, ha, R.sub (Same.refl _) (fun ans e2 => ?_) fun n e2 v H2 s2 q2 => ?_⟩⟩
      · rw [e]
        unfold mWord
        rw [e2]
      · obtain ⟨rfl, rfl⟩ := q2
        refine ⟨rfl, n, _, rfl, ?_⟩
        rw [e, mWord, e2]
    · rintro σ H' ⟨rfl, q, m, rfl, e⟩
      exact ⟨_, rfl, R.done (b := q) (by rw [e]; rfl) (Same.refl _) ⟨rfl, rfl⟩⟩
abbrev nm_name_end : List Str := ["text", "at", "end", "more"]
theorem sc_name_end : FnScope nm_name_end ["text", "at"] (defScope s_name_end) := ⟨rfl, rfl, rfl, by decide +kernel, rfl, by decide +kernel, by decide +kernel⟩
def sp_name_end (K : PySem.W.Frag) : Sp := fun vs H Q E => ∃ (a : Addr) (T : List Nat) (p : Nat), vs = [.ref a, .int p] ∧ TextAt H a T ∧ Ret K Q E H (fun n v H' => v = .int ((n : Nat) : Int) ∧ H' = H) (mName T p)
theorem good_name_end (T : Tx K mg) : Gd P w K mg base (L2.CX P w) 3 "name_end" ["text", "at"] (sp_name_end K) := by
  obtain ⟨fd, F⟩ := T.f_name_end
  refine ⟨_, fd, fnX F sc_name_end (fun vs H Q E h => ?_) (fun cdv A outer s H vs Q E hr h => ⟨_, (pss_cons (ps_expr (pe_gd (good_refuse_here (P := P) (w := w) (base := base) T) hr (passes_call (takes_of rfl rfl rfl rfl) (fun _ _ _ _ h => h)) (pa_cons (pe_not (pe_gd (good_is_letter (P := P) (w := w) (base := base) T) hr pass0 (pa_cons (pe_gd (good_byte_at (P := P) (w := w) (base := base) T) hr pass0 (pa_cons (pv 0) (pa_cons (pv 1) pa_nil))) pa_nil))) (pa_cons (pv 1) pa_nil))))
      (pss_cons (ps_set (i := 2) sc_name_end.nd rfl (Or.inl rfl) (pe_op op_add (pv 1) pe_int))
      (pss_cons (ps_for (passes_of rfl) rfl (pi_range1 rfl T.b_range (pa_cons (pe_op op_sub (pe_gi T.i_MOST_NAME) pe_int) pa_nil)) (pg_name (i := 3) sc_name_end.nd rfl (Or.inl rfl)) (pss_cons (ps_if (pt_not (pt_val (pe_gd (good_is_name_byte (P := P) (w := w) (base := base) T) hr pass0 (pa_cons (pe_gd (good_byte_at (P := P) (w := w) (base := base) T) hr pass0 (pa_cons (pv 0) (pa_cons (pv 2) pa_nil))) pa_nil)))) (pss_one (ps_ret (pv 2))) pss_nil)
      (pss_one (ps_aug (i := 2) sc_name_end.nd rfl (Or.inl rfl) pe_int ip_add))))
      (pss_one (ps_ret (pv 2)))))), ?_⟩), F.bindsN (fun _ _ _ _ _ _ us hl => match us, hl with | [_, _], _ => rfl), T.g_name_end, F.kp⟩
  · obtain ⟨_, _, _, e, _⟩ := h
    subst e
    rfl
  · obtain ⟨a, T', p, rfl, ha, R⟩ := h
    refine ⟨_, rfl, _, rfl, a, T', p, rfl, ha, _, rfl, _, rfl, _, rfl, _, p, rfl, R.sub (Same.refl H) (fun ans e => ?_) fun u e v H2 s2 q => ?_⟩
    · unfold mName
      unfold mHere at e
      by_cases c : letterI (byteAt T' p) = true
      · simp [c] at e
      · simp [c] at e
        rw [if_neg c, e]
    obtain ⟨-, rfl⟩ := q
    have c : letterI (byteAt T' p) = true := by
      unfold mHere at e
      by_cases c : letterI (byteAt T' p) = true
      · exact c
      · simp [c] at e
    have R' : ∀ v, v = V.int ((run nameI T' 15 (p + 1) : Nat) : Int) → Q v _ := fun v hv => R.done (b := run nameI T' 15 (p + 1)) (by unfold mName; rw [if_pos c]) s2 ⟨hv, rfl⟩
    refine ⟨_, rfl, _, _, rfl, rfl, _, _, rfl, rfl, 15, rfl, by decide, by decide, for_range (fun i σ H' => H' = H2 ∧ ∃ (q : Nat) (m : Option V), σ = [some (.ref a), some (.int p), some (.int q), m] ∧ i ≤ 15 ∧ run nameI T' 15 (p + 1) = run nameI T' (15 - i) q) ⟨rfl, p + 1, none, rfl, by omega, rfl⟩ ?_ ?_⟩
    · rintro i σ H' hi ⟨rfl, q, m, rfl, h15, e2⟩
      have e3 : run nameI T' (15 - i) q = if nameI (byteAt T' q) = true then run nameI T' (15 - (i + 1)) (q + 1) else q := by
        rw [show 15 - i = (15 - (i + 1)) + 1 by omega]
        rfl
      refine ⟨_, rfl, _, rfl, a, T', q, rfl, ha, _, rfl, _, rfl, if_b (fun d => ?_) fun d => ?_⟩
      · have d' : ¬ nameI (byteAt T' q) = true := by simpa using d
        refine ⟨_, rfl, R' _ ?_⟩
        rw [e2, e3, if_neg d']
      · have d' : nameI (byteAt T' q) = true := by simpa using d
        refine ⟨_, rfl, _, _, rfl, rfl, rfl, q + 1, _, rfl, by omega, ?_⟩
        rw [e2, e3, if_pos d']
    · rintro σ H' ⟨rfl, q, m, rfl, h15, e2⟩
      refine ⟨_, rfl, R' _ ?_⟩
      rw [e2]
      rfl
abbrev nm_digits_end : List Str := ["text", "at", "most", "end", "more"]
theorem sc_digits_end : FnScope nm_digits_end ["text", "at", "most"] (defScope s_digits_end) := ⟨rfl, rfl, rfl, by decide +kernel, rfl, by decide +kernel, by decide +kernel⟩
def sp_digits_end (K : PySem.W.Frag) : Sp := fun vs H Q _ => ∃ (a : Addr) (T : List Nat) (p n : Nat), vs = [.ref a, .int p, .int n] ∧ TextAt H a T ∧ n < 100 ∧ Q (.int (run digitI T n p : Nat)) H
theorem good_digits_end (T : Tx K mg) : Gd P w K mg base CX0 2 "digits_end" ["text", "at", "most"] (sp_digits_end K) := by
  obtain ⟨fd, F⟩ := T.f_digits_end
  refine ⟨_, fd, fn0 F sc_digits_end (fun vs H Q E h => ?_) (fun cdv A outer s H vs Q E hr h => ⟨_, (pss_cons (ps_set (i := 3) sc_digits_end.nd rfl (Or.inl rfl) (pv 1))
      (pss_cons (ps_for PassesOwn.never rfl (pi_range1 rfl T.b_range (pa_cons (pv 2) pa_nil)) (pg_name (i := 4) sc_digits_end.nd rfl (Or.inl rfl)) (pss_cons (ps_if (pt_not (pt_val (pe_gd (good_is_digit (P := P) (w := w) (base := base) T) hr pass0 (pa_cons (pe_gd (good_byte_at (P := P) (w := w) (base := base) T) hr pass0 (pa_cons (pv 0) (pa_cons (pv 3) pa_nil))) pa_nil)))) (pss_one (ps_ret (pv 3))) pss_nil)
      (pss_one (ps_aug (i := 3) sc_digits_end.nd rfl (Or.inl rfl) pe_int ip_add))))
      (pss_one (ps_ret (pv 3))))), ?_⟩), F.bindsN (fun _ _ _ _ _ _ us hl => match us, hl with | [_, _, _], _ => rfl), T.g_digits_end, F.kp⟩
  · obtain ⟨_, _, _, _, e, _⟩ := h
    subst e
    rfl
  · obtain ⟨a, T', p, n, rfl, ha, hn, q0⟩ := h
    refine ⟨_, rfl, _, rfl, n, rfl, by omega, by omega, for_range (fun i σ H' => H' = H ∧ ∃ (q : Nat) (m : Option V), σ = [some (.ref a), some (.int p), some (.int n), some (.int q), m] ∧ i ≤ n ∧ run digitI T' n p = run digitI T' (n - i) q) ⟨rfl, p, none, rfl, by omega, rfl⟩ ?_ ?_⟩
    · rintro i σ H' hi ⟨rfl, q, m, rfl, h15, e2⟩
      have e3 : run digitI T' (n - i) q = if digitI (byteAt T' q) = true then run digitI T' (n - (i + 1)) (q + 1) else q := by
        rw [show n - i = (n - (i + 1)) + 1 by omega]
        rfl
      refine ⟨_, rfl, _, rfl, a, T', q, rfl, ha, _, rfl, _, rfl, if_b (fun d => ?_) fun d => ?_⟩
      · have d' : ¬ digitI (byteAt T' q) = true := by simpa using d
        refine ⟨_, rfl, ?_⟩
        rw [e2, e3, if_neg d'] at q0
        exact q0
      · have d' : digitI (byteAt T' q) = true := by simpa using d
        refine ⟨_, rfl, _, _, rfl, rfl, rfl, q + 1, _, rfl, by omega, ?_⟩
        rw [e2, e3, if_pos d']
    · rintro σ H' ⟨rfl, q, m, rfl, h15, e2⟩
      refine ⟨_, rfl, ?_⟩
      rw [e2, show n - (n : Int).toNat = 0 by omega] at q0
      exact q0
abbrev nm_number_of : List Str := ["text", "at", "end", "value", "place"]
theorem sc_number_of : FnScope nm_number_of ["text", "at", "end"] (defScope s_number_of) := ⟨rfl, rfl, rfl, by decide +kernel, rfl, by decide +kernel, by decide +kernel⟩
def sp_number_of (K : PySem.W.Frag) : Sp := fun vs H Q _ => ∃ (a : Addr) (T : List Nat) (p n : Nat), vs = [.ref a, .int p, .int n] ∧ TextAt H a T ∧ p ≤ n ∧ n ≤ T.length ∧ T.length ≤ 1000000 ∧ Q (.int (numOf T p n)) H
theorem good_number_of (T : Tx K mg) : Gd P w K mg base CX0 1 "number_of" ["text", "at", "end"] (sp_number_of K) := by
  obtain ⟨fd, F⟩ := T.f_number_of
  refine ⟨_, fd, fn0 F sc_number_of (fun vs H Q E h => ?_) (fun cdv A outer s H vs Q E hr h => ⟨_, (pss_cons (ps_set (i := 3) sc_number_of.nd rfl (Or.inl rfl) pe_int)
      (pss_cons (ps_for PassesOwn.never rfl (pi_range2 rfl T.b_range (pa_cons (pv 1) (pa_cons (pv 2) pa_nil))) (pg_name (i := 4) sc_number_of.nd rfl (Or.inl rfl)) (pss_one (ps_set (i := 3) sc_number_of.nd rfl (Or.inl rfl) (pe_op op_sub (pe_op op_add (pe_op op_mul (pv 3) pe_int) (pe_ix ix_list (pv 0) (pv 4) (fun _ _ => rfl))) (pe_gi T.i_NOUGHT)))))
      (pss_one (ps_ret (pv 3))))), ?_⟩), F.bindsN (fun _ _ _ _ _ _ us hl => match us, hl with | [_, _, _], _ => rfl), T.g_number_of, F.kp⟩
  · obtain ⟨_, _, _, _, e, _⟩ := h
    subst e
    rfl
  · obtain ⟨a, T', p, n, rfl, ha, hp, hn, hT, q0⟩ := h
    refine ⟨_, rfl, _, rfl, p, n, rfl, ⟨by omega, by omega, by omega, by omega⟩, for_range (fun i σ H' => H' = H ∧ ∃ (x : Int) (m : Option V), σ = [some (.ref a), some (.int p), some (.int n), some (.int x), m] ∧ p + i ≤ n ∧ x = numOf T' p (p + i)) ⟨rfl, 0, none, rfl, by omega, by simp [numOf]⟩ ?_ ?_⟩
    · rintro i σ H' hi ⟨rfl, x, m, rfl, hl, e2⟩
      have hi' : p + i < T'.length := by omega
      refine ⟨_, rfl, _, _, rfl, rfl, .inr (by decide), _, rfl, _, rfl, a, _, ((p + i : Nat) : Int), _, rfl, rfl, SqL.of ha, atI_nat (vn_get (List.getElem?_eq_getElem hi')), _, _, rfl, rfl, _, _, rfl, rfl, rfl, _, _, rfl, by omega, ?_⟩
      rw [e2]
      unfold numOf
      have e4 : ((T'.drop p).take (p + (i + 1) - p)) = ((T'.drop p).take (p + i - p)) ++ [T'[p + i]] := by
        rw [show p + (i + 1) - p = i + 1 by omega, show p + i - p = i by omega, List.take_add_one, List.getElem?_drop, List.getElem?_eq_getElem hi']
        rfl
      rw [e4, List.foldl_append]
      rfl
    · rintro σ H' ⟨rfl, x, m, rfl, hl, e2⟩
      refine ⟨_, rfl, ?_⟩
      have e3 : p + ((n : Int) - (p : Int)).toNat = n := by omega
      rw [e3] at e2
      rw [← e2] at q0
      exact q0
abbrev nm_whole_end : List Str := ["text", "at", "end"]
theorem sc_whole_end : FnScope nm_whole_end ["text", "at"] (defScope s_whole_end) := ⟨rfl, rfl, rfl, by decide +kernel, rfl, by decide +kernel, by decide +kernel⟩
def sp_whole_end (K : PySem.W.Frag) : Sp := fun vs H Q E => ∃ (a : Addr) (T : List Nat) (p : Nat), vs = [.ref a, .int p] ∧ TextAt H a T ∧ Ret K Q E H (fun n v H' => v = .int ((n : Nat) : Int) ∧ H' = H) (mWhole T p)
theorem good_whole_end (T : Tx K mg) : Gd P w K mg base (L2.CX P w) 3 "whole_end" ["text", "at"] (sp_whole_end K) := by
  obtain ⟨fd, F⟩ := T.f_whole_end
  refine ⟨_, fd, fnX F sc_whole_end (fun vs H Q E h => ?_) (fun cdv A outer s H vs Q E hr h => ⟨_, (pss_cons (ps_if (pt_cmpR op_eq (pe_gd (good_byte_at (P := P) (w := w) (base := base) T) hr pass0 (pa_cons (pv 0) (pa_cons (pv 1) pa_nil))) (pe_gi T.i_NOUGHT) (nomark _)) (pss_one (ps_ret (pe_op op_add (pv 1) pe_int))) pss_nil)
      (pss_cons (ps_set (i := 2) sc_whole_end.nd rfl (Or.inl rfl) (pe_gd (good_digits_end (P := P) (w := w) (base := base) T) hr pass0 (pa_cons (pv 0) (pa_cons (pv 1) (pa_cons (pe_gi T.i_MOST_WHOLE) pa_nil)))))
      (pss_cons (ps_expr (pe_gd (good_refuse_here (P := P) (w := w) (base := base) T) hr (passes_call (takes_of rfl rfl rfl rfl) (fun _ _ _ _ h => h)) (pa_cons (pe_cmpR op_eq (pv 2) (pv 1) (nomark _)) (pa_cons (pv 1) pa_nil))))
      (pss_one (ps_ret (pv 2)))))), ?_⟩), F.bindsN (fun _ _ _ _ _ _ us hl => match us, hl with | [_, _], _ => rfl), T.g_whole_end, F.kp⟩
  · obtain ⟨_, _, _, e, _⟩ := h
    subst e
    rfl
  · obtain ⟨a, T', p, rfl, ha, R⟩ := h
    refine ⟨_, rfl, _, rfl, a, T', p, rfl, ha, rfl, ?_⟩
    rw [dec_int]
    refine ⟨_, rfl, ?_⟩
    refine if_b (fun c => ?_) fun c => ?_
    · have c' := of_decide_eq_true c
      exact ⟨_, rfl, _, _, rfl, rfl, R.done (b := p + 1) (by unfold mWhole; rw [if_pos c']) (Same.refl H) ⟨by simp, rfl⟩⟩
    have c' : ¬ byteAt T' p = 48 := of_decide_eq_false c
    refine ⟨_, rfl, _, rfl, a, T', p, 6, rfl, ha, by decide, _, rfl, _, rfl, rfl, _, rfl, _, p, rfl, R.sub (Same.refl H) (fun ans e => ?_) fun u e v H2 s2 q => ?_⟩
    · rw [dec_int] at e
      unfold mWhole
      unfold mHere at e
      by_cases d : run digitI T' 6 p = p
      · simp [d] at e
        rw [if_neg c', if_pos d, e]
      · have : ¬ ((run digitI T' 6 p : Nat) : Int) = p := by omega
        simp [this] at e
    · obtain ⟨-, rfl⟩ := q
      rw [dec_int] at e
      refine ⟨_, rfl, R.done (b := run digitI T' 6 p) ?_ s2 ⟨rfl, rfl⟩⟩
      unfold mWhole
      unfold mHere at e
      by_cases d : run digitI T' 6 p = p
      · simp [d] at e
      · rw [if_neg c', if_neg d]
abbrev nm_is_name : List Str := ["word", "byte"]
theorem sc_is_name : FnScope nm_is_name ["word"] (defScope s_is_name) := ⟨rfl, rfl, rfl, by decide +kernel, rfl, by decide +kernel, by decide +kernel⟩
def sp_is_name (K : PySem.W.Frag) : Sp := fun vs H Q _ => ∃ (a : Addr) (T : List Nat), vs = [.ref a] ∧ TextAt H a T ∧ Q (.bl (mIsName T)) H
theorem good_is_name (T : Tx K mg) : Gd P w K mg base CX0 3 "is_name" ["word"] (sp_is_name K) := by
  obtain ⟨fd, F⟩ := T.f_is_name
  refine ⟨_, fd, fn0 F sc_is_name (fun vs H Q E h => ?_) (fun cdv A outer s H vs Q E hr h => ⟨_, (pss_cons (ps_if (PW.pt (pw_or (pt_cmpR op_lt (pe_callB call_len_seq (by rfl) T.b_len PySem.boot_len (pa_cons (pv 0) pa_nil)) pe_int (nomark _)) (pw_or (pt_cmpR op_gt (pe_callB call_len_seq (by rfl) T.b_len PySem.boot_len (pa_cons (pv 0) pa_nil)) (pe_gi T.i_MOST_NAME) (nomark _)) (pw_or1 (pt_not (pt_val (pe_gd (good_is_letter (P := P) (w := w) (base := base) T) hr pass0 (pa_cons (pe_ix ix_list (pv 0) pe_int (fun _ _ => rfl)) pa_nil)))))))) (pss_one (ps_ret pe_bl)) pss_nil)
      (pss_cons (ps_for PassesOwn.never rfl (pi_list (pv 0)) (pg_name (i := 1) sc_is_name.nd rfl (Or.inl rfl)) (pss_one (ps_if (pt_not (pt_val (pe_gd (good_is_name_byte (P := P) (w := w) (base := base) T) hr pass0 (pa_cons (pv 1) pa_nil)))) (pss_one (ps_ret pe_bl)) pss_nil)))
      (pss_one (ps_ret pe_bl)))), ?_⟩), F.bindsN (fun _ _ _ _ _ _ us hl => match us, hl with | [_], _ => rfl), T.g_is_name, F.kp⟩
  · obtain ⟨_, _, e, _⟩ := h
    subst e
    rfl
  · obtain ⟨a, T', rfl, ha, q⟩ := h
    have hl : (vn T').length = T'.length := vn_length T'
    unfold mIsName at q
    refine ⟨_, rfl, a, _, rfl, .inl (SqL.of ha), _, _, rfl, rfl, _, rfl, if_b (fun c => ?_) fun c => ?_⟩
    · have c' : T'.length = 0 := by have := of_decide_eq_true c; omega
      rw [show decide (1 ≤ T'.length) = false from decide_eq_false (by omega)] at q
      exact q
    have c1 : 1 ≤ T'.length := by have := of_decide_eq_false c; omega
    rw [decide_eq_true c1, Bool.true_and] at q
    refine ⟨_, rfl, a, _, rfl, .inl (SqL.of ha), _, _, rfl, rfl, _, rfl, if_b (fun c => ?_) fun c => ?_⟩
    · have c' : 16 < T'.length := by have := of_decide_eq_true c; omega
      rw [show decide (T'.length ≤ 16) = false from decide_eq_false (by omega)] at q
      exact q
    have c2 : T'.length ≤ 16 := by have := of_decide_eq_false c; omega
    rw [decide_eq_true c2, Bool.true_and] at q
    have e0 : byteAt T' 0 = (T'[0] : Nat) := by unfold byteAt; rw [List.getElem?_eq_getElem (by omega)]
    refine ⟨_, rfl, a, _, ((0 : Nat) : Int), _, rfl, rfl, SqL.of ha, atI_nat (vn_get (List.getElem?_eq_getElem (by omega))), _, rfl, _, rfl, if_b (fun c => ?_) fun c => ?_⟩
    · have c' : letterI (T'[0] : Nat) = false := by simpa using c
      rw [e0, c', Bool.false_and] at q
      exact q
    have c' : letterI (T'[0] : Nat) = true := by simpa using c
    rw [e0, c', Bool.true_and] at q
    refine ⟨_, rfl, a, rfl, ⟨_, SqL.of ha⟩, for_each (R := fun v (x : Nat) => v = V.int (x : Nat)) (xs := T') (as := vn T') (F2.self_map (f := fun (n : Nat) => V.int (n : Int)) (fun b => rfl) T') (fun d r σ H' => H' = H ∧ (∃ (m : Option V), σ = [some (.ref a), m]) ∧ (T'.all fun y => nameI y) = r.all fun y => nameI y) ⟨rfl, ⟨none, rfl⟩, rfl⟩ ?_ ?_ ?_⟩
    · rintro d r σ H' ⟨rfl, -⟩
      exact SqL.of ha
    · rintro d x r v σ H' - rfl ⟨rfl, ⟨m, rfl⟩, e⟩
      refine ⟨_, rfl, _, rfl, _, rfl, if_b (fun c => ?_) fun c => ?_⟩
      · have c' : nameI (x : Nat) = false := by simpa using c
        rw [e, List.all_cons, c', Bool.false_and] at q
        exact q
      · have c' : nameI (x : Nat) = true := by simpa using c
        refine ⟨rfl, ⟨_, rfl⟩, ?_⟩
        rw [e, List.all_cons, c', Bool.true_and]
    · rintro σ H' ⟨rfl, ⟨m, rfl⟩, e⟩
      rw [e] at q
      exact q
abbrev nm_amount_of : List Str := ["text", "at", "point", "whole", "start", "end", "amount"]
theorem sc_amount_of : FnScope nm_amount_of ["text", "at"] (defScope s_amount_of) := ⟨rfl, rfl, rfl, by decide +kernel, rfl, by decide +kernel, by decide +kernel⟩
def sp_amount_of (K : PySem.W.Frag) : Sp := fun vs H Q E => ∃ (a : Addr) (T : List Nat) (p : Nat), vs = [.ref a, .int p] ∧ TextAt H a T ∧ T.length ≤ 1000000 ∧ Ret K Q E H (fun (r : Nat × Int) v H' => ∃ t, v = .ref t ∧ H' t = some (.tup [.int (r.1 : Nat), .int r.2])) (mAmount T p)
theorem good_amount_of (T : Tx K mg) : Gd P w K mg base (L2.CX P w) 4 "amount_of" ["text", "at"] (sp_amount_of K) := by
  obtain ⟨fd, F⟩ := T.f_amount_of
  refine ⟨_, fd, fnX F sc_amount_of (fun vs H Q E h => ?_) (fun cdv A outer s H vs Q E hr h => ⟨_, (pss_cons (ps_set (i := 2) sc_amount_of.nd rfl (Or.inl rfl) (pe_gd (good_whole_end (P := P) (w := w) (base := base) T) hr (passes_call (takes_of rfl rfl rfl rfl) (fun _ _ _ _ h => h)) (pa_cons (pv 0) (pa_cons (pv 1) pa_nil))))
      (pss_cons (ps_set (i := 3) sc_amount_of.nd rfl (Or.inl rfl) (pe_gd (good_number_of (P := P) (w := w) (base := base) T) hr pass0 (pa_cons (pv 0) (pa_cons (pv 1) (pa_cons (pv 2) pa_nil)))))
      (pss_cons (ps_if (PW.pt (pw_and (pt_cmpR op_gt (pv 3) pe_int (nomark _)) (pw_and1 (pt_cmpR op_ne (pe_gd (good_byte_at (P := P) (w := w) (base := base) T) hr pass0 (pa_cons (pv 0) (pa_cons (pv 2) pa_nil))) (pe_gi T.i_POINT) (nomark _))))) (pss_one (ps_ret (pe_tup (pa_cons (pv 2) (pa_cons (pe_op op_mul (pv 3) pe_int) pa_nil))))) pss_nil)
      (pss_cons (ps_set (i := 4) sc_amount_of.nd rfl (Or.inl rfl) (pe_gd (good_expect (P := P) (w := w) (base := base) T) hr (passes_call (takes_of rfl rfl rfl rfl) (fun _ _ _ _ h => h)) (pa_cons (pv 0) (pa_cons (pv 2) (pa_cons (pe_gi T.i_POINT) pa_nil)))))
      (pss_cons (ps_set (i := 5) sc_amount_of.nd rfl (Or.inl rfl) (pe_gd (good_digits_end (P := P) (w := w) (base := base) T) hr pass0 (pa_cons (pv 0) (pa_cons (pv 4) (pa_cons (pe_gi T.i_MOST_BEHIND) pa_nil)))))
      (pss_cons (ps_expr (pe_gd (good_refuse_here (P := P) (w := w) (base := base) T) hr (passes_call (takes_of rfl rfl rfl rfl) (fun _ _ _ _ h => h)) (pa_cons (pe_cmpR op_eq (pv 5) (pv 4) (nomark _)) (pa_cons (pv 5) pa_nil))))
      (pss_cons (ps_set (i := 6) sc_amount_of.nd rfl (Or.inl rfl) (pe_op op_add (pe_op op_mul (pv 3) pe_int) (pe_op op_mul (pe_gd (good_number_of (P := P) (w := w) (base := base) T) hr pass0 (pa_cons (pv 0) (pa_cons (pv 4) (pa_cons (pv 5) pa_nil)))) (pe_ix ix_tup (pe_gr T.g_SCALES) (pe_op op_sub (pv 5) (pv 4)) (fun _ _ => rfl)))))
      (pss_cons (ps_expr (pe_gd (good_refuse_here (P := P) (w := w) (base := base) T) hr (passes_call (takes_of rfl rfl rfl rfl) (fun _ _ _ _ h => h)) (pa_cons (pe_cmpR op_eq (pv 6) pe_int (nomark _)) (pa_cons (pe_callB (call_min2 rfl) (by rfl) T.b_min (by decide +kernel) (pa_cons (pv 5) (pa_cons (pe_op op_sub (pe_op op_add (pv 4) (pe_gi T.i_MOST_BEHIND)) pe_int) pa_nil))) pa_nil))))
      (pss_one (ps_ret (pe_tup (pa_cons (pv 5) (pa_cons (pv 6) pa_nil))))))))))))), ?_⟩), F.bindsN (fun _ _ _ _ _ _ us hl => match us, hl with | [_, _], _ => rfl), T.g_amount_of, F.kp⟩
  · obtain ⟨_, _, _, e, _⟩ := h
    subst e
    rfl
  · obtain ⟨a, T', p, rfl, ha, hT, R⟩ := h
    refine ⟨_, rfl, _, rfl, a, T', p, rfl, ha, R.sub (Same.refl H) (fun ans e => by unfold mAmount; rw [e]) fun q e v H2 s2 hv => ?_⟩
    obtain ⟨rfl, rfl⟩ := hv
    unfold mAmount at R
    rw [e] at R
    simp only [] at R
    obtain ⟨h1, h2⟩ := mWhole_ok e
    refine ⟨_, rfl, _, rfl, _, rfl, a, T', p, q, rfl, ha, by omega, h2, hT, ?_⟩
    apply with_rest (¬ (numOf T' p q > 0 ∧ byteAt T' q ≠ 46))
    · intro rest
      refine ⟨_, rfl, _, _, rfl, rfl, _, rfl, if_b (fun c => ?_) fun c => rest fun h => absurd h.1 (of_decide_eq_false c)⟩
      have c1 : numOf T' p q > 0 := of_decide_eq_true c
      refine ⟨_, rfl, _, rfl, a, T', q, rfl, ha, rfl, ?_⟩
      rw [dec_int]
      refine ⟨_, rfl, if_b (fun d => ?_) fun d => rest fun h => absurd h.2 (by simpa using d)⟩
      have d1 : ¬ byteAt T' q = 46 := by simpa using d
      rw [if_pos ⟨c1, d1⟩] at R
      refine ⟨_, rfl, _, rfl, _, _, rfl, rfl, .inr (by decide), fits (by simp), fun t ht => R.done rfl (Same.new ht) ⟨t, rfl, upd_same⟩⟩
    intro c
    rw [if_neg c] at R
    refine ⟨_, rfl, _, rfl, a, T', q, 46, rfl, ha, R.sub (Same.refl _) (fun ans e => by rw [e]) fun s e2 v H3 s3 hv => ?_⟩
    obtain ⟨rfl, rfl⟩ := hv
    rw [e2] at R
    simp only [] at R
    obtain ⟨rfl, h3, -⟩ := mExpect_ok e2 (by decide)
    have h4 := run_ge digitI T' 3 (q + 1)
    have h5 := run_top digitI T' 3 (q + 1)
    have h6 : run digitI T' 3 (q + 1) ≤ T'.length := run_len (by decide) 3 (q + 1) (by omega)
    refine ⟨_, rfl, _, rfl, a, T', q + 1, 3, rfl, ha, by decide, ?_⟩
    generalize run digitI T' 3 (q + 1) = z at *
    refine ⟨_, rfl, _, rfl, rfl, ?_⟩
    rw [dec_int]
    refine ⟨_, rfl, _, z, rfl, R.sub (Same.refl _) (fun ans e3 => ?_) fun u e3 v H4 s4 hv => ?_⟩
    · obtain ⟨d, rfl⟩ := mHere_err e3
      have d1 : z = q + 1 := by have := of_decide_eq_true d; omega
      rw [if_pos d1, d1]
    obtain ⟨-, rfl⟩ := hv
    have d : ¬ z = q + 1 := by
      have := of_decide_eq_false (mHere_ok e3)
      omega
    rw [if_neg d] at R
    have hsc : atI [V.int 1000, .int 100, .int 10, .int 1] ((z : Int) - ((q + 1 : Nat) : Int)) = some (.int (scale (z - (q + 1)))) := by
      rw [show (z : Int) - ((q + 1 : Nat) : Int) = ((z - (q + 1) : Nat) : Int) by omega]
      refine atI_nat ?_
      have : z - (q + 1) ≤ 3 := by omega
      generalize z - (q + 1) = y at this
      match y, this with
      | 0, _ => rfl
      | 1, _ => rfl
      | 2, _ => rfl
      | 3, _ => rfl
    refine ⟨_, rfl, _, _, rfl, rfl, .inr (by decide), _, rfl, _, rfl, _, rfl, a, T', q + 1, z, rfl, ha, by omega, h6, hT, _, rfl, _, rfl, _, _, rfl, rfl, _, _, _, _, rfl, rfl, T.t_SCALES _, hsc, _, _, rfl, rfl, ?_⟩
    refine ⟨by unfold scale CMul; right; generalize z - (q + 1) = y; split <;> decide, _, _, rfl, rfl, ?_⟩
    refine ⟨_, rfl, rfl, ?_⟩
    rw [dec_int]
    have hmin : (if (((q + 1 : Nat) : Int) + 3 - 1) < (z : Int) then (((q + 1 : Nat) : Int) + 3 - 1) else (z : Int)) = ((min z (q + 1 + 2) : Nat) : Int) := by
      split <;> omega
    refine ⟨_, rfl, _, rfl, _, _, rfl, rfl, _, _, rfl, rfl, z, _, rfl, ?_⟩
    rw [hmin]
    refine ⟨_, _, rfl, R.sub (Same.refl _) (fun ans e4 => ?_) fun u e4 v H5 s5 hv => ?_⟩
    · obtain ⟨d, rfl⟩ := mHere_err e4
      rw [if_pos (of_decide_eq_true d)]
    obtain ⟨-, rfl⟩ := hv
    have d : ¬ numOf T' p q * 1000 + numOf T' (q + 1) z * scale (z - (q + 1)) = 0 := of_decide_eq_false (mHere_ok e4)
    rw [if_neg d] at R
    exact ⟨_, rfl, _, rfl, fits (by simp), fun t ht => R.done rfl (Same.new ht) ⟨t, rfl, upd_same⟩⟩
end
end Fb
end
section
set_option Elab.async false
set_option maxRecDepth 100000
set_option maxHeartbeats 4000000
namespace Fb
open PySem PySem.Spec PyProof.Rows L2
section
variable {P : Program} {w : World} {K : PySem.W.Frag} {mg : Str → Option Value} {base : Heap}
abbrev nm_thing : List Str := ["name"]
theorem sc_thing : FnScope nm_thing ["name"] (defScope s_thing) := ⟨rfl, rfl, rfl, by decide +kernel, rfl, by decide +kernel, by decide +kernel⟩
def sp_thing (K : PySem.W.Frag) : Sp := fun vs H Q _ => ∃ (a : Addr) (x : Nm), vs = [.ref a] ∧ NameAt H a x ∧ ∀ t H', Same H H' → KeyAt H' t (x, []) → Q (.ref t) H'
theorem good_thing (T : Tx K mg) : Gd P w K mg base CX0 1 "thing" ["name"] (sp_thing K) := by
  obtain ⟨fd, F⟩ := T.f_thing
  refine ⟨_, fd, fn0 F sc_thing (fun vs H Q E h => ?_) (fun cdv A outer s H vs Q E hr h => ⟨_, (pss_one (ps_ret (pe_tup (pa_cons (pv 0) (pa_cons (pe_tup pa_nil) pa_nil))))), ?_⟩), F.bindsN (fun _ _ _ _ _ _ us hl => match us, hl with | [_], _ => rfl), T.g_thing, F.kp⟩
  · obtain ⟨_, _, e, _⟩ := h
    subst e
    rfl
  · obtain ⟨a, x, rfl, ha, q⟩ := h
    refine ⟨_, rfl, fits (by simp), fun p hp => ⟨fits (by simp), fun t ht => q t _ (Same.trans' (Same.new hp) (Same.new ht)) ⟨a, p, upd_same, ?_, ?_⟩⟩⟩
    · exact (ha.same (Same.new hp)).same (Same.new ht)
    · exact NameAt.same (Same.new ht) NameAt.kp0
abbrev nm_is_thing : List Str := ["subject"]
theorem sc_is_thing : FnScope nm_is_thing ["subject"] (defScope s_is_thing) := ⟨rfl, rfl, rfl, by decide +kernel, rfl, by decide +kernel, by decide +kernel⟩
def sp_is_thing (K : PySem.W.Frag) : Sp := fun vs H Q _ => ∃ (a : Addr) (k : Ky), vs = [.ref a] ∧ KeyAt H a k ∧ ∀ H', Same H H' → Q (.bl (decide (k.2 = []))) H'
theorem good_is_thing (T : Tx K mg) : Gd P w K mg base CX0 1 "is_thing" ["subject"] (sp_is_thing K) := by
  obtain ⟨fd, F⟩ := T.f_is_thing
  refine ⟨_, fd, fn0 F sc_is_thing (fun vs H Q E h => ?_) (fun cdv A outer s H vs Q E hr h => ⟨_, (pss_one (ps_ret (pe_cmpR (op_eqD hr.units) (pe_ix ix_tup (pv 0) pe_int (fun _ _ => rfl)) (pe_tup pa_nil) (nomark _)))), ?_⟩), F.bindsN (fun _ _ _ _ _ _ us hl => match us, hl with | [_], _ => rfl), T.g_is_thing, F.kp⟩
  · obtain ⟨_, _, e, _⟩ := h
    subst e
    rfl
  · obtain ⟨a, k, rfl, ha, q⟩ := h
    obtain ⟨a1, a2, h1, h2, h3⟩ := ha.fst (K := K)
    refine ⟨_, rfl, _, _, ((1 : Nat) : Int), _, rfl, rfl, h3, atI_nat rfl, fits (by simp), fun p hp => ?_⟩
    exact (h2.same (Same.new hp)).eq NameAt.kp0 (q _ (Same.new hp))
abbrev nm_said : List Str := ["book", "subject"]
theorem sc_said : FnScope nm_said ["book", "subject"] (defScope s_said) := ⟨rfl, rfl, rfl, by decide +kernel, rfl, by decide +kernel, by decide +kernel⟩
def sp_said (K : PySem.W.Frag) : Sp := fun vs H Q _ => ∃ (d : Addr) (B : Bk) (a : Addr) (k : Ky), vs = [.ref d, .ref a] ∧ BookAt H d B ∧ KeyAt H a k ∧ Q (.int (saidB B k)) H
theorem good_said (T : Tx K mg) : Gd P w K mg base CX0 1 "said" ["book", "subject"] (sp_said K) := by
  obtain ⟨fd, F⟩ := T.f_said
  refine ⟨_, fd, fn0 F sc_said (fun vs H Q E h => ?_) (fun cdv A outer s H vs Q E hr h => ⟨_, (pss_one (ps_ret (pe_getX hr.units (pv 0) (pv 1) (pe_gi T.i_NOTHING) ⟨rfl, rfl, rfl, rfl⟩))), ?_⟩), F.bindsN (fun _ _ _ _ _ _ us hl => match us, hl with | [_, _], _ => rfl), T.g_said, F.kp⟩
  · obtain ⟨_, _, _, _, e, _⟩ := h
    subst e
    rfl
  · obtain ⟨d, B, a, k, rfl, hd, ha, q⟩ := h
    refine ⟨_, rfl, d, rfl, hd.some_, _, rfl, DG.get (t := tK) hd ha ?_⟩
    rw [look_vB]
    unfold saidB at q
    cases e : lookG B k with
    | none => rw [e] at q; exact q
    | some n => rw [e] at q; exact q
abbrev nm_has_thing : List Str := ["book", "name"]
theorem sc_has_thing : FnScope nm_has_thing ["book", "name"] (defScope s_has_thing) := ⟨rfl, rfl, rfl, by decide +kernel, rfl, by decide +kernel, by decide +kernel⟩
def sp_has_thing (K : PySem.W.Frag) : Sp := fun vs H Q _ => ∃ (d : Addr) (B : Bk) (a : Addr) (x : Nm), vs = [.ref d, .ref a] ∧ BookAt H d B ∧ NameAt H a x ∧ ∀ H', Same H H' → Q (.bl (hasB B x)) H'
theorem good_has_thing (T : Tx K mg) : Gd P w K mg base CX0 2 "has_thing" ["book", "name"] (sp_has_thing K) := by
  obtain ⟨fd, F⟩ := T.f_has_thing
  refine ⟨_, fd, fn0 F sc_has_thing (fun vs H Q E h => ?_) (fun cdv A outer s H vs Q E hr h => ⟨_, (pss_one (ps_ret (pe_cmpR (op_inX hr.units) (pe_gd (good_thing (P := P) (w := w) (base := base) T) hr pass0 (pa_cons (pv 1) pa_nil)) (pv 0) (by with_unfolding_all rfl)))), ?_⟩), F.bindsN (fun _ _ _ _ _ _ us hl => match us, hl with | [_, _], _ => rfl), T.g_has_thing, F.kp⟩
  · obtain ⟨_, _, _, _, e, _⟩ := h
    subst e
    rfl
  · obtain ⟨d, B, a, x, rfl, hd, ha, q⟩ := h
    refine ⟨_, rfl, a, x, rfl, ha, fun t H' s ht => ⟨_, rfl, DG.in_ (t := tK) (hd.same s) ht ?_⟩⟩
    rw [look_vB, Option.isSome_map]
    exact q _ s
abbrev nm_things_of : List Str := ["book", "subject"]
theorem sc_things_of : FnScope nm_things_of ["book"] (defScope s_things_of) := ⟨rfl, rfl, rfl, by decide +kernel, rfl, by decide +kernel, by decide +kernel⟩
def sp_things_of (K : PySem.W.Frag) : Sp := fun vs H Q _ => ∃ (d : Addr) (B : Bk), vs = [.ref d] ∧ BookAt H d B ∧ NewN Q H (thingsB B)
theorem good_things_of (T : Tx K mg) : Gd P w K mg base CX0 2 "things_of" ["book"] (sp_things_of K) := by
  obtain ⟨fd, F⟩ := T.f_things_of
  refine ⟨_, fd, fn0 F sc_things_of (fun vs H Q E h => ?_) (fun cdv A outer s H vs Q E hr h => ⟨_, (pss_one (ps_ret (pe_lc (own := [("subject", 1)]) (g := gName 1) rfl sc_things_of.nd (pi_list (pe_callB (call_sortedX rfl hr.units) (by rfl) T.b_sorted (by decide +kernel) (pa_cons (pv 0) pa_nil))) (blkOk_by (own := [("subject", 1)]) (N := nm_things_of) (sc := defScope s_things_of) (by decide +kernel)) (fun _ _ _ _ _ => pg_name (i := 1) sc_things_of.nd rfl (Or.inl rfl)) (fun _ _ _ _ _ => pts_one (pt_val (pe_gd (good_is_thing (P := P) (w := w) (base := base) T) hr pass0 (pa_cons (pv 1) pa_nil)))) (fun _ _ _ _ _ => (pe_ix (r := rIxT K) ix_tup (pv 1) pe_int (fun _ _ => rfl)))))), ?_⟩), F.bindsN (fun _ _ _ _ _ _ us hl => match us, hl with | [_], _ => rfl), T.g_things_of, F.kp⟩
  · obtain ⟨_, _, e, _⟩ := h
    subst e
    rfl
  · obtain ⟨d, B, rfl, hd, q⟩ := h
    obtain ⟨ep, bs, b1, b2, b3⟩ := hd.sort
    refine ⟨_, rfl, d, ep, bs, rfl, b1, b2, fun ys p pm pw hp => ⟨p, rfl, ⟨_, SqL.of upd_same⟩, fun D hD => ?_⟩⟩
    have hF := b3 ys pm pw
    refine lc_fm (K := K) (xs := keysOfB B) (R := KeyR H) (S := fun H v x => NameR H v x) (fun k => if decide (k.2 = []) = true then some k.1 else none) hF (SqL.of upd_same) (by rw [keys_length]; exact hd.len) hD (fun H H' v c s h => h.kp s) ?_ ?_
    · rintro k v H' Y N hm ⟨a, rfl, ha⟩ s no yes
      have ha' : KeyAt H' a k := (ha.same (Same.new hp)).same s
      refine ⟨rfl, _, rfl, a, k, rfl, ha', fun H3 s3 => ⟨_, rfl, if_b (fun c => ?_) fun c => ?_⟩⟩
      · obtain ⟨a1, a2, h1, h2, h3⟩ := (ha'.same s3).fst (K := K)
        exact ⟨_, rfl, _, _, ((0 : Nat) : Int), _, rfl, rfl, h3, atI_nat rfl, yes k.1 (if_pos c) _ _ s3 ⟨a1, rfl, h1⟩⟩
      · exact no (by rw [c]; rfl) H3 s3
    · intro vs H' s hl hf
      refine q D vs H' (Same.trans' (Same.new hp) s) (none_of (Same.new hp) hD) hl ?_
      rw [filterMap_if] at hf
      exact hf
abbrev nm_accords_of : List Str := ["book", "name"]
theorem sc_accords_of : FnScope nm_accords_of ["book"] (defScope s_accords_of) := ⟨rfl, rfl, rfl, by decide +kernel, rfl, by decide +kernel, by decide +kernel⟩
def sp_accords_of (K : PySem.W.Frag) : Sp := fun vs H Q _ => ∃ (d : Addr) (B : Bk), vs = [.ref d] ∧ BookAt H d B ∧ NewN Q H (accordsB B)
theorem good_accords_of (T : Tx K mg) : Gd P w K mg base CX0 3 "accords_of" ["book"] (sp_accords_of K) := by
  obtain ⟨fd, F⟩ := T.f_accords_of
  refine ⟨_, fd, fn0 F sc_accords_of (fun vs H Q E h => ?_) (fun cdv A outer s H vs Q E hr h => ⟨_, (pss_one (ps_ret (pe_lc (own := [("name", 1)]) (g := gName 1) rfl sc_accords_of.nd (pi_list (pe_gd (good_things_of (P := P) (w := w) (base := base) T) hr pass0 (pa_cons (pv 0) pa_nil))) (blkOk_by (own := [("name", 1)]) (N := nm_accords_of) (sc := defScope s_accords_of) (by decide +kernel)) (fun _ _ _ _ _ => pg_name (i := 1) sc_accords_of.nd rfl (Or.inl rfl)) (fun _ _ _ _ _ => pts_one (pt_cmpR op_eq (pe_ixX hr.units (pv 0) (pe_gd (good_thing (P := P) (w := w) (base := base) T) hr pass0 (pa_cons (pv 1) pa_nil)) (fun _ _ => rfl)) (pe_gi T.i_ACCORD) (nomark _))) (fun _ _ _ _ _ => (pv 1))))), ?_⟩), F.bindsN (fun _ _ _ _ _ _ us hl => match us, hl with | [_], _ => rfl), T.g_accords_of, F.kp⟩
  · obtain ⟨_, _, e, _⟩ := h
    subst e
    rfl
  · obtain ⟨d, B, rfl, hd, q⟩ := h
    refine ⟨_, rfl, d, B, rfl, hd, fun p as H1 s1 hp hl hF => ⟨p, rfl, ⟨_, SqL.of hl⟩, fun D hD => ?_⟩⟩
    refine lc_fm (K := K) (xs := thingsB B) (R := NameR H1) (S := fun H v x => NameR H v x) (fun x => if decide (saidB B (x, []) = -2) = true then some x else none) hF (SqL.of hl) (Nat.le_trans (things_length B) hd.len) hD (fun H H' v c s h => h.kp s) ?_ ?_
    · rintro x v H' Y N hm ⟨a, rfl, ha⟩ s no yes
      refine ⟨rfl, _, rfl, _, rfl, a, x, rfl, ha.same s, fun t H2 s2 ht => ?_⟩
      obtain ⟨n, hn⟩ := Option.isSome_iff_exists.mp ((look_isSome B (x, [])).mpr (things_mem.mp hm))
      refine ((hd.same s1).same (Same.trans' s s2)).ix ht hn ⟨rfl, ?_⟩
      rw [dec_int]
      have e : saidB B (x, []) = n := by unfold saidB; rw [hn]; rfl
      refine ⟨_, rfl, if_b (fun c => ?_) fun c => ?_⟩
      · exact ⟨_, rfl, yes x (by rw [e]; exact if_pos c) _ _ s2 ⟨a, rfl, (ha.same s).same s2⟩⟩
      · exact no (by rw [e, c]; rfl) _ s2
    · intro vs H' s hl2 hf
      refine q D vs H' (Same.trans' s1 s) (none_of s1 hD) hl2 ?_
      rw [filterMap_if, List.map_id'] at hf
      exact hf
abbrev nm_parts_of : List Str := ["book", "parts", "subject"]
theorem sc_parts_of : FnScope nm_parts_of ["book"] (defScope s_parts_of) := ⟨rfl, rfl, rfl, by decide +kernel, rfl, by decide +kernel, by decide +kernel⟩
def sp_parts_of (K : PySem.W.Frag) : Sp := fun vs H Q _ => ∃ (d : Addr) (B : Bk), vs = [.ref d] ∧ BookAt H d B ∧ KnownA B ∧ B.length ≤ 1000000 ∧ ∀ p H', Same H H' → H p = none → PartsAt H' p (partsB B) → Q (.ref p) H'
theorem good_parts_of (T : Tx K mg) : Gd P w K mg base CX0 2 "parts_of" ["book"] (sp_parts_of K) := by
  obtain ⟨fd, F⟩ := T.f_parts_of
  refine ⟨_, fd, fn0 F sc_parts_of (fun vs H Q E h => ?_) (fun cdv A outer s H vs Q E hr h => ⟨_, (pss_cons (ps_set (i := 1) sc_parts_of.nd rfl (Or.inl rfl) pe_newX)
      (pss_cons (ps_for PassesOwn.never rfl (pi_list (pe_callB (call_sortedX rfl hr.units) (by rfl) T.b_sorted (by decide +kernel) (pa_cons (pv 0) pa_nil))) (pg_name (i := 2) sc_parts_of.nd rfl (Or.inl rfl)) (pss_one (ps_if (pt_val (pe_gd (good_is_thing (P := P) (w := w) (base := base) T) hr pass0 (pa_cons (pv 2) pa_nil))) (pss_one (ps_asg (pe_lst pa_nil) (pg_sub (pv 1) (pe_ix ix_tup (pv 2) pe_int (fun _ _ => rfl)) (set_X hr.units)))) (pss_one (ps_expr (pe_bm PySem.F.plainAttrs_list PySem.F.slot_list_append PySem.F.type_list_append mt_append (pe_ixX hr.units (pv 1) (pe_ix ix_tup (pv 2) pe_int (fun _ _ => rfl)) (fun _ _ => rfl)) (pa_cons (pe_ix ix_tup (pv 2) pe_int (fun _ _ => rfl)) pa_nil)))))))
      (pss_one (ps_ret (pv 1))))), ?_⟩), F.bindsN (fun _ _ _ _ _ _ us hl => match us, hl with | [_], _ => rfl), T.g_parts_of, F.kp⟩
  · obtain ⟨_, _, e, _⟩ := h
    subst e
    rfl
  · obtain ⟨d, B, rfl, hd, hA, hlen, q⟩ := h
    have hn := hd.nodup
    refine fun p ep hp hX => ?_
    have sp : Same H (upd H p (DXo p ep [])) := Same.new hp
    obtain ⟨ep', bs, b1, b2, b3⟩ := (hd.same sp).sort
    refine ⟨_, rfl, d, ep', bs, rfl, b1, b2, fun ys l pm pw hl => ⟨l, rfl, ⟨_, SqL.of upd_same⟩, ?_⟩⟩
    have hF := b3 ys pm pw
    have hl0 : H l = none := none_of sp hl
    have npl : p ≠ l := fun e => by rw [← e, upd_same] at hl; cases hl
    have sl : Same H (upd H l (.lst (ys.map fun b => .ref b.2.1))) := Same.new hl0
    have s2 : Same (upd H l (.lst (ys.map fun b => .ref b.2.1))) (upd (upd H p (DXo p ep [])) l (.lst (ys.map fun b => .ref b.2.1))) := same_two hp hl
    generalize hys : (ys.map fun b => V.ref b.2.1) = as at *
    refine for_each (R := KeyR (upd H p (DXo p ep []))) (xs := keysOfB B) hF (fun dn rs σ H' => (∃ m, σ = [some (.ref d), some (.ref p), m]) ∧ ∃ vs, PartsI (upd H l (.lst as)) H' p (dn.foldl addP []) vs) ⟨⟨_, rfl⟩, [], ?_⟩ ?_ ?_ ?_
    · exact ⟨DG.same (Same.new hl) (DG.new hX), .nil, List.nodup_nil, by rw [upd_ne npl]; exact hp, (fun e m => absurd m List.not_mem_nil), s2⟩
    · rintro dn rs σ H' ⟨-, vs, hI⟩
      exact SqL.of (hI.same _ _ upd_same)
    · rintro dn k rs v σ H' e ⟨a, rfl, ha⟩ ⟨⟨m, rfl⟩, vs, hI⟩
      have ha' : KeyAt H' a k := ha.kp (kp_upd nfX hp (Same.trans' sl hI.same))
      refine ⟨_, rfl, a, k, rfl, ha', fun H3 s3 => ⟨_, rfl, if_b (fun c => ?_) fun c => ?_⟩⟩
      · have c' : k.2 = [] := of_decide_eq_true c
        have hk : k.1 ∉ (dn.foldl addP []).map (·.1) := by
          rw [foldP_keys]
          rintro (h | h)
          · cases h
          · rw [← c'] at h
            exact notin_done hn e h
        refine ⟨fits (by simp), fun l2 hl2 => ?_⟩
        have I3 := hI.step s3
        have ha3 := (ha'.same s3).same (Same.new (o := .lst []) hl2)
        obtain ⟨a1, a2, h1, h2, h3⟩ := ha3.fst (K := K)
        refine ⟨_, rfl, _, rfl, _, _, ((0 : Nat) : Int), _, rfl, rfl, h3, atI_nat rfl, ?_⟩
        refine DG.set_ (t := tN) (I3.dg.same (Same.new hl2)) h1 ?_ (fun o hD => ⟨⟨_, rfl⟩, putG vs k.1 (.ref l2), ?_⟩)
        · have h4 := foldP_length dn []
          have h5 : dn.length < (keysOfB B).length := by rw [← e]; simp
          rw [keys_length] at h5
          have h6 : vs.length = (dn.foldl addP []).length := I3.rel.length
          exact fits' (by simp at h4; omega)
        · have := PartsI.put I3 hl2 hk hD
          rw [List.foldl_append]
          show PartsI _ _ _ (addP _ k) _
          unfold addP
          rw [if_pos c']
          exact this
      · have c' : k.2 ≠ [] := of_decide_eq_false c
        have hk : k.1 ∈ (dn.foldl addP []).map (·.1) := (foldP_keys dn []).mpr (.inr (before_parts hn hA e c'))
        have I3 := hI.step s3
        obtain ⟨a1, a2, h1, h2, h3⟩ := (ha'.same s3).fst (K := K)
        rcases I3.rel.look k.1 with ⟨e1, _⟩ | ⟨zs, l2, as2, e1, e2, e3, e4⟩
        · have := (look_isSome (dn.foldl addP []) k.1).mpr hk
          rw [e1] at this
          cases this
        refine ⟨_, rfl, _, rfl, _, _, ((0 : Nat) : Int), _, rfl, rfl, h3, atI_nat rfl, DG.ix (t := tN) I3.dg h1 e2 ⟨.inl ⟨rfl, _, SqL.of e3⟩, _, rfl, _, _, ((1 : Nat) : Int), _, rfl, rfl, h3, atI_nat rfl, l2, as2, _, rfl, rfl, e3, ?_, ⟨_, rfl⟩, vs, ?_⟩⟩
        · have h7 := e4.length
          have h8 : zs.length ≤ dn.length := look_parts_le e1
          have h5 : dn.length < (keysOfB B).length := by rw [← e]; simp
          rw [keys_length] at h5
          exact fits' (by omega)
        · have := PartsI.app I3 e2 e3 (v := .ref a2) (y := k.2) ⟨a2, rfl, h2⟩
          rw [List.foldl_append]
          show PartsI _ _ _ (addP _ k) _
          unfold addP
          rw [if_neg c']
          exact this
    · rintro σ H' ⟨⟨m, rfl⟩, vs, hI⟩
      exact ⟨_, rfl, q p H' (Same.trans' sl hI.same) hp ⟨vs, hI.dg, hI.rel⟩⟩
abbrev nm_standing_in : List Str := ["parts", "name", "found", "layer", "deeper", "above", "part"]
theorem sc_standing_in : FnScope nm_standing_in ["parts", "name"] (defScope s_standing_in) := ⟨rfl, rfl, rfl, by decide +kernel, rfl, by decide +kernel, by decide +kernel⟩
def sp_standing_in (K : PySem.W.Frag) : Sp := fun vs H Q _ => ∃ (d a : Addr) (P : Pt) (x : Nm), vs = [.ref d, .ref a] ∧ PartsAt H d P ∧ NameAt H a x ∧ Closed P ∧ x ∈ P.map (·.1) ∧ P.length ≤ 1000000 ∧ ∀ f H', Same H H' → H f = none → SetAt tN H' f (standB P x) → Q (.ref f) H'
theorem good_standing_in (T : Tx K mg) : Gd P w K mg base CX0 1 "standing_in" ["parts", "name"] (sp_standing_in K) := by
  obtain ⟨fd, F⟩ := T.f_standing_in
  refine ⟨_, fd, fn0 F sc_standing_in (fun vs H Q E h => ?_) (fun cdv A outer s H vs Q E hr h => ⟨_, (pss_cons (ps_set (i := 2) sc_standing_in.nd rfl (Or.inl rfl) pe_newX)
      (pss_cons (ps_set (i := 3) sc_standing_in.nd rfl (Or.inl rfl) (pe_lst (pa_cons (pv 1) pa_nil)))
      (pss_cons (ps_while PassesOwn.never (pt_cmpR op_gt (pe_callB call_len_seq (by rfl) T.b_len PySem.boot_len (pa_cons (pv 3) pa_nil)) pe_int (nomark _)) (pss_cons (ps_set (i := 4) sc_standing_in.nd rfl (Or.inl rfl) (pe_lst pa_nil))
      (pss_cons (ps_for PassesOwn.never rfl (pi_list (pv 3)) (pg_name (i := 5) sc_standing_in.nd rfl (Or.inl rfl)) (pss_one (ps_for PassesOwn.never rfl (pi_list (pe_ixX hr.units (pv 0) (pv 5) (fun _ _ => rfl))) (pg_name (i := 6) sc_standing_in.nd rfl (Or.inl rfl)) (pss_one (ps_if (pt_cmpR (op_notInX hr.units) (pv 6) (pv 2) (by with_unfolding_all rfl)) (pss_cons (ps_asg pe_bl (pg_sub (pv 2) (pv 6) (set_X hr.units)))
      (pss_one (ps_expr (pe_bm PySem.F.plainAttrs_list PySem.F.slot_list_append PySem.F.type_list_append mt_append (pv 4) (pa_cons (pv 6) pa_nil))))) pss_nil)))))
      (pss_one (ps_set (i := 3) sc_standing_in.nd rfl (Or.inl rfl) (pv 4))))))
      (pss_one (ps_ret (pv 2)))))), ?_⟩), F.bindsN (fun _ _ _ _ _ _ us hl => match us, hl with | [_, _], _ => rfl), T.g_standing_in, F.kp⟩
  · obtain ⟨_, _, _, _, e, _⟩ := h
    subst e
    rfl
  · obtain ⟨d, a, P', x, rfl, ⟨vs, hdg, hrel⟩, ha, hC, hx, hlen, q⟩ := h
    refine fun F ep hF hX => ⟨_, rfl, fits (by simp), fun L0 hL0 => ?_⟩
    have sF : Same H (upd H F (DXo F ep [])) := Same.new hF
    refine ⟨fun m σ H' => ∃ found L as layer o4 o5 o6, σ = [some (.ref d), some (.ref a), some (.ref F), some (.ref L), o4, o5, o6] ∧ Same H H' ∧ H L = none ∧ SetAt tN H' F found ∧ H' L = some (.lst as) ∧ F2 (NameR H') as layer ∧
      standB P' x = seeFrom P' m found layer ∧ (∀ y ∈ found, y ∈ P'.map (·.1)) ∧ (∀ y ∈ layer, y ∈ P'.map (·.1)) ∧ (layer ≠ [] → found.length + m ≥ P'.length + 2), ⟨P'.length + 2, [], L0, [.ref a], [x], none, none, none, rfl, Same.trans' sF (Same.new hL0), none_of sF hL0, ?_, upd_same, ?_, rfl, ?_, ?_, fun _ => by simp⟩, ?_⟩
    · exact DG.same (Same.new hL0) (DG.new hX)
    · exact .cons ⟨a, rfl, (ha.same sF).same (Same.new hL0)⟩ .nil
    · exact fun y m => absurd m List.not_mem_nil
    · intro y m
      rw [List.mem_singleton] at m
      rw [m]
      exact hx
    rintro m σ H' ⟨found, L, as, layer, o4, o5, o6, rfl, s, hL, hfound, hl, hlay, e, c1, c2, c3⟩
    refine ⟨_, rfl, L, as, rfl, .inl (SqL.of hl), _, _, rfl, rfl, _, rfl, if_b (fun c => ?_) fun c => ?_⟩
    · have c' : layer ≠ [] := by
        have := of_decide_eq_true c
        have h2 := hlay.length
        intro e
        rw [e, List.length_nil] at h2
        omega
      have hfl : found.length ≤ P'.length := by
        have := nodup_le hfound.nodup c1
        rwa [List.length_map] at this
      have h3 := c3 c'
      obtain ⟨f, rfl⟩ : ∃ f, m = f + 1 := ⟨m - 1, by omega⟩
      have e' : standB P' x = seeFrom P' f (seeAll P' (found, []) layer).1 (seeAll P' (found, []) layer).2 := by
        rw [e, seeFrom, if_neg c']
      refine ⟨fun σ' H2 => ∃ found L as layer o4 o5 o6, σ' = [some (.ref d), some (.ref a), some (.ref F), some (.ref L), o4, o5, o6] ∧ Same H H2 ∧ H L = none ∧ SetAt tN H2 F found ∧ H2 L = some (.lst as) ∧ F2 (NameR H2) as layer ∧
        standB P' x = seeFrom P' f found layer ∧ (∀ y ∈ found, y ∈ P'.map (·.1)) ∧ (∀ y ∈ layer, y ∈ P'.map (·.1)) ∧ (layer ≠ [] → found.length + f ≥ P'.length + 2), fun σ' H2 h => ⟨f, Nat.lt_succ_self f, h⟩, fits (by simp), fun D hD => ?_⟩
      have nLD : L ≠ D := fun e => by rw [e, hD] at hl; cases hl
      have hD0 : H D = none := none_of s hD
      have sD : Same H' (upd H' D (.lst [])) := Same.new hD
      refine ⟨_, rfl, L, rfl, ⟨_, SqL.of (sD _ _ hl)⟩, for_each (R := NameR H') (xs := layer) hlay (fun dn rs σ H2 => Same H H2 ∧ Kp H' H2 ∧ H2 L = some (.lst as) ∧ ∃ fd dp ds o5 o6, σ = [some (.ref d), some (.ref a), some (.ref F), some (.ref L), some (.ref D), o5, o6] ∧ SetAt tN H2 F fd ∧ H2 D = some (.lst ds) ∧ F2 (NameR H2) ds dp ∧
        seeAll P' (found, []) layer = seeAll P' (fd, dp) rs ∧ (∀ y ∈ fd, y ∈ P'.map (·.1)) ∧ (∀ y ∈ dp, y ∈ P'.map (·.1)) ∧ fd.length = found.length + dp.length) ⟨Same.trans' s sD, Same.kp sD, sD _ _ hl, found, [], [], _, _, rfl, hfound.same sD, upd_same, .nil, rfl, c1, (fun y m => absurd m List.not_mem_nil), rfl⟩ ?_ ?_ ?_⟩
      · rintro dn rs σ H2 ⟨-, -, h, -⟩
        exact SqL.of h
      · rintro dn y rs v σ H2 ey ⟨b, rfl, hb⟩ ⟨s2, k2, hl2, fd, dp, ds, o5, o6, rfl, g1, g2, g3, g4, g5, g6, g7⟩
        have hyk : y ∈ P'.map (·.1) := c2 y (by rw [← ey]; simp)
        rcases hrel.look y with ⟨e1, _⟩ | ⟨ys, l, us, hys, p2, hul, p4⟩
        · have := (look_isSome P' y).mpr hyk
          rw [e1] at this
          cases this
        have hin : inP P' y = ys := by unfold inP; rw [hys]; rfl
        refine ⟨_, rfl, _, rfl, DG.ix (t := tN) (hdg.same s2) (hb.kp k2) p2 ⟨l, rfl, ⟨_, SqL.of (s2 _ _ hul)⟩, ?_⟩⟩
        refine for_each (R := NameR H2) (xs := ys) (p4.kpN (Same.kp s2)) (fun dn2 rs2 σ H3 => Same H H3 ∧ Kp H2 H3 ∧ H3 L = some (.lst as) ∧ ∃ fd dp ds o6, σ = [some (.ref d), some (.ref a), some (.ref F), some (.ref L), some (.ref D), some (.ref b), o6] ∧ SetAt tN H3 F fd ∧ H3 D = some (.lst ds) ∧ F2 (NameR H3) ds dp ∧
          seeAll P' (found, []) layer = seeAll P' (seeOne (fd, dp) rs2) rs ∧ (∀ y ∈ fd, y ∈ P'.map (·.1)) ∧ (∀ y ∈ dp, y ∈ P'.map (·.1)) ∧ fd.length = found.length + dp.length) ⟨s2, Kp.refl _, hl2, fd, dp, ds, _, rfl, g1, g2, g3, by rw [g4, seeAll, hin], g5, g6, g7⟩ ?_ ?_ ?_
        · rintro dn2 rs2 σ H3 ⟨s3, -, -, -⟩
          exact SqL.of (s3 _ _ hul)
        · rintro dn2 z rs2 v σ H3 ez ⟨b2, rfl, hb2⟩ ⟨s3, k3, hl3, fd, dp, ds, o6, rfl, g1, g2, g3, g4, g5, g6, g7⟩
          have hb3 := hb2.kp k3
          have hz : z ∈ P'.map (·.1) := hC (y, ys) (look_mem0 hys) z (by rw [← ez]; simp)
          refine ⟨_, rfl, _, rfl, DG.notin (t := tN) g1 hb3 ⟨_, rfl, ?_⟩⟩
          rw [look_set]
          refine if_b (fun c => ?_) fun c => ?_
          · have hzf : z ∉ fd := memB_false.mp (by simpa using c)
            have hfd : fd.length ≤ P'.length := by
              have := nodup_le g1.nodup g5
              rwa [List.length_map] at this
            refine ⟨_, rfl, _, rfl, DG.set_ (t := tN) g1 hb3 (by rw [setD_length]; exact fits' (by omega)) (fun o hDG => ?_)⟩
            have hD3 : upd H3 F o D = some (.lst ds) := by
              obtain ⟨f0, hf0⟩ := DG.at_ g1
              rw [upd_ne (fun e => by rw [e, hf0] at g2; cases g2)]
              exact g2
            have hL3 : upd H3 F o L = some (.lst as) := by
              obtain ⟨f0, hf0⟩ := DG.at_ g1
              rw [upd_ne (fun e => by rw [e, hf0] at hl3; cases hl3)]
              exact hl3
            have hDF : D ≠ F := by
              obtain ⟨f0, hf0⟩ := DG.at_ g1
              exact fun e => by rw [e, hf0] at g2; cases g2
            have kF : Kp H3 (upd H3 F o) := DG.kpe g1
            rw [put_set, addS_new hzf] at hDG
            refine ⟨_, rfl, .inl ⟨rfl, _, SqL.of hD3⟩, _, rfl, D, ds, _, rfl, rfl, hD3, ?_, ?_⟩
            · have := g3.length
              exact fits' (by omega)
            refine ⟨Same.mut (Same.mut s3 hF) hD0, Kp.trans k3 (Kp.trans kF (Kp.lst hD3)), by rw [upd_ne nLD]; exact hL3, fd ++ [z], dp ++ [z], _, _, rfl, DG.other hDG hD3 (fun f => f) hDF, upd_same, ?_, ?_, ?_, ?_, ?_⟩
            · exact (g3.kpN (Kp.trans kF (Kp.lst hD3))).snoc ⟨b2, rfl, hb3.kp (Kp.trans kF (Kp.lst hD3))⟩
            · rw [g4, seeOne, if_neg hzf]
            · intro y m
              rcases List.mem_append.mp m with m | m
              · exact g5 y m
              · rw [List.mem_singleton] at m; rw [m]; exact hz
            · intro y m
              rcases List.mem_append.mp m with m | m
              · exact g6 y m
              · rw [List.mem_singleton] at m; rw [m]; exact hz
            · simp only [List.length_append, List.length_cons, List.length_nil]
              omega
          · have hzf : z ∈ fd := memB_iff.mp (by simpa using c)
            exact ⟨s3, k3, hl3, fd, dp, ds, _, rfl, g1, g2, g3, by rw [g4, seeOne, if_pos hzf], g5, g6, g7⟩
        · rintro σ H3 ⟨s3, k3, hl3, fd, dp, ds, o6, rfl, g1, g2, g3, g4, g5, g6, g7⟩
          exact ⟨s3, Kp.trans k2 k3, hl3, fd, dp, ds, _, _, rfl, g1, g2, g3, by rw [g4, seeOne], g5, g6, g7⟩
      · rintro σ H2 ⟨s2, k2, hl2, fd, dp, ds, o5, o6, rfl, g1, g2, g3, g4, g5, g6, g7⟩
        refine ⟨_, rfl, fd, D, ds, dp, _, _, _, rfl, s2, hD0, g1, g2, g3, ?_, g5, g6, fun hne => ?_⟩
        · rw [e', g4, seeAll]
        · have : 0 < dp.length := List.length_pos_iff.mpr hne
          omega
    · have c' : layer = [] := by
        have := of_decide_eq_false c
        have h2 := hlay.length
        exact List.length_eq_zero_iff.mp (by omega)
      subst c'
      rw [seeFrom_done] at e
      exact ⟨_, rfl, q F H' s hF (by rw [e]; exact hfound)⟩
abbrev nm_parts_are_known : List Str := ["book", "subject"]
theorem sc_parts_are_known : FnScope nm_parts_are_known ["book"] (defScope s_parts_are_known) := ⟨rfl, rfl, rfl, by decide +kernel, rfl, by decide +kernel, by decide +kernel⟩
def sp_parts_are_known (K : PySem.W.Frag) : Sp := fun vs H Q _ => ∃ (d : Addr) (B : Bk), vs = [.ref d] ∧ BookAt H d B ∧ ∀ H', Same H H' → Q (.bl (knownB B)) H'
theorem good_parts_are_known (T : Tx K mg) : Gd P w K mg base CX0 3 "parts_are_known" ["book"] (sp_parts_are_known K) := by
  obtain ⟨fd, F⟩ := T.f_parts_are_known
  refine ⟨_, fd, fn0 F sc_parts_are_known (fun vs H Q E h => ?_) (fun cdv A outer s H vs Q E hr h => ⟨_, (pss_cons (ps_for PassesOwn.never rfl (pi_keysX (pv 0)) (pg_name (i := 1) sc_parts_are_known.nd rfl (Or.inl rfl)) (pss_one (ps_if (pt_not (pt_val (pe_gd (good_is_thing (P := P) (w := w) (base := base) T) hr pass0 (pa_cons (pv 1) pa_nil)))) (pss_one (ps_if (PW.pt (pw_or (pt_cmpR op_ne (pe_gd (good_said (P := P) (w := w) (base := base) T) hr pass0 (pa_cons (pv 0) (pa_cons (pe_gd (good_thing (P := P) (w := w) (base := base) T) hr pass0 (pa_cons (pe_ix ix_tup (pv 1) pe_int (fun _ _ => rfl)) pa_nil)) pa_nil))) (pe_gi T.i_ACCORD) (nomark _)) (pw_or1 (pt_not (pt_val (pe_gd (good_has_thing (P := P) (w := w) (base := base) T) hr pass0 (pa_cons (pv 0) (pa_cons (pe_ix ix_tup (pv 1) pe_int (fun _ _ => rfl)) pa_nil)))))))) (pss_one (ps_ret pe_bl)) pss_nil)) pss_nil)))
      (pss_one (ps_ret pe_bl))), ?_⟩), F.bindsN (fun _ _ _ _ _ _ us hl => match us, hl with | [_], _ => rfl), T.g_parts_are_known, F.kp⟩
  · obtain ⟨_, _, e, _⟩ := h
    subst e
    rfl
  · obtain ⟨d, B, rfl, hd, q⟩ := h
    refine ⟨_, rfl, for_book hd (fun l r σ H' => Same H H' ∧ (∃ m, σ = [some (.ref d), m]) ∧ knownB B = r.all fun b => decide (b.1.2 = []) || (decide (saidB B (b.1.1, []) = -2) && hasB B b.1.2)) ⟨Same.refl H, ⟨_, rfl⟩, rfl⟩ (fun _ _ _ _ p => p.1) ?_ ?_⟩
    · rintro l b r a σ H' e ha ⟨s, ⟨m, rfl⟩, ek⟩
      rw [List.all_cons] at ek
      refine ⟨_, rfl, a, b.1, rfl, ha, fun H2 s2 => ⟨_, rfl, if_b (fun c => ?_) fun c => ?_⟩⟩
      · have c' : decide (b.1.2 = []) = false := by simpa using c
        rw [c', Bool.false_or] at ek
        obtain ⟨a1, a2, h1, h2, h3⟩ := (ha.same s2).fst (K := K)
        have no : ∀ H', Same H H' → (decide (saidB B (b.1.1, []) = -2) && hasB B b.1.2) = false → Q (.bl false) H' := fun H' s' c => by
          have := q H' s'
          rw [ek, c, Bool.false_and] at this
          exact this
        refine ⟨_, rfl, _, rfl, _, _, ((0 : Nat) : Int), _, rfl, rfl, h3, atI_nat rfl, a1, _, rfl, h1, fun t H3 s3 ht => ⟨d, B, t, _, rfl, hd.same (Same.trans' s (Same.trans' s2 s3)), ht, ⟨rfl, ?_⟩⟩⟩
        rw [dec_int]
        refine ⟨_, rfl, if_b (fun c2 => ?_) fun c2 => ?_⟩
        · have c3 : decide (saidB B (b.1.1, []) = -2) = false := by simpa using c2
          exact no _ (Same.trans' s (Same.trans' s2 s3)) (by rw [c3, Bool.false_and])
        · have c3 : decide (saidB B (b.1.1, []) = -2) = true := by simpa using c2
          obtain ⟨a1', a2', h1', h2', h3'⟩ := ((ha.same s2).same s3).fst (K := K)
          refine ⟨_, rfl, _, rfl, _, _, ((1 : Nat) : Int), _, rfl, rfl, h3', atI_nat rfl, d, B, a2', _, rfl, hd.same (Same.trans' s (Same.trans' s2 s3)), h2', fun H4 s4 => ⟨_, rfl, if_b (fun c4 => ?_) fun c4 => ?_⟩⟩
          · have c5 : hasB B b.1.2 = false := by simpa using c4
            exact no _ (Same.trans' s (Same.trans' s2 (Same.trans' s3 s4))) (by rw [c5, Bool.and_false])
          · have c5 : hasB B b.1.2 = true := by simpa using c4
            refine ⟨Same.trans' s (Same.trans' s2 (Same.trans' s3 s4)), ⟨_, rfl⟩, ?_⟩
            rw [ek, c3, c5, Bool.true_and, Bool.true_and]
      · have c' : decide (b.1.2 = []) = true := by simpa using c
        refine ⟨Same.trans' s s2, ⟨_, rfl⟩, ?_⟩
        rw [ek, c', Bool.true_or, Bool.true_and]
    · rintro σ H' ⟨s, ⟨m, rfl⟩, ek⟩
      have := q H' s
      rw [ek] at this
      exact this
abbrev nm_is_right : List Str := ["book", "parts", "name"]
theorem sc_is_right : FnScope nm_is_right ["book"] (defScope s_is_right) := ⟨rfl, rfl, rfl, by decide +kernel, rfl, by decide +kernel, by decide +kernel⟩
def sp_is_right (K : PySem.W.Frag) : Sp := fun vs H Q _ => ∃ (d : Addr) (B : Bk), vs = [.ref d] ∧ BookAt H d B ∧ B.length ≤ 1000000 ∧ ∀ H', Same H H' → Q (.bl (rightB B)) H'
theorem good_is_right (T : Tx K mg) : Gd P w K mg base CX0 4 "is_right" ["book"] (sp_is_right K) := by
  obtain ⟨fd, F⟩ := T.f_is_right
  refine ⟨_, fd, fn0 F sc_is_right (fun vs H Q E h => ?_) (fun cdv A outer s H vs Q E hr h => ⟨_, (pss_cons (ps_if (PW.pt (pw_or (pt_cmpR op_gt (pe_callB call_len_seq (by rfl) T.b_len PySem.boot_len (pa_cons (pe_gd (good_things_of (P := P) (w := w) (base := base) T) hr pass0 (pa_cons (pv 0) pa_nil)) pa_nil)) (pe_gi T.i_MOST_THINGS) (nomark _)) (pw_or1 (pt_not (pt_val (pe_gd (good_parts_are_known (P := P) (w := w) (base := base) T) hr pass0 (pa_cons (pv 0) pa_nil))))))) (pss_one (ps_ret pe_bl)) pss_nil)
      (pss_cons (ps_set (i := 1) sc_is_right.nd rfl (Or.inl rfl) (pe_gd (good_parts_of (P := P) (w := w) (base := base) T) hr pass0 (pa_cons (pv 0) pa_nil)))
      (pss_cons (ps_for PassesOwn.never rfl (pi_list (pe_gd (good_accords_of (P := P) (w := w) (base := base) T) hr pass0 (pa_cons (pv 0) pa_nil))) (pg_name (i := 2) sc_is_right.nd rfl (Or.inl rfl)) (pss_cons (ps_if (PW.pt (pw_or (pt_cmpR op_lt (pe_callB call_len_seq (by rfl) T.b_len PySem.boot_len (pa_cons (pe_ixX hr.units (pv 1) (pv 2) (fun _ _ => rfl)) pa_nil)) pe_int (nomark _)) (pw_or1 (pt_cmpR op_gt (pe_callB call_len_seq (by rfl) T.b_len PySem.boot_len (pa_cons (pe_ixX hr.units (pv 1) (pv 2) (fun _ _ => rfl)) pa_nil)) (pe_gi T.i_MOST_PARTS) (nomark _))))) (pss_one (ps_ret pe_bl)) pss_nil)
      (pss_one (ps_if (pt_cmpR (op_inX hr.units) (pv 2) (pe_gd (good_standing_in (P := P) (w := w) (base := base) T) hr pass0 (pa_cons (pv 1) (pa_cons (pv 2) pa_nil))) (by with_unfolding_all rfl)) (pss_one (ps_ret pe_bl)) pss_nil))))
      (pss_one (ps_ret pe_bl))))), ?_⟩), F.bindsN (fun _ _ _ _ _ _ us hl => match us, hl with | [_], _ => rfl), T.g_is_right, F.kp⟩
  · obtain ⟨_, _, e, _⟩ := h
    subst e
    rfl
  · obtain ⟨d, B, rfl, hd, hlen, q⟩ := h
    unfold rightB at q
    refine ⟨_, rfl, d, B, rfl, hd, fun p as H1 s1 hp hl hF => ⟨p, as, rfl, .inl (SqL.of hl), _, _, rfl, rfl, _, rfl, if_b (fun c => ?_) fun c => ?_⟩⟩
    · have := of_decide_eq_true c
      have h2 := hF.length
      have h3 := q H1 s1
      rw [if_pos (by omega)] at h3
      exact h3
    have c1 : ¬ (thingsB B).length > 40 := by
      have := of_decide_eq_false c
      have h2 := hF.length
      omega
    rw [if_neg c1] at q
    refine ⟨_, rfl, d, B, rfl, hd.same s1, fun H2 s2 => ⟨_, rfl, if_b (fun c => ?_) fun c => ?_⟩⟩
    · have c2 : knownB B = false := by simpa using c
      have h3 := q H2 (Same.trans' s1 s2)
      rw [if_pos c2] at h3
      exact h3
    have c2 : knownB B = true := by simpa using c
    rw [if_neg (by rw [c2]; exact Bool.noConfusion)] at q
    obtain ⟨kA, kP⟩ := known_of c2
    have s12 := Same.trans' s1 s2
    refine ⟨_, rfl, d, B, rfl, hd.same s12, kA, hlen, fun P3 H3 s3 hP hParts => ⟨_, rfl, d, B, rfl, hd.same (Same.trans' s12 s3), fun L as2 H4 s4 hL hl2 hF2 => ⟨L, rfl, ⟨_, SqL.of hl2⟩, ?_⟩⟩⟩
    have s14 : Same H H4 := Same.trans' s12 (Same.trans' s3 s4)
    refine for_each (R := NameR H4) (xs := accordsB B) hF2 (fun l r σ H' => Same H4 H' ∧ (∃ m, σ = [some (.ref d), some (.ref P3), m]) ∧ ((accordsB B).all fun y => decide (1 ≤ (inP (partsB B) y).length) && (decide ((inP (partsB B) y).length ≤ 12) && !memB (standB (partsB B) y) y)) = r.all fun y => decide (1 ≤ (inP (partsB B) y).length) && (decide ((inP (partsB B) y).length ≤ 12) && !memB (standB (partsB B) y) y)) ⟨Same.refl _, ⟨_, rfl⟩, rfl⟩ ?_ ?_ ?_
    · rintro l r σ H' ⟨s, -⟩
      exact SqL.of (s _ _ hl2)
    · rintro l y r v σ H' e ⟨a, rfl, ha⟩ ⟨s, ⟨m, rfl⟩, ek⟩
      rw [List.all_cons] at ek
      have hy : y ∈ accordsB B := by rw [← e]; simp
      have hyk : y ∈ (partsB B).map (·.1) := parts_mem.mpr (things_mem.mp (List.mem_filter.mp hy).1)
      have ha' := ha.same s
      have s4' : Same H3 H' := Same.trans' s4 s
      have hP' := hParts.same s4'
      obtain ⟨ys, hys⟩ := Option.isSome_iff_exists.mp ((look_isSome (partsB B) y).mpr hyk)
      have hin : inP (partsB B) y = ys := by unfold inP; rw [hys]; rfl
      rw [hin] at ek
      obtain ⟨vs, l1, us, p1, p2, p3, p4⟩ := hP'.look hys
      have hul := p4.length
      have no : ∀ H', Same H H' → (decide (1 ≤ ys.length) && (decide (ys.length ≤ 12) && !memB (standB (partsB B) y) y)) = false → Q (.bl false) H' := fun H' s' c => by
        have := q H' s'
        rw [ek, c, Bool.false_and] at this
        exact this
      have sH : Same H H' := Same.trans' s14 s
      refine ⟨_, rfl, _, rfl, DG.ix (t := tN) p1 ha' p2 ⟨l1, us, rfl, .inl (SqL.of p3), _, _, rfl, rfl, _, rfl, if_b (fun c => ?_) fun c => ?_⟩⟩
      · have := of_decide_eq_true c
        exact no _ sH (by rw [decide_eq_false (by omega), Bool.false_and])
      have c3 : 1 ≤ ys.length := by have := of_decide_eq_false c; omega
      refine ⟨_, rfl, _, rfl, DG.ix (t := tN) p1 ha' p2 ⟨l1, us, rfl, .inl (SqL.of p3), _, _, rfl, rfl, _, rfl, if_b (fun c => ?_) fun c => ?_⟩⟩
      · have := of_decide_eq_true c
        exact no _ sH (by rw [show decide (ys.length ≤ 12) = false from decide_eq_false (by omega), Bool.false_and, Bool.and_false])
      have c4 : ys.length ≤ 12 := by have := of_decide_eq_false c; omega
      rw [decide_eq_true c3, decide_eq_true c4, Bool.true_and, Bool.true_and] at ek no
      refine ⟨_, rfl, _, rfl, _, rfl, P3, a, partsB B, y, rfl, hP', ha', closed_parts kP, hyk, Nat.le_trans (parts_length B) hlen, fun f H5 s5 hf hset => DG.in_ (t := tN) hset (ha'.same s5) ⟨_, rfl, ?_⟩⟩
      rw [look_set]
      refine if_b (fun c => ?_) fun c => ?_
      · exact no _ (Same.trans' sH s5) (by rw [c]; rfl)
      · refine ⟨Same.trans' s s5, ⟨_, rfl⟩, ?_⟩
        rw [ek, c]
        rfl
    · rintro σ H' ⟨s, ⟨m, rfl⟩, ek⟩
      have := q H' (Same.trans' s14 s)
      rw [ek] at this
      exact this
abbrev nm_renamed : List Str := ["book", "old", "new", "made", "subject", "first", "second"]
theorem sc_renamed : FnScope nm_renamed ["book", "old", "new"] (defScope s_renamed) := ⟨rfl, rfl, rfl, by decide +kernel, rfl, by decide +kernel, by decide +kernel⟩
def sp_renamed (K : PySem.W.Frag) : Sp := fun vs H Q _ => ∃ (d : Addr) (B : Bk) (o n : Addr) (a z : Nm), vs = [.ref d, .ref o, .ref n] ∧ BookAt H d B ∧ NameAt H o a ∧ NameAt H n z ∧ B.length ≤ 1000000 ∧ NewB Q H (renB B a z)
theorem good_renamed (T : Tx K mg) : Gd P w K mg base CX0 1 "renamed" ["book", "old", "new"] (sp_renamed K) := by
  obtain ⟨fd, F⟩ := T.f_renamed
  refine ⟨_, fd, fn0 F sc_renamed (fun vs H Q E h => ?_) (fun cdv A outer s H vs Q E hr h => ⟨_, (pss_cons (ps_set (i := 3) sc_renamed.nd rfl (Or.inl rfl) pe_newX)
      (pss_cons (ps_for PassesOwn.never rfl (pi_keysX (pv 0)) (pg_name (i := 4) sc_renamed.nd rfl (Or.inl rfl)) (pss_cons (ps_set (i := 5) sc_renamed.nd rfl (Or.inl rfl) (pe_ifExp (pt_cmpR (op_eqD hr.units) (pe_ix ix_tup (pv 4) pe_int (fun _ _ => rfl)) (pv 1) (nomark _)) (pv 2) (pe_ix ix_tup (pv 4) pe_int (fun _ _ => rfl))))
      (pss_cons (ps_set (i := 6) sc_renamed.nd rfl (Or.inl rfl) (pe_ifExp (pt_cmpR (op_eqD hr.units) (pe_ix ix_tup (pv 4) pe_int (fun _ _ => rfl)) (pv 1) (nomark _)) (pv 2) (pe_ix ix_tup (pv 4) pe_int (fun _ _ => rfl))))
      (pss_one (ps_asg (pe_ixX hr.units (pv 0) (pv 4) (fun _ _ => rfl)) (pg_sub (pv 3) (pe_tup (pa_cons (pv 5) (pa_cons (pv 6) pa_nil))) (set_X hr.units)))))))
      (pss_one (ps_ret (pv 3))))), ?_⟩), F.bindsN (fun _ _ _ _ _ _ us hl => match us, hl with | [_, _, _], _ => rfl), T.g_renamed, F.kp⟩
  · obtain ⟨_, _, _, _, _, _, e, _⟩ := h
    subst e
    rfl
  · obtain ⟨d, B, o, n, a, z, rfl, hd, ho, hz, hlen, q⟩ := h
    refine fun p ep hp hX => ?_
    have sp : Same H (upd H p (DXo p ep [])) := Same.new hp
    refine ⟨_, rfl, for_book hd (fun l r σ H' => Same H H' ∧ (∃ m1 m2 m3, σ = [some (.ref d), some (.ref o), some (.ref n), some (.ref p), m1, m2, m3]) ∧ BookAt H' p (l.foldl (renP a z) []) ∧ (l.foldl (renP a z) []).length ≤ l.length) ⟨sp, ⟨_, _, _, rfl⟩, DG.new hX, Nat.le_refl _⟩ (fun _ _ _ _ p => p.1) ?_ ?_⟩
    · rintro l b r c σ H' e hc ⟨s, ⟨m1, m2, m3, rfl⟩, hM, hMl⟩
      obtain ⟨c1, c2, h1, h2, h3⟩ := hc.fst (K := K)
      have hlook : lookG B b.1 = some b.2 := look_of_mem hd.nodup (by rw [← e]; simp)
      have hll : l.length < B.length := by rw [← e]; simp
      refine ⟨_, rfl, _, _, ((0 : Nat) : Int), _, rfl, rfl, h3, atI_nat rfl, _, rfl, h1.eq (ho.same s) ⟨_, rfl, if_b (fun t => ⟨_, rfl, ?_⟩) fun t => ⟨_, rfl, _, _, ((0 : Nat) : Int), _, rfl, rfl, h3, atI_nat rfl, ?_⟩⟩⟩
      · have f1 := hz.same s
        rw [show z = (if b.1.1 = a then z else b.1.1) by rw [if_pos (of_decide_eq_true t)]] at f1
        refine ⟨_, rfl, _, _, ((1 : Nat) : Int), _, rfl, rfl, h3, atI_nat rfl, _, rfl, h2.eq (ho.same s) ⟨_, rfl, if_b (fun t => ⟨_, rfl, ?_⟩) fun t => ⟨_, rfl, _, _, ((1 : Nat) : Int), _, rfl, rfl, h3, atI_nat rfl, ?_⟩⟩⟩
        · have f2 := hz.same s
          rw [show z = (if b.1.2 = a then z else b.1.2) by rw [if_pos (of_decide_eq_true t)]] at f2
          refine ⟨_, rfl, _, rfl, (hd.same s).ix hc hlook ⟨_, rfl, _, rfl, _, rfl, fits (by simp), fun u hu => DG.set_ (t := tK) (k := renK a z b.1) (hM.same (Same.new hu)) ⟨_, _, upd_same, f1.same (Same.new hu), f2.same (Same.new hu)⟩ (by rw [vB_length]; exact fits' (by omega)) fun o' hDG => ⟨Same.mut (Same.trans' s (Same.new hu)) hp, ⟨_, _, _, rfl⟩, ?_, ?_⟩⟩⟩
          · rw [put_vB] at hDG
            rw [List.foldl_append]
            exact hDG
          · rw [List.foldl_append, List.length_append]
            exact Nat.le_trans (putG_length _ _ _) (Nat.succ_le_succ hMl)
        · have f2 := h2
          rw [show b.1.2 = (if b.1.2 = a then z else b.1.2) by rw [if_neg (of_decide_eq_false t)]] at f2
          refine ⟨_, rfl, _, rfl, (hd.same s).ix hc hlook ⟨_, rfl, _, rfl, _, rfl, fits (by simp), fun u hu => DG.set_ (t := tK) (k := renK a z b.1) (hM.same (Same.new hu)) ⟨_, _, upd_same, f1.same (Same.new hu), f2.same (Same.new hu)⟩ (by rw [vB_length]; exact fits' (by omega)) fun o' hDG => ⟨Same.mut (Same.trans' s (Same.new hu)) hp, ⟨_, _, _, rfl⟩, ?_, ?_⟩⟩⟩
          · rw [put_vB] at hDG
            rw [List.foldl_append]
            exact hDG
          · rw [List.foldl_append, List.length_append]
            exact Nat.le_trans (putG_length _ _ _) (Nat.succ_le_succ hMl)
      · have f1 := h1
        rw [show b.1.1 = (if b.1.1 = a then z else b.1.1) by rw [if_neg (of_decide_eq_false t)]] at f1
        refine ⟨_, rfl, _, _, ((1 : Nat) : Int), _, rfl, rfl, h3, atI_nat rfl, _, rfl, h2.eq (ho.same s) ⟨_, rfl, if_b (fun t => ⟨_, rfl, ?_⟩) fun t => ⟨_, rfl, _, _, ((1 : Nat) : Int), _, rfl, rfl, h3, atI_nat rfl, ?_⟩⟩⟩
        · have f2 := hz.same s
          rw [show z = (if b.1.2 = a then z else b.1.2) by rw [if_pos (of_decide_eq_true t)]] at f2
          refine ⟨_, rfl, _, rfl, (hd.same s).ix hc hlook ⟨_, rfl, _, rfl, _, rfl, fits (by simp), fun u hu => DG.set_ (t := tK) (k := renK a z b.1) (hM.same (Same.new hu)) ⟨_, _, upd_same, f1.same (Same.new hu), f2.same (Same.new hu)⟩ (by rw [vB_length]; exact fits' (by omega)) fun o' hDG => ⟨Same.mut (Same.trans' s (Same.new hu)) hp, ⟨_, _, _, rfl⟩, ?_, ?_⟩⟩⟩
          · rw [put_vB] at hDG
            rw [List.foldl_append]
            exact hDG
          · rw [List.foldl_append, List.length_append]
            exact Nat.le_trans (putG_length _ _ _) (Nat.succ_le_succ hMl)
        · have f2 := h2
          rw [show b.1.2 = (if b.1.2 = a then z else b.1.2) by rw [if_neg (of_decide_eq_false t)]] at f2
          refine ⟨_, rfl, _, rfl, (hd.same s).ix hc hlook ⟨_, rfl, _, rfl, _, rfl, fits (by simp), fun u hu => DG.set_ (t := tK) (k := renK a z b.1) (hM.same (Same.new hu)) ⟨_, _, upd_same, f1.same (Same.new hu), f2.same (Same.new hu)⟩ (by rw [vB_length]; exact fits' (by omega)) fun o' hDG => ⟨Same.mut (Same.trans' s (Same.new hu)) hp, ⟨_, _, _, rfl⟩, ?_, ?_⟩⟩⟩
          · rw [put_vB] at hDG
            rw [List.foldl_append]
            exact hDG
          · rw [List.foldl_append, List.length_append]
            exact Nat.le_trans (putG_length _ _ _) (Nat.succ_le_succ hMl)
    · rintro σ H' ⟨s, ⟨m1, m2, m3, rfl⟩, hM, -⟩
      exact ⟨_, rfl, q p H' s hp hM⟩
abbrev nm_without_thing : List Str := ["book", "name", "made", "subject"]
theorem sc_without_thing : FnScope nm_without_thing ["book", "name"] (defScope s_without_thing) := ⟨rfl, rfl, rfl, by decide +kernel, rfl, by decide +kernel, by decide +kernel⟩
def sp_without_thing (K : PySem.W.Frag) : Sp := fun vs H Q _ => ∃ (d : Addr) (B : Bk) (o : Addr) (a : Nm), vs = [.ref d, .ref o] ∧ BookAt H d B ∧ NameAt H o a ∧ B.length ≤ 1000000 ∧ NewB Q H (dropB B a)
theorem good_without_thing (T : Tx K mg) : Gd P w K mg base CX0 1 "without_thing" ["book", "name"] (sp_without_thing K) := by
  obtain ⟨fd, F⟩ := T.f_without_thing
  refine ⟨_, fd, fn0 F sc_without_thing (fun vs H Q E h => ?_) (fun cdv A outer s H vs Q E hr h => ⟨_, (pss_cons (ps_set (i := 2) sc_without_thing.nd rfl (Or.inl rfl) pe_newX)
      (pss_cons (ps_for PassesOwn.never rfl (pi_keysX (pv 0)) (pg_name (i := 3) sc_without_thing.nd rfl (Or.inl rfl)) (pss_one (ps_if (PW.pt (pw_and (pt_cmpR (op_neD hr.units) (pe_ix ix_tup (pv 3) pe_int (fun _ _ => rfl)) (pv 1) (nomark _)) (pw_and1 (pt_cmpR (op_neD hr.units) (pe_ix ix_tup (pv 3) pe_int (fun _ _ => rfl)) (pv 1) (nomark _))))) (pss_one (ps_asg (pe_ixX hr.units (pv 0) (pv 3) (fun _ _ => rfl)) (pg_sub (pv 2) (pv 3) (set_X hr.units)))) pss_nil)))
      (pss_one (ps_ret (pv 2))))), ?_⟩), F.bindsN (fun _ _ _ _ _ _ us hl => match us, hl with | [_, _], _ => rfl), T.g_without_thing, F.kp⟩
  · obtain ⟨_, _, _, _, e, _⟩ := h
    subst e
    rfl
  · obtain ⟨d, B, o, a, rfl, hd, ho, hlen, q⟩ := h
    refine fun p ep hp hX => ?_
    have sp : Same H (upd H p (DXo p ep [])) := Same.new hp
    refine ⟨_, rfl, for_book hd (fun l r σ H' => Same H H' ∧ (∃ m1, σ = [some (.ref d), some (.ref o), some (.ref p), m1]) ∧ BookAt H' p (dropB l a)) ⟨sp, ⟨_, rfl⟩, DG.new hX⟩ (fun _ _ _ _ p => p.1) ?_ ?_⟩
    · rintro l b r c σ H' e hc ⟨s, ⟨m1, rfl⟩, hM⟩
      obtain ⟨c1, c2, h1, h2, h3⟩ := hc.fst (K := K)
      have hlook : lookG B b.1 = some b.2 := look_of_mem hd.nodup (by rw [← e]; simp)
      have hll : l.length < B.length := by rw [← e]; simp
      have no : (decide (b.1.1 ≠ a) && decide (b.1.2 ≠ a)) = false → dropB (l ++ [b]) a = dropB l a := fun h => by
        unfold dropB
        rw [List.filter_append, List.filter_cons_of_neg (by rw [h]; exact Bool.noConfusion), List.filter_nil, List.append_nil]
      refine ⟨_, rfl, _, _, ((0 : Nat) : Int), _, rfl, rfl, h3, atI_nat rfl, _, rfl, h1.ne (ho.same s) ⟨_, rfl, if_b (fun t => ?_) fun t => ?_⟩⟩
      · have t1 : decide (b.1.1 ≠ a) = true := by simpa using t
        refine ⟨_, rfl, _, _, ((1 : Nat) : Int), _, rfl, rfl, h3, atI_nat rfl, _, rfl, h2.ne (ho.same s) ⟨_, rfl, if_b (fun t => ?_) fun t => ?_⟩⟩
        · have t2 : decide (b.1.2 ≠ a) = true := by simpa using t
          have yes : dropB (l ++ [b]) a = dropB l a ++ [b] := by
            unfold dropB
            rw [List.filter_append, List.filter_cons_of_pos (by rw [t1, t2]; rfl), List.filter_nil]
          have hnew : b.1 ∉ (dropB l a).map (·.1) := by
            intro m
            obtain ⟨b2, hb2, e2⟩ := List.mem_map.mp m
            have hn := hd.nodup
            rw [← e, List.map_append, List.map_cons] at hn
            exact (List.nodup_append.mp hn).2.2 b.1 (by rw [← e2]; exact List.mem_map_of_mem (List.mem_filter.mp hb2).1) b.1 List.mem_cons_self rfl
          refine ⟨_, rfl, _, rfl, (hd.same s).ix hc hlook ⟨_, rfl, _, rfl, DG.set_ (t := tK) hM hc ?_ fun o' hDG => ⟨Same.mut s hp, ⟨_, rfl⟩, ?_⟩⟩⟩
          · rw [vB_length]
            have : (dropB l a).length ≤ l.length := List.length_filter_le _ _
            exact fits' (by omega)
          · rw [put_vB, putG_new hnew] at hDG
            rw [yes]
            exact hDG
        · have t2 : decide (b.1.2 ≠ a) = false := by simpa using t
          exact ⟨s, ⟨_, rfl⟩, by rw [no (by rw [t2, Bool.and_false])]; exact hM⟩
      · have t1 : decide (b.1.1 ≠ a) = false := by simpa using t
        exact ⟨s, ⟨_, rfl⟩, by rw [no (by rw [t1, Bool.false_and])]; exact hM⟩
    · rintro σ H' ⟨s, ⟨m1, rfl⟩, hM⟩
      exact ⟨_, rfl, q p H' s hp hM⟩
abbrev nm_users_of : List Str := ["book", "name", "parts", "user"]
theorem sc_users_of : FnScope nm_users_of ["book", "name"] (defScope s_users_of) := ⟨rfl, rfl, rfl, by decide +kernel, rfl, by decide +kernel, by decide +kernel⟩
def sp_users_of (K : PySem.W.Frag) : Sp := fun vs H Q _ => ∃ (d : Addr) (B : Bk) (o : Addr) (x : Nm), vs = [.ref d, .ref o] ∧ BookAt H d B ∧ NameAt H o x ∧ KnownA B ∧ KnownP B ∧ B.length ≤ 1000000 ∧ NewN Q H (usersB B x)
theorem good_users_of (T : Tx K mg) : Gd P w K mg base CX0 3 "users_of" ["book", "name"] (sp_users_of K) := by
  obtain ⟨fd, F⟩ := T.f_users_of
  refine ⟨_, fd, fn0 F sc_users_of (fun vs H Q E h => ?_) (fun cdv A outer s H vs Q E hr h => ⟨_, (pss_cons (ps_set (i := 2) sc_users_of.nd rfl (Or.inr rfl) (pe_gd (good_parts_of (P := P) (w := w) (base := base) T) hr pass0 (pa_cons (pv 0) pa_nil)))
      (pss_one (ps_ret (pe_lc (own := [("user", 3)]) (g := gName 3) rfl sc_users_of.nd (pi_list (pe_gd (good_things_of (P := P) (w := w) (base := base) T) hr pass0 (pa_cons (pv 0) pa_nil))) (blkOk_by (own := [("user", 3)]) (N := nm_users_of) (sc := defScope s_users_of) (by decide +kernel)) (fun _ _ _ _ _ => pg_name (i := 3) sc_users_of.nd rfl (Or.inl rfl)) (fun _ _ _ _ _ => pts_one (pt_cmpR (op_inX hr.units) (pv 1) (pe_gd (good_standing_in (P := P) (w := w) (base := base) T) hr pass0 (pa_cons (pv 2) (pa_cons (pv 3) pa_nil))) (by with_unfolding_all rfl))) (fun _ _ _ _ _ => (pv 3)))))), ?_⟩), F.bindsN (fun _ _ _ _ _ _ us hl => match us, hl with | [_, _], _ => rfl), T.g_users_of, F.kp⟩
  · obtain ⟨_, _, _, _, e, _⟩ := h
    subst e
    rfl
  · obtain ⟨d, B, o, x, rfl, hd, ho, kA, kP, hlen, q⟩ := h
    refine ⟨_, rfl, d, B, rfl, hd, kA, hlen, fun P3 H3 s3 hP hParts => ⟨_, rfl, d, B, rfl, hd.same s3, fun L as H1 s1 hL hl hF => ⟨L, rfl, ⟨_, SqL.of hl⟩, fun D hD => ?_⟩⟩⟩
    have s31 := Same.trans' s3 s1
    refine lc_fm (K := K) (xs := thingsB B) (R := NameR H1) (S := fun H v x => NameR H v x) (fun y => if memB (standB (partsB B) y) x = true then some y else none) hF (SqL.of hl) (Nat.le_trans (things_length B) hd.len) hD (fun H H' v c s h => h.kp s) ?_ ?_
    · rintro y v H' Y N hm ⟨a, rfl, ha⟩ s no yes
      refine ⟨rfl, _, rfl, _, rfl, _, rfl, P3, a, partsB B, y, rfl, (hParts.same s1).same s, ha.same s, closed_parts kP, parts_mem.mpr (things_mem.mp hm), Nat.le_trans (parts_length B) hlen, fun f H5 s5 hf hset => DG.in_ (t := tN) hset (((ho.same s31).same s).same s5) ⟨_, rfl, ?_⟩⟩
      rw [look_set]
      refine if_b (fun c => ?_) fun c => ?_
      · exact ⟨_, rfl, yes y (if_pos c) _ _ s5 ⟨a, rfl, (ha.same s).same s5⟩⟩
      · exact no (by rw [c]; rfl) _ s5
    · intro vs H' s hl2 hf
      refine q D vs H' (Same.trans' s31 s) (none_of s31 hD) hl2 ?_
      rw [filterMap_if, List.map_id'] at hf
      exact hf
abbrev nm_first_ready : List Str := ["parts", "told", "name", "part"]
theorem sc_first_ready : FnScope nm_first_ready ["parts", "told"] (defScope s_first_ready) := ⟨rfl, rfl, rfl, by decide +kernel, rfl, by decide +kernel, by decide +kernel⟩
def sp_first_ready (K : PySem.W.Frag) : Sp := fun vs H Q _ => ∃ (d t : Addr) (P : Pt) (told : List Nm), vs = [.ref d, .ref t] ∧ PartsAt H d P ∧ SetAt tN H t told ∧ (∀ p ∈ P, p.2.length ≤ 1000000) ∧ ∀ u H', Same H H' → NameAt H' u (readyB P told) → Q (.ref u) H'
theorem good_first_ready (T : Tx K mg) : Gd P w K mg base CX0 1 "first_ready" ["parts", "told"] (sp_first_ready K) := by
  obtain ⟨fd, F⟩ := T.f_first_ready
  refine ⟨_, fd, fn0 F sc_first_ready (fun vs H Q E h => ?_) (fun cdv A outer s H vs Q E hr h => ⟨_, (pss_cons (ps_for PassesOwn.never rfl (pi_keysX (pv 0)) (pg_name (i := 2) sc_first_ready.nd rfl (Or.inl rfl)) (pss_one (ps_if (PW.pt (pw_and (pt_cmpR (op_notInX hr.units) (pv 2) (pv 1) (by with_unfolding_all rfl)) (pw_and1 (pt_val (pe_callB (cr_all rfl) (by rfl) T.b_all (by decide +kernel) (pa_cons (pe_lc (own := [("part", 3)]) (g := gName 3) (tt := tYes) rfl sc_first_ready.nd (pi_list (pe_ixX hr.units (pv 0) (pv 2) (fun _ _ => rfl))) (blkOk_by (own := [("part", 3)]) (N := nm_first_ready) (sc := defScope s_first_ready) (by decide +kernel)) (fun _ _ _ _ _ => pg_name (i := 3) sc_first_ready.nd rfl (Or.inl rfl)) (fun _ _ _ _ _ => pts_nil) (fun _ _ _ _ _ => (pe_cmpR (op_inX hr.units) (pv 3) (pv 1) (by with_unfolding_all rfl)))) pa_nil)))))) (pss_one (ps_ret (pv 2))) pss_nil)))
      (pss_one (ps_ret (pe_tup pa_nil)))), ?_⟩), F.bindsN (fun _ _ _ _ _ _ us hl => match us, hl with | [_, _], _ => rfl), T.g_first_ready, F.kp⟩
  · obtain ⟨_, _, _, _, e, _⟩ := h
    subst e
    rfl
  · obtain ⟨d, t, P', told, rfl, ⟨vs, hdg, hrel⟩, ht, hn, q⟩ := h
    have fin : ∀ u H', Same H H' → ∀ p, P'.find? (fun p => !memB told p.1 && p.2.all fun x => memB told x) = p → NameAt H' u ((p.map (·.1)).getD []) → Q (.ref u) H' := fun u H' s p e hu => q u H' s (by
      unfold readyB
      rw [e]
      cases p with
      | none => exact hu
      | some p => exact hu)
    refine ⟨_, rfl, for_DG (t := tN) hdg (fun l r σ H' => Same H H' ∧ (∃ m1 m2, σ = [some (.ref d), some (.ref t), m1, m2]) ∧ ∃ Pl Pr, P' = Pl ++ Pr ∧ F2 (PartR H) r Pr ∧ P'.find? (fun p => !memB told p.1 && p.2.all fun x => memB told x) = Pr.find? (fun p => !memB told p.1 && p.2.all fun x => memB told x)) ⟨Same.refl _, ⟨_, _, rfl⟩, [], P', rfl, hrel, rfl⟩ (fun _ _ _ _ p => p.1) ?_ ?_⟩
    · rintro l e r a σ H' ee ha ⟨s, ⟨m1, m2, rfl⟩, Pl, Pr, e1, hr, e2⟩
      cases hr with
      | cons hp hr =>
        rename_i p Pr
        obtain ⟨k1, lst, us, k2, k3, k4⟩ := hp
        have ha' : NameAt H' a p.1 := by rw [← k1]; exact ha
        have e1' : P' = (Pl ++ [p]) ++ Pr := by rw [e1, List.append_assoc]; rfl
        have no : (!memB told p.1 && p.2.all fun x => memB told x) = false → P'.find? (fun p => !memB told p.1 && p.2.all fun x => memB told x) = Pr.find? (fun p => !memB told p.1 && p.2.all fun x => memB told x) := fun h => by
          rw [e2, List.find?_cons, h]
        refine ⟨_, rfl, _, rfl, DG.notin (t := tN) (ht.same s) ha' ⟨_, rfl, ?_⟩⟩
        rw [look_set]
        refine if_b (fun c => ?_) fun c => ?_
        · have c1 : (!memB told p.1) = true := by simpa using c
          have hlook : lookG vs p.1 = some (.ref lst) := look_of_mem hdg.nodup (by rw [← ee, ← k1, ← k2]; simp)
          refine ⟨_, rfl, _, rfl, DG.ix (t := tN) (hdg.same s) ha' hlook ⟨lst, rfl, ⟨_, SqL.of (s _ _ k3)⟩, fun D hD => ?_⟩⟩
          refine lc_fm (K := K) (xs := p.2) (R := NameR H) (S := fun H v b => v = V.bl b) (fun x => some (memB told x)) k4 (SqL.of (s _ _ k3)) ?_ hD (fun H H' v c s h => h) ?_ ?_
          · exact fits (Nat.le_trans (hn p (by rw [e1]; simp)) (by decide))
          · rintro x v H2 Y N hm ⟨b, rfl, hb⟩ s2 no yes
            refine ⟨rfl, _, rfl, _, rfl, DG.in_ (t := tN) ((ht.same s).same s2) ((hb.same s).same s2) ?_⟩
            rw [look_set]
            exact yes _ rfl _ _ (Same.refl _) rfl
          · intro bs H2 s2 hD2 hf
            have hbs : bs = (p.2.map fun x => memB told x).map V.bl := by
              rw [filterMap_all] at hf
              clear no hD2
              generalize (p.2.map fun x => memB told x) = cs at hf
              induction hf with
              | nil => rfl
              | cons q t ih => rw [q, ih]; rfl
            have sH2 := Same.trans' s s2
            refine ⟨D, _, rfl, SqL.of (by rw [hD2, hbs]), ⟨_, rfl, if_b (fun c2 => ?_) fun c2 => ?_⟩⟩
            · refine ⟨_, rfl, fin a H2 sH2 (some p) ?_ (ha'.same s2)⟩
              rw [e2, List.find?_cons, c1, Bool.true_and]
              have : (p.2.all fun x => memB told x) = true := by simpa using c2
              rw [this]
            · refine ⟨sH2, ⟨_, _, rfl⟩, Pl ++ [p], Pr, e1', hr, no ?_⟩
              have : (p.2.all fun x => memB told x) = false := by simpa using c2
              rw [this, Bool.and_false]
        · have c1 : (!memB told p.1) = false := by simpa using c
          exact ⟨s, ⟨_, _, rfl⟩, Pl ++ [p], Pr, e1', hr, no (by rw [c1, Bool.false_and])⟩
    · rintro σ H' ⟨s, ⟨m1, m2, rfl⟩, Pl, Pr, e1, hr, e2⟩
      cases hr
      exact ⟨fits (by simp), fun u hu => fin u _ (Same.trans' s (Same.new hu)) none (by rw [e2]; rfl) upd_same⟩
abbrev nm_told_order : List Str := ["book", "parts", "told", "step"]
theorem sc_told_order : FnScope nm_told_order ["book"] (defScope s_told_order) := ⟨rfl, rfl, rfl, by decide +kernel, rfl, by decide +kernel, by decide +kernel⟩
def sp_told_order (K : PySem.W.Frag) : Sp := fun vs H Q _ => ∃ (d : Addr) (B : Bk), vs = [.ref d] ∧ BookAt H d B ∧ KnownA B ∧ B.length ≤ 1000000 ∧ NewN Q H (toldB B)
theorem good_told_order (T : Tx K mg) : Gd P w K mg base CX0 3 "told_order" ["book"] (sp_told_order K) := by
  obtain ⟨fd, F⟩ := T.f_told_order
  refine ⟨_, fd, fn0 F sc_told_order (fun vs H Q E h => ?_) (fun cdv A outer s H vs Q E hr h => ⟨_, (pss_cons (ps_set (i := 1) sc_told_order.nd rfl (Or.inl rfl) (pe_gd (good_parts_of (P := P) (w := w) (base := base) T) hr pass0 (pa_cons (pv 0) pa_nil)))
      (pss_cons (ps_set (i := 2) sc_told_order.nd rfl (Or.inl rfl) pe_newX)
      (pss_cons (ps_for PassesOwn.never rfl (pi_range1 rfl T.b_range (pa_cons (pe_callB call_lenX (by rfl) T.b_len PySem.boot_len (pa_cons (pv 1) pa_nil)) pa_nil)) (pg_name (i := 3) sc_told_order.nd rfl (Or.inl rfl)) (pss_one (ps_asg pe_bl (pg_sub (pv 2) (pe_gd (good_first_ready (P := P) (w := w) (base := base) T) hr pass0 (pa_cons (pv 1) (pa_cons (pv 2) pa_nil))) (set_X hr.units)))))
      (pss_one (ps_ret (pe_callTy (call_listX rfl) (by rfl) T.b_list (by decide +kernel) (pa_cons (pv 2) pa_nil))))))), ?_⟩), F.bindsN (fun _ _ _ _ _ _ us hl => match us, hl with | [_], _ => rfl), T.g_told_order, F.kp⟩
  · obtain ⟨_, _, e, _⟩ := h
    subst e
    rfl
  · obtain ⟨d, B, rfl, hd, kA, hlen, q⟩ := h
    refine ⟨_, rfl, d, B, rfl, hd, kA, hlen, fun P3 H3 s3 hP hParts => fun T3 ep hT hX => ?_⟩
    obtain ⟨vs, hdg, hrel⟩ := hParts
    have hvl := hrel.length
    have hpl := parts_length B
    have sT : Same H3 (upd H3 T3 (DXo T3 ep [])) := Same.new hT
    obtain ⟨ep3, ys3, y1, y2⟩ := (hdg.same sT).lens
    refine ⟨_, rfl, P3, ep3, ys3, rfl, y1, _, rfl, by omega, by omega, ?_⟩
    rw [y2]
    refine for_range (fun i σ H' => Same H3 H' ∧ (∃ m, σ = [some (.ref d), some (.ref P3), some (.ref T3), m]) ∧ ∃ told, SetAt tN H' T3 told ∧ told.length ≤ i ∧ i ≤ vs.length ∧ toldB B = orderB (partsB B) (vs.length - i) told) ⟨sT, ⟨_, rfl⟩, [], DG.new hX, Nat.le_refl _, Nat.zero_le _, by rw [hvl]; rfl⟩ ?_ ?_
    · rintro i σ H' hi ⟨s, ⟨m, rfl⟩, told, hset, hl, hil, e⟩
      have hi' : i < vs.length := by omega
      refine ⟨_, rfl, _, rfl, _, rfl, P3, T3, partsB B, told, rfl, ⟨vs, hdg.same s, hrel.imp fun _ _ q => q.same s⟩, hset, (fun p hp => Nat.le_trans (parts_each p hp) hlen), fun u H2 s2 hu => DG.set_ (t := tN) (hset.same s2) hu (by rw [setD_length]; exact fits' (by omega)) fun o hDG => ?_⟩
      rw [put_set] at hDG
      refine ⟨Same.mut (Same.trans' s s2) hT, ⟨_, rfl⟩, addS told (readyB (partsB B) told), hDG, ?_, hi', ?_⟩
      · have := addS_length told (readyB (partsB B) told)
        omega
      · rw [e, show vs.length - i = (vs.length - (i + 1)) + 1 by omega]
        rfl
    · rintro σ H' ⟨s, ⟨m, rfl⟩, told, hset, hl, hil, e⟩
      obtain ⟨ep2, xs, x1, x2⟩ := hset.lst
      refine ⟨_, rfl, T3, ep2, xs, rfl, x1, fun p hp => ?_⟩
      have e2 : toldB B = told := by
        rw [e, show vs.length - ((vs.length : Nat) : Int).toNat = 0 by omega]
        rfl
      have sH := Same.trans' s3 s
      refine q p _ _ (Same.trans' sH (Same.new hp)) (none_of sH hp) upd_same ?_
      rw [e2]
      exact x2.kpN (Same.kp (Same.new hp))
end
end Fb
end
section
set_option Elab.async false
set_option maxRecDepth 100000
set_option maxHeartbeats 4000000
namespace Fb
open PySem PySem.Spec PyProof.Rows L2
section
variable {P : Program} {w : World} {K : PySem.W.Frag} {mg : Str → Option Value} {base : Heap}
abbrev nm_Line_init : List Str := ["self", "subject", "told", "place"]
theorem sc_Line_init : FnScope nm_Line_init ["self", "subject", "told", "place"] (defScope s_Line_init) := ⟨rfl, rfl, rfl, by decide +kernel, rfl, by decide +kernel, by decide +kernel⟩
def sp_Line_init (K : PySem.W.Frag) : Sp := fun vs H Q _ => ∃ (x dx k : Addr) (t p : Int), vs = [.ref x, .ref k, .int t, .int p] ∧ H x = some (.ins (He.ga K "Line") dx []) ∧ Q .non (upd H x (.ins (He.ga K "Line") dx [("subject", .ref k), ("told", .int t), ("place", .int p)]))
theorem good_Line_init (T : Tx K mg) : Cd P w K mg base 1 "Line" (He.ga K "Line") ["self", "subject", "told", "place"] (sp_Line_init K) := by
  obtain ⟨fd, F⟩ := T.f_Line_init
  refine ⟨_, fd, fn0 F sc_Line_init (fun vs H Q E h => ?_) (fun cdv A outer s H vs Q E hr h => ⟨_, (pss_cons (ps_fld (pv 0) (pv 1) rfl)
      (pss_cons (ps_fld (pv 0) (pv 2) rfl)
      (pss_one (ps_fld (pv 0) (pv 3) rfl)))), ?_⟩), F.bindsN (fun _ _ _ _ _ _ us hl => match us, hl with | [_, _, _, _], _ => rfl), T.g_Line, T.k_Line⟩
  · obtain ⟨_, _, _, _, _, e, _⟩ := h
    subst e
    rfl
  · obtain ⟨x, dx, k, t, p, rfl, hx, q⟩ := h
    refine ⟨_, rfl, _, rfl, x, _, dx, _, rfl, hx, T.c_Line, T.n_Line_subject, few0, _, rfl, _, rfl, x, _, dx, _, rfl, upd_same, T.c_Line, T.n_Line_told, few1, _, rfl, _, rfl, x, _, dx, _, rfl, upd_same, T.c_Line, T.n_Line_place, few2, ?_⟩
    rw [upd_upd, upd_upd]
    exact q
abbrev nm_remark_end : List Str := ["text", "at", "end"]
theorem sc_remark_end : FnScope nm_remark_end ["text", "at"] (defScope s_remark_end) := ⟨rfl, rfl, rfl, by decide +kernel, rfl, by decide +kernel, by decide +kernel⟩
def sp_remark_end (K : PySem.W.Frag) : Sp := fun vs H Q E => ∃ (a : Addr) (T : List Nat) (p : Nat), vs = [.ref a, .int p] ∧ TextAt H a T ∧ Ret K Q E H (fun n v H' => v = .int ((n : Nat) : Int) ∧ H' = H) (mRemark T p)
theorem good_remark_end (T : Tx K mg) : Gd P w K mg base (L2.CX P w) 4 "remark_end" ["text", "at"] (sp_remark_end K) := by
  obtain ⟨fd, F⟩ := T.f_remark_end
  refine ⟨_, fd, fnX F sc_remark_end (fun vs H Q E h => ?_) (fun cdv A outer s H vs Q E hr h => ⟨_, (pss_cons (ps_set (i := 2) sc_remark_end.nd rfl (Or.inl rfl) (pv 1))
      (pss_cons (ps_while (passes_of rfl) (PW.pt (pw_and (pt_cmpR op_lt (pv 2) (pe_callB call_len_seq (by rfl) T.b_len PySem.boot_len (pa_cons (pv 0) pa_nil)) (nomark _)) (pw_and1 (pt_cmpR op_ne (pe_ix ix_list (pv 0) (pv 2) (fun _ _ => rfl)) (pe_gi T.i_LINE_END) (nomark _))))) (pss_one (ps_aug (i := 2) sc_remark_end.nd rfl (Or.inl rfl) pe_int ip_add)))
      (pss_one (ps_ret (pe_gd (good_expect (P := P) (w := w) (base := base) T) hr (passes_call (takes_of rfl rfl rfl rfl) (fun _ _ _ _ h => h)) (pa_cons (pv 0) (pa_cons (pv 2) (pa_cons (pe_gi T.i_LINE_END) pa_nil)))))))), ?_⟩), F.bindsN (fun _ _ _ _ _ _ us hl => match us, hl with | [_, _], _ => rfl), T.g_remark_end, F.kp⟩
  · obtain ⟨_, _, _, e, _⟩ := h
    subst e
    rfl
  · obtain ⟨a, T', p, rfl, ha, R⟩ := h
    have hl : (vn T').length = T'.length := vn_length T'
    refine ⟨_, rfl, fun m σ H' => H' = H ∧ ∃ q : Nat, σ = [some (.ref a), some (.int p), some (.int q)] ∧ m = T'.length - q ∧ run notEnd T' (T'.length - p) p = run notEnd T' (T'.length - q) q, ⟨_, rfl, p, rfl, rfl, rfl⟩, ?_⟩
    rintro m σ H' ⟨rfl, q, rfl, rfl, e⟩
    apply with_rest (run notEnd T' (T'.length - p) p = q)
    · intro rest
      refine ⟨_, rfl, _, rfl, a, _, rfl, .inl (SqL.of ha), _, _, rfl, rfl, _, rfl, if_b (fun c => ?_) fun c => ?_⟩
      · have c' : q < T'.length := by have := of_decide_eq_true c; omega
        have e3 : run notEnd T' (T'.length - q) q = if notEnd (byteAt T' q) = true then run notEnd T' (T'.length - (q + 1)) (q + 1) else q := by
          rw [show T'.length - q = (T'.length - (q + 1)) + 1 by omega]
          rfl
        have eb : byteAt T' q = (T'[q] : Nat) := by unfold byteAt; rw [List.getElem?_eq_getElem c']
        refine ⟨_, rfl, _, rfl, a, _, _, _, rfl, rfl, SqL.of ha, atI_nat (vn_get (List.getElem?_eq_getElem c')), rfl, ?_⟩
        rw [dec_int]
        refine ⟨_, rfl, if_b (fun d => ?_) fun d => ?_⟩
        · have d' : notEnd (byteAt T' q) = true := by
            rw [eb]
            unfold notEnd
            have d1 : ¬ ((T'[q] : Nat) : Int) = 10 := by simpa using d
            rw [decide_eq_true d1, Bool.true_and]
            exact decide_eq_true (by omega)
          refine ⟨fun σ H2 => H2 = H' ∧ ∃ q2 : Nat, σ = [some (.ref a), some (.int p), some (.int q2)] ∧ T'.length - (q + 1) = T'.length - q2 ∧ run notEnd T' (T'.length - p) p = run notEnd T' (T'.length - q2) q2, fun σ' H2 h => ⟨T'.length - (q + 1), by omega, h⟩, _, rfl, _, _, rfl, rfl, rfl, q + 1, rfl, rfl, ?_⟩
          rw [e, e3, if_pos d']
        · refine rest ?_
          have d' : ¬ notEnd (byteAt T' q) = true := by
            rw [eb]
            unfold notEnd
            have d1 : ((T'[q] : Nat) : Int) = 10 := by simpa using d
            rw [d1]
            decide
          rw [e, e3, if_neg d']
      · refine rest ?_
        have c' : ¬ q < T'.length := by have := of_decide_eq_false c; omega
        rw [e, show T'.length - q = 0 by omega]
        rfl
    · intro eq
      refine ⟨_, rfl, _, rfl, a, T', q, 10, rfl, ha, ?_⟩
      unfold mRemark at R
      rw [eq] at R
      exact R
abbrev nm_thing_line : List Str := ["text", "at", "told", "word", "start", "end", "behind"]
theorem sc_thing_line : FnScope nm_thing_line ["text", "at"] (defScope s_thing_line) := ⟨rfl, rfl, rfl, by decide +kernel, rfl, by decide +kernel, by decide +kernel⟩
def sp_thing_line (K : PySem.W.Frag) : Sp := fun vs H Q E => ∃ (a : Addr) (T : List Nat) (p : Nat), vs = [.ref a, .int p] ∧ TextAt H a T ∧ T.length ≤ 1000000 ∧ Ret K Q E H (fun (r : Nat × Ln) v H' => ∃ t b, v = .ref t ∧ H' t = some (.tup [.int (r.1 : Nat), .ref b]) ∧ LineAt K H' b r.2) (mThingLine T p)
theorem good_thing_line (T : Tx K mg) : Gd P w K mg base (L2.CX P w) 5 "thing_line" ["text", "at"] (sp_thing_line K) := by
  obtain ⟨fd, F⟩ := T.f_thing_line
  refine ⟨_, fd, fnX F sc_thing_line (fun vs H Q E h => ?_) (fun cdv A outer s H vs Q E hr h => ⟨_, (pss_cons (ps_set (i := 2) sc_thing_line.nd rfl (Or.inl rfl) (pe_gi T.i_ACCORD))
      (pss_cons (ps_set (i := 3) sc_thing_line.nd rfl (Or.inl rfl) (pe_gs T.s_ACCORD_WORD))
      (pss_cons (ps_if (pt_cmpR op_eq (pe_gd (good_byte_at (P := P) (w := w) (base := base) T) hr pass0 (pa_cons (pv 0) (pa_cons (pv 1) pa_nil))) (pe_callB call_ord (by rfl) T.b_ord (by decide +kernel) (pa_cons pe_str pa_nil)) (nomark _)) (pss_cons (ps_set (i := 2) sc_thing_line.nd rfl (Or.inl rfl) (pe_gi T.i_MATERIAL))
      (pss_one (ps_set (i := 3) sc_thing_line.nd rfl (Or.inl rfl) (pe_gs T.s_MATERIAL_WORD)))) pss_nil)
      (pss_cons (ps_set (i := 4) sc_thing_line.nd rfl (Or.inl rfl) (pe_gd (good_expect (P := P) (w := w) (base := base) T) hr (passes_call (takes_of rfl rfl rfl rfl) (fun _ _ _ _ h => h)) (pa_cons (pv 0) (pa_cons (pe_gd (good_expect_word (P := P) (w := w) (base := base) T) hr (passes_call (takes_of rfl rfl rfl rfl) (fun _ _ _ _ h => h)) (pa_cons (pv 0) (pa_cons (pv 1) (pa_cons (pv 3) pa_nil)))) (pa_cons (pe_gi T.i_BLANK) pa_nil)))))
      (pss_cons (ps_set (i := 5) sc_thing_line.nd rfl (Or.inl rfl) (pe_gd (good_name_end (P := P) (w := w) (base := base) T) hr (passes_call (takes_of rfl rfl rfl rfl) (fun _ _ _ _ h => h)) (pa_cons (pv 0) (pa_cons (pv 4) pa_nil))))
      (pss_cons (ps_set (i := 6) sc_thing_line.nd rfl (Or.inl rfl) (pe_gd (good_expect (P := P) (w := w) (base := base) T) hr (passes_call (takes_of rfl rfl rfl rfl) (fun _ _ _ _ h => h)) (pa_cons (pv 0) (pa_cons (pv 5) (pa_cons (pe_gi T.i_LINE_END) pa_nil)))))
      (pss_one (ps_ret (pe_tup (pa_cons (pv 6) (pa_cons (pe_cd (good_Line_init (P := P) (w := w) (base := base) T) hr (pa_cons (pe_gd (good_thing (P := P) (w := w) (base := base) T) hr pass0 (pa_cons (pe_callTy call_tuple_of (by rfl) T.b_tuple (by decide +kernel) (pa_cons (pe_slice sl_list (pv 0) (po_some (pv 4)) (po_some (pv 5))) pa_nil)) pa_nil)) (pa_cons (pv 2) (pa_cons (pv 4) pa_nil)))) pa_nil))))))))))), ?_⟩), F.bindsN (fun _ _ _ _ _ _ us hl => match us, hl with | [_, _], _ => rfl), T.g_thing_line, F.kp⟩
  · obtain ⟨_, _, _, e, _⟩ := h
    subst e
    rfl
  · obtain ⟨a, T', p, rfl, ha, hT, R⟩ := h
    unfold mThingLine at R
    apply with_rest2 (fun σ H' => H' = H ∧ ∃ (n : Int) (z : Str), σ = [some (.ref a), some (.int p), some (.int n), some (.str z), none, none, none] ∧ n = (if byteAt T' p = 109 then -1 else -2) ∧ z.cps.toList = (if byteAt T' p = 109 then SctBook.MATERIAL else SctBook.ACCORD))
    · intro rest
      refine ⟨_, rfl, _, rfl, a, T', p, rfl, ha, _, rfl, rfl, rfl, ?_⟩
      rw [dec_int]
      refine ⟨_, rfl, if_b ?tt ?ff⟩
      case ff =>
        intro c
        have c' : ¬ byteAt T' p = 109 := of_decide_eq_false c
        exact rest _ _ ⟨rfl, _, _, rfl, by rw [if_neg c'], by rw [if_neg c']; rfl⟩
      case tt =>
        intro c
        have c' : byteAt T' p = 109 := of_decide_eq_true c
        exact rest _ _ ⟨rfl, _, _, rfl, by rw [if_pos c'], by rw [if_pos c']; rfl⟩
    rintro σ H' ⟨rfl, n, z, rfl, hn, hz⟩
    rw [← hn] at R
    rw [← hz] at R
    refine ⟨_, rfl, _, rfl, _, rfl, _, rfl, a, T', p, z, rfl, ha, R.sub (Same.refl _) (fun ans e => by rw [e]) fun q e v H2 s2 hv => ?_⟩
    obtain ⟨rfl, rfl⟩ := hv
    rw [e] at R
    simp only [] at R
    refine ⟨a, T', q, 32, rfl, ha, R.sub (Same.refl _) (fun ans e => by rw [e]) fun s e v H2 s2 hv => ?_⟩
    obtain ⟨rfl, rfl⟩ := hv
    rw [e] at R
    simp only [] at R
    have e2 := mExpect_ok e (by decide)
    refine ⟨_, rfl, _, rfl, a, T', s, rfl, ha, R.sub (Same.refl _) (fun ans e => by rw [e]) fun w e v H2 s2 hv => ?_⟩
    obtain ⟨rfl, rfl⟩ := hv
    rw [e] at R
    simp only [] at R
    have e3 := mName_ok e
    refine ⟨_, rfl, _, rfl, a, T', w, 10, rfl, ha, R.sub (Same.refl _) (fun ans e => by rw [e]) fun b e v H2 s2 hv => ?_⟩
    obtain ⟨rfl, rfl⟩ := hv
    rw [e] at R
    simp only [] at R
    refine ⟨_, rfl, _, rfl, _, rfl, _, rfl, _, rfl, _, rfl, a, _, rfl, SqL.of ha, fun u hu => ?_⟩
    rw [cut_nat T' (Nat.le_of_lt e3.1) e3.2]
    have su := Same.new (o := .lst (vn ((T'.drop s).take (w - s)))) hu
    refine ⟨u, _, rfl, .inl ⟨SqL.of upd_same, fun t ht => ⟨t, cut T' s w, rfl, upd_same, fun k H3 s3 hk => ?_⟩⟩⟩
    have sH := Same.trans' su (Same.trans' (Same.new ht) s3)
    refine ⟨_, rfl, _, rfl, fun x dx hx hdx hne => ⟨x, dx, k, n, s, rfl, upd_same, rfl, fits (by simp), fun t2 ht2 => ?_⟩⟩
    have sM := same_made (o := .own x) (u := .ins (He.ga K "Line") dx []) (o2 := .ins (He.ga K "Line") dx [("subject", .ref k), ("told", .int n), ("place", .int (s : Nat))]) hx hdx
    refine R.done rfl (Same.trans' sH (Same.trans' sM (Same.new ht2))) ⟨t2, x, rfl, upd_same, dx, k, ?_, ?_⟩
    · exact Same.new ht2 _ _ upd_same
    · exact (hk.same sM).same (Same.new ht2)
abbrev nm_part_line : List Str := ["text", "at", "accord", "start", "end", "behind", "amount_end", "amount"]
theorem sc_part_line : FnScope nm_part_line ["text", "at", "accord"] (defScope s_part_line) := ⟨rfl, rfl, rfl, by decide +kernel, rfl, by decide +kernel, by decide +kernel⟩
def sp_part_line (K : PySem.W.Frag) : Sp := fun vs H Q E => ∃ (a c : Addr) (T : List Nat) (p : Nat) (acc : Nm), vs = [.ref a, .int p, .ref c] ∧ TextAt H a T ∧ T.length ≤ 1000000 ∧ NameAt H c acc ∧ Ret K Q E H (fun (r : Nat × Ln) v H' => ∃ t b, v = .ref t ∧ H' t = some (.tup [.int (r.1 : Nat), .ref b]) ∧ LineAt K H' b r.2) (mPartLine T p acc)
theorem good_part_line (T : Tx K mg) : Gd P w K mg base (L2.CX P w) 5 "part_line" ["text", "at", "accord"] (sp_part_line K) := by
  obtain ⟨fd, F⟩ := T.f_part_line
  refine ⟨_, fd, fnX F sc_part_line (fun vs H Q E h => ?_) (fun cdv A outer s H vs Q E hr h => ⟨_, (pss_cons (ps_set (i := 3) sc_part_line.nd rfl (Or.inl rfl) (pe_gd (good_expect_word (P := P) (w := w) (base := base) T) hr (passes_call (takes_of rfl rfl rfl rfl) (fun _ _ _ _ h => h)) (pa_cons (pv 0) (pa_cons (pv 1) (pa_cons pe_str pa_nil)))))
      (pss_cons (ps_set (i := 4) sc_part_line.nd rfl (Or.inl rfl) (pe_gd (good_name_end (P := P) (w := w) (base := base) T) hr (passes_call (takes_of rfl rfl rfl rfl) (fun _ _ _ _ h => h)) (pa_cons (pv 0) (pa_cons (pv 3) pa_nil))))
      (pss_cons (ps_asg (pe_gd (good_amount_of (P := P) (w := w) (base := base) T) hr (passes_call (takes_of rfl rfl rfl rfl) (fun _ _ _ _ h => h)) (pa_cons (pv 0) (pa_cons (pe_gd (good_expect (P := P) (w := w) (base := base) T) hr (passes_call (takes_of rfl rfl rfl rfl) (fun _ _ _ _ h => h)) (pa_cons (pv 0) (pa_cons (pv 4) (pa_cons (pe_gi T.i_BLANK) pa_nil)))) pa_nil))) (pg_tup rfl (pgs_cons (pg_name (i := 6) sc_part_line.nd rfl (Or.inl rfl)) (pgs_cons (pg_name (i := 7) sc_part_line.nd rfl (Or.inl rfl)) pgs_nil))))
      (pss_cons (ps_set (i := 5) sc_part_line.nd rfl (Or.inl rfl) (pe_gd (good_expect (P := P) (w := w) (base := base) T) hr (passes_call (takes_of rfl rfl rfl rfl) (fun _ _ _ _ h => h)) (pa_cons (pv 0) (pa_cons (pv 6) (pa_cons (pe_gi T.i_LINE_END) pa_nil)))))
      (pss_one (ps_ret (pe_tup (pa_cons (pv 5) (pa_cons (pe_cd (good_Line_init (P := P) (w := w) (base := base) T) hr (pa_cons (pe_tup (pa_cons (pv 2) (pa_cons (pe_callTy call_tuple_of (by rfl) T.b_tuple (by decide +kernel) (pa_cons (pe_slice sl_list (pv 0) (po_some (pv 3)) (po_some (pv 4))) pa_nil)) pa_nil))) (pa_cons (pv 7) (pa_cons (pv 3) pa_nil)))) pa_nil))))))))), ?_⟩), F.bindsN (fun _ _ _ _ _ _ us hl => match us, hl with | [_, _, _], _ => rfl), T.g_part_line, F.kp⟩
  · obtain ⟨_, _, _, _, _, e, _⟩ := h
    subst e
    rfl
  · obtain ⟨a, c, T', p, acc, rfl, ha, hT, hc, R⟩ := h
    unfold mPartLine at R
    refine ⟨_, rfl, _, rfl, a, T', p, _, rfl, ha, R.sub (Same.refl _) (fun ans e => by rw [show mWord T' p [32, 32] = _ from e]) fun s e v H2 s2 hv => ?_⟩
    obtain ⟨rfl, rfl⟩ := hv
    rw [show mWord T' p [32, 32] = _ from e] at R
    simp only [] at R
    refine ⟨_, rfl, _, rfl, a, T', s, rfl, ha, R.sub (Same.refl _) (fun ans e => by rw [e]) fun w e v H2 s2 hv => ?_⟩
    obtain ⟨rfl, rfl⟩ := hv
    rw [e] at R
    simp only [] at R
    have e3 := mName_ok e
    refine ⟨_, rfl, _, rfl, _, rfl, a, T', w, 32, rfl, ha, R.sub (Same.refl _) (fun ans e => by rw [e]) fun g e v H2 s2 hv => ?_⟩
    obtain ⟨rfl, rfl⟩ := hv
    rw [e] at R
    simp only [] at R
    refine ⟨a, T', g, rfl, ha, hT, R.sub (Same.refl _) (fun ans e => by rw [e]) fun m e v H2 s2 hv => ?_⟩
    obtain ⟨u, rfl, hu⟩ := hv
    rw [e] at R
    simp only [] at R
    have ha2 : TextAt H2 a T' := s2 _ _ ha
    refine ⟨u, _, rfl, SqT.of hu, rfl, _, _, rfl, _, _, rfl, rfl, _, rfl, _, rfl, a, T', m.1, 10, rfl, ha2, R.sub s2 (fun ans e => by rw [e]) fun b e v H3 s3 hv => ?_⟩
    obtain ⟨rfl, rfl⟩ := hv
    rw [e] at R
    simp only [] at R
    refine ⟨_, rfl, _, rfl, _, rfl, _, rfl, _, rfl, _, rfl, _, rfl, a, _, rfl, SqL.of ha2, fun u2 hu2 => ?_⟩
    rw [cut_nat T' (Nat.le_of_lt e3.1) e3.2]
    have su := Same.new (o := .lst (vn ((T'.drop s).take (w - s)))) hu2
    refine ⟨u2, _, rfl, .inl ⟨SqL.of upd_same, fun t ht => ⟨fits (by simp), fun k hk => ⟨_, rfl, _, rfl, fun x dx hx hdx hne => ⟨x, dx, k, m.2, s, rfl, upd_same, rfl, fits (by simp), fun t2 ht2 => ?_⟩⟩⟩⟩⟩
    have sH := Same.trans' s2 (Same.trans' su (Same.trans' (Same.new (o := .tup (vn ((T'.drop s).take (w - s)))) ht) (Same.new (o := .tup [.ref c, .ref t]) hk)))
    have sM := same_made (o := .own x) (u := .ins (He.ga K "Line") dx []) (o2 := .ins (He.ga K "Line") dx [("subject", .ref k), ("told", .int m.2), ("place", .int (s : Nat))]) hx hdx
    have hkey : KeyAt (upd (upd (upd H3 u2 (.lst (vn ((T'.drop s).take (w - s))))) t (.tup (vn ((T'.drop s).take (w - s))))) k (.tup [.ref c, .ref t])) k (acc, cut T' s w) := ⟨c, t, upd_same, (hc.same sH), NameAt.same (Same.new hk) upd_same⟩
    refine R.done rfl (Same.trans' sH (Same.trans' sM (Same.new ht2))) ⟨t2, x, rfl, upd_same, dx, k, ?_, ?_⟩
    · exact Same.new ht2 _ _ upd_same
    · exact (hkey.same sM).same (Same.new ht2)
end
end Fb
end
section
set_option Elab.async false
set_option maxRecDepth 100000
set_option maxHeartbeats 4000000
namespace Fb
open PySem PySem.Spec PyProof.Rows L2
section
variable {P : Program} {w : World} {K : PySem.W.Frag} {mg : Str → Option Value} {base : Heap}
abbrev nm_lines_of : List Str := ["text", "lines", "accord", "at", "line"]
theorem sc_lines_of : FnScope nm_lines_of ["text"] (defScope s_lines_of) := ⟨rfl, rfl, rfl, by decide +kernel, rfl, by decide +kernel, by decide +kernel⟩
def sp_lines_of (K : PySem.W.Frag) : Sp := fun vs H Q E => ∃ (a : Addr) (T : List Nat), vs = [.ref a] ∧ TextAt H a T ∧ T.length ≤ 1000000 ∧ Ret K Q E H (fun (ls : List Ln) v H' => ∃ p vs, v = .ref p ∧ H p = none ∧ H' p = some (.lst vs) ∧ F2 (LineR K H') vs ls) (mLinesOf T)
theorem good_lines_of (T : Tx K mg) : Gd P w K mg base (L2.CX P w) 6 "lines_of" ["text"] (sp_lines_of K) := by
  obtain ⟨fd, F⟩ := T.f_lines_of
  refine ⟨_, fd, fnX F sc_lines_of (fun vs H Q E h => ?_) (fun cdv A outer s H vs Q E hr h => ⟨_, (pss_cons (ps_set (i := 1) sc_lines_of.nd rfl (Or.inl rfl) (pe_lst pa_nil))
      (pss_cons (ps_set (i := 2) sc_lines_of.nd rfl (Or.inl rfl) (pe_tup pa_nil))
      (pss_cons (ps_set (i := 3) sc_lines_of.nd rfl (Or.inl rfl) pe_int)
      (pss_cons (ps_while (passes_of rfl) (pt_cmpR op_lt (pv 3) (pe_callB call_len_seq (by rfl) T.b_len PySem.boot_len (pa_cons (pv 0) pa_nil)) (nomark _)) (pss_one (ps_if (pt_cmpR op_eq (pe_ix ix_list (pv 0) (pv 3) (fun _ _ => rfl)) (pe_gi T.i_LINE_END) (nomark _)) (pss_one (ps_aug (i := 3) sc_lines_of.nd rfl (Or.inl rfl) pe_int ip_add)) (pss_one (ps_if (pt_cmpR op_eq (pe_ix ix_list (pv 0) (pv 3) (fun _ _ => rfl)) (pe_gi T.i_REMARK) (nomark _)) (pss_one (ps_set (i := 3) sc_lines_of.nd rfl (Or.inl rfl) (pe_gd (good_remark_end (P := P) (w := w) (base := base) T) hr (passes_call (takes_of rfl rfl rfl rfl) (fun _ _ _ _ h => h)) (pa_cons (pv 0) (pa_cons (pv 3) pa_nil))))) (pss_one (ps_if (PW.pt (pw_and (pt_cmpR op_eq (pe_ix ix_list (pv 0) (pv 3) (fun _ _ => rfl)) (pe_gi T.i_BLANK) (nomark _)) (pw_and1 (pt_cmpR (op_neD hr.units) (pv 2) (pe_tup pa_nil) (nomark _))))) (pss_cons (ps_asg (pe_gd (good_part_line (P := P) (w := w) (base := base) T) hr (passes_call (takes_of rfl rfl rfl rfl) (fun _ _ _ _ h => h)) (pa_cons (pv 0) (pa_cons (pv 3) (pa_cons (pv 2) pa_nil)))) (pg_tup rfl (pgs_cons (pg_name (i := 3) sc_lines_of.nd rfl (Or.inl rfl)) (pgs_cons (pg_name (i := 4) sc_lines_of.nd rfl (Or.inl rfl)) pgs_nil))))
      (pss_one (ps_expr (pe_bm PySem.F.plainAttrs_list PySem.F.slot_list_append PySem.F.type_list_append mt_append (pv 1) (pa_cons (pv 4) pa_nil))))) (pss_cons (ps_asg (pe_gd (good_thing_line (P := P) (w := w) (base := base) T) hr (passes_call (takes_of rfl rfl rfl rfl) (fun _ _ _ _ h => h)) (pa_cons (pv 0) (pa_cons (pv 3) pa_nil))) (pg_tup rfl (pgs_cons (pg_name (i := 3) sc_lines_of.nd rfl (Or.inl rfl)) (pgs_cons (pg_name (i := 4) sc_lines_of.nd rfl (Or.inl rfl)) pgs_nil))))
      (pss_cons (ps_expr (pe_bm PySem.F.plainAttrs_list PySem.F.slot_list_append PySem.F.type_list_append mt_append (pv 1) (pa_cons (pv 4) pa_nil)))
      (pss_one (ps_set (i := 2) sc_lines_of.nd rfl (Or.inl rfl) (pe_ifExp (pt_cmpR op_eq (pe_fld (pv 4) rfl) (pe_gi T.i_ACCORD) (nomark _)) (pe_ix ix_tup (pe_fld (pv 4) rfl) pe_int (fun _ _ => rfl)) (pe_tup pa_nil)))))))))))))
      (pss_one (ps_ret (pv 1))))))), ?_⟩), F.bindsN (fun _ _ _ _ _ _ us hl => match us, hl with | [_], _ => rfl), T.g_lines_of, F.kp⟩
  · obtain ⟨_, _, e, _⟩ := h
    subst e
    rfl
  · obtain ⟨a, T', rfl, ha, hT, R⟩ := h
    have hl : (vn T').length = T'.length := vn_length T'
    refine ⟨fits (by simp), fun L hL => ⟨fits (by simp), fun c0 hc0 => ?_⟩⟩
    refine ⟨fun m σ H' => Same H H' ∧ ∃ (p : Nat) (acc : Nm) (cA : Addr) (ls : List Ln) (vs : List V) (ln : Option V), σ = [some (.ref a), some (.ref L), some (.ref cA), some (.int p), ln] ∧ H' L = some (.lst vs) ∧ F2 (LineR K H') vs ls ∧ NameAt H' cA acc ∧ p ≤ T'.length ∧ ls.length ≤ p ∧ T'.length < m + p ∧
      mLinesOf T' = mPre ls (mLines T' m p acc), ⟨T'.length + 1, Same.trans' (Same.new hL) (Same.new hc0), 0, [], c0, [], [], none, rfl, Same.new hc0 _ _ upd_same, .nil, NameAt.kp0, Nat.zero_le _, Nat.le_refl _, by omega, by rw [mPre_nil]; rfl⟩, ?_⟩
    rintro m σ H' ⟨s, p, acc, cA, ls, vs, ln, rfl, hL', hF, hacc, hpT, hls, hm, em⟩
    have ha' : TextAt H' a T' := s _ _ ha
    refine ⟨_, rfl, _, rfl, a, _, rfl, .inl (SqL.of ha'), _, _, rfl, rfl, _, rfl, if_b (fun c => ?_) fun c => ?_⟩
    · have hp : p < T'.length := by have := of_decide_eq_true c; omega
      obtain ⟨m, rfl⟩ : ∃ m', m = m' + 1 := ⟨m - 1, by omega⟩
      have hz := hF.length
      have eb : byteAt T' p = (T'[p] : Nat) := by unfold byteAt; rw [List.getElem?_eq_getElem hp]
      -- what a turn leaves
      let Nx : L2.St → Hp → Prop := fun σ' H2 => Same H H2 ∧ ∃ (p : Nat) (acc : Nm) (cA : Addr) (ls : List Ln) (vs : List V) (ln : Option V), σ' = [some (.ref a), some (.ref L), some (.ref cA), some (.int p), ln] ∧ H2 L = some (.lst vs) ∧ F2 (LineR K H2) vs ls ∧ NameAt H2 cA acc ∧ p ≤ T'.length ∧ ls.length ≤ p ∧ T'.length < m + p ∧
        mLinesOf T' = mPre ls (mLines T' m p acc)
      refine ⟨Nx, fun σ' H2 h => ⟨m, Nat.lt_succ_self m, h⟩, ?_⟩
      have step : ∀ r, mLine T' p acc = .ok r → p < r.1 ∧ r.1 ≤ T'.length ∧ mLinesOf T' = mPre (ls ++ r.2.1.toList) (mLines T' m r.1 r.2.2) := fun r e => by
        have := mLine_ok e hp
        exact ⟨this.1, this.2, by rw [em, mLines_step hp e, mPre_app]⟩
      have stop : ∀ x, mLine T' p acc = .error x → mLinesOf T' = .error x := fun x e => by rw [em, mLines_err hp e]; rfl
      refine ⟨_, rfl, _, rfl, a, _, _, _, rfl, rfl, SqL.of ha', atI_nat (vn_get (List.getElem?_eq_getElem hp)), rfl, ?_⟩
      rw [dec_int, ← eb]
      refine ⟨_, rfl, if_b (fun c1 => ?_) fun c1 => ?_⟩
      · have e : mLine T' p acc = .ok (p + 1, none, acc) := by unfold mLine; rw [if_pos (of_decide_eq_true c1)]
        obtain ⟨h1, h2, h3⟩ := step _ e
        refine ⟨_, rfl, _, _, rfl, rfl, s, p + 1, acc, cA, ls, vs, ln, rfl, hL', hF, hacc, h2, by omega, by omega, ?_⟩
        rw [h3]
        simp
      have n1 : ¬ byteAt T' p = 10 := of_decide_eq_false c1
      refine ⟨_, rfl, _, rfl, a, _, _, _, rfl, rfl, SqL.of ha', atI_nat (vn_get (List.getElem?_eq_getElem hp)), rfl, ?_⟩
      rw [dec_int, ← eb]
      refine ⟨_, rfl, if_b (fun c2 => ?_) fun c2 => ?_⟩
      · have e0 : mLine T' p acc = (match mRemark T' p with | .error e => .error e | .ok q => .ok (q, none, acc)) := by unfold mLine; rw [if_neg n1, if_pos (of_decide_eq_true c2)] <;> cases mRemark T' p <;> rfl
        refine ⟨_, rfl, _, rfl, a, T', p, rfl, ha', R.sub s (fun ans e => stop _ (by rw [e0, e])) fun q e v H2 s2 hv => ?_⟩
        obtain ⟨rfl, rfl⟩ := hv
        rw [e] at e0
        obtain ⟨h1, h2, h3⟩ := step _ e0
        refine ⟨s, q, acc, cA, ls, vs, ln, rfl, hL', hF, hacc, h2, by simp only [] at h1; omega, by simp only [] at h1; omega, ?_⟩
        rw [h3]
        simp
      have n2 : ¬ byteAt T' p = 35 := of_decide_eq_false c2
      apply with_rest2 (fun σ H2 => σ = [some (.ref a), some (.ref L), some (.ref cA), some (.int p), ln] ∧ Same H' H2 ∧ ¬ (byteAt T' p = 32 ∧ acc ≠ []))
      · intro rest
        refine ⟨_, rfl, _, rfl, a, _, _, _, rfl, rfl, SqL.of ha', atI_nat (vn_get (List.getElem?_eq_getElem hp)), rfl, ?_⟩
        rw [dec_int, ← eb]
        refine ⟨_, rfl, if_b ?tt ?ff⟩
        case ff =>
          intro c3
          exact if_f rfl (rest _ _ ⟨rfl, Same.refl _, fun h => of_decide_eq_false c3 h.1⟩)
        case tt =>
          intro c3
          refine ⟨_, rfl, fits (by simp), fun e0 he0 => (hacc.same (Same.new he0)).ne NameAt.kp0 ⟨_, rfl, if_b (fun c4 => ?_) fun c4 => ?_⟩⟩
          · have hc : byteAt T' p = 32 ∧ acc ≠ [] := ⟨of_decide_eq_true c3, by simpa using c4⟩
            have e0' : mLine T' p acc = (match mPartLine T' p acc with | .error e => .error e | .ok r => .ok (r.1, some r.2, acc)) := by unfold mLine; rw [if_neg n1, if_neg n2, if_pos hc] <;> cases mPartLine T' p acc <;> rfl
            have s1 : Same H' (upd H' e0 (.tup [])) := Same.new he0
            refine ⟨_, rfl, _, rfl, _, rfl, a, cA, T', p, acc, rfl, s1 _ _ ha', hT, hacc.same s1, R.sub (Same.trans' s s1) (fun ans e => stop _ (by rw [e0', e])) fun r e v H2 s2 hv => ?_⟩
            obtain ⟨t, b, rfl, ht, hb⟩ := hv
            rw [e] at e0'
            obtain ⟨h1, h2, h3⟩ := step _ e0'
            have s12 := Same.trans' s1 s2
            refine ⟨t, _, rfl, SqT.of ht, rfl, _, _, rfl, _, _, rfl, rfl, _, rfl, .inl ⟨rfl, _, SqL.of (s12 _ _ hL')⟩, _, rfl, L, vs, _, rfl, rfl, s12 _ _ hL', fits' (by omega), ?_⟩
            have k3 : Kp H2 (upd H2 L (.lst (vs ++ [.ref b]))) := Kp.lst (s12 _ _ hL')
            refine ⟨Same.mut (Same.trans' s s12) hL, r.1, acc, cA, ls ++ [r.2], _, _, rfl, upd_same, (hF.kpL (Kp.trans (Same.kp s12) k3)).snoc ⟨b, rfl, hb.kp k3⟩, (hacc.same s12).kp k3, h2, ?_, ?_, h3⟩
            · simp only [] at h1; rw [List.length_append]; simp only [List.length_cons, List.length_nil]; omega
            · simp only [] at h1; omega
          · exact rest _ _ ⟨rfl, Same.new he0, fun h => h.2 (by simpa using c4)⟩
      · rintro σ H1 ⟨rfl, s1, hc⟩
        have e0' : mLine T' p acc = (match mThingLine T' p with | .error e => .error e | .ok r => .ok (r.1, some r.2, if r.2.told = -2 then r.2.key.1 else [])) := by unfold mLine; rw [if_neg n1, if_neg n2, if_neg hc] <;> cases mThingLine T' p <;> rfl
        refine ⟨_, rfl, _, rfl, a, T', p, rfl, s1 _ _ ha', hT, R.sub (Same.trans' s s1) (fun ans e => stop _ (by rw [e0', e])) fun r e v H2 s2 hv => ?_⟩
        obtain ⟨t, b, rfl, ht, hb⟩ := hv
        rw [e] at e0'
        obtain ⟨h1, h2, h3⟩ := step _ e0'
        have s12 := Same.trans' s1 s2
        refine ⟨t, _, rfl, SqT.of ht, rfl, _, _, rfl, _, _, rfl, rfl, _, rfl, .inl ⟨rfl, _, SqL.of (s12 _ _ hL')⟩, _, rfl, L, vs, _, rfl, rfl, s12 _ _ hL', fits' (by omega), ?_⟩
        have k3 : Kp H2 (upd H2 L (.lst (vs ++ [.ref b]))) := Kp.lst (s12 _ _ hL')
        have sN : Same H (upd H2 L (.lst (vs ++ [.ref b]))) := Same.mut (Same.trans' s s12) hL
        obtain ⟨dx, k, hb1, hb2⟩ := hb.kp k3
        obtain ⟨k1, k2, hk1, hk2, hk3⟩ := hb2.fst (K := K)
        have fin : ∀ (cB : Addr) (H4 : Hp), Same (upd H2 L (.lst (vs ++ [.ref b]))) H4 → NameAt H4 cB (if r.2.told = -2 then r.2.key.1 else []) → Nx [some (.ref a), some (.ref L), some (.ref cB), some (.int (r.1 : Nat)), some (.ref b)] H4 := fun cB H4 s4 hB => by
          refine ⟨Same.trans' sN s4, r.1, _, cB, ls ++ [r.2], _, _, rfl, s4 _ _ upd_same, (hF.kpL (Kp.trans (Kp.trans (Same.kp s12) k3) (Same.kp s4))).snoc ⟨b, rfl, (hb.kp k3).kp (Same.kp s4)⟩, hB, h2, ?_, ?_, h3⟩
          · simp only [] at h1; rw [List.length_append]; simp only [List.length_cons, List.length_nil]; omega
          · simp only [] at h1; omega
        refine ⟨_, rfl, b, _, dx, _, _, rfl, hb1, T.c_Line, T.n_Line_told, rfl, rfl, ?_⟩
        rw [dec_int]
        refine ⟨_, rfl, if_b (fun c5 => ?_) fun c5 => ?_⟩
        · refine ⟨_, rfl, b, _, dx, _, _, rfl, hb1, T.c_Line, T.n_Line_subject, rfl, _, _, ((0 : Nat) : Int), _, rfl, rfl, hk3, atI_nat rfl, ?_⟩
          exact fin k1 _ (Same.refl _) (by rw [if_pos (of_decide_eq_true c5)]; exact hk1)
        · refine ⟨fits (by simp), fun u hu => fin u _ (Same.new hu) (by rw [if_neg (of_decide_eq_false c5)]; exact NameAt.kp0)⟩
    · have hp : ¬ p < T'.length := by have := of_decide_eq_false c; omega
      refine ⟨_, rfl, R.done (b := ls) (by rw [em, mLines_end hp]; simp [mPre]) s ⟨L, vs, rfl, hL, hL', hF⟩⟩
abbrev nm_first_repeated_booktexts : List Str := ["lines", "seen", "line"]
theorem sc_first_repeated_booktexts : FnScope nm_first_repeated_booktexts ["lines"] (defScope s_first_repeated_booktexts) := ⟨rfl, rfl, rfl, by decide +kernel, rfl, by decide +kernel, by decide +kernel⟩
def sp_first_repeated_booktexts (K : PySem.W.Frag) : Sp := fun vs H Q _ => ∃ (L : Addr) (as : List V) (ls : List Ln), vs = [.ref L] ∧ H L = some (.lst as) ∧ F2 (LineR K H) as ls ∧ ls.length ≤ 1000000 ∧ ∀ H', Same H H' → Q (.int (mRep [] ls)) H'
theorem good_first_repeated_booktexts (T : Tx K mg) : Gd P w K mg base CX0 1 "first_repeated_booktexts" ["lines"] (sp_first_repeated_booktexts K) := by
  obtain ⟨fd, F⟩ := T.f_first_repeated_booktexts
  refine ⟨_, fd, fn0 F sc_first_repeated_booktexts (fun vs H Q E h => ?_) (fun cdv A outer s H vs Q E hr h => ⟨_, (pss_cons (ps_set (i := 1) sc_first_repeated_booktexts.nd rfl (Or.inl rfl) pe_newX)
      (pss_cons (ps_for PassesOwn.never rfl (pi_list (pv 0)) (pg_name (i := 2) sc_first_repeated_booktexts.nd rfl (Or.inl rfl)) (pss_cons (ps_if (pt_cmpR (op_inX hr.units) (pe_fld (pv 2) rfl) (pv 1) (by with_unfolding_all rfl)) (pss_one (ps_ret (pe_fld (pv 2) rfl))) pss_nil)
      (pss_one (ps_asg pe_bl (pg_sub (pv 1) (pe_fld (pv 2) rfl) (set_X hr.units))))))
      (pss_one (ps_ret (pe_un un_neg pe_int))))), ?_⟩), F.bindsN (fun _ _ _ _ _ _ us hl => match us, hl with | [_], _ => rfl), T.g_first_repeated_booktexts, F.kp⟩
  · obtain ⟨_, _, _, e, _⟩ := h
    subst e
    rfl
  · obtain ⟨L, as, ls, rfl, hL, hF, hlen, q⟩ := h
    refine fun p ep hp hX => ?_
    have sp : Same H (upd H p (DXo p ep [])) := Same.new hp
    refine ⟨_, rfl, L, rfl, ⟨_, SqL.of (sp _ _ hL)⟩, for_each (R := LineR K H) (xs := ls) hF (fun dn rs σ H' => Same H H' ∧ (∃ m, σ = [some (.ref L), some (.ref p), m]) ∧ ∃ seen, SetAt tK H' p seen ∧ seen.length ≤ dn.length ∧ mRep [] ls = mRep seen rs) ⟨sp, ⟨_, rfl⟩, [], DG.new hX, Nat.le_refl _, rfl⟩ ?_ ?_ ?_⟩
    · rintro dn rs σ H' ⟨s, -⟩
      exact SqL.of (s _ _ hL)
    · rintro dn l rs v σ H' e ⟨a, rfl, hl⟩ ⟨s, ⟨m, rfl⟩, seen, hset, hsl, er⟩
      obtain ⟨dx, k, h1, h2⟩ := hl.kp (Same.kp s)
      have hdl : dn.length < ls.length := by rw [← e]; simp
      refine ⟨_, rfl, a, _, dx, _, _, rfl, h1, T.c_Line, T.n_Line_subject, rfl, _, rfl, DG.in_ (t := tK) hset h2 ⟨_, rfl, ?_⟩⟩
      rw [look_set]
      refine if_b (fun c => ?_) fun c => ?_
      · refine ⟨_, rfl, a, _, dx, _, _, rfl, h1, T.c_Line, T.n_Line_place, rfl, ?_⟩
        have := q H' s
        rw [er, mRep, if_pos (memB_iff.mp c)] at this
        exact this
      · have c' : l.key ∉ seen := memB_false.mp c
        refine ⟨_, rfl, _, rfl, a, _, dx, _, _, rfl, h1, T.c_Line, T.n_Line_subject, rfl, DG.set_ (t := tK) hset h2 (by rw [setD_length]; exact fits' (by omega)) fun o hDG => ⟨Same.mut s hp, ⟨_, rfl⟩, seen ++ [l.key], ?_, by simp only [List.length_append, List.length_cons, List.length_nil]; omega, ?_⟩⟩
        · rw [put_set, addS_new c'] at hDG
          exact hDG
        · rw [er, mRep, if_neg c']
    · rintro σ H' ⟨s, ⟨m, rfl⟩, seen, hset, hsl, er⟩
      have := q H' s
      rw [er, mRep] at this
      exact ⟨_, rfl, this⟩
abbrev nm_first_unknown : List Str := ["book", "parts", "line"]
theorem sc_first_unknown : FnScope nm_first_unknown ["book", "parts"] (defScope s_first_unknown) := ⟨rfl, rfl, rfl, by decide +kernel, rfl, by decide +kernel, by decide +kernel⟩
def sp_first_unknown (K : PySem.W.Frag) : Sp := fun vs H Q _ => ∃ (d : Addr) (B : Bk) (L : Addr) (as : List V) (ls : List Ln), vs = [.ref d, .ref L] ∧ BookAt H d B ∧ H L = some (.lst as) ∧ F2 (LineR K H) as ls ∧ ∀ H', Same H H' → Q (.int (mUnknown B ls)) H'
theorem good_first_unknown (T : Tx K mg) : Gd P w K mg base CX0 2 "first_unknown" ["book", "parts"] (sp_first_unknown K) := by
  obtain ⟨fd, F⟩ := T.f_first_unknown
  refine ⟨_, fd, fn0 F sc_first_unknown (fun vs H Q E h => ?_) (fun cdv A outer s H vs Q E hr h => ⟨_, (pss_cons (ps_for PassesOwn.never rfl (pi_list (pv 1)) (pg_name (i := 2) sc_first_unknown.nd rfl (Or.inl rfl)) (pss_one (ps_if (pt_cmpR (op_notInX hr.units) (pe_gd (good_thing (P := P) (w := w) (base := base) T) hr pass0 (pa_cons (pe_ix ix_tup (pe_fld (pv 2) rfl) pe_int (fun _ _ => rfl)) pa_nil)) (pv 0) (by with_unfolding_all rfl)) (pss_one (ps_ret (pe_fld (pv 2) rfl))) pss_nil)))
      (pss_one (ps_ret (pe_un un_neg pe_int)))), ?_⟩), F.bindsN (fun _ _ _ _ _ _ us hl => match us, hl with | [_, _], _ => rfl), T.g_first_unknown, F.kp⟩
  · obtain ⟨_, _, _, _, _, e, _⟩ := h
    subst e
    rfl
  · obtain ⟨d, B, L, as, ls, rfl, hd, hL, hF, q⟩ := h
    refine ⟨_, rfl, L, rfl, ⟨_, SqL.of hL⟩, for_each (R := LineR K H) (xs := ls) hF (fun dn rs σ H' => Same H H' ∧ (∃ m, σ = [some (.ref d), some (.ref L), m]) ∧ mUnknown B ls = mUnknown B rs) ⟨Same.refl _, ⟨_, rfl⟩, rfl⟩ ?_ ?_ ?_⟩
    · rintro dn rs σ H' ⟨s, -⟩
      exact SqL.of (s _ _ hL)
    · rintro dn l rs v σ H' e ⟨a, rfl, hl⟩ ⟨s, ⟨m, rfl⟩, er⟩
      obtain ⟨dx, k, h1, h2⟩ := hl.kp (Same.kp s)
      obtain ⟨k1, k2, hk1, hk2, hk3⟩ := h2.fst (K := K)
      refine ⟨_, rfl, a, _, dx, _, _, rfl, h1, T.c_Line, T.n_Line_subject, rfl, _, _, ((1 : Nat) : Int), _, rfl, rfl, hk3, atI_nat rfl, k2, _, rfl, hk2, fun t H2 s2 ht => ⟨_, rfl, DG.notin (t := tK) ((hd.same s).same s2) ht ⟨_, rfl, ?_⟩⟩⟩
      rw [look_vB, Option.isSome_map]
      refine if_b (fun c => ?_) fun c => ?_
      · refine ⟨_, rfl, a, _, dx, _, _, rfl, s2 _ _ h1, T.c_Line, T.n_Line_place, rfl, ?_⟩
        have := q H2 (Same.trans' s s2)
        rw [er] at this
        unfold mUnknown placeOf hasB at this
        rw [List.find?_cons, c] at this
        exact this
      · refine ⟨Same.trans' s s2, ⟨_, rfl⟩, ?_⟩
        rw [er]
        unfold mUnknown placeOf hasB
        rw [List.find?_cons, c]
    · rintro σ H' ⟨s, ⟨m, rfl⟩, er⟩
      have := q H' s
      rw [er] at this
      exact ⟨_, rfl, this⟩
end
end Fb
end
section
set_option Elab.async false
set_option maxRecDepth 100000
set_option maxHeartbeats 4000000
namespace Fb
open PySem PySem.Spec PyProof.Rows L2
section
variable {P : Program} {w : World} {K : PySem.W.Frag} {mg : Str → Option Value} {base : Heap}
abbrev nm_first_without_parts : List Str := ["things", "parts", "begun", "line"]
theorem sc_first_without_parts : FnScope nm_first_without_parts ["things", "parts"] (defScope s_first_without_parts) := ⟨rfl, rfl, rfl, by decide +kernel, rfl, by decide +kernel, by decide +kernel⟩
def sp_first_without_parts (K : PySem.W.Frag) : Sp := fun vs H Q _ => ∃ (L1 L2 : Addr) (as bs : List V) (ts ps : List Ln), vs = [.ref L1, .ref L2] ∧ H L1 = some (.lst as) ∧ F2 (LineR K H) as ts ∧ H L2 = some (.lst bs) ∧ F2 (LineR K H) bs ps ∧ ps.length ≤ 1000000 ∧ ∀ H', Same H H' → Q (.int (mWithout ts ps)) H'
theorem good_first_without_parts (T : Tx K mg) : Gd P w K mg base CX0 1 "first_without_parts" ["things", "parts"] (sp_first_without_parts K) := by
  obtain ⟨fd, F⟩ := T.f_first_without_parts
  refine ⟨_, fd, fn0 F sc_first_without_parts (fun vs H Q E h => ?_) (fun cdv A outer s H vs Q E hr h => ⟨_, (pss_cons (ps_set (i := 2) sc_first_without_parts.nd rfl (Or.inl rfl) pe_newX)
      (pss_cons (ps_for PassesOwn.never rfl (pi_list (pv 1)) (pg_name (i := 3) sc_first_without_parts.nd rfl (Or.inl rfl)) (pss_one (ps_asg pe_bl (pg_sub (pv 2) (pe_ix ix_tup (pe_fld (pv 3) rfl) pe_int (fun _ _ => rfl)) (set_X hr.units)))))
      (pss_cons (ps_for PassesOwn.never rfl (pi_list (pv 0)) (pg_name (i := 3) sc_first_without_parts.nd rfl (Or.inl rfl)) (pss_one (ps_if (PW.pt (pw_and (pt_cmpR op_eq (pe_fld (pv 3) rfl) (pe_gi T.i_ACCORD) (nomark _)) (pw_and1 (pt_cmpR (op_notInX hr.units) (pe_ix ix_tup (pe_fld (pv 3) rfl) pe_int (fun _ _ => rfl)) (pv 2) (by with_unfolding_all rfl))))) (pss_one (ps_ret (pe_fld (pv 3) rfl))) pss_nil)))
      (pss_one (ps_ret (pe_un un_neg pe_int)))))), ?_⟩), F.bindsN (fun _ _ _ _ _ _ us hl => match us, hl with | [_, _], _ => rfl), T.g_first_without_parts, F.kp⟩
  · obtain ⟨_, _, _, _, _, _, e, _⟩ := h
    subst e
    rfl
  · obtain ⟨L1, L2, as, bs, ts, ps, rfl, hL1, hF1, hL2, hF2, hlen, q⟩ := h
    refine fun p ep hp hX => ?_
    have sp : Same H (upd H p (DXo p ep [])) := Same.new hp
    refine ⟨_, rfl, L2, rfl, ⟨_, SqL.of (sp _ _ hL2)⟩, for_each (R := LineR K H) (xs := ps) hF2 (fun dn rs σ H' => Same H H' ∧ (∃ m, σ = [some (.ref L1), some (.ref L2), some (.ref p), m]) ∧ SetAt tN H' p (dn.foldl (fun s l => addS s l.key.1) []) ∧ (dn.foldl (fun s l => addS s l.key.1) []).length ≤ dn.length) ⟨sp, ⟨_, rfl⟩, DG.new hX, Nat.le_refl _⟩ ?_ ?_ ?_⟩
    · rintro dn rs σ H' ⟨s, -⟩
      exact SqL.of (s _ _ hL2)
    · rintro dn l rs v σ H' e ⟨a, rfl, hl⟩ ⟨s, ⟨m, rfl⟩, hset, hsl⟩
      obtain ⟨dx, k, h1, h2⟩ := hl.kp (Same.kp s)
      obtain ⟨k1, k2, hk1, hk2, hk3⟩ := h2.fst (K := K)
      have hdl : dn.length < ps.length := by rw [← e]; simp
      refine ⟨_, rfl, _, rfl, a, _, dx, _, _, rfl, h1, T.c_Line, T.n_Line_subject, rfl, _, _, ((0 : Nat) : Int), _, rfl, rfl, hk3, atI_nat rfl, DG.set_ (t := tN) hset hk1 (by rw [setD_length]; exact fits' (by omega)) fun o hDG => ⟨Same.mut s hp, ⟨_, rfl⟩, ?_, ?_⟩⟩
      · rw [put_set] at hDG
        rw [List.foldl_append]
        exact hDG
      · rw [List.foldl_append, List.length_append]
        exact Nat.le_trans (addS_length _ _) (Nat.succ_le_succ hsl)
    · rintro σ H1 ⟨s1, ⟨m, rfl⟩, hset, -⟩
      refine ⟨_, rfl, L1, rfl, ⟨_, SqL.of (s1 _ _ hL1)⟩, for_each (R := LineR K H) (xs := ts) hF1 (fun dn rs σ H' => Same H1 H' ∧ (∃ m, σ = [some (.ref L1), some (.ref L2), some (.ref p), m]) ∧ mWithout ts ps = mWithout rs ps) ⟨Same.refl _, ⟨_, rfl⟩, rfl⟩ ?_ ?_ ?_⟩
      · rintro dn rs σ H' ⟨s, -⟩
        exact SqL.of (s _ _ (s1 _ _ hL1))
      · rintro dn l rs v σ H' e ⟨a, rfl, hl⟩ ⟨s, ⟨m, rfl⟩, er⟩
        obtain ⟨dx, k, h1, h2⟩ := hl.kp (Same.kp (Same.trans' s1 s))
        obtain ⟨k1, k2, hk1, hk2, hk3⟩ := h2.fst (K := K)
        have no : (decide (l.told = -2) && !memB (ps.foldl (fun s l => addS s l.key.1) []) l.key.1) = false → mWithout ts ps = mWithout rs ps := fun h => by
          rw [er]
          unfold mWithout placeOf
          rw [List.find?_cons, h]
        refine ⟨_, rfl, a, _, dx, _, _, rfl, h1, T.c_Line, T.n_Line_told, rfl, rfl, ?_⟩
        rw [dec_int]
        refine ⟨_, rfl, if_b (fun c => ?_) fun c => ?_⟩
        · refine ⟨_, rfl, a, _, dx, _, _, rfl, h1, T.c_Line, T.n_Line_subject, rfl, _, _, ((0 : Nat) : Int), _, rfl, rfl, hk3, atI_nat rfl, _, rfl, DG.notin (t := tN) (hset.same s) hk1 ⟨_, rfl, ?_⟩⟩
          rw [look_set]
          refine if_b (fun c2 => ?_) fun c2 => ?_
          · refine ⟨_, rfl, a, _, dx, _, _, rfl, h1, T.c_Line, T.n_Line_place, rfl, ?_⟩
            have := q H' (Same.trans' s1 s)
            rw [er] at this
            unfold mWithout placeOf at this
            rw [List.find?_cons, c, c2] at this
            exact this
          · exact ⟨s, ⟨_, rfl⟩, no (by rw [c2, Bool.and_false])⟩
        · exact ⟨s, ⟨_, rfl⟩, no (by rw [c, Bool.false_and])⟩
      · rintro σ H' ⟨s, ⟨m, rfl⟩, er⟩
        have := q H' (Same.trans' s1 s)
        rw [er] at this
        exact ⟨_, rfl, this⟩
abbrev nm_first_in_itself : List Str := ["book", "things", "parts", "line", "name"]
theorem sc_first_in_itself : FnScope nm_first_in_itself ["book", "things"] (defScope s_first_in_itself) := ⟨rfl, rfl, rfl, by decide +kernel, rfl, by decide +kernel, by decide +kernel⟩
def sp_first_in_itself (K : PySem.W.Frag) : Sp := fun vs H Q _ => ∃ (d : Addr) (B : Bk) (L : Addr) (as : List V) (ls : List Ln), vs = [.ref d, .ref L] ∧ BookAt H d B ∧ H L = some (.lst as) ∧ F2 (LineR K H) as ls ∧ KnownA B ∧ KnownP B ∧ B.length ≤ 1000000 ∧ (∀ l ∈ ls, (l.key.1, []) ∈ B.map (·.1)) ∧ ∀ H', Same H H' → Q (.int (mInItself B ls)) H'
theorem good_first_in_itself (T : Tx K mg) : Gd P w K mg base CX0 3 "first_in_itself" ["book", "things"] (sp_first_in_itself K) := by
  obtain ⟨fd, F⟩ := T.f_first_in_itself
  refine ⟨_, fd, fn0 F sc_first_in_itself (fun vs H Q E h => ?_) (fun cdv A outer s H vs Q E hr h => ⟨_, (pss_cons (ps_set (i := 2) sc_first_in_itself.nd rfl (Or.inl rfl) (pe_gd (good_parts_of (P := P) (w := w) (base := base) T) hr pass0 (pa_cons (pv 0) pa_nil)))
      (pss_cons (ps_for PassesOwn.never rfl (pi_list (pv 1)) (pg_name (i := 3) sc_first_in_itself.nd rfl (Or.inl rfl)) (pss_cons (ps_set (i := 4) sc_first_in_itself.nd rfl (Or.inl rfl) (pe_ix ix_tup (pe_fld (pv 3) rfl) pe_int (fun _ _ => rfl)))
      (pss_one (ps_if (pt_cmpR (op_inX hr.units) (pv 4) (pe_gd (good_standing_in (P := P) (w := w) (base := base) T) hr pass0 (pa_cons (pv 2) (pa_cons (pv 4) pa_nil))) (by with_unfolding_all rfl)) (pss_one (ps_ret (pe_fld (pv 3) rfl))) pss_nil))))
      (pss_one (ps_ret (pe_un un_neg pe_int))))), ?_⟩), F.bindsN (fun _ _ _ _ _ _ us hl => match us, hl with | [_, _], _ => rfl), T.g_first_in_itself, F.kp⟩
  · obtain ⟨_, _, _, _, _, e, _⟩ := h
    subst e
    rfl
  · obtain ⟨d, B, L, as, ls, rfl, hd, hL, hF, kA, kP, hlen, hls, q⟩ := h
    refine ⟨_, rfl, d, B, rfl, hd, kA, hlen, fun P3 H1 s1 hP hParts => ?_⟩
    refine ⟨_, rfl, L, rfl, ⟨_, SqL.of (s1 _ _ hL)⟩, for_each (R := LineR K H) (xs := ls) hF (fun dn rs σ H' => Same H1 H' ∧ (∃ m n, σ = [some (.ref d), some (.ref L), some (.ref P3), m, n]) ∧ mInItself B ls = mInItself B rs) ⟨Same.refl _, ⟨_, _, rfl⟩, rfl⟩ ?_ ?_ ?_⟩
    · rintro dn rs σ H' ⟨s, -⟩
      exact SqL.of (s _ _ (s1 _ _ hL))
    · rintro dn l rs v σ H' e ⟨a, rfl, hl⟩ ⟨s, ⟨m, n, rfl⟩, er⟩
      obtain ⟨dx, k, h1, h2⟩ := hl.kp (Same.kp (Same.trans' s1 s))
      obtain ⟨k1, k2, hk1, hk2, hk3⟩ := h2.fst (K := K)
      refine ⟨_, rfl, a, _, dx, _, _, rfl, h1, T.c_Line, T.n_Line_subject, rfl, _, _, ((0 : Nat) : Int), _, rfl, rfl, hk3, atI_nat rfl, ?_⟩
      refine ⟨_, rfl, _, rfl, _, rfl, P3, k1, partsB B, l.key.1, rfl, hParts.same s, hk1, closed_parts kP, parts_mem.mpr (hls l (by rw [← e]; simp)), Nat.le_trans (parts_length B) hlen, fun f H5 s5 hf hset => DG.in_ (t := tN) hset (hk1.same s5) ⟨_, rfl, ?_⟩⟩
      rw [look_set]
      refine if_b (fun c => ?_) fun c => ?_
      · refine ⟨_, rfl, a, _, dx, _, _, rfl, s5 _ _ h1, T.c_Line, T.n_Line_place, rfl, ?_⟩
        have := q H5 (Same.trans' s1 (Same.trans' s s5))
        rw [er] at this
        unfold mInItself placeOf at this
        rw [List.find?_cons, c] at this
        exact this
      · refine ⟨Same.trans' s s5, ⟨_, _, rfl⟩, ?_⟩
        rw [er]
        unfold mInItself placeOf
        rw [List.find?_cons, c]
    · rintro σ H' ⟨s, ⟨m, n, rfl⟩, er⟩
      have := q H' (Same.trans' s1 s)
      rw [er] at this
      exact ⟨_, rfl, this⟩
abbrev nm_first_too_many : List Str := ["lines", "things", "parts", "line", "many"]
theorem sc_first_too_many : FnScope nm_first_too_many ["lines"] (defScope s_first_too_many) := ⟨rfl, rfl, rfl, by decide +kernel, rfl, by decide +kernel, by decide +kernel⟩
def sp_first_too_many (K : PySem.W.Frag) : Sp := fun vs H Q _ => ∃ (L : Addr) (as : List V) (ls : List Ln), vs = [.ref L] ∧ H L = some (.lst as) ∧ F2 (LineR K H) as ls ∧ ls.length ≤ 1000000 ∧ ∀ H', Same H H' → Q (.int (mMany 0 [] ls)) H'
theorem good_first_too_many (T : Tx K mg) : Gd P w K mg base CX0 2 "first_too_many" ["lines"] (sp_first_too_many K) := by
  obtain ⟨fd, F⟩ := T.f_first_too_many
  refine ⟨_, fd, fn0 F sc_first_too_many (fun vs H Q E h => ?_) (fun cdv A outer s H vs Q E hr h => ⟨_, (pss_cons (ps_set (i := 1) sc_first_too_many.nd rfl (Or.inl rfl) pe_int)
      (pss_cons (ps_set (i := 2) sc_first_too_many.nd rfl (Or.inl rfl) pe_newX)
      (pss_cons (ps_for PassesOwn.never rfl (pi_list (pv 0)) (pg_name (i := 3) sc_first_too_many.nd rfl (Or.inl rfl)) (pss_one (ps_if (pt_val (pe_gd (good_is_thing (P := P) (w := w) (base := base) T) hr pass0 (pa_cons (pe_fld (pv 3) rfl) pa_nil))) (pss_cons (ps_if (pt_cmpR op_eq (pv 1) (pe_gi T.i_MOST_THINGS) (nomark _)) (pss_one (ps_ret (pe_fld (pv 3) rfl))) pss_nil)
      (pss_one (ps_aug (i := 1) sc_first_too_many.nd rfl (Or.inl rfl) pe_int ip_add))) (pss_cons (ps_set (i := 4) sc_first_too_many.nd rfl (Or.inl rfl) (pe_getX hr.units (pv 2) (pe_ix ix_tup (pe_fld (pv 3) rfl) pe_int (fun _ _ => rfl)) pe_int ⟨rfl, rfl, rfl, rfl⟩))
      (pss_cons (ps_if (pt_cmpR op_eq (pv 4) (pe_gi T.i_MOST_PARTS) (nomark _)) (pss_one (ps_ret (pe_fld (pv 3) rfl))) pss_nil)
      (pss_one (ps_asg (pe_op op_add (pv 4) pe_int) (pg_sub (pv 2) (pe_ix ix_tup (pe_fld (pv 3) rfl) pe_int (fun _ _ => rfl)) (set_X hr.units)))))))))
      (pss_one (ps_ret (pe_un un_neg pe_int)))))), ?_⟩), F.bindsN (fun _ _ _ _ _ _ us hl => match us, hl with | [_], _ => rfl), T.g_first_too_many, F.kp⟩
  · obtain ⟨_, _, _, e, _⟩ := h
    subst e
    rfl
  · obtain ⟨L, as, ls, rfl, hL, hF, hlen, q⟩ := h
    refine fun p ep hp hX => ?_
    have sp : Same H (upd H p (DXo p ep [])) := Same.new hp
    refine ⟨_, rfl, L, rfl, ⟨_, SqL.of (sp _ _ hL)⟩, for_each (R := LineR K H) (xs := ls) hF (fun dn rs σ H' => Same H H' ∧ ∃ (n : Nat) (c : List (Nm × Int)) (m1 m2 : Option V), σ = [some (.ref L), some (.int n), some (.ref p), m1, m2] ∧ DG tN H' p (c.map fun x => (x.1, V.int x.2)) ∧ c.length ≤ dn.length ∧ mMany 0 [] ls = mMany n c rs) ⟨sp, 0, [], _, _, rfl, DG.new hX, Nat.le_refl _, rfl⟩ ?_ ?_ ?_⟩
    · rintro dn rs σ H' ⟨s, -⟩
      exact SqL.of (s _ _ hL)
    · rintro dn l rs v σ H' e ⟨a, rfl, hl⟩ ⟨s, n, c, m1, m2, rfl, hD, hcl, er⟩
      obtain ⟨dx, k, h1, h2⟩ := hl.kp (Same.kp s)
      have hdl : dn.length < ls.length := by rw [← e]; simp
      rw [mMany] at er
      refine ⟨_, rfl, a, _, dx, _, _, rfl, h1, T.c_Line, T.n_Line_subject, rfl, k, l.key, rfl, h2, fun H2 s2 => ⟨_, rfl, if_b (fun t => ?_) fun t => ?_⟩⟩
      · rw [if_pos (of_decide_eq_true t)] at er
        refine ⟨_, rfl, rfl, ?_⟩
        rw [dec_int]
        refine ⟨_, rfl, if_b (fun t2 => ?_) fun t2 => ?_⟩
        · refine ⟨_, rfl, a, _, dx, _, _, rfl, s2 _ _ h1, T.c_Line, T.n_Line_place, rfl, ?_⟩
          have := q H2 (Same.trans' s s2)
          rw [er, if_pos (by have := of_decide_eq_true t2; omega)] at this
          exact this
        · refine ⟨_, rfl, _, _, rfl, rfl, Same.trans' s s2, n + 1, c, _, _, rfl, hD.same s2, by simp only [List.length_append, List.length_cons, List.length_nil]; omega, ?_⟩
          rw [er, if_neg (by have := of_decide_eq_false t2; omega)]
      · rw [if_neg (of_decide_eq_false t)] at er
        obtain ⟨k1, k2, hk1, hk2, hk3⟩ := (h2.same s2).fst (K := K)
        have hD2 := hD.same s2
        obtain ⟨epG, xsG, gG1, gG2⟩ := hD2.gets l.key.1
        refine ⟨_, rfl, p, rfl, hD2.some_, _, rfl, a, _, dx, _, _, rfl, s2 _ _ h1, T.c_Line, T.n_Line_subject, rfl, _, _, ((0 : Nat) : Int), _, rfl, rfl, hk3, atI_nat rfl, tN.nk l.key.1, k1, epG, xsG, rfl, gG1, tN.isK hk1, tN.depth _, ?_⟩
        rw [gG2]
        have ev : (lookG (c.map fun x => (x.1, V.int x.2)) l.key.1).getD (V.int 0) = V.int ((lookG c l.key.1).getD 0) := by
          rw [look_map V.int]
          cases lookG c l.key.1 <;> rfl
        rw [ev]
        refine ⟨_, rfl, rfl, ?_⟩
        rw [dec_int]
        refine ⟨_, rfl, if_b (fun t2 => ?_) fun t2 => ?_⟩
        · refine ⟨_, rfl, a, _, dx, _, _, rfl, s2 _ _ h1, T.c_Line, T.n_Line_place, rfl, ?_⟩
          have := q H2 (Same.trans' s s2)
          rw [er, if_pos (of_decide_eq_true t2)] at this
          exact this
        · refine ⟨_, rfl, _, _, rfl, rfl, _, rfl, _, rfl, a, _, dx, _, _, rfl, s2 _ _ h1, T.c_Line, T.n_Line_subject, rfl, _, _, ((0 : Nat) : Int), _, rfl, rfl, hk3, atI_nat rfl, DG.set_ (t := tN) hD2 hk1 (by rw [List.length_map]; exact fits' (by omega)) fun o hDG => ⟨Same.mut (Same.trans' s s2) hp, n, putG c l.key.1 ((lookG c l.key.1).getD 0 + 1), _, _, rfl, ?_, ?_, ?_⟩⟩
          · rw [put_map V.int] at hDG
            exact hDG
          · have := putG_length c l.key.1 ((lookG c l.key.1).getD 0 + 1)
            rw [List.length_append]
            simp only [List.length_cons, List.length_nil]
            omega
          · rw [er, if_neg (of_decide_eq_false t2)]
    · rintro σ H' ⟨s, n, c, m1, m2, rfl, hD, hcl, er⟩
      have := q H' s
      rw [er, mMany] at this
      exact ⟨_, rfl, this⟩
abbrev nm_thing_bytes : List Str := ["name", "told", "word", "sign"]
theorem sc_thing_bytes : FnScope nm_thing_bytes ["name", "told"] (defScope s_thing_bytes) := ⟨rfl, rfl, rfl, by decide +kernel, rfl, by decide +kernel, by decide +kernel⟩
def sp_thing_bytes (K : PySem.W.Frag) : Sp := fun vs H Q _ => ∃ (a : Addr) (x : Nm) (n : Int), vs = [.ref a, .int n] ∧ NameAt H a x ∧ x.length ≤ 1000 ∧ NewL Q H (vn (mThing x n))
theorem good_thing_bytes (T : Tx K mg) : Gd P w K mg base CX0 1 "thing_bytes" ["name", "told"] (sp_thing_bytes K) := by
  obtain ⟨fd, F⟩ := T.f_thing_bytes
  refine ⟨_, fd, fn0 F sc_thing_bytes (fun vs H Q E h => ?_) (fun cdv A outer s H vs Q E hr h => ⟨_, (pss_cons (ps_set (i := 2) sc_thing_bytes.nd rfl (Or.inl rfl) (pe_ifExp (pt_cmpR op_eq (pv 1) (pe_gi T.i_MATERIAL) (nomark _)) (pe_gs T.s_MATERIAL_WORD) (pe_gs T.s_ACCORD_WORD)))
      (pss_one (ps_ret (pe_op op_cat (pe_op op_cat (pe_lc (own := [("sign", 3)]) (g := gName 3) (tt := tYes) rfl sc_thing_bytes.nd (pi_str (pv 2)) (blkOk_by (own := [("sign", 3)]) (N := nm_thing_bytes) (sc := defScope s_thing_bytes) (by decide +kernel)) (fun _ _ _ _ _ => pg_name (i := 3) sc_thing_bytes.nd rfl (Or.inl rfl)) (fun _ _ _ _ _ => pts_nil) (fun _ _ _ _ _ => (pe_callB call_ord (by rfl) T.b_ord (by decide +kernel) (pa_cons (pv 3) pa_nil)))) (pe_lst (pa_cons (pe_gi T.i_BLANK) pa_nil))) (pe_callTy call_list_of (by rfl) T.b_list (by decide +kernel) (pa_cons (pv 0) pa_nil)))))), ?_⟩), F.bindsN (fun _ _ _ _ _ _ us hl => match us, hl with | [_, _], _ => rfl), T.g_thing_bytes, F.kp⟩
  · obtain ⟨_, _, _, e, _⟩ := h
    subst e
    rfl
  · obtain ⟨a, x, n, rfl, ha, hx, q⟩ := h
    apply with_rest2 (fun σ H' => H' = H ∧ ∃ z : Str, σ = [some (.ref a), some (.int n), some (.str z), none] ∧ z.cps.toList = (if n = -1 then SctBook.MATERIAL else SctBook.ACCORD))
    · intro rest
      refine ⟨_, rfl, rfl, ?_⟩
      rw [dec_int]
      refine ⟨_, rfl, if_b ?tt ?ff⟩
      case ff =>
        intro c
        exact rest _ _ ⟨rfl, _, rfl, by rw [if_neg (of_decide_eq_false c)]; rfl⟩
      case tt =>
        intro c
        exact rest _ _ ⟨rfl, _, rfl, by rw [if_pos (of_decide_eq_true c)]; rfl⟩
    rintro σ H' ⟨rfl, z, rfl, hz⟩
    have hzl : z.cps.toList.length ≤ 8 := by
      rw [hz]
      split <;> decide
    refine ⟨_, rfl, z, rfl, fun D hD => ?_⟩
    refine lc_codes hD (by omega) (fun c H2 Y N s y => ⟨rfl, _, rfl, _, rfl, rfl, y⟩) fun H2 s hl => ?_
    refine ⟨fits (by simp), fun b hb => ?_⟩
    have hb1 := Same.new (o := .lst [V.int 32]) hb
    refine ⟨D, b, vn z.cps.toList, vn [32], rfl, rfl, hb1 _ _ hl, upd_same, fits (by rw [vn_length, vn_length]; simp only [List.length_cons, List.length_nil]; omega), fun u hu => ?_⟩
    have hu1 := Same.new (o := .lst (vn z.cps.toList ++ vn [32])) hu
    have s3 := Same.trans' s (Same.trans' hb1 hu1)
    refine ⟨_, rfl, a, _, rfl, .inr (SqT.of (s3 _ _ ha)), fun w hw => ?_⟩
    have hw1 := Same.new (o := .lst (vn x)) hw
    refine ⟨u, w, _, vn x, rfl, rfl, hw1 _ _ upd_same, upd_same, fits (by rw [List.length_append, vn_length, vn_length, vn_length]; simp only [List.length_cons, List.length_nil]; omega), fun r hr => ?_⟩
    have := NewL.new q (Same.trans' s3 hw1) hr
    unfold mThing at this
    rw [← hz, vn_app, vn_app] at this
    exact this
abbrev nm_amount_bytes : List Str := ["amount", "whole", "behind", "digits", "sign"]
theorem sc_amount_bytes : FnScope nm_amount_bytes ["amount"] (defScope s_amount_bytes) := ⟨rfl, rfl, rfl, by decide +kernel, rfl, by decide +kernel, by decide +kernel⟩
def sp_amount_bytes (K : PySem.W.Frag) : Sp := fun vs H Q _ => ∃ (n : Nat), vs = [.int (n : Nat)] ∧ n ≤ 1000000000000 ∧ NewL Q H (vn (SctBook.amountText n))
theorem good_amount_bytes (T : Tx K mg) : Gd P w K mg base CX0 1 "amount_bytes" ["amount"] (sp_amount_bytes K) := by
  obtain ⟨fd, F⟩ := T.f_amount_bytes
  refine ⟨_, fd, fn0 F sc_amount_bytes (fun vs H Q E h => ?_) (fun cdv A outer s H vs Q E hr h => ⟨_, (pss_cons (ps_setLc (i := 1) (own := [("sign", 4)]) (g := gName 4) (tt := tYes) rfl sc_amount_bytes.nd rfl rfl (sw_true rfl rfl rfl (by decide +kernel)) (pi_str (pe_callTy call_str_int (by rfl) T.b_str (by decide +kernel) (pa_cons (pe_op op_fdiv (pv 0) pe_int) pa_nil))) (blkOk_by (own := [("sign", 4)]) (N := nm_amount_bytes) (sc := defScope s_amount_bytes) (by decide +kernel)) (fun _ _ _ _ _ => pg_name (i := 4) sc_amount_bytes.nd rfl (Or.inl rfl)) (fun _ _ _ _ _ => pts_nil) (fun _ _ _ _ _ => (pe_callB call_ord (by rfl) T.b_ord (by decide +kernel) (pa_cons (pv 4) pa_nil))))
      (pss_cons (ps_set (i := 2) sc_amount_bytes.nd rfl (Or.inl rfl) (pe_op op_mod (pv 0) pe_int))
      (pss_cons (ps_if (pt_cmpR op_eq (pv 2) pe_int (nomark _)) (pss_one (ps_ret (pv 1))) pss_nil)
      (pss_cons (ps_set (i := 3) sc_amount_bytes.nd rfl (Or.inl rfl) (pe_lst (pa_cons (pe_op op_add (pe_gi T.i_NOUGHT) (pe_op op_fdiv (pv 2) pe_int)) (pa_cons (pe_op op_add (pe_gi T.i_NOUGHT) (pe_op op_mod (pe_op op_fdiv (pv 2) pe_int) pe_int)) (pa_cons (pe_op op_add (pe_gi T.i_NOUGHT) (pe_op op_mod (pv 2) pe_int)) pa_nil)))))
      (pss_cons (ps_if (pt_cmpR op_eq (pe_op op_mod (pv 2) pe_int) pe_int (nomark _)) (pss_one (ps_ret (pe_op op_cat (pe_op op_cat (pv 1) (pe_lst (pa_cons (pe_gi T.i_POINT) pa_nil))) (pe_slice sl_list (pv 3) po_none (po_some pe_int))))) pss_nil)
      (pss_cons (ps_if (pt_cmpR op_eq (pe_op op_mod (pv 2) pe_int) pe_int (nomark _)) (pss_one (ps_ret (pe_op op_cat (pe_op op_cat (pv 1) (pe_lst (pa_cons (pe_gi T.i_POINT) pa_nil))) (pe_slice sl_list (pv 3) po_none (po_some pe_int))))) pss_nil)
      (pss_one (ps_ret (pe_op op_cat (pe_op op_cat (pv 1) (pe_lst (pa_cons (pe_gi T.i_POINT) pa_nil))) (pv 3)))))))))), ?_⟩), F.bindsN (fun _ _ _ _ _ _ us hl => match us, hl with | [_], _ => rfl), T.g_amount_bytes, F.kp⟩
  · obtain ⟨_, e, _⟩ := h
    subst e
    rfl
  · obtain ⟨n, rfl, hn, q⟩ := h
    unfold SctBook.amountText at q
    have hdl := decimal_len (m := n / 1000) (Nat.lt_of_le_of_lt (Nat.div_le_self n 1000) (Nat.lt_of_le_of_lt hn (by decide)))
    have hdv : ((n : Nat) : Int) / 1000 = ((n / 1000 : Nat) : Int) := by omega
    have hmd : ((n : Nat) : Int) % 1000 = ((n % 1000 : Nat) : Int) := by omega
    refine ⟨_, rfl, _, _, rfl, rfl, ⟨by decide, by decide⟩, ?_⟩
    dsimp only
    rw [hdv]
    refine ⟨_, rfl, ?_, _, rfl, fun D hD => ?_⟩
    · have : (((n / 1000 : Nat) : Int)).natAbs = n / 1000 := Int.natAbs_natCast _
      rw [this]
      have h2 : n / 1000 < 2 ^ 64 := Nat.lt_of_le_of_lt (Nat.div_le_self n 1000) (Nat.lt_of_le_of_lt hn (by decide))
      by_cases h0 : n / 1000 = 0
      · rw [h0]
        decide
      · exact Nat.lt_trans ((Nat.log2_lt h0).mpr h2) (by decide)
    refine lc_codes hD (by rw [decimal_num]; omega) (fun c H2 Y N s y => ⟨rfl, _, rfl, _, rfl, rfl, y⟩) fun H2 s hl => ?_
    rw [decimal_num] at hl
    refine ⟨_, rfl, _, _, rfl, rfl, (show (0 : Int) < 1000 by decide), ?_⟩
    dsimp only
    rw [hmd]
    have hb : n % 1000 < 1000 := Nat.mod_lt _ (by decide)
    generalize n % 1000 = b at *
    unfold SctBook.pointOf at q
    refine ⟨_, rfl, rfl, ?_⟩
    dsimp only
    rw [dec_int]
    refine ⟨_, rfl, if_b (fun c => ?_) fun c => ?_⟩
    · have c' : b = 0 := by have := of_decide_eq_true c; omega
      rw [if_pos c', List.append_nil] at q
      exact ⟨_, rfl, q D H2 (Same.trans' (Same.refl _) s) hD hl⟩
    have c0 : ¬ b = 0 := by have := of_decide_eq_false c; omega
    rw [if_neg c0] at q
    have e1 : (48 : Int) + (b : Int) / 100 = ((48 + b / 100 : Nat) : Int) := by omega
    have e2 : (48 : Int) + (b : Int) / 10 % 10 = ((48 + b / 10 % 10 : Nat) : Int) := by omega
    have e3 : (48 : Int) + (b : Int) % 10 = ((48 + b % 10 : Nat) : Int) := by omega
    refine ⟨_, rfl, _, _, rfl, rfl, ⟨by decide, by decide⟩, _, _, rfl, rfl, _, rfl, _, _, rfl, rfl, ⟨by decide, by decide⟩, _, _, rfl, rfl, (show (0 : Int) < 10 by decide), _, _, rfl, rfl, _, rfl, _, _, rfl, rfl, (show (0 : Int) < 10 by decide), _, _, rfl, rfl, fits (by simp), fun dg hdg => ?_⟩
    dsimp only
    rw [e1, e2, e3]
    have sd := Same.new (o := .lst [V.int ((48 + b / 100 : Nat) : Int), V.int ((48 + b / 10 % 10 : Nat) : Int), V.int ((48 + b % 10 : Nat) : Int)]) hdg
    have fin : ∀ (xs : List Nat) (H3 : Hp) (u w : Addr), Same (upd H2 dg (.lst [V.int ((48 + b / 100 : Nat) : Int), V.int ((48 + b / 10 % 10 : Nat) : Int), V.int ((48 + b % 10 : Nat) : Int)])) H3 → H3 u = some (.lst (vn (SctBook.decimal (n / 1000) ++ [46]))) → H3 w = some (.lst (vn xs)) → xs.length ≤ 10 → NewL Q H (vn (SctBook.decimal (n / 1000) ++ 46 :: xs)) →
        ∃ l b xs2 zs, V.ref u = .ref l ∧ V.ref w = .ref b ∧ H3 l = some (.lst xs2) ∧ H3 b = some (.lst zs) ∧ xs2.length + zs.length ≤ sizeLine ∧ ∀ p, H3 p = none → Q (.ref p) (upd H3 p (.lst (xs2 ++ zs))) := fun xs H3 u w s3 hu hw hx qq => by
      refine ⟨u, w, _, _, rfl, rfl, hu, hw, fits (by rw [vn_length, vn_length, List.length_append]; simp only [List.length_cons, List.length_nil]; omega), fun p hp => ?_⟩
      have := NewL.new qq (Same.trans' s (Same.trans' sd s3)) hp
      rw [show SctBook.decimal (n / 1000) ++ 46 :: xs = (SctBook.decimal (n / 1000) ++ [46]) ++ xs by simp, vn_app] at this
      exact this
    have cat : ∀ (H3 : Hp) (G : V → Hp → Prop), Same (upd H2 dg (.lst [V.int ((48 + b / 100 : Nat) : Int), V.int ((48 + b / 10 % 10 : Nat) : Int), V.int ((48 + b % 10 : Nat) : Int)])) H3 → (∀ u H4, Same H3 H4 → H4 u = some (.lst (vn (SctBook.decimal (n / 1000) ++ [46]))) → G (.ref u) H4) → ∀ p, H3 p = none → rCat (.ref D) (.ref p) (upd H3 p (.lst [V.int 46])) G := fun H3 G s3 g p hp => by
      have sp := Same.new (o := .lst [V.int 46]) hp
      refine ⟨D, p, _, [V.int 46], rfl, rfl, sp _ _ (s3 _ _ (sd _ _ hl)), upd_same, fits (by rw [vn_length]; simp only [List.length_cons, List.length_nil]; omega), fun u hu => g u _ (Same.trans' sp (Same.new hu)) ?_⟩
      rw [upd_same, vn_app]
      rfl
    refine ⟨_, rfl, _, _, rfl, rfl, (show (0 : Int) < 100 by decide), rfl, ?_⟩
    dsimp only
    rw [dec_int]
    refine ⟨_, rfl, if_b (fun c => ?_) fun c => ?_⟩
    · have c1 : b % 100 = 0 := by have := of_decide_eq_true c; omega
      rw [if_pos c1] at q
      refine ⟨_, rfl, fits (by simp), cat _ _ (Same.refl _) fun u H4 s4 hu => ⟨_, rfl, _, rfl, dg, _, rfl, SqL.of (s4 _ _ upd_same), fun w hw => fin [48 + b / 100] _ u w (Same.trans' s4 (Same.new hw)) (Same.new hw _ _ hu) upd_same (by simp) q⟩⟩
    have c1 : ¬ b % 100 = 0 := by have := of_decide_eq_false c; omega
    rw [if_neg c1] at q
    refine ⟨_, rfl, _, _, rfl, rfl, (show (0 : Int) < 10 by decide), rfl, ?_⟩
    dsimp only
    rw [dec_int]
    refine ⟨_, rfl, if_b (fun c => ?_) fun c => ?_⟩
    · have c2 : b % 10 = 0 := by have := of_decide_eq_true c; omega
      rw [if_pos c2] at q
      refine ⟨_, rfl, fits (by simp), cat _ _ (Same.refl _) fun u H4 s4 hu => ⟨_, rfl, _, rfl, dg, _, rfl, SqL.of (s4 _ _ upd_same), fun w hw => fin [48 + b / 100, 48 + b / 10 % 10] _ u w (Same.trans' s4 (Same.new hw)) (Same.new hw _ _ hu) upd_same (by simp) q⟩⟩
    have c2 : ¬ b % 10 = 0 := by have := of_decide_eq_false c; omega
    rw [if_neg c2] at q
    exact ⟨_, rfl, fits (by simp), cat _ _ (Same.refl _) fun u H4 s4 hu => ⟨_, rfl, fin [48 + b / 100, 48 + b / 10 % 10, 48 + b % 10] _ u dg s4 hu (s4 _ _ upd_same) (by simp) q⟩⟩
end
end Fb
end
section
set_option Elab.async false
set_option maxRecDepth 100000
set_option maxHeartbeats 4000000
namespace Fb
open PySem PySem.Spec PyProof.Rows L2
section
variable {P : Program} {w : World} {K : PySem.W.Frag} {mg : Str → Option Value} {base : Heap}
abbrev nm_read_book : List Str := ["text", "lines", "things", "parts", "book", "line"]
theorem sc_read_book : FnScope nm_read_book ["text"] (defScope s_read_book) := ⟨rfl, rfl, rfl, by decide +kernel, rfl, by decide +kernel, by decide +kernel⟩
def sp_read_book (K : PySem.W.Frag) : Sp := fun vs H Q E => ∃ (a : Addr) (T : List Nat), vs = [.ref a] ∧ TextAt H a T ∧ T.length ≤ 1000000 ∧ Ret K Q E H (fun (B : Bk) v H' => ∃ p, v = .ref p ∧ H p = none ∧ BookAt H' p B) (mReadBook T)
theorem good_read_book (T : Tx K mg) : Gd P w K mg base (L2.CX P w) 7 "read_book" ["text"] (sp_read_book K) := by
  obtain ⟨fd, F⟩ := T.f_read_book
  refine ⟨_, fd, fnX F sc_read_book (fun vs H Q E h => ?_) (fun cdv A outer s H vs Q E hr h => ⟨_, (pss_cons (ps_set (i := 1) sc_read_book.nd rfl (Or.inl rfl) (pe_gd (good_lines_of (P := P) (w := w) (base := base) T) hr (passes_call (takes_of rfl rfl rfl rfl) (fun _ _ _ _ h => h)) (pa_cons (pv 0) pa_nil)))
      (pss_cons (ps_setLc (i := 2) (own := [("line", 5)]) (g := gName 5) rfl sc_read_book.nd rfl rfl (sw_true rfl rfl rfl (by decide +kernel)) (pi_list (pv 1)) (blkOk_by (own := [("line", 5)]) (N := nm_read_book) (sc := defScope s_read_book) (by decide +kernel)) (fun _ _ _ _ _ => pg_name (i := 5) sc_read_book.nd rfl (Or.inl rfl)) (fun _ _ _ _ _ => pts_one (pt_val (pe_gd (good_is_thing (P := P) (w := w) (base := base) T) hr pass0 (pa_cons (pe_fldK (K := K) rfl (pv 5) rfl) pa_nil)))) (fun _ _ _ _ _ => (pv 5)))
      (pss_cons (ps_setLc (i := 3) (own := [("line", 5)]) (g := gName 5) rfl sc_read_book.nd rfl rfl (sw_true rfl rfl rfl (by decide +kernel)) (pi_list (pv 1)) (blkOk_by (own := [("line", 5)]) (N := nm_read_book) (sc := defScope s_read_book) (by decide +kernel)) (fun _ _ _ _ _ => pg_name (i := 5) sc_read_book.nd rfl (Or.inl rfl)) (fun _ _ _ _ _ => pts_one (pt_not (pt_val (pe_gd (good_is_thing (P := P) (w := w) (base := base) T) hr pass0 (pa_cons (pe_fldK (K := K) rfl (pv 5) rfl) pa_nil))))) (fun _ _ _ _ _ => (pv 5)))
      (pss_cons (ps_expr (pe_gd (good_refuse_at (P := P) (w := w) (base := base) T) hr (passes_call (takes_of rfl rfl rfl rfl) (fun _ _ _ _ h => h)) (pa_cons pe_int (pa_cons (pe_gd (good_first_repeated_booktexts (P := P) (w := w) (base := base) T) hr pass0 (pa_cons (pv 2) pa_nil)) pa_nil))))
      (pss_cons (ps_expr (pe_gd (good_refuse_at (P := P) (w := w) (base := base) T) hr (passes_call (takes_of rfl rfl rfl rfl) (fun _ _ _ _ h => h)) (pa_cons pe_int (pa_cons (pe_gd (good_first_repeated_booktexts (P := P) (w := w) (base := base) T) hr pass0 (pa_cons (pv 3) pa_nil)) pa_nil))))
      (pss_cons (ps_set (i := 4) sc_read_book.nd rfl (Or.inl rfl) pe_newX)
      (pss_cons (ps_for (passes_of rfl) rfl (pi_list (pv 1)) (pg_name (i := 5) sc_read_book.nd rfl (Or.inl rfl)) (pss_one (ps_asg (pe_fld (pv 5) rfl) (pg_sub (pv 4) (pe_fld (pv 5) rfl) (set_X hr.units)))))
      (pss_cons (ps_expr (pe_gd (good_refuse_at (P := P) (w := w) (base := base) T) hr (passes_call (takes_of rfl rfl rfl rfl) (fun _ _ _ _ h => h)) (pa_cons pe_int (pa_cons (pe_gd (good_first_unknown (P := P) (w := w) (base := base) T) hr pass0 (pa_cons (pv 4) (pa_cons (pv 3) pa_nil))) pa_nil))))
      (pss_cons (ps_expr (pe_gd (good_refuse_at (P := P) (w := w) (base := base) T) hr (passes_call (takes_of rfl rfl rfl rfl) (fun _ _ _ _ h => h)) (pa_cons pe_int (pa_cons (pe_gd (good_first_without_parts (P := P) (w := w) (base := base) T) hr pass0 (pa_cons (pv 2) (pa_cons (pv 3) pa_nil))) pa_nil))))
      (pss_cons (ps_expr (pe_gd (good_refuse_at (P := P) (w := w) (base := base) T) hr (passes_call (takes_of rfl rfl rfl rfl) (fun _ _ _ _ h => h)) (pa_cons pe_int (pa_cons (pe_gd (good_first_in_itself (P := P) (w := w) (base := base) T) hr pass0 (pa_cons (pv 4) (pa_cons (pv 2) pa_nil))) pa_nil))))
      (pss_cons (ps_expr (pe_gd (good_refuse_at (P := P) (w := w) (base := base) T) hr (passes_call (takes_of rfl rfl rfl rfl) (fun _ _ _ _ h => h)) (pa_cons pe_int (pa_cons (pe_gd (good_first_too_many (P := P) (w := w) (base := base) T) hr pass0 (pa_cons (pv 1) pa_nil)) pa_nil))))
      (pss_one (ps_ret (pv 4)))))))))))))), ?_⟩), F.bindsN (fun _ _ _ _ _ _ us hl => match us, hl with | [_], _ => rfl), T.g_read_book, F.kp⟩
  · obtain ⟨_, _, e, _⟩ := h
    subst e
    rfl
  · obtain ⟨a, T', rfl, ha, hT, R⟩ := h
    unfold mReadBook at R
    refine ⟨_, rfl, a, T', rfl, ha, hT, R.sub (Same.refl _) (fun ans e => by rw [e]) fun ls e v H1 s1 hv => ?_⟩
    obtain ⟨L, as, rfl, hL, hL1, hF⟩ := hv
    rw [e] at R
    simp only [] at R
    have kA := known_bookOf e
    have hll : ls.length ≤ T'.length := by
      have := mLines_length _ _ _ _ e (Nat.zero_le _)
      omega
    refine ⟨_, rfl, L, rfl, ⟨_, SqL.of hL1⟩, fun D1 hD1 => ?_⟩
    refine lc_fm (K := K) (xs := ls) (R := LineR K H1) (S := fun H v l => LineR K H v l) (fun l => if decide (l.key.2 = []) = true then some l else none) hF (SqL.of hL1) (fits (by omega)) hD1 (fun H H' v c s h => h.kp s) ?_ ?_
    · rintro l v H' Y N hm ⟨b, rfl, hb⟩ s no yes
      obtain ⟨dx, k, h1, h2⟩ := hb.kp (Same.kp s)
      refine ⟨rfl, _, rfl, b, _, dx, _, _, rfl, h1, T.c_Line, T.n_Line_subject, rfl, k, l.key, rfl, h2, fun H3 s3 => ⟨_, rfl, if_b (fun c => ?_) fun c => ?_⟩⟩
      · exact ⟨_, rfl, yes l (if_pos c) _ _ s3 ⟨b, rfl, hb.kp (Same.kp (Same.trans' s s3))⟩⟩
      · exact no (by rw [c]; rfl) H3 s3
    intro ts H2 s2 hD1l hts
    rw [filterMap_if, List.map_id'] at hts
    refine ⟨_, rfl, L, rfl, ⟨_, SqL.of (s2 _ _ hL1)⟩, fun D2 hD2 => ?_⟩
    refine lc_fm (K := K) (xs := ls) (R := LineR K H1) (S := fun H v l => LineR K H v l) (fun l => if (!decide (l.key.2 = [])) = true then some l else none) hF (SqL.of (s2 _ _ hL1)) (fits (by omega)) hD2 (fun H H' v c s h => h.kp s) ?_ ?_
    · rintro l v H' Y N hm ⟨b, rfl, hb⟩ s no yes
      obtain ⟨dx, k, h1, h2⟩ := hb.kp (Same.kp (Same.trans' s2 s))
      refine ⟨rfl, _, rfl, b, _, dx, _, _, rfl, h1, T.c_Line, T.n_Line_subject, rfl, k, l.key, rfl, h2, fun H3 s3 => ⟨_, rfl, if_b (fun c => ?_) fun c => ?_⟩⟩
      · exact ⟨_, rfl, yes l (if_pos c) _ _ s3 ⟨b, rfl, hb.kp (Same.kp (Same.trans' s2 (Same.trans' s s3)))⟩⟩
      · exact no (by rw [c]; rfl) H3 s3
    intro ps H3 s3 hD2l hps
    rw [filterMap_if, List.map_id'] at hps
    have s13 := Same.trans' s2 s3
    have s03 := Same.trans' s1 s13
    have hts3 := hts.kpL (Same.kp s3)
    have hD1l3 := s3 _ _ hD1l
    generalize hTs : (ls.filter fun l => decide (l.key.2 = [])) = things at *
    generalize hPs : (ls.filter fun l => !decide (l.key.2 = [])) = parts at *
    have htl : things.length ≤ ls.length := by rw [← hTs]; exact List.length_filter_le _ _
    have hpl : parts.length ≤ ls.length := by rw [← hPs]; exact List.length_filter_le _ _
    refine ⟨_, rfl, D1, ts, things, rfl, hD1l3, hts3, by omega, fun H4 s4 => ⟨2, _, rfl, R.sub (Same.trans' s03 s4) (fun ans e => by rw [e]) fun u e v H5 s5 hv => ?_⟩⟩
    obtain ⟨-, rfl⟩ := hv
    rw [e] at R
    simp only [] at R
    refine ⟨_, rfl, D2, ps, parts, rfl, s4 _ _ hD2l, hps.kpL (Same.kp s4), by omega, fun H6 s6 => ⟨3, _, rfl, R.sub (Same.trans' s03 (Same.trans' s4 s6)) (fun ans e => by rw [e]) fun u e v H7 s7 hv => ?_⟩⟩
    obtain ⟨-, rfl⟩ := hv
    rw [e] at R
    simp only [] at R
    have s36 := Same.trans' s4 s6
    have s06 := Same.trans' s03 s36
    have s16 := Same.trans' s13 s36
    refine fun p ep hp hX => ?_
    have sp : Same H7 (upd H7 p (DXo p ep [])) := Same.new hp
    have hbl := bookOf_length ls
    refine ⟨_, rfl, L, rfl, ⟨_, SqL.of (sp _ _ (s16 _ _ hL1))⟩, for_each (R := LineR K H1) (xs := ls) hF (fun dn rs σ H' => Same H7 H' ∧ (∃ m, σ = [some (.ref a), some (.ref L), some (.ref D1), some (.ref D2), some (.ref p), m]) ∧ BookAt H' p (bookOf dn)) ⟨sp, ⟨_, rfl⟩, DG.new hX⟩ (fun dn rs σ H' h => SqL.of (h.1 _ _ (s16 _ _ hL1))) ?_ ?_⟩
    · rintro dn l rs v σ H' e ⟨b, rfl, hb⟩ ⟨s, ⟨m, rfl⟩, hM⟩
      obtain ⟨dx, k, h1, h2⟩ := hb.kp (Same.kp (Same.trans' s16 s))
      have hdl : dn.length < ls.length := by rw [← e]; simp
      have hdb := bookOf_length dn
      refine ⟨_, rfl, b, _, dx, _, _, rfl, h1, T.c_Line, T.n_Line_told, rfl, _, rfl, _, rfl, b, _, dx, _, _, rfl, h1, T.c_Line, T.n_Line_subject, rfl, DG.set_ (t := tK) hM h2 (by rw [vB_length]; exact fits' (by omega)) fun o hDG => ⟨Same.mut s hp, ⟨_, rfl⟩, ?_⟩⟩
      rw [put_vB] at hDG
      unfold bookOf
      rw [List.foldl_append]
      exact hDG
    rintro σ H8 ⟨s8, ⟨m, rfl⟩, hM⟩
    have s38 := Same.trans' s36 s8
    have s08 := Same.trans' s03 s38
    have hp0 : H p = none := none_of s06 hp
    refine ⟨_, rfl, _, rfl, p, bookOf ls, D2, ps, parts, rfl, hM, s38 _ _ hD2l, hps.kpL (Same.kp s38), fun H9 s9 => ⟨4, _, rfl, R.sub (Same.trans' s08 s9) (fun ans e => by rw [e]) fun u e v H5 s5 hv => ?_⟩⟩
    obtain ⟨-, rfl⟩ := hv
    have kP : KnownP (bookOf ls) := known_things (by rw [hPs]; exact mAt_ok e)
    rw [e] at R
    simp only [] at R
    have s39 := Same.trans' s38 s9
    have s09 := Same.trans' s03 s39
    refine ⟨_, rfl, _, rfl, D1, D2, ts, ps, things, parts, rfl, s39 _ _ hD1l3, hts3.kpL (Same.kp s39), s39 _ _ hD2l, hps.kpL (Same.kp s39), by omega, fun H10 s10 => ⟨5, _, rfl, R.sub (Same.trans' s09 s10) (fun ans e => by rw [e]) fun u e v H5 s5 hv => ?_⟩⟩
    obtain ⟨-, rfl⟩ := hv
    rw [e] at R
    simp only [] at R
    have s310 := Same.trans' s39 s10
    have s010 := Same.trans' s03 s310
    refine ⟨_, rfl, _, rfl, p, bookOf ls, D1, ts, things, rfl, (hM.same s9).same s10, s310 _ _ hD1l3, hts3.kpL (Same.kp s310), kA, kP, by omega, ?_, fun H11 s11 => ⟨6, _, rfl, R.sub (Same.trans' s010 s11) (fun ans e => by rw [e]) fun u e v H5 s5 hv => ?_⟩⟩
    · intro l hl
      rw [← hTs] at hl
      obtain ⟨q1, q2⟩ := List.mem_filter.mp hl
      exact bookOf_keys.mpr ⟨l, q1, by rw [← of_decide_eq_true q2]⟩
    obtain ⟨-, rfl⟩ := hv
    rw [e] at R
    simp only [] at R
    have s311 := Same.trans' s310 s11
    have s011 := Same.trans' s03 s311
    refine ⟨_, rfl, L, as, ls, rfl, (Same.trans' s13 s311) _ _ hL1, hF.kpL (Same.kp (Same.trans' s13 s311)), by omega, fun H12 s12 => ⟨7, _, rfl, R.sub (Same.trans' s011 s12) (fun ans e => by rw [e]) fun u e v H5 s5 hv => ?_⟩⟩
    obtain ⟨-, rfl⟩ := hv
    rw [e] at R
    simp only [] at R
    exact ⟨_, rfl, R.done rfl (Same.trans' s011 s12) ⟨p, rfl, hp0, ((hM.same s9).same s10).same (Same.trans' s11 s12)⟩⟩
abbrev nm_fact_bytes_booktexts : List Str := ["subject", "told"]
theorem sc_fact_bytes_booktexts : FnScope nm_fact_bytes_booktexts ["subject", "told"] (defScope s_fact_bytes_booktexts) := ⟨rfl, rfl, rfl, by decide +kernel, rfl, by decide +kernel, by decide +kernel⟩
def sp_fact_bytes_booktexts (K : PySem.W.Frag) : Sp := fun vs H Q _ => ∃ (a : Addr) (k : Ky) (n : Int), vs = [.ref a, .int n] ∧ KeyAt H a k ∧ FactOk k n ∧ NewL Q H (vn (mFact k n))
theorem good_fact_bytes_booktexts (T : Tx K mg) : Gd P w K mg base CX0 2 "fact_bytes_booktexts" ["subject", "told"] (sp_fact_bytes_booktexts K) := by
  obtain ⟨fd, F⟩ := T.f_fact_bytes_booktexts
  refine ⟨_, fd, fn0 F sc_fact_bytes_booktexts (fun vs H Q E h => ?_) (fun cdv A outer s H vs Q E hr h => ⟨_, (pss_cons (ps_if (pt_val (pe_gd (good_is_thing (P := P) (w := w) (base := base) T) hr pass0 (pa_cons (pv 0) pa_nil))) (pss_one (ps_ret (pe_op op_cat (pe_gd (good_thing_bytes (P := P) (w := w) (base := base) T) hr pass0 (pa_cons (pe_ix ix_tup (pv 0) pe_int (fun _ _ => rfl)) (pa_cons (pv 1) pa_nil))) (pe_lst (pa_cons (pe_gi T.i_LINE_END) pa_nil))))) pss_nil)
      (pss_one (ps_ret (pe_op op_cat (pe_op op_cat (pe_op op_cat (pe_op op_cat (pe_lst (pa_cons (pe_gi T.i_BLANK) (pa_cons (pe_gi T.i_BLANK) pa_nil))) (pe_callTy call_list_of (by rfl) T.b_list (by decide +kernel) (pa_cons (pe_ix ix_tup (pv 0) pe_int (fun _ _ => rfl)) pa_nil))) (pe_lst (pa_cons (pe_gi T.i_BLANK) pa_nil))) (pe_gd (good_amount_bytes (P := P) (w := w) (base := base) T) hr pass0 (pa_cons (pv 1) pa_nil))) (pe_lst (pa_cons (pe_gi T.i_LINE_END) pa_nil)))))), ?_⟩), F.bindsN (fun _ _ _ _ _ _ us hl => match us, hl with | [_, _], _ => rfl), T.g_fact_bytes_booktexts, F.kp⟩
  · obtain ⟨_, _, _, e, _⟩ := h
    subst e
    rfl
  · obtain ⟨a, k, n, rfl, ha, hk, q⟩ := h
    unfold mFact at q
    refine ⟨_, rfl, a, k, rfl, ha, fun H1 s1 => ⟨_, rfl, if_b (fun c => ?_) fun c => ?_⟩⟩
    · rw [if_pos (of_decide_eq_true c)] at q
      obtain ⟨a1, a2, h1, h2, h3⟩ := (ha.same s1).fst (K := K)
      have := mThing_len k.1 n
      have := hk.fst
      exact ⟨_, rfl, _, _, ((0 : Nat) : Int), _, rfl, rfl, h3, atI_nat rfl, _, rfl, a1, k.1, n, rfl, h1, Nat.le_trans hk.fst (by decide), fun p H2 s2 hp hl => ⟨fits (by simp), fun b hb => cat_new hb hl rfl (by simp only [List.length_cons, List.length_nil]; omega) fun u H3 s3 hu hu3 => q u H3 (Same.trans' s1 (Same.trans' s2 s3)) (none_of (Same.trans' s1 s2) hu) hu3⟩⟩
    · rw [if_neg (of_decide_eq_false c)] at q
      have ha1 := ha.same s1
      have hn : ((n.toNat : Nat) : Int) = n := by have := hk.pos (of_decide_eq_false c); omega
      have hb := hk.big
      have hal := amountText_len (n := n.toNat) (by omega)
      have hk2 := hk.snd
      refine ⟨fits (by simp), fun b1 hb1 => ?_⟩
      have hb1' := Same.new (o := .lst [V.int 32, V.int 32]) hb1
      obtain ⟨a1, a2, h1, h2, h3⟩ := (ha1.same hb1').fst (K := K)
      refine ⟨_, rfl, _, _, ((1 : Nat) : Int), _, rfl, rfl, h3, atI_nat rfl, a2, _, rfl, .inr (SqT.of h2), fun b2 hb2 => ?_⟩
      refine cat_new (x := [32, 32]) (y := k.2) hb2 upd_same rfl (by simp only [List.length_cons, List.length_nil]; omega) fun b3 H3 s3 hb3 l3 => ?_
      refine ⟨fits (by simp), fun b4 hb4 => cat_new hb4 l3 (y := [32]) rfl (by simp only [List.length_append, List.length_cons, List.length_nil]; omega) fun b5 H5 s5 hb5 l5 => ?_⟩
      refine ⟨_, rfl, n.toNat, by rw [hn]; rfl, by omega, fun b6 H6 s6 hb6 l6 => ?_⟩
      refine cat_ok (s6 _ _ l5) l6 (by simp only [List.length_append, List.length_cons, List.length_nil]; omega) fun b7 hb7 => ?_
      refine ⟨fits (by simp), fun b8 hb8 => cat_new hb8 upd_same (y := [10]) rfl (by simp only [List.length_append, List.length_cons, List.length_nil]; omega) fun b9 H9 s9 hb9 l9 => ?_⟩
      have sX := Same.trans' s1 (Same.trans' hb1' (Same.trans' s3 (Same.trans' s5 s6)))
      exact q b9 H9 (Same.trans' sX (Same.trans' (Same.new hb7) s9)) (none_of sX (none_of (Same.new hb7) hb9)) l9
abbrev nm_book_text : List Str := ["book", "text", "subject"]
theorem sc_book_text : FnScope nm_book_text ["book"] (defScope s_book_text) := ⟨rfl, rfl, rfl, by decide +kernel, rfl, by decide +kernel, by decide +kernel⟩
def sp_book_text (K : PySem.W.Frag) : Sp := fun vs H Q _ => ∃ (d : Addr) (B : Bk), vs = [.ref d] ∧ BookAt H d B ∧ BookOk B ∧ NewL Q H (vn (mText B))
theorem good_book_text (T : Tx K mg) : Gd P w K mg base CX0 3 "book_text" ["book"] (sp_book_text K) := by
  obtain ⟨fd, F⟩ := T.f_book_text
  refine ⟨_, fd, fn0 F sc_book_text (fun vs H Q E h => ?_) (fun cdv A outer s H vs Q E hr h => ⟨_, (pss_cons (ps_set (i := 1) sc_book_text.nd rfl (Or.inl rfl) (pe_lst pa_nil))
      (pss_cons (ps_for PassesOwn.never rfl (pi_list (pe_callB (call_sortedX rfl hr.units) (by rfl) T.b_sorted (by decide +kernel) (pa_cons (pv 0) pa_nil))) (pg_name (i := 2) sc_book_text.nd rfl (Or.inl rfl)) (pss_one (ps_expr (pe_bm PySem.F.plainAttrs_list PySem.F.slot_list_extend PySem.F.type_list_extend mt_extend (pv 1) (pa_cons (pe_gd (good_fact_bytes_booktexts (P := P) (w := w) (base := base) T) hr pass0 (pa_cons (pv 2) (pa_cons (pe_ixX hr.units (pv 0) (pv 2) (fun _ _ => rfl)) pa_nil))) pa_nil)))))
      (pss_one (ps_ret (pv 1))))), ?_⟩), F.bindsN (fun _ _ _ _ _ _ us hl => match us, hl with | [_], _ => rfl), T.g_book_text, F.kp⟩
  · obtain ⟨_, _, e, _⟩ := h
    subst e
    rfl
  · obtain ⟨d, B, rfl, hd, hB, q⟩ := h
    refine ⟨fits (by simp), fun L hL => ?_⟩
    have sL : Same H (upd H L (.lst [])) := Same.new hL
    obtain ⟨ep, bs, b1, b2, b3⟩ := (hd.same sL).sort
    refine ⟨_, rfl, d, ep, bs, rfl, b1, b2, fun ys p pm pw hp => ⟨p, rfl, ⟨_, SqL.of upd_same⟩, ?_⟩⟩
    have hF := b3 ys pm pw
    have sp := Same.new (o := .lst (ys.map fun b => V.ref b.2.1)) hp
    have npL : p ≠ L := fun e => by rw [e, upd_same] at hp; cases hp
    
    refine for_each (R := KeyR (upd H L (.lst []))) (xs := keysOfB B) hF (fun dn rs σ H' => Same H H' ∧ Kp (upd H L (.lst [])) H' ∧ H' p = some (.lst (ys.map fun b => V.ref b.2.1)) ∧ (∃ m, σ = [some (.ref d), some (.ref L), m]) ∧ H' L = some (.lst (vn (dn.flatMap fun k => mFact k (saidB B k))))) ⟨Same.trans' sL sp, Same.kp sp, upd_same, ⟨_, rfl⟩, sp _ _ upd_same⟩ (fun dn rs σ H' h => SqL.of h.2.2.1) ?_ ?_
    · rintro dn k rs v σ H' e ⟨a, rfl, ha⟩ ⟨s, kp, hp', ⟨m, rfl⟩, hL'⟩
      have hk : k ∈ keysOfB B := by rw [← e]; simp
      obtain ⟨n, hn, hs, hok⟩ := hB.said (keys_mem.mp hk)
      have ha' := ha.kp kp
      have hdl : dn.length < B.length := by rw [← keys_length, ← e]; simp
      have htl := flat_len (fun k => mFact k (saidB B k)) 100 dn fun x m => by
        obtain ⟨n2, _, hs2, hok2⟩ := hB.said (keys_mem.mp (by rw [← e]; exact List.mem_append_left _ m))
        show (mFact x (saidB B x)).length ≤ 100
        rw [hs2]
        exact mFact_len hok2
      have hBl := hB.len
      have hfl := mFact_len hok
      refine ⟨_, rfl, .inl ⟨rfl, _, SqL.of hL'⟩, _, rfl, _, rfl, _, rfl, (hd.same s).ix ha' hn ⟨a, k, n, rfl, ha', hok, fun u H2 s2 hu hl => ⟨L, u, _, _, rfl, rfl, s2 _ _ hL', hl, fits (by rw [vn_length, vn_length]; omega), ?_⟩⟩⟩
      have kL : Kp H2 (upd H2 L (.lst (vn (dn.flatMap fun k => mFact k (saidB B k)) ++ vn (mFact k n)))) := Kp.lst (s2 _ _ hL')
      refine ⟨Same.mut (Same.trans' s s2) hL, Kp.trans kp (Kp.trans (Same.kp s2) kL), by rw [upd_ne npL]; exact s2 _ _ hp', ⟨_, rfl⟩, ?_⟩
      rw [upd_same, List.flatMap_append, List.flatMap_cons, List.flatMap_nil, List.append_nil, ← vn_app, hs]
    · rintro σ H' ⟨s, kp, hp', ⟨m, rfl⟩, hL'⟩
      exact ⟨_, rfl, q L H' s hL hL'⟩
abbrev nm_parts_text : List Str := ["book", "name", "text", "subject"]
theorem sc_parts_text : FnScope nm_parts_text ["book", "name"] (defScope s_parts_text) := ⟨rfl, rfl, rfl, by decide +kernel, rfl, by decide +kernel, by decide +kernel⟩
def sp_parts_text (K : PySem.W.Frag) : Sp := fun vs H Q _ => ∃ (d : Addr) (B : Bk) (o : Addr) (x : Nm), vs = [.ref d, .ref o] ∧ BookAt H d B ∧ NameAt H o x ∧ BookOk B ∧ NewL Q H (vn (mParts B x))
theorem good_parts_text (T : Tx K mg) : Gd P w K mg base CX0 3 "parts_text" ["book", "name"] (sp_parts_text K) := by
  obtain ⟨fd, F⟩ := T.f_parts_text
  refine ⟨_, fd, fn0 F sc_parts_text (fun vs H Q E h => ?_) (fun cdv A outer s H vs Q E hr h => ⟨_, (pss_cons (ps_set (i := 2) sc_parts_text.nd rfl (Or.inl rfl) (pe_lst pa_nil))
      (pss_cons (ps_for PassesOwn.never rfl (pi_list (pe_callB (call_sortedX rfl hr.units) (by rfl) T.b_sorted (by decide +kernel) (pa_cons (pv 0) pa_nil))) (pg_name (i := 3) sc_parts_text.nd rfl (Or.inl rfl)) (pss_one (ps_if (PW.pt (pw_and (pt_cmpR (op_eqD hr.units) (pe_ix ix_tup (pv 3) pe_int (fun _ _ => rfl)) (pv 1) (nomark _)) (pw_and1 (pt_not (pt_val (pe_gd (good_is_thing (P := P) (w := w) (base := base) T) hr pass0 (pa_cons (pv 3) pa_nil))))))) (pss_one (ps_expr (pe_bm PySem.F.plainAttrs_list PySem.F.slot_list_extend PySem.F.type_list_extend mt_extend (pv 2) (pa_cons (pe_gd (good_fact_bytes_booktexts (P := P) (w := w) (base := base) T) hr pass0 (pa_cons (pv 3) (pa_cons (pe_ixX hr.units (pv 0) (pv 3) (fun _ _ => rfl)) pa_nil))) pa_nil)))) pss_nil)))
      (pss_one (ps_ret (pv 2))))), ?_⟩), F.bindsN (fun _ _ _ _ _ _ us hl => match us, hl with | [_, _], _ => rfl), T.g_parts_text, F.kp⟩
  · obtain ⟨_, _, _, _, e, _⟩ := h
    subst e
    rfl
  · obtain ⟨d, B, o, x, rfl, hd, ho, hB, q⟩ := h
    refine ⟨fits (by simp), fun L hL => ?_⟩
    have sL : Same H (upd H L (.lst [])) := Same.new hL
    obtain ⟨ep, bs, b1, b2, b3⟩ := (hd.same sL).sort
    refine ⟨_, rfl, d, ep, bs, rfl, b1, b2, fun ys p pm pw hp => ⟨p, rfl, ⟨_, SqL.of upd_same⟩, ?_⟩⟩
    have hF := b3 ys pm pw
    have sp := Same.new (o := .lst (ys.map fun b => V.ref b.2.1)) hp
    have npL : p ≠ L := fun e => by rw [e, upd_same] at hp; cases hp
    
    refine for_each (R := KeyR (upd H L (.lst []))) (xs := keysOfB B) hF (fun dn rs σ H' => Same H H' ∧ Kp (upd H L (.lst [])) H' ∧ H' p = some (.lst (ys.map fun b => V.ref b.2.1)) ∧ (∃ m, σ = [some (.ref d), some (.ref o), some (.ref L), m]) ∧ H' L = some (.lst (vn ((dn.filter fun k => decide (k.1 = x) && !decide (k.2 = [])).flatMap fun k => mFact k (saidB B k))))) ⟨Same.trans' sL sp, Same.kp sp, upd_same, ⟨_, rfl⟩, sp _ _ upd_same⟩ (fun dn rs σ H' h => SqL.of h.2.2.1) ?_ ?_
    · rintro dn k rs v σ H' e ⟨a, rfl, ha⟩ ⟨s, kp, hp', ⟨m, rfl⟩, hL'⟩
      have hk : k ∈ keysOfB B := by rw [← e]; simp
      obtain ⟨n, hn, hs, hok⟩ := hB.said (keys_mem.mp hk)
      have ha' := ha.kp kp
      have hdl : dn.length < B.length := by rw [← keys_length, ← e]; simp
      have htl := flat_len (fun k => mFact k (saidB B k)) 100 (dn.filter fun k => decide (k.1 = x) && !decide (k.2 = [])) fun y m => by
        obtain ⟨n2, _, hs2, hok2⟩ := hB.said (keys_mem.mp (by rw [← e]; exact List.mem_append_left _ (List.mem_filter.mp m).1))
        show (mFact y (saidB B y)).length ≤ 100
        rw [hs2]
        exact mFact_len hok2
      have hfil : (dn.filter fun k => decide (k.1 = x) && !decide (k.2 = [])).length ≤ dn.length := List.length_filter_le _ _
      have hBl := hB.len
      have hfl := mFact_len hok
      have no : ∀ H2, Same H' H2 → (decide (k.1 = x) && !decide (k.2 = [])) = false → Same H H2 ∧ Kp (upd H L (.lst [])) H2 ∧ H2 p = some (.lst (ys.map fun b => V.ref b.2.1)) ∧ (∃ m, [some (V.ref d), some (.ref o), some (.ref L), some (.ref a)] = [some (V.ref d), some (.ref o), some (.ref L), m]) ∧ H2 L = some (.lst (vn (((dn ++ [k]).filter fun k => decide (k.1 = x) && !decide (k.2 = [])).flatMap fun k => mFact k (saidB B k)))) := fun H2 s2 c => by
        refine ⟨Same.trans' s s2, Kp.trans kp (Same.kp s2), s2 _ _ hp', ⟨_, rfl⟩, ?_⟩
        rw [List.filter_append, List.filter_cons_of_neg (by rw [c]; exact Bool.noConfusion), List.filter_nil, List.append_nil]
        exact s2 _ _ hL'
      obtain ⟨a1, a2, h1, h2, h3⟩ := ha'.fst (K := K)
      refine ⟨_, rfl, _, _, ((0 : Nat) : Int), _, rfl, rfl, h3, atI_nat rfl, _, rfl, h1.eq (ho.same s) ⟨_, rfl, if_b (fun c => ?_) fun c => ?_⟩⟩
      · refine ⟨_, rfl, a, k, rfl, ha', fun H1 s1 => ⟨_, rfl, if_b (fun c2 => ?_) fun c2 => ?_⟩⟩
        · refine ⟨_, rfl, .inl ⟨rfl, _, SqL.of (s1 _ _ hL')⟩, _, rfl, _, rfl, _, rfl, ((hd.same s).same s1).ix (ha'.same s1) hn ⟨a, k, n, rfl, ha'.same s1, hok, fun u H2 s2 hu hl => ⟨L, u, _, _, rfl, rfl, s2 _ _ (s1 _ _ hL'), hl, fits (by rw [vn_length, vn_length]; omega), ?_⟩⟩⟩
          have s12 := Same.trans' s1 s2
          have kL : Kp H2 (upd H2 L (.lst (vn ((dn.filter fun k => decide (k.1 = x) && !decide (k.2 = [])).flatMap fun k => mFact k (saidB B k)) ++ vn (mFact k n)))) := Kp.lst (s12 _ _ hL')
          refine ⟨Same.mut (Same.trans' s s12) hL, Kp.trans kp (Kp.trans (Same.kp s12) kL), by rw [upd_ne npL]; exact s12 _ _ hp', ⟨_, rfl⟩, ?_⟩
          rw [upd_same, List.filter_append, List.filter_cons_of_pos (by rw [c, Bool.true_and]; exact c2), List.filter_nil, List.flatMap_append, List.flatMap_cons, List.flatMap_nil, List.append_nil, ← vn_app, hs]
        · exact no H1 s1 (by rw [c, Bool.true_and]; exact c2)
      · exact no H' (Same.refl _) (by rw [c, Bool.false_and])
    · rintro σ H' ⟨s, kp, hp', ⟨m, rfl⟩, hL'⟩
      exact ⟨_, rfl, q L H' s hL hL'⟩
abbrev nm_names_text : List Str := ["names", "text", "name"]
theorem sc_names_text : FnScope nm_names_text ["names"] (defScope s_names_text) := ⟨rfl, rfl, rfl, by decide +kernel, rfl, by decide +kernel, by decide +kernel⟩
def sp_names_text (K : PySem.W.Frag) : Sp := fun vs H Q _ => ∃ (N : Addr) (as : List V) (xs : List Nm), vs = [.ref N] ∧ H N = some (.lst as) ∧ F2 (NameR H) as xs ∧ xs.length ≤ 100000 ∧ (∀ x ∈ xs, x.length ≤ 16) ∧ NewL Q H (vn (mNames xs))
theorem good_names_text (T : Tx K mg) : Gd P w K mg base CX0 1 "names_text" ["names"] (sp_names_text K) := by
  obtain ⟨fd, F⟩ := T.f_names_text
  refine ⟨_, fd, fn0 F sc_names_text (fun vs H Q E h => ?_) (fun cdv A outer s H vs Q E hr h => ⟨_, (pss_cons (ps_set (i := 1) sc_names_text.nd rfl (Or.inl rfl) (pe_lst pa_nil))
      (pss_cons (ps_for PassesOwn.never rfl (pi_list (pv 0)) (pg_name (i := 2) sc_names_text.nd rfl (Or.inl rfl)) (pss_one (ps_expr (pe_bm PySem.F.plainAttrs_list PySem.F.slot_list_extend PySem.F.type_list_extend mt_extend (pv 1) (pa_cons (pe_op op_cat (pe_callTy call_list_of (by rfl) T.b_list (by decide +kernel) (pa_cons (pv 2) pa_nil)) (pe_lst (pa_cons (pe_gi T.i_LINE_END) pa_nil))) pa_nil)))))
      (pss_one (ps_ret (pv 1))))), ?_⟩), F.bindsN (fun _ _ _ _ _ _ us hl => match us, hl with | [_], _ => rfl), T.g_names_text, F.kp⟩
  · obtain ⟨_, _, _, e, _⟩ := h
    subst e
    rfl
  · obtain ⟨N, as, xs, rfl, hN, hF, hlen, hx, q⟩ := h
    refine ⟨fits (by simp), fun L hL => ?_⟩
    have sL : Same H (upd H L (.lst [])) := Same.new hL
    refine ⟨_, rfl, N, rfl, ⟨_, SqL.of (sL _ _ hN)⟩, for_each (R := NameR H) (xs := xs) hF (fun dn rs σ H' => Same H H' ∧ (∃ m, σ = [some (.ref N), some (.ref L), m]) ∧ H' L = some (.lst (vn (dn.flatMap fun x => x ++ [10])))) ⟨sL, ⟨_, rfl⟩, upd_same⟩ (fun dn rs σ H' h => SqL.of (h.1 _ _ hN)) ?_ ?_⟩
    · rintro dn x rs v σ H' e ⟨a, rfl, ha⟩ ⟨s, ⟨m, rfl⟩, hL'⟩
      have hxm : x.length ≤ 16 := hx x (by rw [← e]; simp)
      have hdl : dn.length < xs.length := by rw [← e]; simp
      have htl := flat_len (fun x : Nm => x ++ [10]) 17 dn fun y m => by
        have := hx y (by rw [← e]; exact List.mem_append_left _ m)
        simp only [List.length_append, List.length_cons, List.length_nil]
        omega
      refine ⟨_, rfl, .inl ⟨rfl, _, SqL.of hL'⟩, _, rfl, a, _, rfl, .inr (SqT.of (ha.same s)), fun b hb => ⟨fits (by simp), fun b2 hb2 => cat_new hb2 upd_same (y := [10]) rfl (by simp only [List.length_cons, List.length_nil]; omega) fun u H3 s3 hu hl => ?_⟩⟩
      have sb := Same.new (o := .lst (vn x)) hb
      have hL3 := s3 _ _ (sb _ _ hL')
      refine ⟨L, u, _, _, rfl, rfl, hL3, hl, fits (by rw [vn_length, vn_length]; simp only [List.length_append, List.length_cons, List.length_nil]; omega), Same.mut (Same.trans' s (Same.trans' sb s3)) hL, ⟨_, rfl⟩, ?_⟩
      rw [upd_same, List.flatMap_append, List.flatMap_cons, List.flatMap_nil, List.append_nil, ← vn_app]
    · rintro σ H' ⟨s, ⟨m, rfl⟩, hL'⟩
      exact ⟨_, rfl, q L H' s hL hL'⟩
end
end Fb
end
section
set_option Elab.async false
set_option maxRecDepth 100000
set_option maxHeartbeats 4000000
namespace Fb
open PySem PySem.Spec PyProof.Rows L2
section
variable {P : Program} {w : World} {K : PySem.W.Frag} {mg : Str → Option Value} {base : Heap}
abbrev nm_ChangeLine_init : List Str := ["self", "comes", "subject", "told", "place"]
theorem sc_ChangeLine_init : FnScope nm_ChangeLine_init ["self", "comes", "subject", "told", "place"] (defScope s_ChangeLine_init) := ⟨rfl, rfl, rfl, by decide +kernel, rfl, by decide +kernel, by decide +kernel⟩
def sp_ChangeLine_init (K : PySem.W.Frag) : Sp := fun vs H Q _ => ∃ (x dx k : Addr) (b : Bool) (t p : Int), vs = [.ref x, .bl b, .ref k, .int t, .int p] ∧ H x = some (.ins (He.ga K "ChangeLine") dx []) ∧ Q .non (upd H x (.ins (He.ga K "ChangeLine") dx [("comes", .bl b), ("subject", .ref k), ("told", .int t), ("place", .int p)]))
theorem good_ChangeLine_init (T : Tx K mg) : Cd P w K mg base 1 "ChangeLine" (He.ga K "ChangeLine") ["self", "comes", "subject", "told", "place"] (sp_ChangeLine_init K) := by
  obtain ⟨fd, F⟩ := T.f_ChangeLine_init
  refine ⟨_, fd, fn0 F sc_ChangeLine_init (fun vs H Q E h => ?_) (fun cdv A outer s H vs Q E hr h => ⟨_, (pss_cons (ps_fld (pv 0) (pv 1) rfl)
      (pss_cons (ps_fld (pv 0) (pv 2) rfl)
      (pss_cons (ps_fld (pv 0) (pv 3) rfl)
      (pss_one (ps_fld (pv 0) (pv 4) rfl))))), ?_⟩), F.bindsN (fun _ _ _ _ _ _ us hl => match us, hl with | [_, _, _, _, _], _ => rfl), T.g_ChangeLine, T.k_ChangeLine⟩
  · obtain ⟨_, _, _, _, _, _, e, _⟩ := h
    subst e
    rfl
  · obtain ⟨x, dx, k, b, t, p, rfl, hx, q⟩ := h
    refine ⟨_, rfl, _, rfl, x, _, dx, _, rfl, hx, T.c_ChangeLine, T.n_ChangeLine_comes, few0, _, rfl, _, rfl, x, _, dx, _, rfl, upd_same, T.c_ChangeLine, T.n_ChangeLine_subject, few1, _, rfl, _, rfl, x, _, dx, _, rfl, upd_same, T.c_ChangeLine, T.n_ChangeLine_told, few2, _, rfl, _, rfl, x, _, dx, _, rfl, upd_same, T.c_ChangeLine, T.n_ChangeLine_place, few3, ?_⟩
    rw [upd_upd, upd_upd, upd_upd]
    exact q
abbrev nm_Change_init : List Str := ["self", "going", "coming"]
theorem sc_Change_init : FnScope nm_Change_init ["self", "going", "coming"] (defScope s_Change_init) := ⟨rfl, rfl, rfl, by decide +kernel, rfl, by decide +kernel, by decide +kernel⟩
def sp_Change_init (K : PySem.W.Frag) : Sp := fun vs H Q _ => ∃ (x dx g m : Addr), vs = [.ref x, .ref g, .ref m] ∧ H x = some (.ins (He.ga K "Change") dx []) ∧ Q .non (upd H x (.ins (He.ga K "Change") dx [("going", .ref g), ("coming", .ref m)]))
theorem good_Change_init (T : Tx K mg) : Cd P w K mg base 1 "Change" (He.ga K "Change") ["self", "going", "coming"] (sp_Change_init K) := by
  obtain ⟨fd, F⟩ := T.f_Change_init
  refine ⟨_, fd, fn0 F sc_Change_init (fun vs H Q E h => ?_) (fun cdv A outer s H vs Q E hr h => ⟨_, (pss_cons (ps_fld (pv 0) (pv 1) rfl)
      (pss_one (ps_fld (pv 0) (pv 2) rfl))), ?_⟩), F.bindsN (fun _ _ _ _ _ _ us hl => match us, hl with | [_, _, _], _ => rfl), T.g_Change, T.k_Change⟩
  · obtain ⟨_, _, _, _, e, _⟩ := h
    subst e
    rfl
  · obtain ⟨x, dx, g, m, rfl, hx, q⟩ := h
    refine ⟨_, rfl, _, rfl, x, _, dx, _, rfl, hx, T.c_Change, T.n_Change_going, few0, _, rfl, _, rfl, x, _, dx, _, rfl, upd_same, T.c_Change, T.n_Change_coming, few1, ?_⟩
    rw [upd_upd]
    exact q
abbrev nm_is_word : List Str := ["name", "word", "sign"]
theorem sc_is_word : FnScope nm_is_word ["name", "word"] (defScope s_is_word) := ⟨rfl, rfl, rfl, by decide +kernel, rfl, by decide +kernel, by decide +kernel⟩
def sp_is_word (K : PySem.W.Frag) : Sp := fun vs H Q _ => ∃ (a : Addr) (x : Nm) (z : Str), vs = [.ref a, .str z] ∧ NameAt H a x ∧ z.cps.toList.length ≤ 1000 ∧ ∀ H', Same H H' → Q (.bl (decide (x = z.cps.toList))) H'
theorem good_is_word (T : Tx K mg) : Gd P w K mg base CX0 1 "is_word" ["name", "word"] (sp_is_word K) := by
  obtain ⟨fd, F⟩ := T.f_is_word
  refine ⟨_, fd, fn0 F sc_is_word (fun vs H Q E h => ?_) (fun cdv A outer s H vs Q E hr h => ⟨_, (pss_one (ps_ret (pe_cmpR (op_eqD hr.units) (pe_callTy call_list_of (by rfl) T.b_list (by decide +kernel) (pa_cons (pv 0) pa_nil)) (pe_lc (own := [("sign", 2)]) (g := gName 2) (tt := tYes) rfl sc_is_word.nd (pi_str (pv 1)) (blkOk_by (own := [("sign", 2)]) (N := nm_is_word) (sc := defScope s_is_word) (by decide +kernel)) (fun _ _ _ _ _ => pg_name (i := 2) sc_is_word.nd rfl (Or.inl rfl)) (fun _ _ _ _ _ => pts_nil) (fun _ _ _ _ _ => (pe_callB call_ord (by rfl) T.b_ord (by decide +kernel) (pa_cons (pv 2) pa_nil)))) (nomark _)))), ?_⟩), F.bindsN (fun _ _ _ _ _ _ us hl => match us, hl with | [_, _], _ => rfl), T.g_is_word, F.kp⟩
  · obtain ⟨_, _, _, e, _⟩ := h
    subst e
    rfl
  · obtain ⟨a, x, z, rfl, ha, hz, q⟩ := h
    refine ⟨_, rfl, a, _, rfl, .inr (SqT.of ha), fun l hl => ⟨_, rfl, z, rfl, fun D hD => ?_⟩⟩
    have sl := Same.new (o := .lst (vn x)) hl
    exact lc_codes hD (by omega) (fun c H2 Y N s y => ⟨rfl, _, rfl, _, rfl, rfl, y⟩) fun H2 s hl2 => text_eq (s _ _ upd_same) hl2 (q H2 (Same.trans' sl s))
abbrev nm_change_line : List Str := ["text", "at", "sign", "end", "first", "stop", "told", "subject", "start", "second_end"]
theorem sc_change_line : FnScope nm_change_line ["text", "at"] (defScope s_change_line) := ⟨rfl, rfl, rfl, by decide +kernel, rfl, by decide +kernel, by decide +kernel⟩
def sp_change_line (K : PySem.W.Frag) : Sp := fun vs H Q E => ∃ (a : Addr) (T : List Nat) (p : Nat), vs = [.ref a, .int p] ∧ TextAt H a T ∧ T.length ≤ 1000000 ∧ Ret K Q E H (fun (r : Nat × Cl) v H' => ∃ t b, v = .ref t ∧ H' t = some (.tup [.int (r.1 : Nat), .ref b]) ∧ CLineAt K H' b r.2) (mChangeLine T p)
theorem good_change_line (T : Tx K mg) : Gd P w K mg base (L2.CX P w) 5 "change_line" ["text", "at"] (sp_change_line K) := by
  obtain ⟨fd, F⟩ := T.f_change_line
  refine ⟨_, fd, fnX F sc_change_line (fun vs H Q E h => ?_) (fun cdv A outer s H vs Q E hr h => ⟨_, (pss_cons (ps_set (i := 2) sc_change_line.nd rfl (Or.inl rfl) (pe_gd (good_byte_at (P := P) (w := w) (base := base) T) hr pass0 (pa_cons (pv 0) (pa_cons (pv 1) pa_nil))))
      (pss_cons (ps_expr (pe_gd (good_refuse_here (P := P) (w := w) (base := base) T) hr (passes_call (takes_of rfl rfl rfl rfl) (fun _ _ _ _ h => h)) (pa_cons (pe_and (pe_cmpR op_ne (pv 2) (pe_gi T.i_PLUS) (nomark _)) (pe_one (pe_cmpR op_ne (pv 2) (pe_gi T.i_MINUS) (nomark _)))) (pa_cons (pv 1) pa_nil))))
      (pss_cons (ps_set (i := 3) sc_change_line.nd rfl (Or.inl rfl) (pe_gd (good_name_end (P := P) (w := w) (base := base) T) hr (passes_call (takes_of rfl rfl rfl rfl) (fun _ _ _ _ h => h)) (pa_cons (pv 0) (pa_cons (pe_op op_add (pv 1) pe_int) pa_nil))))
      (pss_cons (ps_set (i := 4) sc_change_line.nd rfl (Or.inl rfl) (pe_callTy call_tuple_of (by rfl) T.b_tuple (by decide +kernel) (pa_cons (pe_slice sl_list (pv 0) (po_some (pe_op op_add (pv 1) pe_int)) (po_some (pv 3))) pa_nil)))
      (pss_cons (ps_if (PW.pt (pw_and (pt_cmpR op_eq (pe_gd (good_byte_at (P := P) (w := w) (base := base) T) hr pass0 (pa_cons (pv 0) (pa_cons (pv 3) pa_nil))) (pe_gi T.i_BLANK) (nomark _)) (pw_and1 (PW.pt (pw_or (pt_val (pe_gd (good_is_word (P := P) (w := w) (base := base) T) hr pass0 (pa_cons (pv 4) (pa_cons (pe_gs T.s_MATERIAL_WORD) pa_nil)))) (pw_or1 (pt_val (pe_gd (good_is_word (P := P) (w := w) (base := base) T) hr pass0 (pa_cons (pv 4) (pa_cons (pe_gs T.s_ACCORD_WORD) pa_nil)))))))))) (pss_cons (ps_set (i := 5) sc_change_line.nd rfl (Or.inl rfl) (pe_gd (good_name_end (P := P) (w := w) (base := base) T) hr (passes_call (takes_of rfl rfl rfl rfl) (fun _ _ _ _ h => h)) (pa_cons (pv 0) (pa_cons (pe_op op_add (pv 3) pe_int) pa_nil))))
      (pss_cons (ps_set (i := 6) sc_change_line.nd rfl (Or.inl rfl) (pe_ifExp (pt_val (pe_gd (good_is_word (P := P) (w := w) (base := base) T) hr pass0 (pa_cons (pv 4) (pa_cons (pe_gs T.s_MATERIAL_WORD) pa_nil)))) (pe_gi T.i_MATERIAL) (pe_gi T.i_ACCORD)))
      (pss_one (ps_set (i := 7) sc_change_line.nd rfl (Or.inl rfl) (pe_gd (good_thing (P := P) (w := w) (base := base) T) hr pass0 (pa_cons (pe_callTy call_tuple_of (by rfl) T.b_tuple (by decide +kernel) (pa_cons (pe_slice sl_list (pv 0) (po_some (pe_op op_add (pv 3) pe_int)) (po_some (pv 5))) pa_nil)) pa_nil)))))) (pss_cons (ps_set (i := 8) sc_change_line.nd rfl (Or.inl rfl) (pe_gd (good_expect (P := P) (w := w) (base := base) T) hr (passes_call (takes_of rfl rfl rfl rfl) (fun _ _ _ _ h => h)) (pa_cons (pv 0) (pa_cons (pv 3) (pa_cons (pe_gi T.i_POINT) pa_nil)))))
      (pss_cons (ps_set (i := 9) sc_change_line.nd rfl (Or.inl rfl) (pe_gd (good_name_end (P := P) (w := w) (base := base) T) hr (passes_call (takes_of rfl rfl rfl rfl) (fun _ _ _ _ h => h)) (pa_cons (pv 0) (pa_cons (pv 8) pa_nil))))
      (pss_cons (ps_asg (pe_gd (good_amount_of (P := P) (w := w) (base := base) T) hr (passes_call (takes_of rfl rfl rfl rfl) (fun _ _ _ _ h => h)) (pa_cons (pv 0) (pa_cons (pe_gd (good_expect (P := P) (w := w) (base := base) T) hr (passes_call (takes_of rfl rfl rfl rfl) (fun _ _ _ _ h => h)) (pa_cons (pv 0) (pa_cons (pv 9) (pa_cons (pe_gi T.i_BLANK) pa_nil)))) pa_nil))) (pg_tup rfl (pgs_cons (pg_name (i := 5) sc_change_line.nd rfl (Or.inl rfl)) (pgs_cons (pg_name (i := 6) sc_change_line.nd rfl (Or.inl rfl)) pgs_nil))))
      (pss_one (ps_set (i := 7) sc_change_line.nd rfl (Or.inl rfl) (pe_tup (pa_cons (pv 4) (pa_cons (pe_callTy call_tuple_of (by rfl) T.b_tuple (by decide +kernel) (pa_cons (pe_slice sl_list (pv 0) (po_some (pv 8)) (po_some (pv 9))) pa_nil)) pa_nil)))))))))
      (pss_one (ps_ret (pe_tup (pa_cons (pe_gd (good_expect (P := P) (w := w) (base := base) T) hr (passes_call (takes_of rfl rfl rfl rfl) (fun _ _ _ _ h => h)) (pa_cons (pv 0) (pa_cons (pv 5) (pa_cons (pe_gi T.i_LINE_END) pa_nil)))) (pa_cons (pe_cd (good_ChangeLine_init (P := P) (w := w) (base := base) T) hr (pa_cons (pe_cmpR op_eq (pv 2) (pe_gi T.i_PLUS) (nomark _)) (pa_cons (pv 7) (pa_cons (pv 6) (pa_cons (pv 1) pa_nil))))) pa_nil)))))))))), ?_⟩), F.bindsN (fun _ _ _ _ _ _ us hl => match us, hl with | [_, _], _ => rfl), T.g_change_line, F.kp⟩
  · obtain ⟨_, _, _, e, _⟩ := h
    subst e
    rfl
  · obtain ⟨a, T', p, rfl, ha, hT, R⟩ := h
    unfold mChangeLine at R
    refine ⟨_, rfl, _, rfl, a, T', p, rfl, ha, ?_⟩
    apply with_rest (¬ (byteAt T' p ≠ 43 ∧ byteAt T' p ≠ 45))
    · intro rest
      refine ⟨_, rfl, rfl, ?_⟩
      rw [dec_int]
      refine ⟨_, rfl, if_b (fun c => ?_) fun c => ?_⟩
      · have c1 : byteAt T' p ≠ 43 := by simpa using c
        refine ⟨_, rfl, rfl, ?_⟩
        rw [dec_int]
        refine ⟨_, rfl, _, p, rfl, fun u e v H2 s2 hv => ?_, fun ans e d H2 s2 ra => ?_⟩
        · obtain ⟨-, rfl⟩ := hv
          have := mHere_ok e
          exact rest fun h => h.2 (by simpa using this)
        · obtain ⟨h1, rfl⟩ := mHere_err e
          exact R.err _ (by rw [if_pos ⟨c1, by simpa using h1⟩]) d H2 s2 ra
      · refine ⟨_, rfl, _, p, rfl, fun u e v H2 s2 hv => ?_, fun ans e d H2 s2 ra => ?_⟩
        · obtain ⟨-, rfl⟩ := hv
          exact rest fun h => h.1 (by simpa using c)
        · obtain ⟨h1, -⟩ := mHere_err e
          cases h1
    intro hc
    rw [if_neg hc] at R
    refine ⟨_, rfl, _, rfl, _, _, rfl, rfl, a, T', p + 1, rfl, ha, R.sub (Same.refl _) (fun ans e => by rw [e]) fun z e v H2 s2 hv => ?_⟩
    obtain ⟨rfl, rfl⟩ := hv
    rw [e] at R
    simp only [] at R
    have e3 := mName_ok e
    refine ⟨_, rfl, _, rfl, _, _, rfl, rfl, ((p + 1 : Nat) : Int), rfl, _, rfl, _, rfl, a, _, rfl, SqL.of ha, fun u hu => ?_⟩
    rw [cut_nat T' (Nat.le_of_lt e3.1) e3.2]
    have su := Same.new (o := .lst (vn ((T'.drop (p + 1)).take (z - (p + 1))))) hu
    refine ⟨u, _, rfl, .inl ⟨SqL.of upd_same, fun t ht => ?_⟩⟩
    have st := Same.trans' su (Same.new (o := .tup (vn ((T'.drop (p + 1)).take (z - (p + 1))))) ht)
    have hfirst : NameAt (upd (upd H2 u (.lst (vn ((T'.drop (p + 1)).take (z - (p + 1)))))) t (.tup (vn ((T'.drop (p + 1)).take (z - (p + 1)))))) t (cut T' (p + 1) z) := upd_same
    generalize (upd (upd H2 u (.lst (vn ((T'.drop (p + 1)).take (z - (p + 1)))))) t (.tup (vn ((T'.drop (p + 1)).take (z - (p + 1)))))) = H3 at *
    generalize cut T' (p + 1) z = first at *
    apply with_rest2 (fun σ H4 => ∃ (stop : Nat) (n : Int) (kA : Addr) (key : Ky) (o1 o2 : Option V), σ = [some (.ref a), some (.int p), some (.int (byteAt T' p)), some (.int z), some (.ref t), some (.int stop), some (.int n), some (.ref kA), o1, o2] ∧ Same H2 H4 ∧ KeyAt H4 kA key ∧
      Ret K Q E H2 (fun (r : Nat × Cl) v H' => ∃ t b, v = .ref t ∧ H' t = some (.tup [.int (r.1 : Nat), .ref b]) ∧ CLineAt K H' b r.2) (match mExpect T' stop 10 with | .error e => .error e | .ok b => .ok (b, ⟨decide (byteAt T' p = 43), key, n, p⟩)))
    · intro rest
      dsimp only [gName, tSeq]
      refine ifS_by (decide (byteAt T' z = 32 ∧ (first = SctBook.MATERIAL ∨ first = SctBook.ACCORD))) (fun N hN => ?_) (fun H4 s4 => ?_)
      · refine ⟨_, rfl, _, rfl, a, T', z, rfl, st _ _ ha, rfl, ?_⟩
        rw [dec_int]
        refine ⟨_, rfl, if_b (fun c => ?_) fun c => ?_⟩
        · have c' := of_decide_eq_true c
          refine ⟨_, rfl, t, first, _, rfl, hfirst, by decide +kernel, fun H4 s4 => ⟨_, rfl, if_b (fun d => ?_) fun d => ?_⟩⟩
          · have := hN H4 s4
            rw [decide_eq_true ⟨c', .inl (of_decide_eq_true d)⟩] at this
            exact this
          · refine ⟨_, rfl, t, first, _, rfl, hfirst.same s4, by decide +kernel, fun H5 s5 => ⟨_, rfl, ?_⟩⟩
            have := hN H5 (Same.trans' s4 s5)
            have e5 : decide (byteAt T' z = 32 ∧ (first = SctBook.MATERIAL ∨ first = SctBook.ACCORD)) = decide (first = (Str.ofString "accord").cps.toList) := by
              refine decide_eq_decide.mpr ⟨fun h => ?_, fun h => ⟨c', .inr h⟩⟩
              rcases h.2 with h2 | h2
              · exact absurd h2 (of_decide_eq_false d)
              · exact h2
            rw [e5] at this
            exact this
        · have := hN H3 (Same.refl _)
          rw [decide_eq_false fun h => of_decide_eq_false c h.1] at this
          exact this
      · have ha4 : TextAt H4 a T' := s4 _ _ (st _ _ ha)
        have s24 := Same.trans' st s4
        refine if_b (fun c => ?_) fun c => ?_
        · have c' := of_decide_eq_true c
          rw [if_pos c'] at R
          refine ⟨_, rfl, _, rfl, _, _, rfl, rfl, a, T', z + 1, rfl, ha4, R.sub s24 (fun ans e => by rw [e]) fun s e v H5 s5 hv => ?_⟩
          obtain ⟨rfl, rfl⟩ := hv
          rw [e] at R
          simp only [] at R
          have e4 := mName_ok e
          apply with_rest2 (fun σ H6 => Same H5 H6 ∧ σ = [some (.ref a), some (.int p), some (.int (byteAt T' p)), some (.int z), some (.ref t), some (.int s), some (.int (if first = SctBook.MATERIAL then -1 else -2)), none, none, none])
          · intro rest2
            refine ⟨_, rfl, t, first, _, rfl, hfirst.same s4, by decide +kernel, fun H6 s6 => ⟨_, rfl, if_b ?tt ?ff⟩⟩
            case ff =>
              intro d
              have d' : ¬ first = SctBook.MATERIAL := of_decide_eq_false d
              dsimp only [tC, gName]
              exact rest2 _ _ ⟨s6, by rw [if_neg d']; rfl⟩
            case tt =>
              intro d
              have d' : first = SctBook.MATERIAL := of_decide_eq_true d
              dsimp only [tC, gName]
              exact rest2 _ _ ⟨s6, by rw [if_pos d']; rfl⟩
          rintro σ H6 ⟨s6, rfl⟩
          have ha6 := s6 _ _ ha4
          refine ⟨_, rfl, _, rfl, _, _, rfl, rfl, ((z + 1 : Nat) : Int), rfl, _, rfl, _, rfl, a, _, rfl, SqL.of ha6, fun u2 hu2 => ?_⟩
          rw [cut_nat T' (Nat.le_of_lt e4.1) e4.2]
          have su2 := Same.new (o := .lst (vn ((T'.drop (z + 1)).take (s - (z + 1))))) hu2
          refine ⟨u2, _, rfl, .inl ⟨SqL.of upd_same, fun t2 ht2 => ⟨t2, cut T' (z + 1) s, rfl, upd_same, fun k H7 s7 hk => ?_⟩⟩⟩
          exact rest _ _ ⟨s, _, k, (cut T' (z + 1) s, []), none, none, rfl, Same.trans' s24 (Same.trans' s6 (Same.trans' su2 (Same.trans' (Same.new ht2) s7))), hk, R⟩
        · have c' := of_decide_eq_false c
          rw [if_neg c'] at R
          refine ⟨_, rfl, _, rfl, a, T', z, 46, rfl, ha4, R.sub s24 (fun ans e => by rw [e]) fun s e v H5 s5 hv => ?_⟩
          obtain ⟨rfl, rfl⟩ := hv
          rw [e] at R
          simp only [] at R
          refine ⟨_, rfl, _, rfl, a, T', s, rfl, ha4, R.sub s24 (fun ans e => by rw [e]) fun z2 e v H5 s5 hv => ?_⟩
          obtain ⟨rfl, rfl⟩ := hv
          rw [e] at R
          simp only [] at R
          have e4 := mName_ok e
          refine ⟨_, rfl, _, rfl, _, rfl, a, T', z2, 32, rfl, ha4, R.sub s24 (fun ans e => by rw [e]) fun g e v H5 s5 hv => ?_⟩
          obtain ⟨rfl, rfl⟩ := hv
          rw [e] at R
          simp only [] at R
          refine ⟨a, T', g, rfl, ha4, hT, R.sub s24 (fun ans e => by rw [e]) fun m e v H6 s6 hv => ?_⟩
          obtain ⟨w, rfl, hw⟩ := hv
          rw [e] at R
          simp only [] at R
          have ha6 : TextAt H6 a T' := s6 _ _ ha4
          refine ⟨w, _, rfl, SqT.of hw, rfl, _, _, rfl, _, _, rfl, rfl, _, rfl, _, rfl, _, rfl, _, rfl, _, rfl, _, rfl, a, _, rfl, SqL.of ha6, fun u2 hu2 => ?_⟩
          rw [cut_nat T' (Nat.le_of_lt e4.1) e4.2]
          have su2 := Same.new (o := .lst (vn ((T'.drop s).take (z2 - s)))) hu2
          refine ⟨u2, _, rfl, .inl ⟨SqL.of upd_same, fun t2 ht2 => ⟨fits (by simp), fun k hk => ?_⟩⟩⟩
          have s7 := Same.trans' s24 (Same.trans' s6 (Same.trans' su2 (Same.trans' (Same.new (o := .tup (vn ((T'.drop s).take (z2 - s)))) ht2) (Same.new (o := .tup [.ref t, .ref t2]) hk))))
          have s37 := Same.trans' s4 (Same.trans' s6 (Same.trans' su2 (Same.trans' (Same.new (o := .tup (vn ((T'.drop s).take (z2 - s)))) ht2) (Same.new (o := .tup [.ref t, .ref t2]) hk))))
          exact rest _ _ ⟨m.1, m.2, k, (first, cut T' s z2), _, _, rfl, s7, ⟨t, t2, upd_same, hfirst.same s37, NameAt.same (Same.new hk) upd_same⟩, R⟩
    · rintro σ H4 ⟨stop, n, kA, key, o1, o2, rfl, s4, hk, R⟩
      refine ⟨_, rfl, _, rfl, a, T', stop, 10, rfl, s4 _ _ ha, R.sub s4 (fun ans e => by rw [e]) fun b e v H5 s5 hv => ?_⟩
      obtain ⟨rfl, rfl⟩ := hv
      rw [e] at R
      simp only [] at R
      refine ⟨_, rfl, rfl, ?_⟩
      rw [dec_int]
      refine ⟨_, rfl, _, rfl, _, rfl, fun x dx hx hdx hne => ⟨x, dx, kA, decide (byteAt T' p = 43), n, p, rfl, upd_same, rfl, fits (by simp), fun t2 ht2 => ?_⟩⟩
      have sM := same_made (o := .own x) (u := .ins (He.ga K "ChangeLine") dx []) (o2 := .ins (He.ga K "ChangeLine") dx [("comes", .bl (decide (byteAt T' p = 43))), ("subject", .ref kA), ("told", .int n), ("place", .int (p : Nat))]) hx hdx
      refine R.done rfl (Same.trans' s4 (Same.trans' sM (Same.new ht2))) ⟨t2, x, rfl, upd_same, dx, kA, ?_, ?_⟩
      · exact Same.new ht2 _ _ upd_same
      · exact (hk.same sM).same (Same.new ht2)
abbrev nm_change_lines : List Str := ["text", "lines", "at", "line"]
theorem sc_change_lines : FnScope nm_change_lines ["text"] (defScope s_change_lines) := ⟨rfl, rfl, rfl, by decide +kernel, rfl, by decide +kernel, by decide +kernel⟩
def sp_change_lines (K : PySem.W.Frag) : Sp := fun vs H Q E => ∃ (a : Addr) (T : List Nat), vs = [.ref a] ∧ TextAt H a T ∧ T.length ≤ 1000000 ∧ Ret K Q E H (fun (ls : List Cl) v H' => ∃ p vs, v = .ref p ∧ H p = none ∧ H' p = some (.lst vs) ∧ F2 (CLineR K H') vs ls) (mChangeLines T (T.length + 1) 0)
theorem good_change_lines (T : Tx K mg) : Gd P w K mg base (L2.CX P w) 6 "change_lines" ["text"] (sp_change_lines K) := by
  obtain ⟨fd, F⟩ := T.f_change_lines
  refine ⟨_, fd, fnX F sc_change_lines (fun vs H Q E h => ?_) (fun cdv A outer s H vs Q E hr h => ⟨_, (pss_cons (ps_set (i := 1) sc_change_lines.nd rfl (Or.inl rfl) (pe_lst pa_nil))
      (pss_cons (ps_set (i := 2) sc_change_lines.nd rfl (Or.inl rfl) pe_int)
      (pss_cons (ps_while (passes_of rfl) (pt_cmpR op_lt (pv 2) (pe_callB call_len_seq (by rfl) T.b_len PySem.boot_len (pa_cons (pv 0) pa_nil)) (nomark _)) (pss_cons (ps_asg (pe_gd (good_change_line (P := P) (w := w) (base := base) T) hr (passes_call (takes_of rfl rfl rfl rfl) (fun _ _ _ _ h => h)) (pa_cons (pv 0) (pa_cons (pv 2) pa_nil))) (pg_tup rfl (pgs_cons (pg_name (i := 2) sc_change_lines.nd rfl (Or.inl rfl)) (pgs_cons (pg_name (i := 3) sc_change_lines.nd rfl (Or.inl rfl)) pgs_nil))))
      (pss_one (ps_expr (pe_bm PySem.F.plainAttrs_list PySem.F.slot_list_append PySem.F.type_list_append mt_append (pv 1) (pa_cons (pv 3) pa_nil))))))
      (pss_one (ps_ret (pv 1)))))), ?_⟩), F.bindsN (fun _ _ _ _ _ _ us hl => match us, hl with | [_], _ => rfl), T.g_change_lines, F.kp⟩
  · obtain ⟨_, _, e, _⟩ := h
    subst e
    rfl
  · obtain ⟨a, T', rfl, ha, hT, R⟩ := h
    have hl : (vn T').length = T'.length := vn_length T'
    refine ⟨fits (by simp), fun L hL => ?_⟩
    refine ⟨fun m σ H' => Same H H' ∧ ∃ (p : Nat) (ls : List Cl) (vs : List V) (ln : Option V), σ = [some (.ref a), some (.ref L), some (.int p), ln] ∧ H' L = some (.lst vs) ∧ F2 (CLineR K H') vs ls ∧ p ≤ T'.length ∧ ls.length ≤ p ∧ T'.length < m + p ∧
      mChangeLines T' (T'.length + 1) 0 = mPre ls (mChangeLines T' m p), ⟨T'.length + 1, Same.new hL, 0, [], [], none, rfl, upd_same, .nil, Nat.zero_le _, Nat.le_refl _, by omega, by rw [mPre_nil]⟩, ?_⟩
    rintro m σ H' ⟨s, p, ls, vs, ln, rfl, hL', hF, hpT, hls, hm, em⟩
    have ha' : TextAt H' a T' := s _ _ ha
    refine ⟨_, rfl, _, rfl, a, _, rfl, .inl (SqL.of ha'), _, _, rfl, rfl, _, rfl, if_b (fun c => ?_) fun c => ?_⟩
    · have hp : p < T'.length := by have := of_decide_eq_true c; omega
      obtain ⟨m, rfl⟩ : ∃ m', m = m' + 1 := ⟨m - 1, by omega⟩
      have hz := hF.length
      refine ⟨fun σ' H2 => Same H H2 ∧ ∃ (p : Nat) (ls : List Cl) (vs : List V) (ln : Option V), σ' = [some (.ref a), some (.ref L), some (.int p), ln] ∧ H2 L = some (.lst vs) ∧ F2 (CLineR K H2) vs ls ∧ p ≤ T'.length ∧ ls.length ≤ p ∧ T'.length < m + p ∧
        mChangeLines T' (T'.length + 1) 0 = mPre ls (mChangeLines T' m p), fun σ' H2 h => ⟨m, Nat.lt_succ_self m, h⟩, ?_⟩
      refine ⟨_, rfl, _, rfl, a, T', p, rfl, ha', hT, R.sub s (fun ans e => by rw [em, mChangeLines_err hp e]; rfl) fun r e v H2 s2 hv => ?_⟩
      obtain ⟨t, b, rfl, ht, hb⟩ := hv
      have h1 := mChangeLine_ok e
      refine ⟨t, _, rfl, SqT.of ht, rfl, _, _, rfl, _, _, rfl, rfl, _, rfl, .inl ⟨rfl, _, SqL.of (s2 _ _ hL')⟩, _, rfl, L, vs, _, rfl, rfl, s2 _ _ hL', fits' (by omega), ?_⟩
      have k3 : Kp H2 (upd H2 L (.lst (vs ++ [.ref b]))) := Kp.lst (s2 _ _ hL')
      refine ⟨Same.mut (Same.trans' s s2) hL, r.1, ls ++ [r.2], _, _, rfl, upd_same, (hF.kpC (Kp.trans (Same.kp s2) k3)).snoc ⟨b, rfl, hb.kp k3⟩, h1.2, ?_, ?_, ?_⟩
      · rw [List.length_append]; simp only [List.length_cons, List.length_nil]; omega
      · omega
      · rw [em, mChangeLines_step hp e, mPre_app]
    · have hp : ¬ p < T'.length := by have := of_decide_eq_false c; omega
      refine ⟨_, rfl, R.done (b := ls) (by rw [em, mChangeLines_end hp]; simp [mPre]) s ⟨L, vs, rfl, hL, hL', hF⟩⟩
abbrev nm_first_repeated_changes : List Str := ["lines", "seen", "line"]
theorem sc_first_repeated_changes : FnScope nm_first_repeated_changes ["lines"] (defScope s_first_repeated_changes) := ⟨rfl, rfl, rfl, by decide +kernel, rfl, by decide +kernel, by decide +kernel⟩
def sp_first_repeated_changes (K : PySem.W.Frag) : Sp := fun vs H Q _ => ∃ (L : Addr) (as : List V) (ls : List Cl), vs = [.ref L] ∧ H L = some (.lst as) ∧ F2 (CLineR K H) as ls ∧ ls.length ≤ 1000000 ∧ ∀ H', Same H H' → Q (.int (mCRep [] ls)) H'
theorem good_first_repeated_changes (T : Tx K mg) : Gd P w K mg base CX0 1 "first_repeated_changes" ["lines"] (sp_first_repeated_changes K) := by
  obtain ⟨fd, F⟩ := T.f_first_repeated_changes
  refine ⟨_, fd, fn0 F sc_first_repeated_changes (fun vs H Q E h => ?_) (fun cdv A outer s H vs Q E hr h => ⟨_, (pss_cons (ps_set (i := 1) sc_first_repeated_changes.nd rfl (Or.inl rfl) pe_newX)
      (pss_cons (ps_for PassesOwn.never rfl (pi_list (pv 0)) (pg_name (i := 2) sc_first_repeated_changes.nd rfl (Or.inl rfl)) (pss_cons (ps_if (pt_cmpR (op_inX hr.units) (pe_tup (pa_cons (pe_fld (pv 2) rfl) (pa_cons (pe_fld (pv 2) rfl) pa_nil))) (pv 1) (by with_unfolding_all rfl)) (pss_one (ps_ret (pe_fld (pv 2) rfl))) pss_nil)
      (pss_one (ps_asg pe_bl (pg_sub (pv 1) (pe_tup (pa_cons (pe_fld (pv 2) rfl) (pa_cons (pe_fld (pv 2) rfl) pa_nil))) (set_X hr.units))))))
      (pss_one (ps_ret (pe_un un_neg pe_int))))), ?_⟩), F.bindsN (fun _ _ _ _ _ _ us hl => match us, hl with | [_], _ => rfl), T.g_first_repeated_changes, F.kp⟩
  · obtain ⟨_, _, _, e, _⟩ := h
    subst e
    rfl
  · obtain ⟨L, as, ls, rfl, hL, hF, hlen, q⟩ := h
    refine fun p ep hp hX => ?_
    have sp : Same H (upd H p (DXo p ep [])) := Same.new hp
    refine ⟨_, rfl, L, rfl, ⟨_, SqL.of (sp _ _ hL)⟩, for_each (R := CLineR K H) (xs := ls) hF (fun dn rs σ H' => Same H H' ∧ (∃ m, σ = [some (.ref L), some (.ref p), m]) ∧ ∃ seen, SetAt tC' H' p seen ∧ seen.length ≤ dn.length ∧ mCRep [] ls = mCRep seen rs) ⟨sp, ⟨_, rfl⟩, [], DG.new hX, Nat.le_refl _, rfl⟩ ?_ ?_ ?_⟩
    · rintro dn rs σ H' ⟨s, -⟩
      exact SqL.of (s _ _ hL)
    · rintro dn l rs v σ H' e ⟨a, rfl, hl⟩ ⟨s, ⟨m, rfl⟩, seen, hset, hsl, er⟩
      obtain ⟨dx, k, h1, h2⟩ := hl.kp (Same.kp s)
      have hdl : dn.length < ls.length := by rw [← e]; simp
      refine ⟨_, rfl, a, _, dx, _, _, rfl, h1, T.c_ChangeLine, T.n_ChangeLine_comes, rfl, _, rfl, a, _, dx, _, _, rfl, h1, T.c_ChangeLine, T.n_ChangeLine_subject, rfl, fits (by simp), fun t ht => ⟨_, rfl, ?_⟩⟩
      have st := Same.new (o := .tup [.bl l.comes, .ref k]) ht
      refine DG.in_ (t := tC') (k := (l.comes, l.key)) (hset.same st) ⟨k, upd_same, h2.same st⟩ ⟨_, rfl, ?_⟩
      rw [look_set]
      have h1' := st _ _ h1
      refine if_b (fun c => ?_) fun c => ?_
      · refine ⟨_, rfl, a, _, dx, _, _, rfl, h1', T.c_ChangeLine, T.n_ChangeLine_place, rfl, ?_⟩
        have := q _ (Same.trans' s st)
        rw [er, mCRep, if_pos (memB_iff.mp c)] at this
        exact this
      · have c' : (l.comes, l.key) ∉ seen := memB_false.mp c
        refine ⟨_, rfl, _, rfl, a, _, dx, _, _, rfl, h1', T.c_ChangeLine, T.n_ChangeLine_comes, rfl, _, rfl, a, _, dx, _, _, rfl, h1', T.c_ChangeLine, T.n_ChangeLine_subject, rfl, fits (by simp), fun t2 ht2 => ?_⟩
        have st2 := Same.new (o := .tup [.bl l.comes, .ref k]) ht2
        refine DG.set_ (t := tC') (k := (l.comes, l.key)) ((hset.same st).same st2) ⟨k, upd_same, (h2.same st).same st2⟩ (by rw [setD_length]; exact fits' (by omega)) fun o hDG => ⟨Same.mut (Same.trans' s (Same.trans' st st2)) hp, ⟨_, rfl⟩, seen ++ [(l.comes, l.key)], ?_, by simp only [List.length_append, List.length_cons, List.length_nil]; omega, ?_⟩
        · rw [put_set, addS_new c'] at hDG
          exact hDG
        · rw [er, mCRep, if_neg c']
    · rintro σ H' ⟨s, ⟨m, rfl⟩, seen, hset, hsl, er⟩
      have := q H' s
      rw [er, mCRep] at this
      exact ⟨_, rfl, this⟩
abbrev nm_read_change : List Str := ["text", "lines"]
theorem sc_read_change : FnScope nm_read_change ["text"] (defScope s_read_change) := ⟨rfl, rfl, rfl, by decide +kernel, rfl, by decide +kernel, by decide +kernel⟩
def sp_read_change (K : PySem.W.Frag) : Sp := fun vs H Q E => ∃ (a : Addr) (T : List Nat), vs = [.ref a] ∧ TextAt H a T ∧ T.length ≤ 1000000 ∧ Ret K Q E H (fun (ls : List Cl) v H' => ∃ p vs, v = .ref p ∧ H p = none ∧ H' p = some (.lst vs) ∧ F2 (CLineR K H') vs ls) (mReadChange T)
theorem good_read_change (T : Tx K mg) : Gd P w K mg base (L2.CX P w) 7 "read_change" ["text"] (sp_read_change K) := by
  obtain ⟨fd, F⟩ := T.f_read_change
  refine ⟨_, fd, fnX F sc_read_change (fun vs H Q E h => ?_) (fun cdv A outer s H vs Q E hr h => ⟨_, (pss_cons (ps_set (i := 1) sc_read_change.nd rfl (Or.inl rfl) (pe_gd (good_change_lines (P := P) (w := w) (base := base) T) hr (passes_call (takes_of rfl rfl rfl rfl) (fun _ _ _ _ h => h)) (pa_cons (pv 0) pa_nil)))
      (pss_cons (ps_expr (pe_gd (good_refuse_at (P := P) (w := w) (base := base) T) hr (passes_call (takes_of rfl rfl rfl rfl) (fun _ _ _ _ h => h)) (pa_cons pe_int (pa_cons (pe_gd (good_first_repeated_changes (P := P) (w := w) (base := base) T) hr pass0 (pa_cons (pv 1) pa_nil)) pa_nil))))
      (pss_one (ps_ret (pv 1))))), ?_⟩), F.bindsN (fun _ _ _ _ _ _ us hl => match us, hl with | [_], _ => rfl), T.g_read_change, F.kp⟩
  · obtain ⟨_, _, e, _⟩ := h
    subst e
    rfl
  · obtain ⟨a, T', rfl, ha, hT, R⟩ := h
    unfold mReadChange at R
    refine ⟨_, rfl, a, T', rfl, ha, hT, R.sub (Same.refl _) (fun ans e => by rw [e]) fun ls e v H1 s1 hv => ?_⟩
    obtain ⟨L, as, rfl, hL, hL1, hF⟩ := hv
    rw [e] at R
    simp only [] at R
    have hll := mChangeLines_length _ _ _ e (Nat.zero_le _)
    refine ⟨_, rfl, L, as, ls, rfl, hL1, hF, by omega, fun H2 s2 => ⟨2, _, rfl, R.sub (Same.trans' s1 s2) (fun ans e => by rw [e]) fun u e v H5 s5 hv => ?_⟩⟩
    obtain ⟨-, rfl⟩ := hv
    rw [e] at R
    simp only [] at R
    exact ⟨_, rfl, R.done rfl (Same.trans' s1 s2) ⟨L, as, rfl, hL, s2 _ _ hL1, hF.kpC (Same.kp s2)⟩⟩
end
end Fb
end
section
set_option Elab.async false
set_option maxRecDepth 100000
set_option maxHeartbeats 4000000
namespace Fb
open PySem PySem.Spec PyProof.Rows L2
section
variable {P : Program} {w : World} {K : PySem.W.Frag} {mg : Str → Option Value} {base : Heap}
abbrev nm_change_of : List Str := ["lines", "going", "coming", "line"]
theorem sc_change_of : FnScope nm_change_of ["lines"] (defScope s_change_of) := ⟨rfl, rfl, rfl, by decide +kernel, rfl, by decide +kernel, by decide +kernel⟩
def sp_change_of (K : PySem.W.Frag) : Sp := fun vs H Q _ => ∃ (L : Addr) (as : List V) (ls : List Cl), vs = [.ref L] ∧ H L = some (.lst as) ∧ F2 (CLineR K H) as ls ∧ ls.length ≤ 1000000 ∧ ∀ a H', Same H H' → ChangeAt K H' a (mChangeOf ls) → Q (.ref a) H'
theorem good_change_of (T : Tx K mg) : Gd P w K mg base CX0 3 "change_of" ["lines"] (sp_change_of K) := by
  obtain ⟨fd, F⟩ := T.f_change_of
  refine ⟨_, fd, fn0 F sc_change_of (fun vs H Q E h => ?_) (fun cdv A outer s H vs Q E hr h => ⟨_, (pss_cons (ps_set (i := 1) sc_change_of.nd rfl (Or.inl rfl) pe_newX)
      (pss_cons (ps_set (i := 2) sc_change_of.nd rfl (Or.inl rfl) pe_newX)
      (pss_cons (ps_for PassesOwn.never rfl (pi_list (pv 0)) (pg_name (i := 3) sc_change_of.nd rfl (Or.inl rfl)) (pss_one (ps_if (pt_val (pe_fld (pv 3) rfl)) (pss_one (ps_asg (pe_fld (pv 3) rfl) (pg_sub (pv 2) (pe_fld (pv 3) rfl) (set_X hr.units)))) (pss_one (ps_asg (pe_fld (pv 3) rfl) (pg_sub (pv 1) (pe_fld (pv 3) rfl) (set_X hr.units)))))))
      (pss_one (ps_ret (pe_cd (good_Change_init (P := P) (w := w) (base := base) T) hr (pa_cons (pv 1) (pa_cons (pv 2) pa_nil)))))))), ?_⟩), F.bindsN (fun _ _ _ _ _ _ us hl => match us, hl with | [_], _ => rfl), T.g_change_of, F.kp⟩
  · obtain ⟨_, _, _, e, _⟩ := h
    subst e
    rfl
  · obtain ⟨L, as, ls, rfl, hL, hF, hlen, q⟩ := h
    rw [mChangeOf_eq] at q
    refine fun g ep hg hX => fun m ep2 hm hX2 => ?_
    have sg : Same H (upd H g (DXo g ep [])) := Same.new hg
    have sm := Same.new (o := DXo m ep2 []) hm
    have s0 := Same.trans' sg sm
    have hm0 := none_of sg hm
    have hgm : g ≠ m := fun e => by rw [← e, upd_same] at hm; cases hm
    refine ⟨_, rfl, L, rfl, ⟨_, SqL.of (s0 _ _ hL)⟩, for_each (R := CLineR K H) (xs := ls) hF (fun dn rs σ H' => Same H H' ∧ (∃ o, σ = [some (.ref L), some (.ref g), some (.ref m), o]) ∧ BookAt H' g (dn.foldl stepC ⟨[], []⟩).going ∧ BookAt H' m (dn.foldl stepC ⟨[], []⟩).coming) ⟨s0, ⟨_, rfl⟩, DG.same (t := tK) sm (DG.new hX), DG.new hX2⟩ (fun dn rs σ H' h => SqL.of (h.1 _ _ hL)) ?_ ?_⟩
    · rintro dn l rs v σ H' e ⟨a, rfl, hl⟩ ⟨s, ⟨o, rfl⟩, hG, hM⟩
      obtain ⟨dx, k, h1, h2⟩ := hl.kp (Same.kp s)
      have hdl : dn.length < ls.length := by rw [← e]; simp
      have hfl := foldC_len dn ⟨[], []⟩
      simp only [List.length_nil, Nat.zero_add] at hfl
      obtain ⟨f1, hf1⟩ := DG.at_ hG
      obtain ⟨f2, hf2⟩ := DG.at_ hM
      refine ⟨_, rfl, a, _, dx, _, _, rfl, h1, T.c_ChangeLine, T.n_ChangeLine_comes, rfl, _, rfl, if_b (fun c => ?_) fun c => ?_⟩
      · refine ⟨_, rfl, a, _, dx, _, _, rfl, h1, T.c_ChangeLine, T.n_ChangeLine_told, rfl, _, rfl, _, rfl, a, _, dx, _, _, rfl, h1, T.c_ChangeLine, T.n_ChangeLine_subject, rfl, DG.set_ (t := tK) hM h2 (by rw [vB_length]; exact fits' (by omega)) fun o' hDG => ⟨Same.mut s hm0, ⟨_, rfl⟩, ?_⟩⟩
        rw [put_vB] at hDG
        rw [List.foldl_append]
        show BookAt _ g (stepC _ l).going ∧ BookAt _ m (stepC _ l).coming
        unfold stepC
        rw [if_pos c]
        exact ⟨DG.other (t := tK) hG hf2 (fun f => f) (Ne.symm hgm), hDG⟩
      · refine ⟨_, rfl, a, _, dx, _, _, rfl, h1, T.c_ChangeLine, T.n_ChangeLine_told, rfl, _, rfl, _, rfl, a, _, dx, _, _, rfl, h1, T.c_ChangeLine, T.n_ChangeLine_subject, rfl, DG.set_ (t := tK) hG h2 (by rw [vB_length]; exact fits' (by omega)) fun o' hDG => ⟨Same.mut s hg, ⟨_, rfl⟩, ?_⟩⟩
        rw [put_vB] at hDG
        rw [List.foldl_append]
        show BookAt _ g (stepC _ l).going ∧ BookAt _ m (stepC _ l).coming
        unfold stepC
        rw [if_neg (by rw [c]; exact Bool.noConfusion)]
        exact ⟨hDG, DG.other (t := tK) hM hf1 (fun f => f) hgm⟩
    · rintro σ H' ⟨s, ⟨o, rfl⟩, hG, hM⟩
      refine ⟨_, rfl, _, rfl, fun x dx hx hdx hne => ⟨x, dx, g, m, rfl, upd_same, rfl, ?_⟩⟩
      have sM := same_made (o := .own x) (u := .ins (He.ga K "Change") dx []) (o2 := .ins (He.ga K "Change") dx [("going", .ref g), ("coming", .ref m)]) hx hdx
      exact q x _ (Same.trans' s sM) ⟨dx, g, m, upd_same, hG.same sM, hM.same sM⟩
abbrev nm_fits : List Str := ["line", "book", "change", "there"]
theorem sc_fits : FnScope nm_fits ["line", "book", "change"] (defScope s_fits) := ⟨rfl, rfl, rfl, by decide +kernel, rfl, by decide +kernel, by decide +kernel⟩
def sp_fits (K : PySem.W.Frag) : Sp := fun vs H Q _ => ∃ (a d c : Addr) (l : Cl) (B : Bk) (ch : Chg), vs = [.ref a, .ref d, .ref c] ∧ CLineAt K H a l ∧ BookAt H d B ∧ ChangeAt K H c ch ∧ Q (.bl (fitsB B ch l)) H
theorem good_fits (T : Tx K mg) : Gd P w K mg base CX0 2 "fits" ["line", "book", "change"] (sp_fits K) := by
  obtain ⟨fd, F⟩ := T.f_fits
  refine ⟨_, fd, fn0 F sc_fits (fun vs H Q E h => ?_) (fun cdv A outer s H vs Q E hr h => ⟨_, (pss_cons (ps_set (i := 3) sc_fits.nd rfl (Or.inl rfl) (pe_gd (good_said (P := P) (w := w) (base := base) T) hr pass0 (pa_cons (pv 1) (pa_cons (pe_fld (pv 0) rfl) pa_nil))))
      (pss_cons (ps_if (pt_not (pt_val (pe_fld (pv 0) rfl))) (pss_one (ps_ret (pe_cmpR op_eq (pv 3) (pe_fld (pv 0) rfl) (nomark _)))) pss_nil)
      (pss_one (ps_ret (pe_or (pe_cmpR op_eq (pv 3) (pe_gi T.i_NOTHING) (nomark _)) (pe_one (pe_cmpR op_eq (pe_gd (good_said (P := P) (w := w) (base := base) T) hr pass0 (pa_cons (pe_fld (pv 2) rfl) (pa_cons (pe_fld (pv 0) rfl) pa_nil))) (pv 3) (nomark _)))))))), ?_⟩), F.bindsN (fun _ _ _ _ _ _ us hl => match us, hl with | [_, _, _], _ => rfl), T.g_fits, F.kp⟩
  · obtain ⟨_, _, _, _, _, _, e, _⟩ := h
    subst e
    rfl
  · obtain ⟨a, d, c, l, B, ch, rfl, ⟨dx, k, h1, h2⟩, hd, ⟨dx2, g, m, c1, c2, c3⟩, q⟩ := h
    unfold fitsB at q
    refine ⟨_, rfl, _, rfl, a, _, dx, _, _, rfl, h1, T.c_ChangeLine, T.n_ChangeLine_subject, rfl, d, B, k, l.key, rfl, hd, h2, _, rfl, a, _, dx, _, _, rfl, h1, T.c_ChangeLine, T.n_ChangeLine_comes, rfl, _, rfl, if_b (fun t => ?_) fun t => ?_⟩
    · have t' : ¬ l.comes = true := by simpa using t
      rw [if_neg t'] at q
      refine ⟨_, rfl, _, rfl, a, _, dx, _, _, rfl, h1, T.c_ChangeLine, T.n_ChangeLine_told, rfl, rfl, ?_⟩
      rw [dec_int]
      exact q
    · have t' : l.comes = true := by simpa using t
      rw [if_pos t'] at q
      refine ⟨_, rfl, rfl, ?_⟩
      rw [dec_int]
      refine ⟨_, rfl, if_b (fun t2 => ?_) fun t2 => ?_⟩
      · rw [t2, Bool.true_or] at q
        exact q
      · rw [t2, Bool.false_or] at q
        refine ⟨_, rfl, c, _, dx2, _, _, rfl, c1, T.c_Change, T.n_Change_going, rfl, _, rfl, a, _, dx, _, _, rfl, h1, T.c_ChangeLine, T.n_ChangeLine_subject, rfl, g, ch.going, k, l.key, rfl, c2, h2, _, rfl, rfl, ?_⟩
        rw [dec_int]
        exact q
abbrev nm_first_unfit : List Str := ["lines", "book", "change", "line"]
theorem sc_first_unfit : FnScope nm_first_unfit ["lines", "book", "change"] (defScope s_first_unfit) := ⟨rfl, rfl, rfl, by decide +kernel, rfl, by decide +kernel, by decide +kernel⟩
def sp_first_unfit (K : PySem.W.Frag) : Sp := fun vs H Q _ => ∃ (L d c : Addr) (as : List V) (ls : List Cl) (B : Bk) (ch : Chg), vs = [.ref L, .ref d, .ref c] ∧ H L = some (.lst as) ∧ F2 (CLineR K H) as ls ∧ BookAt H d B ∧ ChangeAt K H c ch ∧ Q (.int (mUnfit B ch ls)) H
theorem good_first_unfit (T : Tx K mg) : Gd P w K mg base CX0 3 "first_unfit" ["lines", "book", "change"] (sp_first_unfit K) := by
  obtain ⟨fd, F⟩ := T.f_first_unfit
  refine ⟨_, fd, fn0 F sc_first_unfit (fun vs H Q E h => ?_) (fun cdv A outer s H vs Q E hr h => ⟨_, (pss_cons (ps_for PassesOwn.never rfl (pi_list (pv 0)) (pg_name (i := 3) sc_first_unfit.nd rfl (Or.inl rfl)) (pss_one (ps_if (pt_not (pt_val (pe_gd (good_fits (P := P) (w := w) (base := base) T) hr pass0 (pa_cons (pv 3) (pa_cons (pv 1) (pa_cons (pv 2) pa_nil)))))) (pss_one (ps_ret (pe_fld (pv 3) rfl))) pss_nil)))
      (pss_one (ps_ret (pe_un un_neg pe_int)))), ?_⟩), F.bindsN (fun _ _ _ _ _ _ us hl => match us, hl with | [_, _, _], _ => rfl), T.g_first_unfit, F.kp⟩
  · obtain ⟨_, _, _, _, _, _, _, e, _⟩ := h
    subst e
    rfl
  · obtain ⟨L, d, c, as, ls, B, ch, rfl, hL, hF, hd, hc, q⟩ := h
    refine ⟨_, rfl, L, rfl, ⟨_, SqL.of hL⟩, for_each (R := CLineR K H) (xs := ls) hF (fun dn rs σ H' => H' = H ∧ (∃ m, σ = [some (.ref L), some (.ref d), some (.ref c), m]) ∧ mUnfit B ch ls = mUnfit B ch rs) ⟨rfl, ⟨_, rfl⟩, rfl⟩ ?_ ?_ ?_⟩
    · rintro dn rs σ H' ⟨rfl, -⟩
      exact SqL.of hL
    · rintro dn l rs v σ H' e ⟨a, rfl, hl⟩ ⟨rfl, ⟨m, rfl⟩, er⟩
      refine ⟨_, rfl, _, rfl, _, rfl, a, d, c, l, B, ch, rfl, hl, hd, hc, _, rfl, if_b (fun t => ?_) fun t => ?_⟩
      · obtain ⟨dx, k, h1, h2⟩ := hl
        refine ⟨_, rfl, a, _, dx, _, _, rfl, h1, T.c_ChangeLine, T.n_ChangeLine_place, rfl, ?_⟩
        rw [er] at q
        unfold mUnfit at q
        rw [List.find?_cons, t] at q
        exact q
      · refine ⟨rfl, ⟨_, rfl⟩, ?_⟩
        rw [er]
        unfold mUnfit
        rw [List.find?_cons, t]
    · rintro σ H' ⟨rfl, ⟨m, rfl⟩, er⟩
      rw [er] at q
      exact ⟨_, rfl, q⟩
abbrev nm_changed : List Str := ["book", "lines", "change", "made", "subject"]
theorem sc_changed : FnScope nm_changed ["book", "lines"] (defScope s_changed) := ⟨rfl, rfl, rfl, by decide +kernel, rfl, by decide +kernel, by decide +kernel⟩
def sp_changed (K : PySem.W.Frag) : Sp := fun vs H Q E => ∃ (d L : Addr) (B : Bk) (as : List V) (ls : List Cl), vs = [.ref d, .ref L] ∧ BookAt H d B ∧ H L = some (.lst as) ∧ F2 (CLineR K H) as ls ∧ ls.length ≤ 1000000 ∧ B.length ≤ 1000000 ∧ Ret K Q E H (fun (M : Bk) v H' => ∃ p, v = .ref p ∧ H p = none ∧ BookAt H' p M) (mChanged B ls)
theorem good_changed (T : Tx K mg) : Gd P w K mg base (L2.CX P w) 4 "changed" ["book", "lines"] (sp_changed K) := by
  obtain ⟨fd, F⟩ := T.f_changed
  refine ⟨_, fd, fnX F sc_changed (fun vs H Q E h => ?_) (fun cdv A outer s H vs Q E hr h => ⟨_, (pss_cons (ps_set (i := 2) sc_changed.nd rfl (Or.inl rfl) (pe_gd (good_change_of (P := P) (w := w) (base := base) T) hr pass0 (pa_cons (pv 1) pa_nil)))
      (pss_cons (ps_expr (pe_gd (good_refuse_at (P := P) (w := w) (base := base) T) hr (passes_call (takes_of rfl rfl rfl rfl) (fun _ _ _ _ h => h)) (pa_cons pe_int (pa_cons (pe_gd (good_first_unfit (P := P) (w := w) (base := base) T) hr pass0 (pa_cons (pv 1) (pa_cons (pv 0) (pa_cons (pv 2) pa_nil)))) pa_nil))))
      (pss_cons (ps_set (i := 3) sc_changed.nd rfl (Or.inl rfl) pe_newX)
      (pss_cons (ps_for (passes_of rfl) rfl (pi_keysX (pv 0)) (pg_name (i := 4) sc_changed.nd rfl (Or.inl rfl)) (pss_one (ps_if (pt_cmpR (op_notInX hr.units) (pv 4) (pe_fld (pv 2) rfl) (by with_unfolding_all rfl)) (pss_one (ps_asg (pe_ixX hr.units (pv 0) (pv 4) (fun _ _ => rfl)) (pg_sub (pv 3) (pv 4) (set_X hr.units)))) pss_nil)))
      (pss_cons (ps_for (passes_of rfl) rfl (pi_keysX (pe_fld (pv 2) rfl)) (pg_name (i := 4) sc_changed.nd rfl (Or.inl rfl)) (pss_one (ps_asg (pe_ixX hr.units (pe_fld (pv 2) rfl) (pv 4) (fun _ _ => rfl)) (pg_sub (pv 3) (pv 4) (set_X hr.units)))))
      (pss_one (ps_ret (pv 3)))))))), ?_⟩), F.bindsN (fun _ _ _ _ _ _ us hl => match us, hl with | [_, _], _ => rfl), T.g_changed, F.kp⟩
  · obtain ⟨_, _, _, _, _, e, _⟩ := h
    subst e
    rfl
  · obtain ⟨d, L, B, as, ls, rfl, hd, hL, hF, hlen, hBl, R⟩ := h
    unfold mChanged at R
    refine ⟨_, rfl, L, as, ls, rfl, hL, hF, hlen, fun c H1 s1 hc => ⟨_, rfl, _, rfl, _, rfl, L, d, c, as, ls, B, _, rfl, s1 _ _ hL, hF.kpC (Same.kp s1), hd.same s1, hc, 3, _, rfl, R.sub s1 (fun ans e => by rw [e]) fun u e v H5 s5 hv => ?_⟩⟩
    obtain ⟨-, rfl⟩ := hv
    rw [e] at R
    simp only [] at R
    have hCl := foldC_len ls ⟨[], []⟩
    rw [← mChangeOf_eq] at hCl
    simp only [List.length_nil, Nat.zero_add] at hCl
    generalize mChangeOf ls = ch at *
    refine fun p ep hp hX => ?_
    have sp := Same.new (o := DXo p ep []) hp
    have s1p := Same.trans' s1 sp
    have hp0 := none_of s1 hp
    refine ⟨_, rfl, for_book (hd.same s1) (fun l r σ H' => Same H5 H' ∧ (∃ m, σ = [some (.ref d), some (.ref L), some (.ref c), some (.ref p), m]) ∧ BookAt H' p (l.filter fun b => !(lookG ch.going b.1).isSome)) ⟨sp, ⟨_, rfl⟩, DG.new hX⟩ (fun _ _ _ _ p => p.1) ?_ ?_⟩
    · rintro l b r a σ H' e ha ⟨s, ⟨m, rfl⟩, hM⟩
      obtain ⟨dx, g, m2, c1, c2, c3⟩ := hc.same s
      have hlook : lookG B b.1 = some b.2 := look_of_mem hd.nodup (by rw [← e]; simp)
      have hll : l.length < B.length := by rw [← e]; simp
      have hfl : (l.filter fun b => !(lookG ch.going b.1).isSome).length ≤ l.length := List.length_filter_le _ _
      refine ⟨_, rfl, _, rfl, c, _, dx, _, _, rfl, c1, T.c_Change, T.n_Change_going, rfl, DG.notin (t := tK) c2 ha ⟨_, rfl, ?_⟩⟩
      rw [look_vB, Option.isSome_map]
      refine if_b (fun t => ?_) fun t => ?_
      · have hnew : b.1 ∉ (l.filter fun b => !(lookG ch.going b.1).isSome).map (·.1) := by
          intro m
          obtain ⟨b2, hb2, e2⟩ := List.mem_map.mp m
          have hn := hd.nodup
          rw [← e, List.map_append, List.map_cons] at hn
          exact (List.nodup_append.mp hn).2.2 b.1 (by rw [← e2]; exact List.mem_map_of_mem (List.mem_filter.mp hb2).1) b.1 List.mem_cons_self rfl
        refine ⟨_, rfl, _, rfl, ((hd.same s1).same s).ix ha hlook ⟨_, rfl, _, rfl, DG.set_ (t := tK) hM ha (by rw [vB_length]; exact fits' (by omega)) fun o' hDG => ⟨Same.mut s hp, ⟨_, rfl⟩, ?_⟩⟩⟩
        rw [put_vB, putG_new hnew] at hDG
        rw [List.filter_append, List.filter_cons_of_pos (p := fun b : Ky × Int => !(lookG ch.going b.1).isSome) t, List.filter_nil]
        exact hDG
      · refine ⟨s, ⟨_, rfl⟩, ?_⟩
        rw [List.filter_append, List.filter_cons_of_neg (by rw [t]; exact Bool.noConfusion), List.filter_nil, List.append_nil]
        exact hM
    rintro σ H6 ⟨s6, ⟨m, rfl⟩, hM⟩
    obtain ⟨dx, g, m2, c1, c2, c3⟩ := hc.same s6
    have hfl : (B.filter fun b => !(lookG ch.going b.1).isSome).length ≤ B.length := List.length_filter_le _ _
    refine ⟨_, rfl, c, _, dx, _, _, rfl, c1, T.c_Change, T.n_Change_coming, rfl, ?_⟩
    have c5 : BookAt H5 m2 ch.coming := by
      obtain ⟨dx', g', m', c1', c2', c3'⟩ := hc
      have := s6 _ _ c1'
      rw [c1] at this
      cases this
      exact c3'
    refine for_book c5 (fun l r σ H' => Same H5 H' ∧ (∃ o, σ = [some (.ref d), some (.ref L), some (.ref c), some (.ref p), o]) ∧ BookAt H' p (putAll (B.filter fun b => !(lookG ch.going b.1).isSome) l)) ⟨s6, ⟨_, rfl⟩, hM⟩ (fun _ _ _ _ p => p.1) ?_ ?_
    · rintro l b r a σ H' e ha ⟨s, ⟨o, rfl⟩, hM⟩
      obtain ⟨dx, g, m3, d1, d2, d3⟩ := hc.same s
      have hlook : lookG ch.coming b.1 = some b.2 := look_of_mem d3.nodup (by rw [← e]; simp)
      have hll : l.length < ch.coming.length := by rw [← e]; simp
      have hlf := foldPut_len l (B.filter fun b => !(lookG ch.going b.1).isSome)
      refine ⟨_, rfl, c, _, dx, _, _, rfl, d1, T.c_Change, T.n_Change_coming, rfl, _, rfl, d3.ix ha hlook ⟨_, rfl, _, rfl, DG.set_ (t := tK) hM ha (by rw [vB_length]; exact fits' (by omega)) fun o' hDG => ⟨Same.mut s hp, ⟨_, rfl⟩, ?_⟩⟩⟩
      rw [put_vB] at hDG
      rw [putAll_snoc]
      exact hDG
    · rintro σ H' ⟨s, ⟨o, rfl⟩, hM⟩
      exact ⟨_, rfl, R.done rfl (Same.trans' s1 s) ⟨p, rfl, hp0, hM⟩⟩
abbrev nm_turned : List Str := ["change"]
theorem sc_turned : FnScope nm_turned ["change"] (defScope s_turned) := ⟨rfl, rfl, rfl, by decide +kernel, rfl, by decide +kernel, by decide +kernel⟩
def sp_turned (K : PySem.W.Frag) : Sp := fun vs H Q _ => ∃ (c : Addr) (ch : Chg), vs = [.ref c] ∧ ChangeAt K H c ch ∧ ∀ a H', Same H H' → ChangeAt K H' a ⟨ch.coming, ch.going⟩ → Q (.ref a) H'
theorem good_turned (T : Tx K mg) : Gd P w K mg base CX0 3 "turned" ["change"] (sp_turned K) := by
  obtain ⟨fd, F⟩ := T.f_turned
  refine ⟨_, fd, fn0 F sc_turned (fun vs H Q E h => ?_) (fun cdv A outer s H vs Q E hr h => ⟨_, (pss_one (ps_ret (pe_cd (good_Change_init (P := P) (w := w) (base := base) T) hr (pa_cons (pe_fld (pv 0) rfl) (pa_cons (pe_fld (pv 0) rfl) pa_nil))))), ?_⟩), F.bindsN (fun _ _ _ _ _ _ us hl => match us, hl with | [_], _ => rfl), T.g_turned, F.kp⟩
  · obtain ⟨_, _, e, _⟩ := h
    subst e
    rfl
  · obtain ⟨c, ch, rfl, ⟨dx2, g, m, c1, c2, c3⟩, q⟩ := h
    refine ⟨_, rfl, c, _, dx2, _, _, rfl, c1, T.c_Change, T.n_Change_coming, rfl, _, rfl, c, _, dx2, _, _, rfl, c1, T.c_Change, T.n_Change_going, rfl, fun x dx hx hdx hne => ⟨x, dx, m, g, rfl, upd_same, rfl, ?_⟩⟩
    have sM := same_made (o := .own x) (u := .ins (He.ga K "Change") dx []) (o2 := .ins (He.ga K "Change") dx [("going", .ref m), ("coming", .ref g)]) hx hdx
    exact q x _ sM ⟨dx, m, g, upd_same, c3.same sM, c2.same sM⟩
abbrev nm_difference : List Str := ["book", "other", "going", "subject", "coming"]
theorem sc_difference : FnScope nm_difference ["book", "other"] (defScope s_difference) := ⟨rfl, rfl, rfl, by decide +kernel, rfl, by decide +kernel, by decide +kernel⟩
def sp_difference (K : PySem.W.Frag) : Sp := fun vs H Q _ => ∃ (d e : Addr) (B C : Bk), vs = [.ref d, .ref e] ∧ BookAt H d B ∧ BookAt H e C ∧ B.length ≤ 1000000 ∧ C.length ≤ 1000000 ∧ ∀ a H', Same H H' → ChangeAt K H' a (mDiff B C) → Q (.ref a) H'
theorem good_difference (T : Tx K mg) : Gd P w K mg base CX0 3 "difference" ["book", "other"] (sp_difference K) := by
  obtain ⟨fd, F⟩ := T.f_difference
  refine ⟨_, fd, fn0 F sc_difference (fun vs H Q E h => ?_) (fun cdv A outer s H vs Q E hr h => ⟨_, (pss_cons (ps_set (i := 2) sc_difference.nd rfl (Or.inl rfl) pe_newX)
      (pss_cons (ps_for PassesOwn.never rfl (pi_keysX (pv 0)) (pg_name (i := 3) sc_difference.nd rfl (Or.inl rfl)) (pss_one (ps_if (pt_cmpR op_ne (pe_gd (good_said (P := P) (w := w) (base := base) T) hr pass0 (pa_cons (pv 1) (pa_cons (pv 3) pa_nil))) (pe_ixX hr.units (pv 0) (pv 3) (fun _ _ => rfl)) (nomark _)) (pss_one (ps_asg (pe_ixX hr.units (pv 0) (pv 3) (fun _ _ => rfl)) (pg_sub (pv 2) (pv 3) (set_X hr.units)))) pss_nil)))
      (pss_cons (ps_set (i := 4) sc_difference.nd rfl (Or.inl rfl) pe_newX)
      (pss_cons (ps_for PassesOwn.never rfl (pi_keysX (pv 1)) (pg_name (i := 3) sc_difference.nd rfl (Or.inl rfl)) (pss_one (ps_if (pt_cmpR op_ne (pe_gd (good_said (P := P) (w := w) (base := base) T) hr pass0 (pa_cons (pv 0) (pa_cons (pv 3) pa_nil))) (pe_ixX hr.units (pv 1) (pv 3) (fun _ _ => rfl)) (nomark _)) (pss_one (ps_asg (pe_ixX hr.units (pv 1) (pv 3) (fun _ _ => rfl)) (pg_sub (pv 4) (pv 3) (set_X hr.units)))) pss_nil)))
      (pss_one (ps_ret (pe_cd (good_Change_init (P := P) (w := w) (base := base) T) hr (pa_cons (pv 2) (pa_cons (pv 4) pa_nil))))))))), ?_⟩), F.bindsN (fun _ _ _ _ _ _ us hl => match us, hl with | [_, _], _ => rfl), T.g_difference, F.kp⟩
  · obtain ⟨_, _, _, _, e, _⟩ := h
    subst e
    rfl
  · obtain ⟨d, e', B, C, rfl, hd, he, hBl, hCl, q⟩ := h
    refine fun g ep hg hX => ?_
    have sg : Same H (upd H g (DXo g ep [])) := Same.new hg
    refine ⟨_, rfl, for_book hd (fun l r σ H' => Same H H' ∧ (∃ m, σ = [some (.ref d), some (.ref e'), some (.ref g), m, none]) ∧ BookAt H' g (l.filter fun b => decide (saidB C b.1 ≠ b.2))) ⟨sg, ⟨_, rfl⟩, DG.new hX⟩ (fun _ _ _ _ p => p.1) ?_ ?_⟩
    · rintro l b r a σ H' e ha ⟨s, ⟨m, rfl⟩, hM⟩
      have hlook : lookG B b.1 = some b.2 := look_of_mem hd.nodup (by rw [← e]; simp)
      have hll : l.length < B.length := by rw [← e]; simp
      have hfl : (l.filter fun b => decide (saidB C b.1 ≠ b.2)).length ≤ l.length := List.length_filter_le _ _
      refine ⟨_, rfl, _, rfl, e', C, a, b.1, rfl, he.same s, ha, _, rfl, _, rfl, (hd.same s).ix ha hlook ⟨rfl, ?_⟩⟩
      rw [dec_int]
      refine ⟨_, rfl, if_b (fun t => ?_) fun t => ?_⟩
      · have t1 : decide (saidB C b.1 ≠ b.2) = true := by simpa using t
        have hnew : b.1 ∉ (l.filter fun b => decide (saidB C b.1 ≠ b.2)).map (·.1) := by
          intro m
          obtain ⟨b2, hb2, e2⟩ := List.mem_map.mp m
          have hn := hd.nodup
          rw [← e, List.map_append, List.map_cons] at hn
          exact (List.nodup_append.mp hn).2.2 b.1 (by rw [← e2]; exact List.mem_map_of_mem (List.mem_filter.mp hb2).1) b.1 List.mem_cons_self rfl
        refine ⟨_, rfl, _, rfl, (hd.same s).ix ha hlook ⟨_, rfl, _, rfl, DG.set_ (t := tK) hM ha (by rw [vB_length]; exact fits' (by omega)) fun o' hDG => ⟨Same.mut s hg, ⟨_, rfl⟩, ?_⟩⟩⟩
        rw [put_vB, putG_new hnew] at hDG
        rw [List.filter_append, List.filter_cons_of_pos (p := fun b : Ky × Int => decide (saidB C b.1 ≠ b.2)) t1, List.filter_nil]
        exact hDG
      · have t1 : decide (saidB C b.1 ≠ b.2) = false := by simpa using t
        refine ⟨s, ⟨_, rfl⟩, ?_⟩
        rw [List.filter_append, List.filter_cons_of_neg (by rw [t1]; exact Bool.noConfusion), List.filter_nil, List.append_nil]
        exact hM
    rintro σ H1 ⟨s1, ⟨m, rfl⟩, hG⟩
    refine fun n ep2 hn0 hX2 => ?_
    have sn := Same.new (o := DXo n ep2 []) hn0
    have hn00 := none_of s1 hn0
    refine ⟨_, rfl, for_book (he.same s1) (fun l r σ H' => Same H1 H' ∧ (∃ m, σ = [some (.ref d), some (.ref e'), some (.ref g), m, some (.ref n)]) ∧ BookAt H' n (l.filter fun b => decide (saidB B b.1 ≠ b.2))) ⟨sn, ⟨_, rfl⟩, DG.new hX2⟩ (fun _ _ _ _ p => p.1) ?_ ?_⟩
    · rintro l b r a σ H' e ha ⟨s, ⟨m, rfl⟩, hM⟩
      have hlook : lookG C b.1 = some b.2 := look_of_mem he.nodup (by rw [← e]; simp)
      have hll : l.length < C.length := by rw [← e]; simp
      have hfl : (l.filter fun b => decide (saidB B b.1 ≠ b.2)).length ≤ l.length := List.length_filter_le _ _
      refine ⟨_, rfl, _, rfl, d, B, a, b.1, rfl, (hd.same s1).same s, ha, _, rfl, _, rfl, ((he.same s1).same s).ix ha hlook ⟨rfl, ?_⟩⟩
      rw [dec_int]
      refine ⟨_, rfl, if_b (fun t => ?_) fun t => ?_⟩
      · have t1 : decide (saidB B b.1 ≠ b.2) = true := by simpa using t
        have hnew : b.1 ∉ (l.filter fun b => decide (saidB B b.1 ≠ b.2)).map (·.1) := by
          intro m
          obtain ⟨b2, hb2, e2⟩ := List.mem_map.mp m
          have hn := he.nodup
          rw [← e, List.map_append, List.map_cons] at hn
          exact (List.nodup_append.mp hn).2.2 b.1 (by rw [← e2]; exact List.mem_map_of_mem (List.mem_filter.mp hb2).1) b.1 List.mem_cons_self rfl
        refine ⟨_, rfl, _, rfl, ((he.same s1).same s).ix ha hlook ⟨_, rfl, _, rfl, DG.set_ (t := tK) hM ha (by rw [vB_length]; exact fits' (by omega)) fun o' hDG => ⟨Same.mut s hn0, ⟨_, rfl⟩, ?_⟩⟩⟩
        rw [put_vB, putG_new hnew] at hDG
        rw [List.filter_append, List.filter_cons_of_pos (p := fun b : Ky × Int => decide (saidB B b.1 ≠ b.2)) t1, List.filter_nil]
        exact hDG
      · have t1 : decide (saidB B b.1 ≠ b.2) = false := by simpa using t
        refine ⟨s, ⟨_, rfl⟩, ?_⟩
        rw [List.filter_append, List.filter_cons_of_neg (by rw [t1]; exact Bool.noConfusion), List.filter_nil, List.append_nil]
        exact hM
    · rintro σ H' ⟨s, ⟨m, rfl⟩, hM⟩
      refine ⟨_, rfl, _, rfl, fun x dx hx hdx hne => ⟨x, dx, g, n, rfl, upd_same, rfl, ?_⟩⟩
      have sM := same_made (o := .own x) (u := .ins (He.ga K "Change") dx []) (o2 := .ins (He.ga K "Change") dx [("going", .ref g), ("coming", .ref n)]) hx hdx
      exact q x _ (Same.trans' s1 (Same.trans' s sM)) ⟨dx, g, n, upd_same, (hG.same s).same sM, hM.same sM⟩
abbrev nm_fact_bytes_changes : List Str := ["sign", "subject", "told", "part"]
theorem sc_fact_bytes_changes : FnScope nm_fact_bytes_changes ["sign", "subject", "told"] (defScope s_fact_bytes_changes) := ⟨rfl, rfl, rfl, by decide +kernel, rfl, by decide +kernel, by decide +kernel⟩
def sp_fact_bytes_changes (K : PySem.W.Frag) : Sp := fun vs H Q _ => ∃ (g : Nat) (a : Addr) (k : Ky) (n : Int), vs = [.int (g : Nat), .ref a, .int n] ∧ KeyAt H a k ∧ FactOk k n ∧ NewL Q H (vn (mSigned g k n))
theorem good_fact_bytes_changes (T : Tx K mg) : Gd P w K mg base CX0 2 "fact_bytes_changes" ["sign", "subject", "told"] (sp_fact_bytes_changes K) := by
  obtain ⟨fd, F⟩ := T.f_fact_bytes_changes
  refine ⟨_, fd, fn0 F sc_fact_bytes_changes (fun vs H Q E h => ?_) (fun cdv A outer s H vs Q E hr h => ⟨_, (pss_cons (ps_if (pt_val (pe_gd (good_is_thing (P := P) (w := w) (base := base) T) hr pass0 (pa_cons (pv 1) pa_nil))) (pss_one (ps_ret (pe_op op_cat (pe_op op_cat (pe_lst (pa_cons (pv 0) pa_nil)) (pe_gd (good_thing_bytes (P := P) (w := w) (base := base) T) hr pass0 (pa_cons (pe_ix ix_tup (pv 1) pe_int (fun _ _ => rfl)) (pa_cons (pv 2) pa_nil)))) (pe_lst (pa_cons (pe_gi T.i_LINE_END) pa_nil))))) pss_nil)
      (pss_cons (ps_set (i := 3) sc_fact_bytes_changes.nd rfl (Or.inl rfl) (pe_op op_cat (pe_op op_cat (pe_op op_cat (pe_op op_cat (pe_callTy call_list_of (by rfl) T.b_list (by decide +kernel) (pa_cons (pe_ix ix_tup (pv 1) pe_int (fun _ _ => rfl)) pa_nil)) (pe_lst (pa_cons (pe_gi T.i_POINT) pa_nil))) (pe_callTy call_list_of (by rfl) T.b_list (by decide +kernel) (pa_cons (pe_ix ix_tup (pv 1) pe_int (fun _ _ => rfl)) pa_nil))) (pe_lst (pa_cons (pe_gi T.i_BLANK) pa_nil))) (pe_gd (good_amount_bytes (P := P) (w := w) (base := base) T) hr pass0 (pa_cons (pv 2) pa_nil))))
      (pss_one (ps_ret (pe_op op_cat (pe_op op_cat (pe_lst (pa_cons (pv 0) pa_nil)) (pv 3)) (pe_lst (pa_cons (pe_gi T.i_LINE_END) pa_nil))))))), ?_⟩), F.bindsN (fun _ _ _ _ _ _ us hl => match us, hl with | [_, _, _], _ => rfl), T.g_fact_bytes_changes, F.kp⟩
  · obtain ⟨_, _, _, _, e, _⟩ := h
    subst e
    rfl
  · obtain ⟨g, a, k, n, rfl, ha, hk, q⟩ := h
    unfold mSigned at q
    have hk1 := hk.fst
    have hk2 := hk.snd
    refine ⟨_, rfl, a, k, rfl, ha, fun H1 s1 => ⟨_, rfl, if_b (fun c => ?_) fun c => ?_⟩⟩
    · rw [if_pos (of_decide_eq_true c)] at q
      refine ⟨_, rfl, fits (by simp), fun b0 hb0 => ?_⟩
      have s0 := Same.new (o := .lst [V.int (g : Nat)]) hb0
      obtain ⟨a1, a2, h1, h2, h3⟩ := ((ha.same s1).same s0).fst (K := K)
      have := mThing_len k.1 n
      refine ⟨_, rfl, _, _, ((0 : Nat) : Int), _, rfl, rfl, h3, atI_nat rfl, _, rfl, a1, k.1, n, rfl, h1, Nat.le_trans hk.fst (by decide), fun p H2 s2 hp hl => ?_⟩
      refine cat_ok (x := [g]) (s2 _ _ upd_same) hl (by simp only [List.length_cons, List.length_nil]; omega) fun u hu => ?_
      have su := Same.new (o := .lst (vn ([g] ++ mThing k.1 n))) hu
      refine ⟨fits (by simp), fun b hb => cat_new hb upd_same (y := [10]) rfl (by simp only [List.length_append, List.length_cons, List.length_nil]; omega) fun w H3 s3 hw hw3 => ?_⟩
      have sX := Same.trans' s1 (Same.trans' s0 s2)
      exact q w H3 (Same.trans' sX (Same.trans' su s3)) (none_of sX (none_of su hw)) hw3
    · rw [if_neg (of_decide_eq_false c)] at q
      have hn : ((n.toNat : Nat) : Int) = n := by have := hk.pos (of_decide_eq_false c); omega
      have hb := hk.big
      have hal := amountText_len (n := n.toNat) (by omega)
      obtain ⟨a1, a2, h1, h2, h3⟩ := (ha.same s1).fst (K := K)
      refine ⟨_, rfl, _, _, ((0 : Nat) : Int), _, rfl, rfl, h3, atI_nat rfl, a1, _, rfl, .inr (SqT.of h1), fun b1 hb1 => ⟨fits (by simp), fun b2 hb2 => ?_⟩⟩
      have sb1 := Same.new (o := .lst (vn k.1)) hb1
      refine cat_new hb2 upd_same (y := [46]) rfl (by simp only [List.length_cons, List.length_nil]; omega) fun b3 H3 s3 hb3 l3 => ?_
      have s13 := Same.trans' s1 (Same.trans' sb1 s3)
      obtain ⟨a1', a2', h1', h2', h3'⟩ := (ha.same s13).fst (K := K)
      refine ⟨_, rfl, _, _, ((1 : Nat) : Int), _, rfl, rfl, h3', atI_nat rfl, a2', _, rfl, .inr (SqT.of h2'), fun b4 hb4 => ?_⟩
      refine cat_new hb4 l3 rfl (by simp only [List.length_append, List.length_cons, List.length_nil]; omega) fun b5 H5 s5 hb5 l5 => ?_
      refine ⟨fits (by simp), fun b6 hb6 => cat_new hb6 l5 (y := [32]) rfl (by simp only [List.length_append, List.length_cons, List.length_nil]; omega) fun b7 H7 s7 hb7 l7 => ?_⟩
      refine ⟨_, rfl, n.toNat, by rw [hn]; rfl, by omega, fun b8 H8 s8 hb8 l8 => ?_⟩
      refine cat_ok (s8 _ _ l7) l8 (by simp only [List.length_append, List.length_cons, List.length_nil]; omega) fun b9 hb9 => ?_
      have s9 := Same.new (o := .lst (vn (k.1 ++ [46] ++ k.2 ++ [32] ++ SctBook.amountText n.toNat))) hb9
      refine ⟨_, rfl, fits (by simp), fun c0 hc0 => ⟨_, rfl, ?_⟩⟩
      have sc0 := Same.new (o := .lst [V.int (g : Nat)]) hc0
      refine cat_ok (x := [g]) (y := k.1 ++ [46] ++ k.2 ++ [32] ++ SctBook.amountText n.toNat) upd_same (sc0 _ _ upd_same) (by simp only [List.length_append, List.length_cons, List.length_nil]; omega) fun c1 hc1 => ?_
      have sc1 := Same.new (o := .lst (vn ([g] ++ (k.1 ++ [46] ++ k.2 ++ [32] ++ SctBook.amountText n.toNat)))) hc1
      refine ⟨fits (by simp), fun c2 hc2 => cat_new hc2 upd_same (y := [10]) rfl (by simp only [List.length_append, List.length_cons, List.length_nil]; omega) fun w Hw sw hw hlw => ?_⟩
      have sX := Same.trans' s13 (Same.trans' s5 (Same.trans' s7 (Same.trans' s8 (Same.trans' s9 (Same.trans' sc0 sc1)))))
      exact q w Hw (Same.trans' sX sw) (none_of sX hw) hlw
abbrev nm_subjects_of : List Str := ["books", "together", "book", "subject"]
theorem sc_subjects_of : FnScope nm_subjects_of ["books"] (defScope s_subjects_of) := ⟨rfl, rfl, rfl, by decide +kernel, rfl, by decide +kernel, by decide +kernel⟩
def sp_subjects_of (K : PySem.W.Frag) : Sp := fun vs H Q _ => ∃ (L : Addr) (as : List V) (Bs : List Bk), vs = [.ref L] ∧ H L = some (.lst as) ∧ F2 (BookR H) as Bs ∧ (Bs.map List.length).foldr (· + ·) 0 ≤ 1000000 ∧ NewK Q H (subjectsB Bs)
theorem good_subjects_of (T : Tx K mg) : Gd P w K mg base CX0 1 "subjects_of" ["books"] (sp_subjects_of K) := by
  obtain ⟨fd, F⟩ := T.f_subjects_of
  refine ⟨_, fd, fn0 F sc_subjects_of (fun vs H Q E h => ?_) (fun cdv A outer s H vs Q E hr h => ⟨_, (pss_cons (ps_set (i := 1) sc_subjects_of.nd rfl (Or.inl rfl) pe_newX)
      (pss_cons (ps_for PassesOwn.never rfl (pi_list (pv 0)) (pg_name (i := 2) sc_subjects_of.nd rfl (Or.inl rfl)) (pss_one (ps_for PassesOwn.never rfl (pi_keysX (pv 2)) (pg_name (i := 3) sc_subjects_of.nd rfl (Or.inl rfl)) (pss_one (ps_asg pe_bl (pg_sub (pv 1) (pv 3) (set_X hr.units)))))))
      (pss_one (ps_ret (pe_callB (call_sortedX rfl hr.units) (by rfl) T.b_sorted (by decide +kernel) (pa_cons (pv 1) pa_nil)))))), ?_⟩), F.bindsN (fun _ _ _ _ _ _ us hl => match us, hl with | [_], _ => rfl), T.g_subjects_of, F.kp⟩
  · obtain ⟨_, _, _, e, _⟩ := h
    subst e
    rfl
  · obtain ⟨L, as, Bs, rfl, hL, hF, hlen, q⟩ := h
    refine fun p ep hp hX => ?_
    have sp : Same H (upd H p (DXo p ep [])) := Same.new hp
    refine ⟨_, rfl, L, rfl, ⟨_, SqL.of (sp _ _ hL)⟩, for_each (R := BookR H) (xs := Bs) hF (fun dn rs σ H' => Same H H' ∧ (∃ m n, σ = [some (.ref L), some (.ref p), m, n]) ∧ SetAt tK H' p (dn.foldl addKeys [])) ⟨sp, ⟨_, _, rfl⟩, DG.new hX⟩ (fun dn rs σ H' h => SqL.of (h.1 _ _ hL)) ?_ ?_⟩
    · rintro dn B rs v σ H1 e ⟨d, rfl, hd⟩ ⟨s1, ⟨m, n, rfl⟩, hset⟩
      have hsum : (dn.map List.length).foldr (· + ·) 0 + B.length ≤ (Bs.map List.length).foldr (· + ·) 0 := by
        rw [← e]
        clear hset hlen hF e q hL
        induction dn with
        | nil => simp
        | cons x dn ih => simp only [List.cons_append, List.map_cons, List.foldr_cons]; omega
      have hkl := keysIn_len dn []
      simp only [List.length_nil, Nat.zero_add] at hkl
      refine ⟨_, rfl, for_book hd (fun l r σ H' => Same H H' ∧ (∃ n, σ = [some (.ref L), some (.ref p), some (.ref d), n]) ∧ SetAt tK H' p (addKeys (dn.foldl addKeys []) l)) ⟨s1, ⟨_, rfl⟩, hset⟩ (fun _ _ _ _ p => p.1) ?_ ?_⟩
      · rintro l b r a σ H' e2 ha ⟨s, ⟨n, rfl⟩, hset⟩
        have hfl := addKeys_len (dn.foldl addKeys []) l
        have hll : l.length < B.length := by rw [← e2]; simp
        refine ⟨_, rfl, _, rfl, DG.set_ (t := tK) hset ha (by rw [setD_length]; exact fits' (by omega)) fun o hDG => ⟨Same.mut s hp, ⟨_, rfl⟩, ?_⟩⟩
        rw [put_set] at hDG
        rw [addKeys_snoc]
        exact hDG
      · rintro σ H' ⟨s, ⟨n, rfl⟩, hset⟩
        refine ⟨s, ⟨_, _, rfl⟩, ?_⟩
        rw [List.foldl_append]
        exact hset
    · rintro σ H' ⟨s, ⟨m, n, rfl⟩, hset⟩
      obtain ⟨ep', bs, b1, b2, b3⟩ := DG.sort hset
      refine ⟨_, rfl, p, ep', bs, rfl, b1, b2, fun ys u pm pw hu => ?_⟩
      have hk := b3 ys pm pw
      rw [setD_keys] at hk
      exact q u _ _ (Same.trans' s (Same.new hu)) (none_of s hu) upd_same (hk.kpK (Same.kp (Same.new hu)))
end
end Fb
end
section
set_option Elab.async false
set_option maxRecDepth 100000
set_option maxHeartbeats 4000000
namespace Fb
open PySem PySem.Spec PyProof.Rows L2
section
variable {P : Program} {w : World} {K : PySem.W.Frag} {mg : Str → Option Value} {base : Heap}
abbrev nm_change_text : List Str := ["change", "text", "subject"]
theorem sc_change_text : FnScope nm_change_text ["change"] (defScope s_change_text) := ⟨rfl, rfl, rfl, by decide +kernel, rfl, by decide +kernel, by decide +kernel⟩
def sp_change_text (K : PySem.W.Frag) : Sp := fun vs H Q _ => ∃ (c : Addr) (ch : Chg), vs = [.ref c] ∧ ChangeAt K H c ch ∧ ChgOk ch ∧ NewL Q H (vn (mChangeText ch))
theorem good_change_text (T : Tx K mg) : Gd P w K mg base CX0 3 "change_text" ["change"] (sp_change_text K) := by
  obtain ⟨fd, F⟩ := T.f_change_text
  refine ⟨_, fd, fn0 F sc_change_text (fun vs H Q E h => ?_) (fun cdv A outer s H vs Q E hr h => ⟨_, (pss_cons (ps_set (i := 1) sc_change_text.nd rfl (Or.inl rfl) (pe_lst pa_nil))
      (pss_cons (ps_for PassesOwn.never rfl (pi_list (pe_gd (good_subjects_of (P := P) (w := w) (base := base) T) hr pass0 (pa_cons (pe_lst (pa_cons (pe_fld (pv 0) rfl) (pa_cons (pe_fld (pv 0) rfl) pa_nil))) pa_nil))) (pg_name (i := 2) sc_change_text.nd rfl (Or.inl rfl)) (pss_cons (ps_if (pt_cmpR (op_inX hr.units) (pv 2) (pe_fld (pv 0) rfl) (by with_unfolding_all rfl)) (pss_one (ps_expr (pe_bm PySem.F.plainAttrs_list PySem.F.slot_list_extend PySem.F.type_list_extend mt_extend (pv 1) (pa_cons (pe_gd (good_fact_bytes_changes (P := P) (w := w) (base := base) T) hr pass0 (pa_cons (pe_gi T.i_MINUS) (pa_cons (pv 2) (pa_cons (pe_ixX hr.units (pe_fld (pv 0) rfl) (pv 2) (fun _ _ => rfl)) pa_nil)))) pa_nil)))) pss_nil)
      (pss_one (ps_if (pt_cmpR (op_inX hr.units) (pv 2) (pe_fld (pv 0) rfl) (by with_unfolding_all rfl)) (pss_one (ps_expr (pe_bm PySem.F.plainAttrs_list PySem.F.slot_list_extend PySem.F.type_list_extend mt_extend (pv 1) (pa_cons (pe_gd (good_fact_bytes_changes (P := P) (w := w) (base := base) T) hr pass0 (pa_cons (pe_gi T.i_PLUS) (pa_cons (pv 2) (pa_cons (pe_ixX hr.units (pe_fld (pv 0) rfl) (pv 2) (fun _ _ => rfl)) pa_nil)))) pa_nil)))) pss_nil))))
      (pss_one (ps_ret (pv 1))))), ?_⟩), F.bindsN (fun _ _ _ _ _ _ us hl => match us, hl with | [_], _ => rfl), T.g_change_text, F.kp⟩
  · obtain ⟨_, _, e, _⟩ := h
    subst e
    rfl
  · obtain ⟨c, ch, rfl, hc, hok, q⟩ := h
    obtain ⟨dx, g, m, c1, c2, c3⟩ := hc
    have hg := hok.going.len
    have hm := hok.coming.len
    refine ⟨fits (by simp), fun L hL => ?_⟩
    have sL : Same H (upd H L (.lst [])) := Same.new hL
    refine ⟨_, rfl, c, _, dx, _, _, rfl, sL _ _ c1, T.c_Change, T.n_Change_going, rfl, _, rfl, c, _, dx, _, _, rfl, sL _ _ c1, T.c_Change, T.n_Change_coming, rfl, fits (by simp), fun l hl => ?_⟩
    have sl := Same.new (o := .lst [V.ref g, .ref m]) hl
    have sLl := Same.trans' sL sl
    refine ⟨l, _, [ch.going, ch.coming], rfl, upd_same, .cons ⟨g, rfl, c2.same sLl⟩ (.cons ⟨m, rfl, c3.same sLl⟩ .nil), by simp only [List.map_cons, List.map_nil, List.foldr_cons, List.foldr_nil]; omega, fun p vs H1 s1 hp hpl hF => ⟨p, rfl, ⟨_, SqL.of hpl⟩, ?_⟩⟩
    have s01 := Same.trans' sLl s1
    have hL1 : H1 L = some (.lst (vn [])) := s1 _ _ (sl _ _ upd_same)
    have hpL : p ≠ L := fun e => by rw [e] at hp; rw [sl _ _ upd_same] at hp; cases hp
    have hsub := subjects_len [ch.going, ch.coming]
    simp only [List.map_cons, List.map_nil, List.foldr_cons, List.foldr_nil] at hsub
    let f : Ky → List Nat := fun k => chunk 45 ch.going k ++ chunk 43 ch.coming k
    have hgo : ∀ k n, lookG ch.going k = some n → (mSigned 45 k n).length ≤ 100 := fun k n e => mSigned_len (hok.going.each _ (look_mem0 e))
    have hco : ∀ k n, lookG ch.coming k = some n → (mSigned 43 k n).length ≤ 100 := fun k n e => mSigned_len (hok.coming.each _ (look_mem0 e))
    have hcg : ∀ k, (chunk 45 ch.going k).length ≤ 100 := fun k => by
      cases e1 : lookG ch.going k with
      | none => rw [chunk_none e1]; simp
      | some n => rw [chunk_some e1]; exact hgo k n e1
    have hcm : ∀ k, (chunk 43 ch.coming k).length ≤ 100 := fun k => by
      cases e1 : lookG ch.coming k with
      | none => rw [chunk_none e1]; simp
      | some n => rw [chunk_some e1]; exact hco k n e1
    have hf : ∀ k, (f k).length ≤ 200 := fun k => by
      show (chunk 45 ch.going k ++ chunk 43 ch.coming k).length ≤ 200
      rw [List.length_append]
      have := hcg k
      have := hcm k
      omega
    refine for_each (R := KeyR H1) (xs := subjectsB [ch.going, ch.coming]) hF (fun dn rs σ H' => Same H H' ∧ Kp H1 H' ∧ H' p = some (.lst vs) ∧ (∃ o, σ = [some (.ref c), some (.ref L), o]) ∧ H' L = some (.lst (vn (dn.flatMap f)))) ⟨s01, Kp.refl _, hpl, ⟨_, rfl⟩, hL1⟩ (fun dn rs σ H' h => SqL.of h.2.2.1) ?_ ?_
    · rintro dn k rs v σ H' e ⟨a, rfl, ha⟩ ⟨s, kp, hp', ⟨o, rfl⟩, hL'⟩
      have hdl : dn.length < (subjectsB [ch.going, ch.coming]).length := by rw [← e]; simp
      have htl := flat_len f 200 dn fun x _ => hf x
      have ha' := ha.kp kp
      have cg := c2.same s
      have cm := c3.same s
      have c1' := s _ _ c1
      apply with_rest2 (fun σ H2 => σ = [some (.ref c), some (.ref L), some (.ref a)] ∧ Same H H2 ∧ Kp H1 H2 ∧ H2 p = some (.lst vs) ∧ H2 L = some (.lst (vn (dn.flatMap f ++ chunk 45 ch.going k))))
      · intro rest
        refine ⟨_, rfl, _, rfl, c, _, dx, _, _, rfl, c1', T.c_Change, T.n_Change_going, rfl, DG.in_ (t := tK) cg ha' ⟨_, rfl, ?_⟩⟩
        rw [look_vB, Option.isSome_map]
        refine if_b ?tt ?ff
        case ff =>
          intro t
          have e0 : lookG ch.going k = none := by
            cases q : lookG ch.going k with
            | none => rfl
            | some n => rw [q] at t; cases t
          exact rest _ _ ⟨rfl, s, kp, hp', by rw [chunk_none e0, List.append_nil]; exact hL'⟩
        case tt =>
          intro t
          obtain ⟨n, e0⟩ := Option.isSome_iff_exists.mp t
          have hn := hgo k n e0
          refine ⟨_, rfl, .inl ⟨rfl, _, SqL.of hL'⟩, _, rfl, _, rfl, c, _, dx, _, _, rfl, c1', T.c_Change, T.n_Change_going, rfl, _, rfl, cg.ix ha' e0 ⟨45, a, k, n, rfl, ha', hok.going.each _ (look_mem0 e0), fun u H2 s2 hu hl2 => ⟨L, u, _, _, rfl, rfl, s2 _ _ hL', hl2, fits (by rw [vn_length, vn_length]; omega), ?_⟩⟩⟩
          have kL : Kp H2 (upd H2 L (.lst (vn (dn.flatMap f) ++ vn (mSigned 45 k n)))) := Kp.lst (s2 _ _ hL')
          exact rest _ _ ⟨rfl, Same.mut (Same.trans' s s2) hL, Kp.trans kp (Kp.trans (Same.kp s2) kL), by rw [upd_ne hpL]; exact s2 _ _ hp', by rw [upd_same, chunk_some e0, vn_app]⟩
      · rintro σ H2 ⟨rfl, s2, kp2, hp2, hL2⟩
        have ha2 := ha.kp kp2
        have cm2 := c3.same s2
        have c12 := s2 _ _ c1
        have hcap : (dn.flatMap f ++ chunk 45 ch.going k).length ≤ 200 * dn.length + 100 := by
          rw [List.length_append]
          have := hcg k
          omega
        have efin : ∀ tail, tail = chunk 43 ch.coming k → (dn.flatMap f ++ chunk 45 ch.going k) ++ tail = (dn ++ [k]).flatMap f := fun tail et => by
          rw [List.flatMap_append, List.flatMap_cons, List.flatMap_nil, List.append_nil, et, List.append_assoc]
        refine ⟨_, rfl, _, rfl, c, _, dx, _, _, rfl, c12, T.c_Change, T.n_Change_coming, rfl, DG.in_ (t := tK) cm2 ha2 ⟨_, rfl, ?_⟩⟩
        rw [look_vB, Option.isSome_map]
        refine if_b (fun t => ?_) fun t => ?_
        · obtain ⟨n, e0⟩ := Option.isSome_iff_exists.mp t
          have hn := hco k n e0
          refine ⟨_, rfl, .inl ⟨rfl, _, SqL.of hL2⟩, _, rfl, _, rfl, c, _, dx, _, _, rfl, c12, T.c_Change, T.n_Change_coming, rfl, _, rfl, cm2.ix ha2 e0 ⟨43, a, k, n, rfl, ha2, hok.coming.each _ (look_mem0 e0), fun u H3 s3 hu hl2 => ⟨L, u, _, _, rfl, rfl, s3 _ _ hL2, hl2, fits (by rw [vn_length, vn_length]; omega), ?_⟩⟩⟩
          refine ⟨Same.mut (Same.trans' s2 s3) hL, Kp.trans kp2 (Kp.trans (Same.kp s3) (Kp.lst (s3 _ _ hL2))), by rw [upd_ne hpL]; exact s3 _ _ hp2, ⟨_, rfl⟩, ?_⟩
          rw [upd_same, ← efin _ rfl, chunk_some e0, ← vn_app]
        · have e0 : lookG ch.coming k = none := by
            cases q : lookG ch.coming k with
            | none => rfl
            | some n => rw [q] at t; cases t
          refine ⟨s2, kp2, hp2, ⟨_, rfl⟩, ?_⟩
          rw [← efin [] (chunk_none e0).symm, List.append_nil]
          exact hL2
    · rintro σ H' ⟨s, kp, hp', ⟨o, rfl⟩, hL'⟩
      exact ⟨_, rfl, q L H' s hL hL'⟩
abbrev nm_contradict : List Str := ["base", "first", "second", "subject", "one", "two"]
theorem sc_contradict : FnScope nm_contradict ["base", "first", "second", "subject"] (defScope s_contradict) := ⟨rfl, rfl, rfl, by decide +kernel, rfl, by decide +kernel, by decide +kernel⟩
def sp_contradict (K : PySem.W.Frag) : Sp := fun vs H Q _ => ∃ (d1 d2 d3 a : Addr) (A B C : Bk) (k : Ky), vs = [.ref d1, .ref d2, .ref d3, .ref a] ∧ BookAt H d1 A ∧ BookAt H d2 B ∧ BookAt H d3 C ∧ KeyAt H a k ∧ Q (.bl (contraB A B C k)) H
theorem good_contradict (T : Tx K mg) : Gd P w K mg base CX0 2 "contradict" ["base", "first", "second", "subject"] (sp_contradict K) := by
  obtain ⟨fd, F⟩ := T.f_contradict
  refine ⟨_, fd, fn0 F sc_contradict (fun vs H Q E h => ?_) (fun cdv A outer s H vs Q E hr h => ⟨_, (pss_cons (ps_set (i := 4) sc_contradict.nd rfl (Or.inl rfl) (pe_gd (good_said (P := P) (w := w) (base := base) T) hr pass0 (pa_cons (pv 1) (pa_cons (pv 3) pa_nil))))
      (pss_cons (ps_set (i := 5) sc_contradict.nd rfl (Or.inl rfl) (pe_gd (good_said (P := P) (w := w) (base := base) T) hr pass0 (pa_cons (pv 2) (pa_cons (pv 3) pa_nil))))
      (pss_one (ps_ret (pe_and (pe_cmpR op_ne (pv 4) (pv 5) (nomark _)) (pe_and (pe_cmpR op_ne (pv 4) (pe_gd (good_said (P := P) (w := w) (base := base) T) hr pass0 (pa_cons (pv 0) (pa_cons (pv 3) pa_nil))) (nomark _)) (pe_one (pe_cmpR op_ne (pv 5) (pe_gd (good_said (P := P) (w := w) (base := base) T) hr pass0 (pa_cons (pv 0) (pa_cons (pv 3) pa_nil))) (nomark _))))))))), ?_⟩), F.bindsN (fun _ _ _ _ _ _ us hl => match us, hl with | [_, _, _, _], _ => rfl), T.g_contradict, F.kp⟩
  · obtain ⟨_, _, _, _, _, _, _, _, e, _⟩ := h
    subst e
    rfl
  · obtain ⟨d1, d2, d3, a, A, B, C, k, rfl, h1, h2, h3, ha, q⟩ := h
    unfold contraB at q
    refine ⟨_, rfl, _, rfl, d2, B, a, k, rfl, h2, ha, _, rfl, _, rfl, d3, C, a, k, rfl, h3, ha, _, rfl, _, rfl, rfl, ?_⟩
    have ne : ∀ x y : Int, (!decide (V.int x = V.int y)) = decide (x ≠ y) := fun x y => by simp
    rw [ne]
    refine ⟨_, rfl, if_b (fun c => ?_) fun c => ?_⟩
    · rw [c, Bool.true_and] at q
      refine ⟨_, rfl, _, rfl, _, rfl, d1, A, a, k, rfl, h1, ha, rfl, ?_⟩
      rw [ne]
      refine ⟨_, rfl, if_b (fun c => ?_) fun c => ?_⟩
      · rw [c, Bool.true_and] at q
        refine ⟨_, rfl, _, rfl, _, rfl, d1, A, a, k, rfl, h1, ha, rfl, ?_⟩
        rw [ne]
        exact q
      · rw [c, Bool.false_and] at q
        exact q
    · rw [c, Bool.false_and] at q
      exact q
abbrev nm_contradictions : List Str := ["base", "first", "second", "subject"]
theorem sc_contradictions : FnScope nm_contradictions ["base", "first", "second"] (defScope s_contradictions) := ⟨rfl, rfl, rfl, by decide +kernel, rfl, by decide +kernel, by decide +kernel⟩
def sp_contradictions (K : PySem.W.Frag) : Sp := fun vs H Q _ => ∃ (d1 d2 d3 : Addr) (A B C : Bk), vs = [.ref d1, .ref d2, .ref d3] ∧ BookAt H d1 A ∧ BookAt H d2 B ∧ BookAt H d3 C ∧ A.length ≤ 100000 ∧ B.length ≤ 100000 ∧ C.length ≤ 100000 ∧ NewK Q H (contrasB A B C)
theorem good_contradictions (T : Tx K mg) : Gd P w K mg base CX0 3 "contradictions" ["base", "first", "second"] (sp_contradictions K) := by
  obtain ⟨fd, F⟩ := T.f_contradictions
  refine ⟨_, fd, fn0 F sc_contradictions (fun vs H Q E h => ?_) (fun cdv A outer s H vs Q E hr h => ⟨_, (pss_one (ps_ret (pe_lc (own := [("subject", 3)]) (g := gName 3) rfl sc_contradictions.nd (pi_list (pe_gd (good_subjects_of (P := P) (w := w) (base := base) T) hr pass0 (pa_cons (pe_lst (pa_cons (pv 0) (pa_cons (pv 1) (pa_cons (pv 2) pa_nil)))) pa_nil))) (blkOk_by (own := [("subject", 3)]) (N := nm_contradictions) (sc := defScope s_contradictions) (by decide +kernel)) (fun _ _ _ _ _ => pg_name (i := 3) sc_contradictions.nd rfl (Or.inl rfl)) (fun _ _ _ _ _ => pts_one (pt_val (pe_gd (good_contradict (P := P) (w := w) (base := base) T) hr pass0 (pa_cons (pv 0) (pa_cons (pv 1) (pa_cons (pv 2) (pa_cons (pv 3) pa_nil))))))) (fun _ _ _ _ _ => (pv 3))))), ?_⟩), F.bindsN (fun _ _ _ _ _ _ us hl => match us, hl with | [_, _, _], _ => rfl), T.g_contradictions, F.kp⟩
  · obtain ⟨_, _, _, _, _, _, e, _⟩ := h
    subst e
    rfl
  · obtain ⟨d1, d2, d3, A, B, C, rfl, h1, h2, h3, l1, l2, l3, q⟩ := h
    refine ⟨_, rfl, _, rfl, _, rfl, fits (by simp), fun l hl => ?_⟩
    have sl := Same.new (o := .lst [V.ref d1, .ref d2, .ref d3]) hl
    have hsub := subjects_len [A, B, C]
    simp only [List.map_cons, List.map_nil, List.foldr_cons, List.foldr_nil] at hsub
    refine ⟨l, _, [A, B, C], rfl, upd_same, .cons ⟨d1, rfl, h1.same sl⟩ (.cons ⟨d2, rfl, h2.same sl⟩ (.cons ⟨d3, rfl, h3.same sl⟩ .nil)), by simp only [List.map_cons, List.map_nil, List.foldr_cons, List.foldr_nil]; omega, fun p as H1 s1 hp hpl hF => ⟨p, rfl, ⟨_, SqL.of hpl⟩, fun D hD => ?_⟩⟩
    have s01 := Same.trans' sl s1
    refine lc_fm (K := K) (xs := subjectsB [A, B, C]) (R := KeyR H1) (S := fun H v x => KeyR H v x) (fun k => if contraB A B C k = true then some k else none) hF (SqL.of hpl) (fits (by omega)) hD (fun H H' v c s h => h.kp s) ?_ ?_
    · rintro k v H' Y N hm ⟨a, rfl, ha⟩ s no yes
      have s0 := Same.trans' s01 s
      refine ⟨rfl, _, rfl, _, rfl, _, rfl, _, rfl, d1, d2, d3, a, A, B, C, k, rfl, h1.same s0, h2.same s0, h3.same s0, ha.same s, _, rfl, if_b (fun c => ?_) fun c => ?_⟩
      · exact ⟨_, rfl, yes k (if_pos c) _ _ (Same.refl _) ⟨a, rfl, ha.same s⟩⟩
      · exact no (by rw [c]; rfl) _ (Same.refl _)
    · intro vs H' s hl2 hf
      refine q D vs H' (Same.trans' s01 s) (none_of s01 hD) hl2 ?_
      rw [filterMap_if, List.map_id'] at hf
      exact hf
abbrev nm_merged_saying : List Str := ["base", "first", "second", "subject"]
theorem sc_merged_saying : FnScope nm_merged_saying ["base", "first", "second", "subject"] (defScope s_merged_saying) := ⟨rfl, rfl, rfl, by decide +kernel, rfl, by decide +kernel, by decide +kernel⟩
def sp_merged_saying (K : PySem.W.Frag) : Sp := fun vs H Q _ => ∃ (d1 d2 d3 a : Addr) (A B C : Bk) (k : Ky), vs = [.ref d1, .ref d2, .ref d3, .ref a] ∧ BookAt H d1 A ∧ BookAt H d2 B ∧ BookAt H d3 C ∧ KeyAt H a k ∧ Q (.int (mergeSay A B C k)) H
theorem good_merged_saying (T : Tx K mg) : Gd P w K mg base CX0 2 "merged_saying" ["base", "first", "second", "subject"] (sp_merged_saying K) := by
  obtain ⟨fd, F⟩ := T.f_merged_saying
  refine ⟨_, fd, fn0 F sc_merged_saying (fun vs H Q E h => ?_) (fun cdv A outer s H vs Q E hr h => ⟨_, (pss_cons (ps_if (pt_cmpR op_eq (pe_gd (good_said (P := P) (w := w) (base := base) T) hr pass0 (pa_cons (pv 1) (pa_cons (pv 3) pa_nil))) (pe_gd (good_said (P := P) (w := w) (base := base) T) hr pass0 (pa_cons (pv 0) (pa_cons (pv 3) pa_nil))) (nomark _)) (pss_one (ps_ret (pe_gd (good_said (P := P) (w := w) (base := base) T) hr pass0 (pa_cons (pv 2) (pa_cons (pv 3) pa_nil))))) pss_nil)
      (pss_one (ps_ret (pe_gd (good_said (P := P) (w := w) (base := base) T) hr pass0 (pa_cons (pv 1) (pa_cons (pv 3) pa_nil)))))), ?_⟩), F.bindsN (fun _ _ _ _ _ _ us hl => match us, hl with | [_, _, _, _], _ => rfl), T.g_merged_saying, F.kp⟩
  · obtain ⟨_, _, _, _, _, _, _, _, e, _⟩ := h
    subst e
    rfl
  · obtain ⟨d1, d2, d3, a, A, B, C, k, rfl, h1, h2, h3, ha, q⟩ := h
    unfold mergeSay at q
    refine ⟨_, rfl, _, rfl, d2, B, a, k, rfl, h2, ha, _, rfl, _, rfl, d1, A, a, k, rfl, h1, ha, rfl, ?_⟩
    rw [dec_int]
    refine ⟨_, rfl, if_b (fun c => ?_) fun c => ?_⟩
    · rw [if_pos (of_decide_eq_true c)] at q
      exact ⟨_, rfl, _, rfl, d3, C, a, k, rfl, h3, ha, q⟩
    · rw [if_neg (of_decide_eq_false c)] at q
      exact ⟨_, rfl, _, rfl, d2, B, a, k, rfl, h2, ha, q⟩
abbrev nm_merged : List Str := ["base", "first", "second", "made", "subject", "saying"]
theorem sc_merged : FnScope nm_merged ["base", "first", "second"] (defScope s_merged) := ⟨rfl, rfl, rfl, by decide +kernel, rfl, by decide +kernel, by decide +kernel⟩
def sp_merged (K : PySem.W.Frag) : Sp := fun vs H Q _ => ∃ (d1 d2 d3 : Addr) (A B C : Bk), vs = [.ref d1, .ref d2, .ref d3] ∧ BookAt H d1 A ∧ BookAt H d2 B ∧ BookAt H d3 C ∧ A.length ≤ 100000 ∧ B.length ≤ 100000 ∧ C.length ≤ 100000 ∧ NewB Q H (mergeB A B C)
theorem good_merged (T : Tx K mg) : Gd P w K mg base CX0 3 "merged" ["base", "first", "second"] (sp_merged K) := by
  obtain ⟨fd, F⟩ := T.f_merged
  refine ⟨_, fd, fn0 F sc_merged (fun vs H Q E h => ?_) (fun cdv A outer s H vs Q E hr h => ⟨_, (pss_cons (ps_set (i := 3) sc_merged.nd rfl (Or.inl rfl) pe_newX)
      (pss_cons (ps_for PassesOwn.never rfl (pi_list (pe_gd (good_subjects_of (P := P) (w := w) (base := base) T) hr pass0 (pa_cons (pe_lst (pa_cons (pv 0) (pa_cons (pv 1) (pa_cons (pv 2) pa_nil)))) pa_nil))) (pg_name (i := 4) sc_merged.nd rfl (Or.inl rfl)) (pss_cons (ps_set (i := 5) sc_merged.nd rfl (Or.inl rfl) (pe_gd (good_merged_saying (P := P) (w := w) (base := base) T) hr pass0 (pa_cons (pv 0) (pa_cons (pv 1) (pa_cons (pv 2) (pa_cons (pv 4) pa_nil))))))
      (pss_one (ps_if (pt_cmpR op_ne (pv 5) (pe_gi T.i_NOTHING) (nomark _)) (pss_one (ps_asg (pv 5) (pg_sub (pv 3) (pv 4) (set_X hr.units)))) pss_nil))))
      (pss_one (ps_ret (pv 3))))), ?_⟩), F.bindsN (fun _ _ _ _ _ _ us hl => match us, hl with | [_, _, _], _ => rfl), T.g_merged, F.kp⟩
  · obtain ⟨_, _, _, _, _, _, e, _⟩ := h
    subst e
    rfl
  · obtain ⟨d1, d2, d3, A, B, C, rfl, h1, h2, h3, l1, l2, l3, q⟩ := h
    refine fun M ep hM hX => ?_
    have sM : Same H (upd H M (DXo M ep [])) := Same.new hM
    refine ⟨_, rfl, _, rfl, _, rfl, fits (by simp), fun l hl => ?_⟩
    have sl := Same.new (o := .lst [V.ref d1, .ref d2, .ref d3]) hl
    have s0 := Same.trans' sM sl
    have hsub := subjects_len [A, B, C]
    simp only [List.map_cons, List.map_nil, List.foldr_cons, List.foldr_nil] at hsub
    refine ⟨l, _, [A, B, C], rfl, upd_same, .cons ⟨d1, rfl, h1.same s0⟩ (.cons ⟨d2, rfl, h2.same s0⟩ (.cons ⟨d3, rfl, h3.same s0⟩ .nil)), by simp only [List.map_cons, List.map_nil, List.foldr_cons, List.foldr_nil]; omega, fun p as H1 s1 hp hpl hF => ⟨p, rfl, ⟨_, SqL.of hpl⟩, ?_⟩⟩
    have s01 := Same.trans' s0 s1
    have hM1 : BookAt H1 M [] := DG.same (t := tK) s1 (DG.same (t := tK) sl (DG.new hX))
    have hMl := merge_len A B C
    refine for_each (R := KeyR H1) (xs := subjectsB [A, B, C]) hF (fun dn rs σ H' => Same H H' ∧ Kp H1 H' ∧ H' p = some (.lst as) ∧ (∃ o1 o2, σ = [some (.ref d1), some (.ref d2), some (.ref d3), some (.ref M), o1, o2]) ∧ BookAt H' M (mergeL A B C dn)) ⟨s01, Kp.refl _, hpl, ⟨_, _, rfl⟩, hM1⟩ (fun dn rs σ H' h => SqL.of h.2.2.1) ?_ ?_
    · rintro dn k rs v σ H' e ⟨a, rfl, ha⟩ ⟨s, kp, hp', ⟨o1, o2, rfl⟩, hM'⟩
      have ha' := ha.kp kp
      have hdl : dn.length < (subjectsB [A, B, C]).length := by rw [← e]; simp
      have hml := mergeL_len A B C dn
      obtain ⟨f0, hf0⟩ := DG.at_ hM'
      have hpM : p ≠ M := fun e => by rw [e, hf0] at hp'; cases hp'
      refine ⟨_, rfl, _, rfl, _, rfl, _, rfl, d1, d2, d3, a, A, B, C, k, rfl, h1.same s, h2.same s, h3.same s, ha', _, rfl, rfl, ?_⟩
      rw [show (!decide (V.int (mergeSay A B C k) = V.int 0)) = decide (mergeSay A B C k ≠ 0) by simp]
      refine ⟨_, rfl, if_b (fun c => ?_) fun c => ?_⟩
      · refine ⟨_, rfl, _, rfl, _, rfl, DG.set_ (t := tK) hM' ha' (by rw [vB_length]; exact fits' (by omega)) fun o hDG => ⟨Same.mut s hM, Kp.trans kp (DG.kpe hM'), by rw [upd_ne hpM]; exact hp', ⟨_, _, rfl⟩, ?_⟩⟩
        rw [put_vB] at hDG
        rw [mergeL_snoc, if_pos (of_decide_eq_true c)]
        exact hDG
      · refine ⟨s, kp, hp', ⟨_, _, rfl⟩, ?_⟩
        rw [mergeL_snoc, if_neg (of_decide_eq_false c)]
        exact hM'
    · rintro σ H' ⟨s, kp, hp', ⟨o1, o2, rfl⟩, hM'⟩
      exact ⟨_, rfl, q M H' s hM hM'⟩
abbrev nm_subjects_text : List Str := ["subjects", "text", "subject"]
theorem sc_subjects_text : FnScope nm_subjects_text ["subjects"] (defScope s_subjects_text) := ⟨rfl, rfl, rfl, by decide +kernel, rfl, by decide +kernel, by decide +kernel⟩
def sp_subjects_text (K : PySem.W.Frag) : Sp := fun vs H Q _ => ∃ (N : Addr) (as : List V) (ks : List Ky), vs = [.ref N] ∧ H N = some (.lst as) ∧ F2 (KeyR H) as ks ∧ ks.length ≤ 100000 ∧ (∀ k ∈ ks, k.1.length ≤ 16 ∧ k.2.length ≤ 16) ∧ NewL Q H (vn (mSubjects ks))
theorem good_subjects_text (T : Tx K mg) : Gd P w K mg base CX0 2 "subjects_text" ["subjects"] (sp_subjects_text K) := by
  obtain ⟨fd, F⟩ := T.f_subjects_text
  refine ⟨_, fd, fn0 F sc_subjects_text (fun vs H Q E h => ?_) (fun cdv A outer s H vs Q E hr h => ⟨_, (pss_cons (ps_set (i := 1) sc_subjects_text.nd rfl (Or.inl rfl) (pe_lst pa_nil))
      (pss_cons (ps_for PassesOwn.never rfl (pi_list (pv 0)) (pg_name (i := 2) sc_subjects_text.nd rfl (Or.inl rfl)) (pss_cons (ps_expr (pe_bm PySem.F.plainAttrs_list PySem.F.slot_list_extend PySem.F.type_list_extend mt_extendT (pv 1) (pa_cons (pe_ix ix_tup (pv 2) pe_int (fun _ _ => rfl)) pa_nil)))
      (pss_cons (ps_if (pt_not (pt_val (pe_gd (good_is_thing (P := P) (w := w) (base := base) T) hr pass0 (pa_cons (pv 2) pa_nil)))) (pss_cons (ps_expr (pe_bm PySem.F.plainAttrs_list PySem.F.slot_list_append PySem.F.type_list_append mt_append (pv 1) (pa_cons (pe_gi T.i_POINT) pa_nil)))
      (pss_one (ps_expr (pe_bm PySem.F.plainAttrs_list PySem.F.slot_list_extend PySem.F.type_list_extend mt_extendT (pv 1) (pa_cons (pe_ix ix_tup (pv 2) pe_int (fun _ _ => rfl)) pa_nil))))) pss_nil)
      (pss_one (ps_expr (pe_bm PySem.F.plainAttrs_list PySem.F.slot_list_append PySem.F.type_list_append mt_append (pv 1) (pa_cons (pe_gi T.i_LINE_END) pa_nil)))))))
      (pss_one (ps_ret (pv 1))))), ?_⟩), F.bindsN (fun _ _ _ _ _ _ us hl => match us, hl with | [_], _ => rfl), T.g_subjects_text, F.kp⟩
  · obtain ⟨_, _, _, e, _⟩ := h
    subst e
    rfl
  · obtain ⟨N, as, ks, rfl, hN, hF, hlen, hx, q⟩ := h
    refine ⟨fits (by simp), fun L hL => ?_⟩
    have sL : Same H (upd H L (.lst [])) := Same.new hL
    let f : Ky → List Nat := fun k => k.1 ++ ((if k.2 = [] then [] else [46] ++ k.2) ++ [10])
    have hf : ∀ k ∈ ks, (f k).length ≤ 40 := fun k m => by
      obtain ⟨h1, h2⟩ := hx k m
      show (k.1 ++ ((if k.2 = [] then [] else [46] ++ k.2) ++ [10])).length ≤ 40
      rw [List.length_append, List.length_append]
      split
      · simp only [List.length_nil, List.length_cons]; omega
      · simp only [List.length_append, List.length_nil, List.length_cons]; omega
    refine ⟨_, rfl, N, rfl, ⟨_, SqL.of (sL _ _ hN)⟩, for_each (R := KeyR H) (xs := ks) hF (fun dn rs σ H' => Same H H' ∧ (∃ m, σ = [some (.ref N), some (.ref L), m]) ∧ H' L = some (.lst (vn (dn.flatMap f)))) ⟨sL, ⟨_, rfl⟩, upd_same⟩ (fun dn rs σ H' h => SqL.of (h.1 _ _ hN)) ?_ ?_⟩
    · rintro dn k rs v σ H' e ⟨a, rfl, ha⟩ ⟨s, ⟨m, rfl⟩, hL'⟩
      have hkm : k ∈ ks := by rw [← e]; simp
      obtain ⟨x1, x2⟩ := hx k hkm
      have hdl : dn.length < ks.length := by rw [← e]; simp
      have htl := flat_len f 40 dn fun y m => hf y (by rw [← e]; exact List.mem_append_left _ m)
      have ha' := ha.same s
      obtain ⟨a1, a2, h1, h2, h3⟩ := ha'.fst (K := K)
      refine ⟨_, rfl, .inl ⟨rfl, _, SqL.of hL'⟩, _, rfl, _, _, ((0 : Nat) : Int), _, rfl, rfl, h3, atI_nat rfl, L, a1, _, _, rfl, rfl, hL', h1, fits (by rw [vn_length, vn_length]; omega), ?_⟩
      rw [← vn_app]
      have kL : Kp H' (upd H' L (.lst (vn (dn.flatMap f ++ k.1)))) := Kp.lst hL'
      have s2 : Same H (upd H' L (.lst (vn (dn.flatMap f ++ k.1)))) := Same.mut s hL
      apply with_rest2 (fun σ H2 => σ = [some (.ref N), some (.ref L), some (.ref a)] ∧ Same H H2 ∧ H2 L = some (.lst (vn (dn.flatMap f ++ k.1 ++ (if k.2 = [] then [] else [46] ++ k.2)))))
      · intro rest
        refine ⟨_, rfl, a, k, rfl, ha'.kp kL, fun H3 s3 => ⟨_, rfl, if_b ?tt ?ff⟩⟩
        case ff =>
          intro c
          have c' : k.2 = [] := by simpa using c
          exact rest _ _ ⟨rfl, Same.trans' s2 s3, by rw [if_pos c', List.append_nil]; exact s3 _ _ upd_same⟩
        case tt =>
          intro c
          have c' : ¬ k.2 = [] := by simpa using c
          have hL3 := s3 _ _ (upd_same (H := H') (a := L) (o := .lst (vn (dn.flatMap f ++ k.1))))
          obtain ⟨b1, b2, g1, g2, g3⟩ := ((ha'.kp kL).same s3).fst (K := K)
          have kL3 : Kp H3 (upd H3 L (.lst (vn (dn.flatMap f ++ k.1) ++ [V.int 46]))) := Kp.lst hL3
          obtain ⟨b1', b2', g1', g2', g3'⟩ := (((ha'.kp kL).same s3).kp kL3).fst (K := K)
          refine ⟨_, rfl, .inl ⟨rfl, _, SqL.of hL3⟩, L, _, _, rfl, rfl, hL3, fits' (by rw [vn_length, List.length_append]; omega), _, rfl, .inl ⟨rfl, _, SqL.of upd_same⟩, _, rfl, _, _, ((1 : Nat) : Int), _, rfl, rfl, g3', atI_nat rfl, L, b2', _, _, rfl, rfl, upd_same, g2', fits (by rw [List.length_append, vn_length, vn_length, List.length_append]; simp only [List.length_cons, List.length_nil]; omega), ?_⟩
          refine rest _ _ ⟨rfl, Same.mut (Same.mut (Same.trans' s2 s3) hL) hL, ?_⟩
          rw [upd_same, if_neg c', vn_app (dn.flatMap f ++ k.1), vn_app [46]]
          simp only [List.append_assoc]
          rfl
      · rintro σ H2 ⟨rfl, s2, hL2⟩
        refine ⟨_, rfl, .inl ⟨rfl, _, SqL.of hL2⟩, L, _, _, rfl, rfl, hL2, fits' ?_, Same.mut s2 hL, ⟨_, rfl⟩, ?_⟩
        · rw [vn_length, List.length_append, List.length_append]
          split
          · simp only [List.length_nil]; omega
          · simp only [List.length_append, List.length_cons, List.length_nil]; omega
        · rw [upd_same, List.flatMap_append, List.flatMap_cons, List.flatMap_nil, List.append_nil]
          show _ = some (HO.lst (vn (dn.flatMap f ++ (k.1 ++ ((if k.2 = [] then [] else [46] ++ k.2) ++ [10])))))
          rw [show dn.flatMap f ++ (k.1 ++ ((if k.2 = [] then [] else [46] ++ k.2) ++ [10])) = (dn.flatMap f ++ k.1 ++ (if k.2 = [] then [] else [46] ++ k.2)) ++ [10] by simp only [List.append_assoc], vn_app (dn.flatMap f ++ k.1 ++ (if k.2 = [] then [] else [46] ++ k.2)) [10]]
          rfl
    · rintro σ H' ⟨s, ⟨m, rfl⟩, hL'⟩
      exact ⟨_, rfl, q L H' s hL hL'⟩
end
end Fb
end
section
set_option Elab.async false
set_option maxRecDepth 100000
set_option maxHeartbeats 4000000
namespace Fb
open PySem PySem.Spec PyProof.Rows L2
section
variable {P : Program} {w : World} {K : PySem.W.Frag} {mg : Str → Option Value} {base : Heap}
abbrev nm_refuse_long : List Str := ["text"]
theorem sc_refuse_long : FnScope nm_refuse_long ["text"] (defScope s_refuse_long) := ⟨rfl, rfl, rfl, by decide +kernel, rfl, by decide +kernel, by decide +kernel⟩
def sp_refuse_long (K : PySem.W.Frag) : Sp := fun vs H Q E => ∃ (a : Addr) (T : List Nat), vs = [.ref a] ∧ TextAt H a T ∧ Ret K Q E H (fun _ v H' => v = .non ∧ H' = H) (mIf (decide (T.length > 4000)) (-1))
theorem good_refuse_long (T : Tx K mg) : Gd P w K mg base (L2.CX P w) 2 "refuse_long" ["text"] (sp_refuse_long K) := by
  obtain ⟨fd, F⟩ := T.f_refuse_long
  refine ⟨_, fd, fnX F sc_refuse_long (fun vs H Q E h => ?_) (fun cdv A outer s H vs Q E hr h => ⟨_, (pss_one (ps_expr (pe_gd (good_refuse_if (P := P) (w := w) (base := base) T) hr (passes_call (takes_of rfl rfl rfl rfl) (fun _ _ _ _ h => h)) (pa_cons (pe_cmpR op_gt (pe_callB call_len_seq (by rfl) T.b_len PySem.boot_len (pa_cons (pv 0) pa_nil)) (pe_gi T.i_MOST_BYTES) (nomark _)) (pa_cons (pe_un un_neg pe_int) pa_nil))))), ?_⟩), F.bindsN (fun _ _ _ _ _ _ us hl => match us, hl with | [_], _ => rfl), T.g_refuse_long, F.kp⟩
  · obtain ⟨_, _, e, _⟩ := h
    subst e
    rfl
  · obtain ⟨a, T', rfl, ha, R⟩ := h
    have hl : (vn T').length = T'.length := vn_length T'
    refine ⟨_, rfl, a, _, rfl, .inl (SqL.of ha), _, _, rfl, rfl, _, rfl, _, _, rfl, ?_⟩
    have e : decide ((4000 : Int) < ((vn T').length : Nat)) = decide (T'.length > 4000) := decide_eq_decide.mpr (by rw [hl]; omega)
    rw [e]
    exact ⟨fun u e v H2 s2 hv => R.done e s2 ⟨rfl, hv.2⟩, fun ans e d H2 s2 ra => R.err ans e d H2 s2 ra⟩
abbrev nm_refuse_below : List Str := ["number"]
theorem sc_refuse_below : FnScope nm_refuse_below ["number"] (defScope s_refuse_below) := ⟨rfl, rfl, rfl, by decide +kernel, rfl, by decide +kernel, by decide +kernel⟩
def sp_refuse_below (K : PySem.W.Frag) : Sp := fun vs H Q E => ∃ (n : Int), vs = [.int n] ∧ Ret K Q E H (fun _ v H' => v = .non ∧ H' = H) (mIf (decide (n < 0)) (-1))
theorem good_refuse_below (T : Tx K mg) : Gd P w K mg base (L2.CX P w) 2 "refuse_below" ["number"] (sp_refuse_below K) := by
  obtain ⟨fd, F⟩ := T.f_refuse_below
  refine ⟨_, fd, fnX F sc_refuse_below (fun vs H Q E h => ?_) (fun cdv A outer s H vs Q E hr h => ⟨_, (pss_one (ps_expr (pe_gd (good_refuse_if (P := P) (w := w) (base := base) T) hr (passes_call (takes_of rfl rfl rfl rfl) (fun _ _ _ _ h => h)) (pa_cons (pe_cmpR op_lt (pv 0) pe_int (nomark _)) (pa_cons (pe_un un_neg pe_int) pa_nil))))), ?_⟩), F.bindsN (fun _ _ _ _ _ _ us hl => match us, hl with | [_], _ => rfl), T.g_refuse_below, F.kp⟩
  · obtain ⟨_, e, _⟩ := h
    subst e
    rfl
  · obtain ⟨n, rfl, R⟩ := h
    refine ⟨_, rfl, _, _, rfl, rfl, _, rfl, _, _, rfl, ?_⟩
    exact ⟨fun u e v H2 s2 hv => R.done e s2 ⟨rfl, hv.2⟩, fun ans e d H2 s2 ra => R.err ans e d H2 s2 ra⟩
abbrev nm_refuse_no_name : List Str := ["word"]
theorem sc_refuse_no_name : FnScope nm_refuse_no_name ["word"] (defScope s_refuse_no_name) := ⟨rfl, rfl, rfl, by decide +kernel, rfl, by decide +kernel, by decide +kernel⟩
def sp_refuse_no_name (K : PySem.W.Frag) : Sp := fun vs H Q E => ∃ (a : Addr) (T : List Nat), vs = [.ref a] ∧ TextAt H a T ∧ Ret K Q E H (fun _ v H' => v = .non ∧ H' = H) (mIf (!mIsName T) (-1))
theorem good_refuse_no_name (T : Tx K mg) : Gd P w K mg base (L2.CX P w) 4 "refuse_no_name" ["word"] (sp_refuse_no_name K) := by
  obtain ⟨fd, F⟩ := T.f_refuse_no_name
  refine ⟨_, fd, fnX F sc_refuse_no_name (fun vs H Q E h => ?_) (fun cdv A outer s H vs Q E hr h => ⟨_, (pss_one (ps_expr (pe_gd (good_refuse_if (P := P) (w := w) (base := base) T) hr (passes_call (takes_of rfl rfl rfl rfl) (fun _ _ _ _ h => h)) (pa_cons (pe_not (pe_gd (good_is_name (P := P) (w := w) (base := base) T) hr pass0 (pa_cons (pv 0) pa_nil))) (pa_cons (pe_un un_neg pe_int) pa_nil))))), ?_⟩), F.bindsN (fun _ _ _ _ _ _ us hl => match us, hl with | [_], _ => rfl), T.g_refuse_no_name, F.kp⟩
  · obtain ⟨_, _, e, _⟩ := h
    subst e
    rfl
  · obtain ⟨a, T', rfl, ha, R⟩ := h
    refine ⟨_, rfl, a, T', rfl, ha, _, rfl, _, rfl, _, _, rfl, ?_⟩
    exact ⟨fun u e v H2 s2 hv => R.done e s2 ⟨rfl, hv.2⟩, fun ans e d H2 s2 ra => R.err ans e d H2 s2 ra⟩
abbrev nm_call_judge : List Str := ["text", "book"]
theorem sc_call_judge : FnScope nm_call_judge ["text"] (defScope s_call_judge) := ⟨rfl, rfl, rfl, by decide +kernel, rfl, by decide +kernel, by decide +kernel⟩
def sp_call_judge (K : PySem.W.Frag) : Sp := fun vs H Q E => ∃ (a : Addr) (T : List Nat), vs = [.ref a] ∧ TextAt H a T ∧ T.length ≤ 1000000 ∧ Ret K Q E H (AnsP H) (mJudge T)
theorem good_call_judge (T : Tx K mg) : Gd P w K mg base (L2.CX P w) 8 "call_judge" ["text"] (sp_call_judge K) := by
  obtain ⟨fd, F⟩ := T.f_call_judge
  refine ⟨_, fd, fnX F sc_call_judge (fun vs H Q E h => ?_) (fun cdv A outer s H vs Q E hr h => ⟨_, (pss_cons (ps_expr (pe_gd (good_refuse_long (P := P) (w := w) (base := base) T) hr (passes_call (takes_of rfl rfl rfl rfl) (fun _ _ _ _ h => h)) (pa_cons (pv 0) pa_nil)))
      (pss_cons (ps_set (i := 1) sc_call_judge.nd rfl (Or.inl rfl) (pe_gd (good_read_book (P := P) (w := w) (base := base) T) hr (passes_call (takes_of rfl rfl rfl rfl) (fun _ _ _ _ h => h)) (pa_cons (pv 0) pa_nil)))
      (pss_one (ps_ret (pe_lst (pa_cons pe_int (pa_cons (pe_callB call_len_seq (by rfl) T.b_len PySem.boot_len (pa_cons (pe_gd (good_things_of (P := P) (w := w) (base := base) T) hr pass0 (pa_cons (pv 1) pa_nil)) pa_nil)) (pa_cons (pe_callB call_len_seq (by rfl) T.b_len PySem.boot_len (pa_cons (pe_gd (good_accords_of (P := P) (w := w) (base := base) T) hr pass0 (pa_cons (pv 1) pa_nil)) pa_nil)) pa_nil)))))))), ?_⟩), F.bindsN (fun _ _ _ _ _ _ us hl => match us, hl with | [_], _ => rfl), T.g_call_judge, F.kp⟩
  · obtain ⟨_, _, e, _⟩ := h
    subst e
    rfl
  · obtain ⟨a, T', rfl, ha, hT, R⟩ := h
    unfold mJudge at R
    refine ⟨_, rfl, a, T', rfl, ha, R.sub (Same.refl _) (fun ans e => mLong_err e) fun u e v H2 s2 hv => ?_⟩
    obtain ⟨-, rfl⟩ := hv
    rw [mLong_ok e] at R
    refine ⟨_, rfl, a, T', rfl, ha, hT, R.sub (Same.refl _) (fun ans e => by rw [e]) fun B e v H3 s3 hv => ?_⟩
    obtain ⟨d, rfl, hd0, hd⟩ := hv
    rw [e] at R
    simp only [] at R
    refine ⟨_, rfl, d, B, rfl, hd, fun p1 v1 H4 s4 hp1 hl1 hF1 => ⟨p1, v1, rfl, .inl (SqL.of hl1), ?_⟩⟩
    refine ⟨_, rfl, d, B, rfl, hd.same s4, fun p2 v2 H5 s5 hp2 hl2 hF2 => ⟨p2, v2, rfl, .inl (SqL.of hl2), fits (by simp), fun p hp => ?_⟩⟩
    have s := Same.trans' s3 (Same.trans' s4 s5)
    refine R.done rfl (Same.trans' s (Same.new hp)) ⟨p, rfl, none_of s hp, ?_⟩
    rw [upd_same, hF1.length, hF2.length]
    rfl
abbrev nm_call_invert : List Str := ["text"]
theorem sc_call_invert : FnScope nm_call_invert ["text"] (defScope s_call_invert) := ⟨rfl, rfl, rfl, by decide +kernel, rfl, by decide +kernel, by decide +kernel⟩
def sp_call_invert (K : PySem.W.Frag) : Sp := fun vs H Q E => ∃ (a : Addr) (T : List Nat), vs = [.ref a] ∧ TextAt H a T ∧ T.length ≤ 4100 ∧ Ret K Q E H (AnsP H) (mInvert T)
theorem good_call_invert (T : Tx K mg) : Gd P w K mg base (L2.CX P w) 8 "call_invert" ["text"] (sp_call_invert K) := by
  obtain ⟨fd, F⟩ := T.f_call_invert
  refine ⟨_, fd, fnX F sc_call_invert (fun vs H Q E h => ?_) (fun cdv A outer s H vs Q E hr h => ⟨_, (pss_cons (ps_expr (pe_gd (good_refuse_long (P := P) (w := w) (base := base) T) hr (passes_call (takes_of rfl rfl rfl rfl) (fun _ _ _ _ h => h)) (pa_cons (pv 0) pa_nil)))
      (pss_one (ps_ret (pe_op op_cat (pe_lst (pa_cons pe_int pa_nil)) (pe_gd (good_change_text (P := P) (w := w) (base := base) T) hr pass0 (pa_cons (pe_gd (good_turned (P := P) (w := w) (base := base) T) hr pass0 (pa_cons (pe_gd (good_change_of (P := P) (w := w) (base := base) T) hr pass0 (pa_cons (pe_gd (good_read_change (P := P) (w := w) (base := base) T) hr (passes_call (takes_of rfl rfl rfl rfl) (fun _ _ _ _ h => h)) (pa_cons (pv 0) pa_nil)) pa_nil)) pa_nil)) pa_nil)))))), ?_⟩), F.bindsN (fun _ _ _ _ _ _ us hl => match us, hl with | [_], _ => rfl), T.g_call_invert, F.kp⟩
  · obtain ⟨_, _, e, _⟩ := h
    subst e
    rfl
  · obtain ⟨a, T', rfl, ha, hT, R⟩ := h
    unfold mInvert at R
    refine ⟨_, rfl, a, T', rfl, ha, R.sub (Same.refl _) (fun ans e => mLong_err e) fun u e v H2 s2 hv => ?_⟩
    obtain ⟨-, rfl⟩ := hv
    rw [mLong_ok e] at R
    refine ⟨fits (by simp), fun z hz => ?_⟩
    have sz := Same.new (o := .lst [V.int 0]) hz
    refine ⟨_, rfl, a, T', rfl, sz _ _ ha, by omega, R.sub sz (fun ans e => by rw [e]) fun ls e v H3 s3 hv => ?_⟩
    obtain ⟨L, as, rfl, hL, hLl, hF⟩ := hv
    have hok := mReadChange_ok e hT
    rw [e] at R
    simp only [] at R
    refine ⟨L, as, ls, rfl, hLl, hF, hok.2.1, fun c H4 s4 hc => ⟨c, _, rfl, hc, fun c2 H5 s5 hc2 => ⟨c2, _, rfl, hc2, ⟨hok.1.coming, hok.1.going⟩, fun p H6 s6 hp hpl => ?_⟩⟩⟩
    have s36 := Same.trans' s3 (Same.trans' s4 (Same.trans' s5 s6))
    refine cat_ok (x := [0]) (s36 _ _ upd_same) hpl ?_ fun r hr => ?_
    · have : (mChangeText ⟨(mChangeOf ls).coming, (mChangeOf ls).going⟩).length ≤ 200 * ((mChangeOf ls).coming.length + (mChangeOf ls).going.length) := changeText_len ⟨hok.1.coming, hok.1.going⟩
      have := hok.2.2
      simp only [List.length_cons, List.length_nil]
      omega
    have s := Same.trans' sz s36
    refine R.done rfl (Same.trans' s (Same.new hr)) ⟨r, rfl, none_of s hr, ?_⟩
    rw [upd_same, List.map_cons, asInts_vn]
    rfl
abbrev nm_Shelf_init : List Str := ["self"]
theorem sc_Shelf_init : FnScope nm_Shelf_init ["self"] (defScope s_Shelf_init) := ⟨rfl, rfl, rfl, by decide +kernel, rfl, by decide +kernel, by decide +kernel⟩
def sp_Shelf_init (K : PySem.W.Frag) : Sp := fun vs H Q _ => ∃ (x dx : Addr), vs = [.ref x] ∧ H x = some (.ins (He.ga K "Shelf") dx []) ∧ ∀ L, H L = none → Q .non (upd (upd H L (.lst [])) x (.ins (He.ga K "Shelf") dx [("versions", .ref L)]))
theorem good_Shelf_init (T : Tx K mg) : Cd P w K mg base 1 "Shelf" (He.ga K "Shelf") ["self"] (sp_Shelf_init K) := by
  obtain ⟨fd, F⟩ := T.f_Shelf_init
  refine ⟨_, fd, fn0 F sc_Shelf_init (fun vs H Q E h => ?_) (fun cdv A outer s H vs Q E hr h => ⟨_, (pss_one (ps_fld (pv 0) (pe_lst pa_nil) rfl)), ?_⟩), F.bindsN (fun _ _ _ _ _ _ us hl => match us, hl with | [_], _ => rfl), T.g_Shelf, T.k_Shelf⟩
  · obtain ⟨_, _, e, _⟩ := h
    subst e
    rfl
  · obtain ⟨x, dx, rfl, hx, q⟩ := h
    exact ⟨fits (by simp), fun L hL => ⟨_, rfl, x, _, dx, _, rfl, Same.new hL _ _ hx, T.c_Shelf, T.n_Shelf_versions, few0, q L hL⟩⟩
abbrev nm_Shelf_version : List Str := ["self", "number"]
theorem sc_Shelf_version : FnScope nm_Shelf_version ["self", "number"] (defScope s_Shelf_version) := ⟨rfl, rfl, rfl, by decide +kernel, rfl, by decide +kernel, by decide +kernel⟩
def sp_Shelf_version (K : PySem.W.Frag) : Sp := fun vs H Q E => ∃ (a L : Addr) (S : Sh) (n : Int), vs = [.ref a, .int n] ∧ ShelfAt K H a L S ∧ 0 ≤ n ∧ Ret K Q E H (fun B v H' => H' = H ∧ BookR H v B) (mVersion S n)
theorem good_Shelf_version (T : Tx K mg) : Md P w K mg base (L2.CX P w) 2 (He.ga K "Shelf") "version" ["self", "number"] (sp_Shelf_version K) := by
  obtain ⟨fd, F⟩ := T.f_Shelf_version
  refine ⟨_, fd, fnX F sc_Shelf_version (fun vs H Q E h => ?_) (fun cdv A outer s H vs Q E hr h => ⟨_, (pss_cons (ps_expr (pe_gd (good_refuse_if (P := P) (w := w) (base := base) T) hr (passes_call (takes_of rfl rfl rfl rfl) (fun _ _ _ _ h => h)) (pa_cons (pe_cmpR op_ge (pv 1) (pe_callB call_len_seq (by rfl) T.b_len PySem.boot_len (pa_cons (pe_fld (pv 0) rfl) pa_nil)) (nomark _)) (pa_cons (pe_un un_neg pe_int) pa_nil))))
      (pss_one (ps_ret (pe_ix ix_list (pe_fld (pv 0) rfl) (pv 1) (fun _ _ => rfl))))), ?_⟩), F.bindsN (fun _ _ _ _ _ _ us hl => match us, hl with | [_, _], _ => rfl), T.m_Shelf_version⟩
  · obtain ⟨_, _, _, _, e, _⟩ := h
    subst e
    rfl
  · obtain ⟨a, L, S, n, rfl, ⟨dx, vs, h1, h2, h3⟩, hn, R⟩ := h
    have hl := h3.length
    unfold mVersion at R
    refine ⟨_, rfl, _, rfl, a, _, dx, _, _, rfl, h1, T.c_Shelf, T.n_Shelf_versions, rfl, L, _, rfl, .inl (SqL.of h2), _, _, rfl, rfl, _, rfl, _, _, rfl, R.sub (Same.refl _) (fun ans e => ?_) fun u e v H2 s2 hv => ?_⟩
    · obtain ⟨c, rfl⟩ := mIf_err e
      have c' : n ≥ S.length := by have := of_decide_eq_true c; omega
      rw [if_pos c']
    · obtain ⟨-, rfl⟩ := hv
      have c := of_decide_eq_false (mIf_ok e)
      have c' : ¬ n ≥ S.length := by omega
      rw [if_neg c'] at R
      have hi : n.toNat < S.length := by omega
      obtain ⟨v, hv, hB⟩ := h3.get' (List.getElem?_eq_getElem hi)
      rw [List.getElem?_eq_getElem hi] at R
      refine ⟨_, rfl, a, _, dx, _, _, rfl, h1, T.c_Shelf, T.n_Shelf_versions, rfl, _, rfl, L, _, _, _, rfl, rfl, SqL.of h2, ?_, R.done rfl (Same.refl _) ⟨rfl, hB⟩⟩
      have := atI_nat hv
      rwa [show ((n.toNat : Nat) : Int) = n by omega] at this
abbrev nm_Shelf_version_with : List Str := ["self", "number", "name", "book"]
theorem sc_Shelf_version_with : FnScope nm_Shelf_version_with ["self", "number", "name"] (defScope s_Shelf_version_with) := ⟨rfl, rfl, rfl, by decide +kernel, rfl, by decide +kernel, by decide +kernel⟩
def sp_Shelf_version_with (K : PySem.W.Frag) : Sp := fun vs H Q E => ∃ (a L o : Addr) (S : Sh) (n : Int) (x : Nm), vs = [.ref a, .int n, .ref o] ∧ ShelfAt K H a L S ∧ 0 ≤ n ∧ NameAt H o x ∧ Ret K Q E H (fun B v H' => BookR H' v B) (mVersionWith S n x)
theorem good_Shelf_version_with (T : Tx K mg) : Md P w K mg base (L2.CX P w) 3 (He.ga K "Shelf") "version_with" ["self", "number", "name"] (sp_Shelf_version_with K) := by
  obtain ⟨fd, F⟩ := T.f_Shelf_version_with
  refine ⟨_, fd, fnX F sc_Shelf_version_with (fun vs H Q E h => ?_) (fun cdv A outer s H vs Q E hr h => ⟨_, (pss_cons (ps_set (i := 3) sc_Shelf_version_with.nd rfl (Or.inl rfl) (pe_md (good_Shelf_version (P := P) (w := w) (base := base) T) (pv 0) T.c_Shelf hr (passes_call (takes_of rfl rfl rfl rfl) (fun _ _ _ _ h => h)) (pa_cons (pv 1) pa_nil)))
      (pss_cons (ps_expr (pe_gd (good_refuse_if (P := P) (w := w) (base := base) T) hr (passes_call (takes_of rfl rfl rfl rfl) (fun _ _ _ _ h => h)) (pa_cons (pe_not (pe_gd (good_has_thing (P := P) (w := w) (base := base) T) hr pass0 (pa_cons (pv 3) (pa_cons (pv 2) pa_nil)))) (pa_cons (pe_un un_neg pe_int) pa_nil))))
      (pss_one (ps_ret (pv 3))))), ?_⟩), F.bindsN (fun _ _ _ _ _ _ us hl => match us, hl with | [_, _, _], _ => rfl), T.m_Shelf_version_with⟩
  · obtain ⟨_, _, _, _, _, _, e, _⟩ := h
    subst e
    rfl
  · obtain ⟨a, L, o, S, n, x, rfl, hS, hn, ho, R⟩ := h
    unfold mVersionWith at R
    obtain ⟨dx, vs, h1, h2, h3⟩ := hS
    refine ⟨_, rfl, a, dx, _, rfl, h1, rfl, _, rfl, a, L, S, n, rfl, ⟨dx, vs, h1, h2, h3⟩, hn, R.sub (Same.refl _) (fun ans e => by rw [e]) fun B e v H2 s2 hv => ?_⟩
    obtain ⟨rfl, d, rfl, hd⟩ := hv
    rw [e] at R
    simp only [] at R
    refine ⟨_, rfl, _, rfl, d, B, o, x, rfl, hd, ho, fun H3 s3 => ⟨_, rfl, _, rfl, _, _, rfl, R.sub s3 (fun ans e => ?_) fun u e v H4 s4 hv => ?_⟩⟩
    · obtain ⟨c, rfl⟩ := mIf_err e
      rw [if_pos (by simpa using c)]
    · obtain ⟨-, rfl⟩ := hv
      have c : hasB B x = true := by simpa using mIf_ok e
      rw [if_neg (by rw [c]; exact Bool.noConfusion)] at R
      exact ⟨_, rfl, R.done rfl s3 ⟨d, rfl, hd.same s3⟩⟩
abbrev nm_Shelf_keep : List Str := ["self", "book"]
theorem sc_Shelf_keep : FnScope nm_Shelf_keep ["self", "book"] (defScope s_Shelf_keep) := ⟨rfl, rfl, rfl, by decide +kernel, rfl, by decide +kernel, by decide +kernel⟩
def sp_Shelf_keep (K : PySem.W.Frag) : Sp := fun vs H Q E => ∃ (a L d : Addr) (S : Sh) (B : Bk), vs = [.ref a, .ref d] ∧ ShelfAt K H a L S ∧ BookAt H d B ∧ RetC K Q E H a L (mKeep S B)
theorem good_Shelf_keep (T : Tx K mg) : Md P w K mg base (L2.CX P w) 2 (He.ga K "Shelf") "keep" ["self", "book"] (sp_Shelf_keep K) := by
  obtain ⟨fd, F⟩ := T.f_Shelf_keep
  refine ⟨_, fd, fnX F sc_Shelf_keep (fun vs H Q E h => ?_) (fun cdv A outer s H vs Q E hr h => ⟨_, (pss_cons (ps_expr (pe_gd (good_refuse_if (P := P) (w := w) (base := base) T) hr (passes_call (takes_of rfl rfl rfl rfl) (fun _ _ _ _ h => h)) (pa_cons (pe_cmpR op_ge (pe_callB call_len_seq (by rfl) T.b_len PySem.boot_len (pa_cons (pe_fld (pv 0) rfl) pa_nil)) (pe_gi T.i_MOST_VERSIONS) (nomark _)) (pa_cons (pe_un un_neg pe_int) pa_nil))))
      (pss_cons (ps_expr (pe_bm PySem.F.plainAttrs_list PySem.F.slot_list_append PySem.F.type_list_append mt_append (pe_fld (pv 0) rfl) (pa_cons (pv 1) pa_nil)))
      (pss_one (ps_ret (pe_lst (pa_cons pe_int (pa_cons (pe_op op_sub (pe_callB call_len_seq (by rfl) T.b_len PySem.boot_len (pa_cons (pe_fld (pv 0) rfl) pa_nil)) pe_int) pa_nil))))))), ?_⟩), F.bindsN (fun _ _ _ _ _ _ us hl => match us, hl with | [_, _], _ => rfl), T.m_Shelf_keep⟩
  · obtain ⟨_, _, _, _, _, e, _⟩ := h
    subst e
    rfl
  · obtain ⟨a, L, d, S, B, rfl, ⟨dx, vs, h1, h2, h3⟩, hd, R⟩ := h
    have hl := h3.length
    unfold mKeep at R
    refine ⟨_, rfl, a, _, dx, _, _, rfl, h1, T.c_Shelf, T.n_Shelf_versions, rfl, L, _, rfl, .inl (SqL.of h2), _, _, rfl, rfl, _, rfl, _, _, rfl, R.sub (Same.refl _) (fun ans e => ?_) fun u e v H2 s2 hv => ?_⟩
    · obtain ⟨c, rfl⟩ := mIf_err e
      rw [if_pos (by have := of_decide_eq_true c; omega)]
    · obtain ⟨-, rfl⟩ := hv
      have c := of_decide_eq_false (mIf_ok e)
      have c' : S.length < 12 := by omega
      rw [if_neg (by omega)] at R
      have nLa : L ≠ a := fun e => by rw [e, h1] at h2; cases h2
      refine ⟨_, rfl, a, _, dx, _, _, rfl, h1, T.c_Shelf, T.n_Shelf_versions, rfl, .inl ⟨rfl, _, SqL.of h2⟩, _, rfl, L, vs, _, rfl, rfl, h2, fits' (by omega), ?_⟩
      have h1' : upd H2 L (.lst (vs ++ [.ref d])) a = some (.ins (He.ga K "Shelf") dx [("versions", .ref L)]) := by rw [upd_ne (Ne.symm nLa)]; exact h1
      refine ⟨_, rfl, a, _, dx, _, _, rfl, h1', T.c_Shelf, T.n_Shelf_versions, rfl, L, _, rfl, .inl (SqL.of upd_same), _, _, rfl, rfl, fits (by simp), fun p hp => ?_⟩
      have hp0 : H2 p = none := by
        rw [upd_ne (fun e => by rw [e, upd_same] at hp; cases hp)] at hp
        exact hp
      have sp := Same.new (o := .lst [V.int 0, V.int (((vs ++ [V.ref d]).length : Nat) - 1 : Int)]) hp
      refine R.ok _ rfl _ _ ⟨fun b o nb e => ?_, ⟨dx, vs ++ [.ref d], sp _ _ h1', sp _ _ upd_same, ?_⟩, p, rfl, hp0, ?_⟩
      · exact sp _ _ (by rw [upd_ne nb]; exact e)
      · have fr : ∀ v B, BookR H2 v B → BookR (upd (upd H2 L (.lst (vs ++ [.ref d]))) p (.lst [V.int 0, V.int (((vs ++ [V.ref d]).length : Nat) - 1 : Int)])) v B := fun v B hB => BookR.same sp (hB.frame (fun b xs e => by rw [upd_ne (fun z => by rw [z, h2] at e; cases e)]; exact e) fun b f e => by rw [upd_ne (fun z => by rw [z, h2] at e; cases e)]; exact e)
        exact (h3.imp fun _ _ q => fr _ _ q).snoc (fr _ _ ⟨d, rfl, hd⟩)
      · show upd _ p (.lst [V.int 0, V.int (((vs ++ [V.ref d]).length : Nat) - 1 : Int)]) p = _
        rw [upd_same, List.length_append, hl]
        simp
abbrev nm_Shelf_keep_if_right : List Str := ["self", "book"]
theorem sc_Shelf_keep_if_right : FnScope nm_Shelf_keep_if_right ["self", "book"] (defScope s_Shelf_keep_if_right) := ⟨rfl, rfl, rfl, by decide +kernel, rfl, by decide +kernel, by decide +kernel⟩
def sp_Shelf_keep_if_right (K : PySem.W.Frag) : Sp := fun vs H Q E => ∃ (a L d : Addr) (S : Sh) (B : Bk), vs = [.ref a, .ref d] ∧ ShelfAt K H a L S ∧ BookAt H d B ∧ B.length ≤ 1000000 ∧ RetC K Q E H a L (mKeepRight S B)
theorem good_Shelf_keep_if_right (T : Tx K mg) : Md P w K mg base (L2.CX P w) 5 (He.ga K "Shelf") "keep_if_right" ["self", "book"] (sp_Shelf_keep_if_right K) := by
  obtain ⟨fd, F⟩ := T.f_Shelf_keep_if_right
  refine ⟨_, fd, fnX F sc_Shelf_keep_if_right (fun vs H Q E h => ?_) (fun cdv A outer s H vs Q E hr h => ⟨_, (pss_cons (ps_expr (pe_gd (good_refuse_if (P := P) (w := w) (base := base) T) hr (passes_call (takes_of rfl rfl rfl rfl) (fun _ _ _ _ h => h)) (pa_cons (pe_not (pe_gd (good_is_right (P := P) (w := w) (base := base) T) hr pass0 (pa_cons (pv 1) pa_nil))) (pa_cons (pe_un un_neg pe_int) pa_nil))))
      (pss_one (ps_ret (pe_md (good_Shelf_keep (P := P) (w := w) (base := base) T) (pv 0) T.c_Shelf hr (passes_call (takes_of rfl rfl rfl rfl) (fun _ _ _ _ h => h)) (pa_cons (pv 1) pa_nil))))), ?_⟩), F.bindsN (fun _ _ _ _ _ _ us hl => match us, hl with | [_, _], _ => rfl), T.m_Shelf_keep_if_right⟩
  · obtain ⟨_, _, _, _, _, e, _⟩ := h
    subst e
    rfl
  · obtain ⟨a, L, d, S, B, rfl, hS, hd, hlen, R⟩ := h
    unfold mKeepRight at R
    refine ⟨_, rfl, d, B, rfl, hd, hlen, fun H1 s1 => ⟨_, rfl, _, rfl, _, _, rfl, R.sub s1 (fun ans e => ?_) fun u e v H2 s2 hv => ?_⟩⟩
    · obtain ⟨c, rfl⟩ := mIf_err e
      rw [if_pos (by simpa using c)]
    · obtain ⟨-, rfl⟩ := hv
      have c : rightB B = true := by simpa using mIf_ok e
      rw [if_neg (by rw [c]; exact Bool.noConfusion)] at R
      obtain ⟨dx, vs, h1, h2, h3⟩ := hS.same s1
      exact ⟨_, rfl, a, dx, _, rfl, h1, rfl, _, rfl, a, L, d, S, B, rfl, hS.same s1, hd.same s1, R.last s1⟩
end
end Fb
end
section
set_option Elab.async false
set_option maxRecDepth 100000
set_option maxHeartbeats 4000000
namespace Fb
open PySem PySem.Spec PyProof.Rows L2
section
variable {P : Program} {w : World} {K : PySem.W.Frag} {mg : Str → Option Value} {base : Heap}
abbrev nm_Shelf_call_read : List Str := ["self", "text"]
theorem sc_Shelf_call_read : FnScope nm_Shelf_call_read ["self", "text"] (defScope s_Shelf_call_read) := ⟨rfl, rfl, rfl, by decide +kernel, rfl, by decide +kernel, by decide +kernel⟩
def sp_Shelf_call_read (K : PySem.W.Frag) : Sp := fun vs H Q E => ∃ (a L t : Addr) (S : Sh) (T : List Nat), vs = [.ref a, .ref t] ∧ ShelfAt K H a L S ∧ TextAt H t T ∧ T.length ≤ 4100 ∧ RetC K Q E H a L (mRead S T)
theorem good_Shelf_call_read (T : Tx K mg) : Md P w K mg base (L2.CX P w) 8 (He.ga K "Shelf") "call_read" ["self", "text"] (sp_Shelf_call_read K) := by
  obtain ⟨fd, F⟩ := T.f_Shelf_call_read
  refine ⟨_, fd, fnX F sc_Shelf_call_read (fun vs H Q E h => ?_) (fun cdv A outer s H vs Q E hr h => ⟨_, (pss_cons (ps_expr (pe_gd (good_refuse_long (P := P) (w := w) (base := base) T) hr (passes_call (takes_of rfl rfl rfl rfl) (fun _ _ _ _ h => h)) (pa_cons (pv 1) pa_nil)))
      (pss_one (ps_ret (pe_md (good_Shelf_keep (P := P) (w := w) (base := base) T) (pv 0) T.c_Shelf hr (passes_call (takes_of rfl rfl rfl rfl) (fun _ _ _ _ h => h)) (pa_cons (pe_gd (good_read_book (P := P) (w := w) (base := base) T) hr (passes_call (takes_of rfl rfl rfl rfl) (fun _ _ _ _ h => h)) (pa_cons (pv 1) pa_nil)) pa_nil))))), ?_⟩), F.bindsN (fun _ _ _ _ _ _ us hl => match us, hl with | [_, _], _ => rfl), T.m_Shelf_call_read⟩
  · obtain ⟨_, _, _, _, _, e, _⟩ := h
    subst e
    rfl
  · obtain ⟨a, L, t, S, T', rfl, hS, ht, hT, R⟩ := h
    unfold mRead at R
    refine ⟨_, rfl, t, T', rfl, ht, R.sub (Same.refl _) (fun ans e => mLong_err e) fun u e w H2 s2 hv => ?_⟩
    obtain ⟨-, rfl⟩ := hv
    rw [mLong_ok e] at R
    obtain ⟨dx, vs, h1, h2, h3⟩ := hS
    refine ⟨_, rfl, a, dx, _, rfl, h1, rfl, _, rfl, t, T', rfl, ht, by omega, R.sub (Same.refl _) (fun ans e => by rw [e]) fun B e w H3 s3 hv => ?_⟩
    obtain ⟨d, rfl, hd0, hd⟩ := hv
    rw [e] at R
    simp only [] at R
    exact ⟨a, L, d, S, B, rfl, ShelfAt.same ⟨dx, vs, h1, h2, h3⟩ s3, hd, R.last s3⟩
abbrev nm_Shelf_call_text : List Str := ["self", "v"]
theorem sc_Shelf_call_text : FnScope nm_Shelf_call_text ["self", "v"] (defScope s_Shelf_call_text) := ⟨rfl, rfl, rfl, by decide +kernel, rfl, by decide +kernel, by decide +kernel⟩
def sp_Shelf_call_text (K : PySem.W.Frag) : Sp := fun vs H Q E => ∃ (a L : Addr) (S : Sh) (v : Int), vs = [.ref a, .int v] ∧ ShelfAt K H a L S ∧ ShOk S ∧ Ret K Q E H (AnsP H) (mCallText S v)
theorem good_Shelf_call_text (T : Tx K mg) : Md P w K mg base (L2.CX P w) 4 (He.ga K "Shelf") "call_text" ["self", "v"] (sp_Shelf_call_text K) := by
  obtain ⟨fd, F⟩ := T.f_Shelf_call_text
  refine ⟨_, fd, fnX F sc_Shelf_call_text (fun vs H Q E h => ?_) (fun cdv A outer s H vs Q E hr h => ⟨_, (pss_cons (ps_expr (pe_gd (good_refuse_below (P := P) (w := w) (base := base) T) hr (passes_call (takes_of rfl rfl rfl rfl) (fun _ _ _ _ h => h)) (pa_cons (pv 1) pa_nil)))
      (pss_one (ps_ret (pe_op op_cat (pe_lst (pa_cons pe_int pa_nil)) (pe_gd (good_book_text (P := P) (w := w) (base := base) T) hr pass0 (pa_cons (pe_md (good_Shelf_version (P := P) (w := w) (base := base) T) (pv 0) T.c_Shelf hr (passes_call (takes_of rfl rfl rfl rfl) (fun _ _ _ _ h => h)) (pa_cons (pv 1) pa_nil)) pa_nil)))))), ?_⟩), F.bindsN (fun _ _ _ _ _ _ us hl => match us, hl with | [_, _], _ => rfl), T.m_Shelf_call_text⟩
  · obtain ⟨_, _, _, _, e, _⟩ := h
    subst e
    rfl
  · obtain ⟨a, L, S, v, rfl, hS, hok, R⟩ := h
    unfold mCallText mOne at R
    refine ⟨_, rfl, v, rfl, R.sub (Same.refl _) (fun ans e => mBelow_err e) fun u e w H2 s2 hv => ?_⟩
    obtain ⟨-, rfl⟩ := hv
    obtain ⟨eb, hv0⟩ := mBelow_ok e
    rw [eb] at R
    
    refine ⟨fits (by simp), fun z hz => ?_⟩
    have sz := Same.new (o := .lst [V.int 0]) hz
    have hS' := hS.same sz
    obtain ⟨dx, vs, h1, h2, h3⟩ := hS'
    refine ⟨_, rfl, a, dx, _, rfl, h1, rfl, _, rfl, a, L, S, v, rfl, ⟨dx, vs, h1, h2, h3⟩, hv0, R.sub sz (fun ans e => by rw [e]) fun B e w H3 s3 hv => ?_⟩
    obtain ⟨rfl, d, rfl, hd⟩ := hv
    have hB := hok B (mVersion_mem e)
    rw [e] at R
    simp only [] at R
    have := mText_len hB.ok
    have := hB.len
    exact ⟨d, B, rfl, hd, hB.ok, fun p H4 s4 hp hpl => zero_cat (n := 0) R (Same.trans' sz s4) (s4 _ _ upd_same) hpl (by omega) rfl⟩
abbrev nm_Shelf_call_count : List Str := ["self", "v", "book"]
theorem sc_Shelf_call_count : FnScope nm_Shelf_call_count ["self", "v"] (defScope s_Shelf_call_count) := ⟨rfl, rfl, rfl, by decide +kernel, rfl, by decide +kernel, by decide +kernel⟩
def sp_Shelf_call_count (K : PySem.W.Frag) : Sp := fun vs H Q E => ∃ (a L : Addr) (S : Sh) (v : Int), vs = [.ref a, .int v] ∧ ShelfAt K H a L S ∧ Ret K Q E H (AnsP H) (mCount S v)
theorem good_Shelf_call_count (T : Tx K mg) : Md P w K mg base (L2.CX P w) 4 (He.ga K "Shelf") "call_count" ["self", "v"] (sp_Shelf_call_count K) := by
  obtain ⟨fd, F⟩ := T.f_Shelf_call_count
  refine ⟨_, fd, fnX F sc_Shelf_call_count (fun vs H Q E h => ?_) (fun cdv A outer s H vs Q E hr h => ⟨_, (pss_cons (ps_expr (pe_gd (good_refuse_below (P := P) (w := w) (base := base) T) hr (passes_call (takes_of rfl rfl rfl rfl) (fun _ _ _ _ h => h)) (pa_cons (pv 1) pa_nil)))
      (pss_cons (ps_set (i := 2) sc_Shelf_call_count.nd rfl (Or.inl rfl) (pe_md (good_Shelf_version (P := P) (w := w) (base := base) T) (pv 0) T.c_Shelf hr (passes_call (takes_of rfl rfl rfl rfl) (fun _ _ _ _ h => h)) (pa_cons (pv 1) pa_nil)))
      (pss_one (ps_ret (pe_lst (pa_cons pe_int (pa_cons (pe_callB call_len_seq (by rfl) T.b_len PySem.boot_len (pa_cons (pe_gd (good_things_of (P := P) (w := w) (base := base) T) hr pass0 (pa_cons (pv 2) pa_nil)) pa_nil)) (pa_cons (pe_callB call_len_seq (by rfl) T.b_len PySem.boot_len (pa_cons (pe_gd (good_accords_of (P := P) (w := w) (base := base) T) hr pass0 (pa_cons (pv 2) pa_nil)) pa_nil)) (pa_cons (pe_callB call_lenX (by rfl) T.b_len PySem.boot_len (pa_cons (pv 2) pa_nil)) pa_nil))))))))), ?_⟩), F.bindsN (fun _ _ _ _ _ _ us hl => match us, hl with | [_, _], _ => rfl), T.m_Shelf_call_count⟩
  · obtain ⟨_, _, _, _, e, _⟩ := h
    subst e
    rfl
  · obtain ⟨a, L, S, v, rfl, hS, R⟩ := h
    unfold mCount mOne at R
    refine ⟨_, rfl, v, rfl, R.sub (Same.refl _) (fun ans e => mBelow_err e) fun u e w H2 s2 hv => ?_⟩
    obtain ⟨-, rfl⟩ := hv
    obtain ⟨eb, hv0⟩ := mBelow_ok e
    rw [eb] at R
    
    obtain ⟨dx, vs, h1, h2, h3⟩ := hS
    refine ⟨_, rfl, a, dx, _, rfl, h1, rfl, _, rfl, a, L, S, v, rfl, ⟨dx, vs, h1, h2, h3⟩, hv0, R.sub (Same.refl _) (fun ans e => by rw [e]) fun B e w H3 s3 hv => ?_⟩
    obtain ⟨rfl, d, rfl, hd⟩ := hv
    rw [e] at R
    simp only [] at R
    refine ⟨_, rfl, d, B, rfl, hd, fun p1 v1 H4 s4 hp1 hl1 hF1 => ⟨p1, v1, rfl, .inl (SqL.of hl1), ?_⟩⟩
    refine ⟨_, rfl, d, B, rfl, hd.same s4, fun p2 v2 H5 s5 hp2 hl2 hF2 => ⟨p2, v2, rfl, .inl (SqL.of hl2), ?_⟩⟩
    have s := Same.trans' s4 s5
    obtain ⟨ep, xs, x1, x2⟩ := DG.lens (hd.same s)
    refine ⟨_, rfl, d, ep, xs, rfl, x1, fits (by simp), fun p hp => R.done rfl (Same.trans' s (Same.new hp)) ⟨p, rfl, none_of s hp, ?_⟩⟩
    rw [upd_same, hF1.length, hF2.length, x2, vB_length]
    rfl
abbrev nm_Shelf_call_same : List Str := ["self", "v", "w"]
theorem sc_Shelf_call_same : FnScope nm_Shelf_call_same ["self", "v", "w"] (defScope s_Shelf_call_same) := ⟨rfl, rfl, rfl, by decide +kernel, rfl, by decide +kernel, by decide +kernel⟩
def sp_Shelf_call_same (K : PySem.W.Frag) : Sp := fun vs H Q E => ∃ (a L : Addr) (S : Sh) (v w : Int), vs = [.ref a, .int v, .int w] ∧ ShelfAt K H a L S ∧ Ret K Q E H (AnsP H) (mCallSame S v w)
theorem good_Shelf_call_same (T : Tx K mg) : Md P w K mg base (L2.CX P w) 3 (He.ga K "Shelf") "call_same" ["self", "v", "w"] (sp_Shelf_call_same K) := by
  obtain ⟨fd, F⟩ := T.f_Shelf_call_same
  refine ⟨_, fd, fnX F sc_Shelf_call_same (fun vs H Q E h => ?_) (fun cdv A outer s H vs Q E hr h => ⟨_, (pss_cons (ps_expr (pe_gd (good_refuse_below (P := P) (w := w) (base := base) T) hr (passes_call (takes_of rfl rfl rfl rfl) (fun _ _ _ _ h => h)) (pa_cons (pe_callB (call_min2 rfl) (by rfl) T.b_min (by decide +kernel) (pa_cons (pv 1) (pa_cons (pv 2) pa_nil))) pa_nil)))
      (pss_cons (ps_if (pt_cmpR (op_eqX hr.units) (pe_md (good_Shelf_version (P := P) (w := w) (base := base) T) (pv 0) T.c_Shelf hr (passes_call (takes_of rfl rfl rfl rfl) (fun _ _ _ _ h => h)) (pa_cons (pv 1) pa_nil)) (pe_md (good_Shelf_version (P := P) (w := w) (base := base) T) (pv 0) T.c_Shelf hr (passes_call (takes_of rfl rfl rfl rfl) (fun _ _ _ _ h => h)) (pa_cons (pv 2) pa_nil)) (nomark _)) (pss_one (ps_ret (pe_lst (pa_cons pe_int (pa_cons pe_int pa_nil))))) pss_nil)
      (pss_one (ps_ret (pe_lst (pa_cons pe_int (pa_cons pe_int pa_nil))))))), ?_⟩), F.bindsN (fun _ _ _ _ _ _ us hl => match us, hl with | [_, _, _], _ => rfl), T.m_Shelf_call_same⟩
  · obtain ⟨_, _, _, _, _, e, _⟩ := h
    subst e
    rfl
  · obtain ⟨a, L, S, v, w, rfl, hS, R⟩ := h
    unfold mCallSame mTwo at R
    have emin : (if w < v then w else v) = min v w := by split <;> omega
    refine ⟨_, rfl, _, rfl, v, w, rfl, ?_⟩
    rw [emin]
    refine ⟨_, rfl, R.sub (Same.refl _) (fun ans e => mBelow_err e) fun u e x H2 s2 hv => ?_⟩
    obtain ⟨-, rfl⟩ := hv
    obtain ⟨eb, hv0⟩ := mBelow_ok e
    rw [eb] at R
    have hv1 : 0 ≤ v := by omega
    have hv2 : 0 ≤ w := by omega
    
    obtain ⟨dx, vs, h1, h2, h3⟩ := hS
    refine ⟨_, rfl, a, dx, _, rfl, h1, rfl, _, rfl, a, L, S, v, rfl, ⟨dx, vs, h1, h2, h3⟩, hv1, R.sub (Same.refl _) (fun ans e => by rw [e]) fun B e x H3 s3 hv => ?_⟩
    obtain ⟨rfl, d, rfl, hd⟩ := hv
    rw [e] at R
    simp only [] at R
    refine ⟨_, rfl, a, dx, _, rfl, h1, rfl, _, rfl, a, L, S, w, rfl, ⟨dx, vs, h1, h2, h3⟩, hv2, R.sub (Same.refl _) (fun ans e => by rw [e]) fun C e x H3 s3 hv => ?_⟩
    obtain ⟨rfl, d2, rfl, hd2⟩ := hv
    rw [e] at R
    simp only [] at R
    refine hd.eq hd2 ⟨_, rfl, if_b (fun c => ?_) fun c => ?_⟩
    · rw [if_pos c] at R
      exact ⟨fits (by simp), fun p hp => R.done rfl (Same.new hp) ⟨p, rfl, hp, upd_same⟩⟩
    · rw [if_neg (by rw [c]; exact Bool.noConfusion)] at R
      exact ⟨fits (by simp), fun p hp => R.done rfl (Same.new hp) ⟨p, rfl, hp, upd_same⟩⟩
abbrev nm_Shelf_call_diff : List Str := ["self", "v", "w"]
theorem sc_Shelf_call_diff : FnScope nm_Shelf_call_diff ["self", "v", "w"] (defScope s_Shelf_call_diff) := ⟨rfl, rfl, rfl, by decide +kernel, rfl, by decide +kernel, by decide +kernel⟩
def sp_Shelf_call_diff (K : PySem.W.Frag) : Sp := fun vs H Q E => ∃ (a L : Addr) (S : Sh) (v w : Int), vs = [.ref a, .int v, .int w] ∧ ShelfAt K H a L S ∧ ShOk S ∧ Ret K Q E H (AnsP H) (mCallDiff S v w)
theorem good_Shelf_call_diff (T : Tx K mg) : Md P w K mg base (L2.CX P w) 4 (He.ga K "Shelf") "call_diff" ["self", "v", "w"] (sp_Shelf_call_diff K) := by
  obtain ⟨fd, F⟩ := T.f_Shelf_call_diff
  refine ⟨_, fd, fnX F sc_Shelf_call_diff (fun vs H Q E h => ?_) (fun cdv A outer s H vs Q E hr h => ⟨_, (pss_cons (ps_expr (pe_gd (good_refuse_below (P := P) (w := w) (base := base) T) hr (passes_call (takes_of rfl rfl rfl rfl) (fun _ _ _ _ h => h)) (pa_cons (pe_callB (call_min2 rfl) (by rfl) T.b_min (by decide +kernel) (pa_cons (pv 1) (pa_cons (pv 2) pa_nil))) pa_nil)))
      (pss_one (ps_ret (pe_op op_cat (pe_lst (pa_cons pe_int pa_nil)) (pe_gd (good_change_text (P := P) (w := w) (base := base) T) hr pass0 (pa_cons (pe_gd (good_difference (P := P) (w := w) (base := base) T) hr pass0 (pa_cons (pe_md (good_Shelf_version (P := P) (w := w) (base := base) T) (pv 0) T.c_Shelf hr (passes_call (takes_of rfl rfl rfl rfl) (fun _ _ _ _ h => h)) (pa_cons (pv 1) pa_nil)) (pa_cons (pe_md (good_Shelf_version (P := P) (w := w) (base := base) T) (pv 0) T.c_Shelf hr (passes_call (takes_of rfl rfl rfl rfl) (fun _ _ _ _ h => h)) (pa_cons (pv 2) pa_nil)) pa_nil))) pa_nil)))))), ?_⟩), F.bindsN (fun _ _ _ _ _ _ us hl => match us, hl with | [_, _, _], _ => rfl), T.m_Shelf_call_diff⟩
  · obtain ⟨_, _, _, _, _, e, _⟩ := h
    subst e
    rfl
  · obtain ⟨a, L, S, v, w, rfl, hS, hok, R⟩ := h
    unfold mCallDiff mTwo at R
    have emin : (if w < v then w else v) = min v w := by split <;> omega
    refine ⟨_, rfl, _, rfl, v, w, rfl, ?_⟩
    rw [emin]
    refine ⟨_, rfl, R.sub (Same.refl _) (fun ans e => mBelow_err e) fun u e x H2 s2 hv => ?_⟩
    obtain ⟨-, rfl⟩ := hv
    obtain ⟨eb, hv0⟩ := mBelow_ok e
    rw [eb] at R
    have hv1 : 0 ≤ v := by omega
    have hv2 : 0 ≤ w := by omega
    
    refine ⟨fits (by simp), fun z hz => ?_⟩
    have sz := Same.new (o := .lst [V.int 0]) hz
    have hS' := hS.same sz
    obtain ⟨dx, vs, h1, h2, h3⟩ := hS'
    refine ⟨_, rfl, a, dx, _, rfl, h1, rfl, _, rfl, a, L, S, v, rfl, ⟨dx, vs, h1, h2, h3⟩, hv1, R.sub sz (fun ans e => by rw [e]) fun B e x H3 s3 hv => ?_⟩
    obtain ⟨rfl, d, rfl, hd⟩ := hv
    have hB := hok B (mVersion_mem e)
    rw [e] at R
    simp only [] at R
    refine ⟨_, rfl, a, dx, _, rfl, h1, rfl, _, rfl, a, L, S, w, rfl, ⟨dx, vs, h1, h2, h3⟩, hv2, R.sub sz (fun ans e => by rw [e]) fun C e x H3 s3 hv => ?_⟩
    obtain ⟨rfl, d2, rfl, hd2⟩ := hv
    have hC := hok C (mVersion_mem e)
    rw [e] at R
    simp only [] at R
    have hBl := hB.len
    have hCl := hC.len
    have hdf := mDiff_ok hB.ok hC.ok
    have hlen : (mChangeText (mDiff B C)).length ≤ 200 * ((mDiff B C).going.length + (mDiff B C).coming.length) := changeText_len ⟨hdf.1, hdf.2⟩
    have l1 : (mDiff B C).going.length ≤ B.length := List.length_filter_le _ _
    have l2 : (mDiff B C).coming.length ≤ C.length := List.length_filter_le _ _
    exact ⟨d, d2, B, C, rfl, hd, hd2, by omega, by omega, fun c H4 s4 hc => ⟨c, _, rfl, hc, ⟨hdf.1, hdf.2⟩, fun p H5 s5 hp hpl => zero_cat (n := 0) R (Same.trans' sz (Same.trans' s4 s5)) (s5 _ _ (s4 _ _ upd_same)) hpl (by omega) rfl⟩⟩
abbrev nm_Shelf_call_apply : List Str := ["self", "v", "text", "book"]
theorem sc_Shelf_call_apply : FnScope nm_Shelf_call_apply ["self", "v", "text"] (defScope s_Shelf_call_apply) := ⟨rfl, rfl, rfl, by decide +kernel, rfl, by decide +kernel, by decide +kernel⟩
def sp_Shelf_call_apply (K : PySem.W.Frag) : Sp := fun vs H Q E => ∃ (a L t : Addr) (S : Sh) (v : Int) (T : List Nat), vs = [.ref a, .int v, .ref t] ∧ ShelfAt K H a L S ∧ ShOk S ∧ TextAt H t T ∧ T.length ≤ 4100 ∧ RetC K Q E H a L (mApply S v T)
theorem good_Shelf_call_apply (T : Tx K mg) : Md P w K mg base (L2.CX P w) 8 (He.ga K "Shelf") "call_apply" ["self", "v", "text"] (sp_Shelf_call_apply K) := by
  obtain ⟨fd, F⟩ := T.f_Shelf_call_apply
  refine ⟨_, fd, fnX F sc_Shelf_call_apply (fun vs H Q E h => ?_) (fun cdv A outer s H vs Q E hr h => ⟨_, (pss_cons (ps_expr (pe_gd (good_refuse_below (P := P) (w := w) (base := base) T) hr (passes_call (takes_of rfl rfl rfl rfl) (fun _ _ _ _ h => h)) (pa_cons (pv 1) pa_nil)))
      (pss_cons (ps_expr (pe_gd (good_refuse_long (P := P) (w := w) (base := base) T) hr (passes_call (takes_of rfl rfl rfl rfl) (fun _ _ _ _ h => h)) (pa_cons (pv 2) pa_nil)))
      (pss_cons (ps_set (i := 3) sc_Shelf_call_apply.nd rfl (Or.inl rfl) (pe_md (good_Shelf_version (P := P) (w := w) (base := base) T) (pv 0) T.c_Shelf hr (passes_call (takes_of rfl rfl rfl rfl) (fun _ _ _ _ h => h)) (pa_cons (pv 1) pa_nil)))
      (pss_one (ps_ret (pe_md (good_Shelf_keep_if_right (P := P) (w := w) (base := base) T) (pv 0) T.c_Shelf hr (passes_call (takes_of rfl rfl rfl rfl) (fun _ _ _ _ h => h)) (pa_cons (pe_gd (good_changed (P := P) (w := w) (base := base) T) hr (passes_call (takes_of rfl rfl rfl rfl) (fun _ _ _ _ h => h)) (pa_cons (pv 3) (pa_cons (pe_gd (good_read_change (P := P) (w := w) (base := base) T) hr (passes_call (takes_of rfl rfl rfl rfl) (fun _ _ _ _ h => h)) (pa_cons (pv 2) pa_nil)) pa_nil))) pa_nil))))))), ?_⟩), F.bindsN (fun _ _ _ _ _ _ us hl => match us, hl with | [_, _, _], _ => rfl), T.m_Shelf_call_apply⟩
  · obtain ⟨_, _, _, _, _, _, e, _⟩ := h
    subst e
    rfl
  · obtain ⟨a, L, t, S, v, T', rfl, hS, hok, ht, hT, R⟩ := h
    unfold mApply at R
    refine ⟨_, rfl, v, rfl, R.sub (Same.refl _) (fun ans e => mBelow_err e) fun u e w H2 s2 hv => ?_⟩
    obtain ⟨-, rfl⟩ := hv
    obtain ⟨eb, hv0⟩ := mBelow_ok e
    rw [eb] at R
    
    refine ⟨_, rfl, t, T', rfl, ht, R.sub (Same.refl _) (fun ans e => mLong_err e) fun u e w H2 s2 hv => ?_⟩
    obtain ⟨-, rfl⟩ := hv
    rw [mLong_ok e] at R
    obtain ⟨dx, vs, h1, h2, h3⟩ := hS
    refine ⟨_, rfl, a, dx, _, rfl, h1, rfl, _, rfl, a, L, S, v, rfl, ⟨dx, vs, h1, h2, h3⟩, hv0, R.sub (Same.refl _) (fun ans e => by rw [e]) fun B e w H3 s3 hv => ?_⟩
    obtain ⟨rfl, d, rfl, hd⟩ := hv
    have hB := hok B (mVersion_mem e)
    have hBl := hB.len
    rw [e] at R
    simp only [] at R
    refine ⟨_, rfl, a, dx, _, rfl, h1, rfl, _, rfl, _, rfl, t, T', rfl, ht, by omega, R.sub (Same.refl _) (fun ans e => by rw [e]) fun ls e w H4 s4 hv => ?_⟩
    obtain ⟨N, as, rfl, hN, hNl, hF⟩ := hv
    have hch := mReadChange_ok e hT
    rw [e] at R
    simp only [] at R
    refine ⟨d, N, B, as, ls, rfl, hd.same s4, hNl, hF, hch.2.1, by omega, R.sub s4 (fun ans e => by rw [e]) fun M e w H5 s5 hv => ?_⟩
    obtain ⟨q, rfl, hq0, hq⟩ := hv
    have hM : M.length ≤ 1000000 := by
      unfold mChanged at e
      split at e
      · cases e
      · cases e
        have := foldPut_len (mChangeOf ls).coming (B.filter fun b => !(lookG (mChangeOf ls).going b.1).isSome)
        have h5 : (B.filter fun b => !(lookG (mChangeOf ls).going b.1).isSome).length ≤ B.length := List.length_filter_le _ _
        have := hch.2.2
        unfold mMade
        omega
    rw [e] at R
    simp only [] at R
    have s45 := Same.trans' s4 s5
    exact ⟨a, L, q, S, M, rfl, ShelfAt.same ⟨dx, vs, h1, h2, h3⟩ s45, hq, hM, R.last s45⟩
abbrev nm_Shelf_call_merge : List Str := ["self", "a", "v", "w", "base", "first", "second", "found"]
theorem sc_Shelf_call_merge : FnScope nm_Shelf_call_merge ["self", "a", "v", "w"] (defScope s_Shelf_call_merge) := ⟨rfl, rfl, rfl, by decide +kernel, rfl, by decide +kernel, by decide +kernel⟩
def sp_Shelf_call_merge (K : PySem.W.Frag) : Sp := fun vs H Q E => ∃ (a L : Addr) (S : Sh) (b v w : Int), vs = [.ref a, .int b, .int v, .int w] ∧ ShelfAt K H a L S ∧ ShOk S ∧ RetC K Q E H a L (mCallMerge S b v w)
theorem good_Shelf_call_merge (T : Tx K mg) : Md P w K mg base (L2.CX P w) 6 (He.ga K "Shelf") "call_merge" ["self", "a", "v", "w"] (sp_Shelf_call_merge K) := by
  obtain ⟨fd, F⟩ := T.f_Shelf_call_merge
  refine ⟨_, fd, fnX F sc_Shelf_call_merge (fun vs H Q E h => ?_) (fun cdv A outer s H vs Q E hr h => ⟨_, (pss_cons (ps_expr (pe_gd (good_refuse_below (P := P) (w := w) (base := base) T) hr (passes_call (takes_of rfl rfl rfl rfl) (fun _ _ _ _ h => h)) (pa_cons (pe_callB (call_min3Nu rfl) (by rfl) T.b_min (by decide +kernel) (pa_cons (pv 1) (pa_cons (pv 2) (pa_cons (pv 3) pa_nil)))) pa_nil)))
      (pss_cons (ps_set (i := 4) sc_Shelf_call_merge.nd rfl (Or.inl rfl) (pe_md (good_Shelf_version (P := P) (w := w) (base := base) T) (pv 0) T.c_Shelf hr (passes_call (takes_of rfl rfl rfl rfl) (fun _ _ _ _ h => h)) (pa_cons (pv 1) pa_nil)))
      (pss_cons (ps_set (i := 5) sc_Shelf_call_merge.nd rfl (Or.inl rfl) (pe_md (good_Shelf_version (P := P) (w := w) (base := base) T) (pv 0) T.c_Shelf hr (passes_call (takes_of rfl rfl rfl rfl) (fun _ _ _ _ h => h)) (pa_cons (pv 2) pa_nil)))
      (pss_cons (ps_set (i := 6) sc_Shelf_call_merge.nd rfl (Or.inl rfl) (pe_md (good_Shelf_version (P := P) (w := w) (base := base) T) (pv 0) T.c_Shelf hr (passes_call (takes_of rfl rfl rfl rfl) (fun _ _ _ _ h => h)) (pa_cons (pv 3) pa_nil)))
      (pss_cons (ps_set (i := 7) sc_Shelf_call_merge.nd rfl (Or.inl rfl) (pe_gd (good_contradictions (P := P) (w := w) (base := base) T) hr pass0 (pa_cons (pv 4) (pa_cons (pv 5) (pa_cons (pv 6) pa_nil)))))
      (pss_cons (ps_if (pt_cmpR op_gt (pe_callB call_len_seq (by rfl) T.b_len PySem.boot_len (pa_cons (pv 7) pa_nil)) pe_int (nomark _)) (pss_one (ps_ret (pe_op op_cat (pe_lst (pa_cons pe_int pa_nil)) (pe_gd (good_subjects_text (P := P) (w := w) (base := base) T) hr pass0 (pa_cons (pv 7) pa_nil))))) pss_nil)
      (pss_one (ps_ret (pe_md (good_Shelf_keep_if_right (P := P) (w := w) (base := base) T) (pv 0) T.c_Shelf hr (passes_call (takes_of rfl rfl rfl rfl) (fun _ _ _ _ h => h)) (pa_cons (pe_gd (good_merged (P := P) (w := w) (base := base) T) hr pass0 (pa_cons (pv 4) (pa_cons (pv 5) (pa_cons (pv 6) pa_nil)))) pa_nil)))))))))), ?_⟩), F.bindsN (fun _ _ _ _ _ _ us hl => match us, hl with | [_, _, _, _], _ => rfl), T.m_Shelf_call_merge⟩
  · obtain ⟨_, _, _, _, _, _, e, _⟩ := h
    subst e
    rfl
  · obtain ⟨a, L, S, b, v, w, rfl, hS, hok, R⟩ := h
    unfold mCallMerge at R
    refine ⟨_, rfl, _, rfl, _, rfl, _, _, _, _, rfl, nuMin3_int b v w, _, rfl, R.sub (Same.refl _) (fun ans e => mBelow_err e) fun u e x H2 s2 hv => ?_⟩
    obtain ⟨-, rfl⟩ := hv
    obtain ⟨eb, hv0⟩ := mBelow_ok e
    rw [eb] at R
    have hv1 : 0 ≤ b := by omega
    have hv2 : 0 ≤ v := by omega
    have hv3 : 0 ≤ w := by omega
    obtain ⟨dx, vs, h1, h2, h3⟩ := hS
    refine ⟨_, rfl, a, dx, _, rfl, h1, rfl, _, rfl, a, L, S, b, rfl, ⟨dx, vs, h1, h2, h3⟩, hv1, R.sub (Same.refl _) (fun ans e => by rw [e]) fun A e x H3 s3 hv => ?_⟩
    obtain ⟨rfl, d1, rfl, hd1⟩ := hv
    have hA := hok A (mVersion_mem e)
    rw [e] at R
    simp only [] at R
    refine ⟨_, rfl, a, dx, _, rfl, h1, rfl, _, rfl, a, L, S, v, rfl, ⟨dx, vs, h1, h2, h3⟩, hv2, R.sub (Same.refl _) (fun ans e => by rw [e]) fun B e x H3 s3 hv => ?_⟩
    obtain ⟨rfl, d2, rfl, hd2⟩ := hv
    have hB := hok B (mVersion_mem e)
    rw [e] at R
    simp only [] at R
    refine ⟨_, rfl, a, dx, _, rfl, h1, rfl, _, rfl, a, L, S, w, rfl, ⟨dx, vs, h1, h2, h3⟩, hv3, R.sub (Same.refl _) (fun ans e => by rw [e]) fun C e x H3 s3 hv => ?_⟩
    obtain ⟨rfl, d3, rfl, hd3⟩ := hv
    have hC := hok C (mVersion_mem e)
    rw [e] at R
    simp only [] at R
    have l1 := hA.len
    have l2 := hB.len
    have l3 := hC.len
    have hsub := subjects_len [A, B, C]
    simp only [List.map_cons, List.map_nil, List.foldr_cons, List.foldr_nil] at hsub
    have hcl : (contrasB A B C).length ≤ (subjectsB [A, B, C]).length := List.length_filter_le _ _
    have hml : (mergeB A B C).length ≤ (subjectsB [A, B, C]).length := mergeL_len A B C _
    refine ⟨_, rfl, _, rfl, _, rfl, d1, d2, d3, A, B, C, rfl, hd1, hd2, hd3, by omega, by omega, by omega, fun p us H4 s4 hp hpl hF => ?_⟩
    have hlen := hF.length
    have hS4 := ShelfAt.same ⟨dx, vs, h1, h2, h3⟩ s4
    refine ⟨_, rfl, p, us, rfl, .inl (SqL.of hpl), _, _, rfl, rfl, _, rfl, if_b (fun c => ?_) fun c => ?_⟩
    · have c' : contrasB A B C ≠ [] := fun e => by
        have := of_decide_eq_true c
        rw [e, List.length_nil] at hlen
        omega
      rw [if_pos c'] at R
      refine ⟨fits (by simp), fun z hz => ?_⟩
      have sz := Same.new (o := .lst [V.int 1]) hz
      have h16 := contras_len16 hA.ok hB.ok hC.ok
      have hsl := mSubjects_len h16
      refine ⟨_, rfl, p, us, contrasB A B C, rfl, sz _ _ hpl, hF.kpK (Same.kp sz), by omega, h16, fun q H5 s5 hq hql => ?_⟩
      have s := Same.trans' s4 (Same.trans' sz s5)
      refine cat_ok (x := [1]) (s5 _ _ upd_same) hql (by simp only [List.length_cons, List.length_nil]; omega) fun r hr => R.ok _ rfl _ _ ⟨But.of (Same.trans' s (Same.new hr)), (hS4.same (Same.trans' sz s5)).same (Same.new hr), r, rfl, none_of s hr, ?_⟩
      rw [upd_same, List.map_cons, asInts_vn]
      rfl
    · have c' : ¬ contrasB A B C ≠ [] := fun h => by
        have := of_decide_eq_false c
        have : 0 < (contrasB A B C).length := List.length_pos_iff.mpr h
        omega
      rw [if_neg c'] at R
      obtain ⟨dx', vs', g1, g2, g3⟩ := hS4
      refine ⟨_, rfl, a, dx', _, rfl, g1, rfl, _, rfl, _, rfl, _, rfl, d1, d2, d3, A, B, C, rfl, hd1.same s4, hd2.same s4, hd3.same s4, by omega, by omega, by omega, fun q H5 s5 hq hqB => ?_⟩
      exact ⟨a, L, q, S, mergeB A B C, rfl, ShelfAt.same ⟨dx', vs', g1, g2, g3⟩ s5, hqB, by omega, R.last (Same.trans' s4 s5)⟩
abbrev nm_Shelf_call_rename : List Str := ["self", "v", "x", "z", "book"]
theorem sc_Shelf_call_rename : FnScope nm_Shelf_call_rename ["self", "v", "x", "z"] (defScope s_Shelf_call_rename) := ⟨rfl, rfl, rfl, by decide +kernel, rfl, by decide +kernel, by decide +kernel⟩
def sp_Shelf_call_rename (K : PySem.W.Frag) : Sp := fun vs H Q E => ∃ (a L x z : Addr) (S : Sh) (v : Int) (x' z' : List Nat), vs = [.ref a, .int v, .ref x, .ref z] ∧ ShelfAt K H a L S ∧ ShOk S ∧ TextAt H x x' ∧ TextAt H z z' ∧ RetC K Q E H a L (mCallRename S v x' z')
theorem good_Shelf_call_rename (T : Tx K mg) : Md P w K mg base (L2.CX P w) 5 (He.ga K "Shelf") "call_rename" ["self", "v", "x", "z"] (sp_Shelf_call_rename K) := by
  obtain ⟨fd, F⟩ := T.f_Shelf_call_rename
  refine ⟨_, fd, fnX F sc_Shelf_call_rename (fun vs H Q E h => ?_) (fun cdv A outer s H vs Q E hr h => ⟨_, (pss_cons (ps_expr (pe_gd (good_refuse_below (P := P) (w := w) (base := base) T) hr (passes_call (takes_of rfl rfl rfl rfl) (fun _ _ _ _ h => h)) (pa_cons (pv 1) pa_nil)))
      (pss_cons (ps_expr (pe_gd (good_refuse_no_name (P := P) (w := w) (base := base) T) hr (passes_call (takes_of rfl rfl rfl rfl) (fun _ _ _ _ h => h)) (pa_cons (pv 2) pa_nil)))
      (pss_cons (ps_expr (pe_gd (good_refuse_no_name (P := P) (w := w) (base := base) T) hr (passes_call (takes_of rfl rfl rfl rfl) (fun _ _ _ _ h => h)) (pa_cons (pv 3) pa_nil)))
      (pss_cons (ps_set (i := 4) sc_Shelf_call_rename.nd rfl (Or.inl rfl) (pe_md (good_Shelf_version_with (P := P) (w := w) (base := base) T) (pv 0) T.c_Shelf hr (passes_call (takes_of rfl rfl rfl rfl) (fun _ _ _ _ h => h)) (pa_cons (pv 1) (pa_cons (pe_callTy call_tuple_of (by rfl) T.b_tuple (by decide +kernel) (pa_cons (pv 2) pa_nil)) pa_nil))))
      (pss_cons (ps_expr (pe_gd (good_refuse_if (P := P) (w := w) (base := base) T) hr (passes_call (takes_of rfl rfl rfl rfl) (fun _ _ _ _ h => h)) (pa_cons (pe_gd (good_has_thing (P := P) (w := w) (base := base) T) hr pass0 (pa_cons (pv 4) (pa_cons (pe_callTy call_tuple_of (by rfl) T.b_tuple (by decide +kernel) (pa_cons (pv 3) pa_nil)) pa_nil))) (pa_cons (pe_un un_neg pe_int) pa_nil))))
      (pss_one (ps_ret (pe_md (good_Shelf_keep (P := P) (w := w) (base := base) T) (pv 0) T.c_Shelf hr (passes_call (takes_of rfl rfl rfl rfl) (fun _ _ _ _ h => h)) (pa_cons (pe_gd (good_renamed (P := P) (w := w) (base := base) T) hr pass0 (pa_cons (pv 4) (pa_cons (pe_callTy call_tuple_of (by rfl) T.b_tuple (by decide +kernel) (pa_cons (pv 2) pa_nil)) (pa_cons (pe_callTy call_tuple_of (by rfl) T.b_tuple (by decide +kernel) (pa_cons (pv 3) pa_nil)) pa_nil)))) pa_nil))))))))), ?_⟩), F.bindsN (fun _ _ _ _ _ _ us hl => match us, hl with | [_, _, _, _], _ => rfl), T.m_Shelf_call_rename⟩
  · obtain ⟨_, _, _, _, _, _, _, _, e, _⟩ := h
    subst e
    rfl
  · obtain ⟨a, L, x, z, S, v, x', z', rfl, hS, hok, hx, hz, R⟩ := h
    unfold mCallRename at R
    refine ⟨_, rfl, v, rfl, R.sub (Same.refl _) (fun ans e => mBelow_err e) fun u e w H2 s2 hv => ?_⟩
    obtain ⟨-, rfl⟩ := hv
    obtain ⟨eb, hv0⟩ := mBelow_ok e
    rw [eb] at R
    refine ⟨_, rfl, x, x', rfl, hx, R.sub (Same.refl _) (fun ans e => mNamed_err e) fun u e w H2 s2 hv => ?_⟩
    obtain ⟨-, rfl⟩ := hv
    obtain ⟨enx, hnx⟩ := mNamed_ok e
    rw [enx] at R
    refine ⟨_, rfl, z, z', rfl, hz, R.sub (Same.refl _) (fun ans e => mNamed_err e) fun u e w H2 s2 hv => ?_⟩
    obtain ⟨-, rfl⟩ := hv
    obtain ⟨enz, hnz⟩ := mNamed_ok e
    rw [enz] at R
    obtain ⟨dx, vs, h1, h2, h3⟩ := hS
    refine ⟨_, rfl, a, dx, _, rfl, h1, rfl, _, rfl, _, rfl, x, _, rfl, .inl ⟨SqL.of hx, fun tx htx => ?_⟩⟩
    have stx := Same.new (o := .tup (vn x')) htx
    refine ⟨a, L, tx, S, v, x', rfl, ShelfAt.same ⟨dx, vs, h1, h2, h3⟩ stx, hv0, upd_same, R.sub stx (fun ans e => by rw [e]) fun B e w H3 s3 hv => ?_⟩
    obtain ⟨d, rfl, hd⟩ := hv
    obtain ⟨hBm, hBx⟩ := mVersionWith_mem e
    have hB := hok B hBm
    have hBl := hB.len
    rw [e] at R
    simp only [] at R
    have s03 := Same.trans' stx s3
    have hS3 := ShelfAt.same (K := K) (a := a) (L := L) (S := S) ⟨dx, vs, h1, h2, h3⟩ s03
    have hx3 := s03 _ _ hx
    
    have hz3 := s03 _ _ hz
    refine ⟨_, rfl, _, rfl, z, _, rfl, .inl ⟨SqL.of hz3, fun tz htz => ?_⟩⟩
    have stz := Same.new (o := .tup (vn z')) htz
    refine ⟨d, B, tz, z', rfl, hd.same stz, upd_same, fun H4 s4 => ⟨_, rfl, _, _, rfl, R.sub (Same.trans' s03 (Same.trans' stz s4)) (fun ans e => ?_) fun u e w H5 s5 hv => ?_⟩⟩
    · obtain ⟨c, rfl⟩ := mIf_err e
      rw [if_pos c]
    obtain ⟨-, rfl⟩ := hv
    rw [if_neg (by rw [mIf_ok e]; exact Bool.noConfusion)] at R
    have s34 := Same.trans' stz s4
    have s04 := Same.trans' s03 s34
    have hS4 := hS3.same s34
    obtain ⟨dx', vs', g1, g2, g3⟩ := hS4
    refine ⟨_, rfl, a, dx', _, rfl, g1, rfl, _, rfl, _, rfl, x, _, rfl, .inl ⟨SqL.of (s34 _ _ hx3), fun ux hux => ?_⟩⟩
    have sux := Same.new (o := .tup (vn x')) hux
    refine ⟨_, rfl, z, _, rfl, .inl ⟨SqL.of (sux _ _ (s34 _ _ hz3)), fun uz huz => ?_⟩⟩
    have suz := Same.new (o := .tup (vn z')) huz
    have s4u := Same.trans' sux suz
    refine ⟨d, B, ux, uz, x', z', rfl, (hd.same s34).same s4u, suz _ _ upd_same, upd_same, by omega, fun q H6 s6 hq hqB => ?_⟩
    exact ⟨a, L, q, S, _, rfl, ShelfAt.same ⟨dx', vs', g1, g2, g3⟩ (Same.trans' s4u s6), hqB, R.last (Same.trans' s04 (Same.trans' s4u s6))⟩
abbrev nm_Shelf_call_drop : List Str := ["self", "v", "x", "book"]
theorem sc_Shelf_call_drop : FnScope nm_Shelf_call_drop ["self", "v", "x"] (defScope s_Shelf_call_drop) := ⟨rfl, rfl, rfl, by decide +kernel, rfl, by decide +kernel, by decide +kernel⟩
def sp_Shelf_call_drop (K : PySem.W.Frag) : Sp := fun vs H Q E => ∃ (a L x : Addr) (S : Sh) (v : Int) (x' : List Nat), vs = [.ref a, .int v, .ref x] ∧ ShelfAt K H a L S ∧ ShOk S ∧ TextAt H x x' ∧ RetC K Q E H a L (mCallDrop S v x')
theorem good_Shelf_call_drop (T : Tx K mg) : Md P w K mg base (L2.CX P w) 6 (He.ga K "Shelf") "call_drop" ["self", "v", "x"] (sp_Shelf_call_drop K) := by
  obtain ⟨fd, F⟩ := T.f_Shelf_call_drop
  refine ⟨_, fd, fnX F sc_Shelf_call_drop (fun vs H Q E h => ?_) (fun cdv A outer s H vs Q E hr h => ⟨_, (pss_cons (ps_expr (pe_gd (good_refuse_below (P := P) (w := w) (base := base) T) hr (passes_call (takes_of rfl rfl rfl rfl) (fun _ _ _ _ h => h)) (pa_cons (pv 1) pa_nil)))
      (pss_cons (ps_expr (pe_gd (good_refuse_no_name (P := P) (w := w) (base := base) T) hr (passes_call (takes_of rfl rfl rfl rfl) (fun _ _ _ _ h => h)) (pa_cons (pv 2) pa_nil)))
      (pss_cons (ps_set (i := 3) sc_Shelf_call_drop.nd rfl (Or.inl rfl) (pe_md (good_Shelf_version_with (P := P) (w := w) (base := base) T) (pv 0) T.c_Shelf hr (passes_call (takes_of rfl rfl rfl rfl) (fun _ _ _ _ h => h)) (pa_cons (pv 1) (pa_cons (pe_callTy call_tuple_of (by rfl) T.b_tuple (by decide +kernel) (pa_cons (pv 2) pa_nil)) pa_nil))))
      (pss_one (ps_ret (pe_md (good_Shelf_keep_if_right (P := P) (w := w) (base := base) T) (pv 0) T.c_Shelf hr (passes_call (takes_of rfl rfl rfl rfl) (fun _ _ _ _ h => h)) (pa_cons (pe_gd (good_without_thing (P := P) (w := w) (base := base) T) hr pass0 (pa_cons (pv 3) (pa_cons (pe_callTy call_tuple_of (by rfl) T.b_tuple (by decide +kernel) (pa_cons (pv 2) pa_nil)) pa_nil))) pa_nil))))))), ?_⟩), F.bindsN (fun _ _ _ _ _ _ us hl => match us, hl with | [_, _, _], _ => rfl), T.m_Shelf_call_drop⟩
  · obtain ⟨_, _, _, _, _, _, e, _⟩ := h
    subst e
    rfl
  · obtain ⟨a, L, x, S, v, x', rfl, hS, hok, hx, R⟩ := h
    unfold mCallDrop at R
    refine ⟨_, rfl, v, rfl, R.sub (Same.refl _) (fun ans e => mBelow_err e) fun u e w H2 s2 hv => ?_⟩
    obtain ⟨-, rfl⟩ := hv
    obtain ⟨eb, hv0⟩ := mBelow_ok e
    rw [eb] at R
    refine ⟨_, rfl, x, x', rfl, hx, R.sub (Same.refl _) (fun ans e => mNamed_err e) fun u e w H2 s2 hv => ?_⟩
    obtain ⟨-, rfl⟩ := hv
    obtain ⟨enx, hnx⟩ := mNamed_ok e
    rw [enx] at R
    obtain ⟨dx, vs, h1, h2, h3⟩ := hS
    refine ⟨_, rfl, a, dx, _, rfl, h1, rfl, _, rfl, _, rfl, x, _, rfl, .inl ⟨SqL.of hx, fun tx htx => ?_⟩⟩
    have stx := Same.new (o := .tup (vn x')) htx
    refine ⟨a, L, tx, S, v, x', rfl, ShelfAt.same ⟨dx, vs, h1, h2, h3⟩ stx, hv0, upd_same, R.sub stx (fun ans e => by rw [e]) fun B e w H3 s3 hv => ?_⟩
    obtain ⟨d, rfl, hd⟩ := hv
    obtain ⟨hBm, hBx⟩ := mVersionWith_mem e
    have hB := hok B hBm
    have hBl := hB.len
    rw [e] at R
    simp only [] at R
    have s03 := Same.trans' stx s3
    have hS3 := ShelfAt.same (K := K) (a := a) (L := L) (S := S) ⟨dx, vs, h1, h2, h3⟩ s03
    have hx3 := s03 _ _ hx
    
    obtain ⟨dx', vs', g1, g2, g3⟩ := hS3
    refine ⟨_, rfl, a, dx', _, rfl, g1, rfl, _, rfl, _, rfl, x, _, rfl, .inl ⟨SqL.of hx3, fun ux hux => ?_⟩⟩
    have sux := Same.new (o := .tup (vn x')) hux
    refine ⟨d, B, ux, x', rfl, hd.same sux, upd_same, by omega, fun q H6 s6 hq hqB => ?_⟩
    have hdl : (dropB B x').length ≤ B.length := List.length_filter_le _ _
    exact ⟨a, L, q, S, _, rfl, ShelfAt.same ⟨dx', vs', g1, g2, g3⟩ (Same.trans' sux s6), hqB, by omega, R.last (Same.trans' s03 (Same.trans' sux s6))⟩
abbrev nm_Shelf_call_parts : List Str := ["self", "v", "x", "book"]
theorem sc_Shelf_call_parts : FnScope nm_Shelf_call_parts ["self", "v", "x"] (defScope s_Shelf_call_parts) := ⟨rfl, rfl, rfl, by decide +kernel, rfl, by decide +kernel, by decide +kernel⟩
def sp_Shelf_call_parts (K : PySem.W.Frag) : Sp := fun vs H Q E => ∃ (a L x : Addr) (S : Sh) (v : Int) (x' : List Nat), vs = [.ref a, .int v, .ref x] ∧ ShelfAt K H a L S ∧ ShOk S ∧ TextAt H x x' ∧ Ret K Q E H (AnsP H) (mCallParts S v x')
theorem good_Shelf_call_parts (T : Tx K mg) : Md P w K mg base (L2.CX P w) 5 (He.ga K "Shelf") "call_parts" ["self", "v", "x"] (sp_Shelf_call_parts K) := by
  obtain ⟨fd, F⟩ := T.f_Shelf_call_parts
  refine ⟨_, fd, fnX F sc_Shelf_call_parts (fun vs H Q E h => ?_) (fun cdv A outer s H vs Q E hr h => ⟨_, (pss_cons (ps_expr (pe_gd (good_refuse_below (P := P) (w := w) (base := base) T) hr (passes_call (takes_of rfl rfl rfl rfl) (fun _ _ _ _ h => h)) (pa_cons (pv 1) pa_nil)))
      (pss_cons (ps_expr (pe_gd (good_refuse_no_name (P := P) (w := w) (base := base) T) hr (passes_call (takes_of rfl rfl rfl rfl) (fun _ _ _ _ h => h)) (pa_cons (pv 2) pa_nil)))
      (pss_cons (ps_set (i := 3) sc_Shelf_call_parts.nd rfl (Or.inl rfl) (pe_md (good_Shelf_version_with (P := P) (w := w) (base := base) T) (pv 0) T.c_Shelf hr (passes_call (takes_of rfl rfl rfl rfl) (fun _ _ _ _ h => h)) (pa_cons (pv 1) (pa_cons (pe_callTy call_tuple_of (by rfl) T.b_tuple (by decide +kernel) (pa_cons (pv 2) pa_nil)) pa_nil))))
      (pss_one (ps_ret (pe_op op_cat (pe_lst (pa_cons pe_int pa_nil)) (pe_gd (good_parts_text (P := P) (w := w) (base := base) T) hr pass0 (pa_cons (pv 3) (pa_cons (pe_callTy call_tuple_of (by rfl) T.b_tuple (by decide +kernel) (pa_cons (pv 2) pa_nil)) pa_nil))))))))), ?_⟩), F.bindsN (fun _ _ _ _ _ _ us hl => match us, hl with | [_, _, _], _ => rfl), T.m_Shelf_call_parts⟩
  · obtain ⟨_, _, _, _, _, _, e, _⟩ := h
    subst e
    rfl
  · obtain ⟨a, L, x, S, v, x', rfl, hS, hok, hx, R⟩ := h
    unfold mCallParts at R
    refine ⟨_, rfl, v, rfl, R.sub (Same.refl _) (fun ans e => mBelow_err e) fun u e w H2 s2 hv => ?_⟩
    obtain ⟨-, rfl⟩ := hv
    obtain ⟨eb, hv0⟩ := mBelow_ok e
    rw [eb] at R
    refine ⟨_, rfl, x, x', rfl, hx, R.sub (Same.refl _) (fun ans e => mNamed_err e) fun u e w H2 s2 hv => ?_⟩
    obtain ⟨-, rfl⟩ := hv
    obtain ⟨enx, hnx⟩ := mNamed_ok e
    rw [enx] at R
    obtain ⟨dx, vs, h1, h2, h3⟩ := hS
    refine ⟨_, rfl, a, dx, _, rfl, h1, rfl, _, rfl, _, rfl, x, _, rfl, .inl ⟨SqL.of hx, fun tx htx => ?_⟩⟩
    have stx := Same.new (o := .tup (vn x')) htx
    refine ⟨a, L, tx, S, v, x', rfl, ShelfAt.same ⟨dx, vs, h1, h2, h3⟩ stx, hv0, upd_same, R.sub stx (fun ans e => by rw [e]) fun B e w H3 s3 hv => ?_⟩
    obtain ⟨d, rfl, hd⟩ := hv
    obtain ⟨hBm, hBx⟩ := mVersionWith_mem e
    have hB := hok B hBm
    have hBl := hB.len
    rw [e] at R
    simp only [] at R
    have s03 := Same.trans' stx s3
    have hS3 := ShelfAt.same (K := K) (a := a) (L := L) (S := S) ⟨dx, vs, h1, h2, h3⟩ s03
    have hx3 := s03 _ _ hx
    
    refine ⟨fits (by simp), fun y hy => ?_⟩
    have sy := Same.new (o := .lst [V.int 0]) hy
    refine ⟨_, rfl, _, rfl, x, _, rfl, .inl ⟨SqL.of (sy _ _ hx3), fun ux hux => ?_⟩⟩
    have sux := Same.new (o := .tup (vn x')) hux
    have := mParts_len hB.ok x'
    exact ⟨d, B, ux, x', rfl, (hd.same sy).same sux, upd_same, hB.ok, fun p H5 s5 hp hpl => zero_cat (n := 0) R (Same.trans' s03 (Same.trans' sy (Same.trans' sux s5))) (s5 _ _ (sux _ _ upd_same)) hpl (by omega) rfl⟩
abbrev nm_Shelf_call_users : List Str := ["self", "v", "x", "book"]
theorem sc_Shelf_call_users : FnScope nm_Shelf_call_users ["self", "v", "x"] (defScope s_Shelf_call_users) := ⟨rfl, rfl, rfl, by decide +kernel, rfl, by decide +kernel, by decide +kernel⟩
def sp_Shelf_call_users (K : PySem.W.Frag) : Sp := fun vs H Q E => ∃ (a L x : Addr) (S : Sh) (v : Int) (x' : List Nat), vs = [.ref a, .int v, .ref x] ∧ ShelfAt K H a L S ∧ ShOk S ∧ TextAt H x x' ∧ Ret K Q E H (AnsP H) (mCallUsers S v x')
theorem good_Shelf_call_users (T : Tx K mg) : Md P w K mg base (L2.CX P w) 5 (He.ga K "Shelf") "call_users" ["self", "v", "x"] (sp_Shelf_call_users K) := by
  obtain ⟨fd, F⟩ := T.f_Shelf_call_users
  refine ⟨_, fd, fnX F sc_Shelf_call_users (fun vs H Q E h => ?_) (fun cdv A outer s H vs Q E hr h => ⟨_, (pss_cons (ps_expr (pe_gd (good_refuse_below (P := P) (w := w) (base := base) T) hr (passes_call (takes_of rfl rfl rfl rfl) (fun _ _ _ _ h => h)) (pa_cons (pv 1) pa_nil)))
      (pss_cons (ps_expr (pe_gd (good_refuse_no_name (P := P) (w := w) (base := base) T) hr (passes_call (takes_of rfl rfl rfl rfl) (fun _ _ _ _ h => h)) (pa_cons (pv 2) pa_nil)))
      (pss_cons (ps_set (i := 3) sc_Shelf_call_users.nd rfl (Or.inl rfl) (pe_md (good_Shelf_version_with (P := P) (w := w) (base := base) T) (pv 0) T.c_Shelf hr (passes_call (takes_of rfl rfl rfl rfl) (fun _ _ _ _ h => h)) (pa_cons (pv 1) (pa_cons (pe_callTy call_tuple_of (by rfl) T.b_tuple (by decide +kernel) (pa_cons (pv 2) pa_nil)) pa_nil))))
      (pss_one (ps_ret (pe_op op_cat (pe_lst (pa_cons pe_int pa_nil)) (pe_gd (good_names_text (P := P) (w := w) (base := base) T) hr pass0 (pa_cons (pe_gd (good_users_of (P := P) (w := w) (base := base) T) hr pass0 (pa_cons (pv 3) (pa_cons (pe_callTy call_tuple_of (by rfl) T.b_tuple (by decide +kernel) (pa_cons (pv 2) pa_nil)) pa_nil))) pa_nil)))))))), ?_⟩), F.bindsN (fun _ _ _ _ _ _ us hl => match us, hl with | [_, _, _], _ => rfl), T.m_Shelf_call_users⟩
  · obtain ⟨_, _, _, _, _, _, e, _⟩ := h
    subst e
    rfl
  · obtain ⟨a, L, x, S, v, x', rfl, hS, hok, hx, R⟩ := h
    unfold mCallUsers at R
    refine ⟨_, rfl, v, rfl, R.sub (Same.refl _) (fun ans e => mBelow_err e) fun u e w H2 s2 hv => ?_⟩
    obtain ⟨-, rfl⟩ := hv
    obtain ⟨eb, hv0⟩ := mBelow_ok e
    rw [eb] at R
    refine ⟨_, rfl, x, x', rfl, hx, R.sub (Same.refl _) (fun ans e => mNamed_err e) fun u e w H2 s2 hv => ?_⟩
    obtain ⟨-, rfl⟩ := hv
    obtain ⟨enx, hnx⟩ := mNamed_ok e
    rw [enx] at R
    obtain ⟨dx, vs, h1, h2, h3⟩ := hS
    refine ⟨_, rfl, a, dx, _, rfl, h1, rfl, _, rfl, _, rfl, x, _, rfl, .inl ⟨SqL.of hx, fun tx htx => ?_⟩⟩
    have stx := Same.new (o := .tup (vn x')) htx
    refine ⟨a, L, tx, S, v, x', rfl, ShelfAt.same ⟨dx, vs, h1, h2, h3⟩ stx, hv0, upd_same, R.sub stx (fun ans e => by rw [e]) fun B e w H3 s3 hv => ?_⟩
    obtain ⟨d, rfl, hd⟩ := hv
    obtain ⟨hBm, hBx⟩ := mVersionWith_mem e
    have hB := hok B hBm
    have hBl := hB.len
    rw [e] at R
    simp only [] at R
    have s03 := Same.trans' stx s3
    have hS3 := ShelfAt.same (K := K) (a := a) (L := L) (S := S) ⟨dx, vs, h1, h2, h3⟩ s03
    have hx3 := s03 _ _ hx
    
    refine ⟨fits (by simp), fun y hy => ?_⟩
    have sy := Same.new (o := .lst [V.int 0]) hy
    refine ⟨_, rfl, _, rfl, x, _, rfl, .inl ⟨SqL.of (sy _ _ hx3), fun ux hux => ?_⟩⟩
    have sux := Same.new (o := .tup (vn x')) hux
    have hth := things_length B
    have hul : (usersB B x').length ≤ (thingsB B).length := List.length_filter_le _ _
    have hu16 : ∀ y ∈ usersB B x', y.length ≤ 16 := fun y m => things_len16 hB.ok y (List.mem_filter.mp m).1
    have := mNames_len hu16
    exact ⟨d, B, ux, x', rfl, (hd.same sy).same sux, upd_same, hB.kA, hB.kP, by omega, fun N us H5 s5 hN hNl hF => ⟨N, us, _, rfl, hNl, hF, by omega, hu16, fun p H6 s6 hp hpl => zero_cat (n := 0) R (Same.trans' s03 (Same.trans' sy (Same.trans' sux (Same.trans' s5 s6)))) (s6 _ _ (s5 _ _ (sux _ _ upd_same))) hpl (by omega) rfl⟩⟩
abbrev nm_Shelf_call_order : List Str := ["self", "v"]
theorem sc_Shelf_call_order : FnScope nm_Shelf_call_order ["self", "v"] (defScope s_Shelf_call_order) := ⟨rfl, rfl, rfl, by decide +kernel, rfl, by decide +kernel, by decide +kernel⟩
def sp_Shelf_call_order (K : PySem.W.Frag) : Sp := fun vs H Q E => ∃ (a L : Addr) (S : Sh) (v : Int), vs = [.ref a, .int v] ∧ ShelfAt K H a L S ∧ ShOk S ∧ Ret K Q E H (AnsP H) (mOrder S v)
theorem good_Shelf_call_order (T : Tx K mg) : Md P w K mg base (L2.CX P w) 4 (He.ga K "Shelf") "call_order" ["self", "v"] (sp_Shelf_call_order K) := by
  obtain ⟨fd, F⟩ := T.f_Shelf_call_order
  refine ⟨_, fd, fnX F sc_Shelf_call_order (fun vs H Q E h => ?_) (fun cdv A outer s H vs Q E hr h => ⟨_, (pss_cons (ps_expr (pe_gd (good_refuse_below (P := P) (w := w) (base := base) T) hr (passes_call (takes_of rfl rfl rfl rfl) (fun _ _ _ _ h => h)) (pa_cons (pv 1) pa_nil)))
      (pss_one (ps_ret (pe_op op_cat (pe_lst (pa_cons pe_int pa_nil)) (pe_gd (good_names_text (P := P) (w := w) (base := base) T) hr pass0 (pa_cons (pe_gd (good_told_order (P := P) (w := w) (base := base) T) hr pass0 (pa_cons (pe_md (good_Shelf_version (P := P) (w := w) (base := base) T) (pv 0) T.c_Shelf hr (passes_call (takes_of rfl rfl rfl rfl) (fun _ _ _ _ h => h)) (pa_cons (pv 1) pa_nil)) pa_nil)) pa_nil)))))), ?_⟩), F.bindsN (fun _ _ _ _ _ _ us hl => match us, hl with | [_, _], _ => rfl), T.m_Shelf_call_order⟩
  · obtain ⟨_, _, _, _, e, _⟩ := h
    subst e
    rfl
  · obtain ⟨a, L, S, v, rfl, hS, hok, R⟩ := h
    unfold mOrder mOne at R
    refine ⟨_, rfl, v, rfl, R.sub (Same.refl _) (fun ans e => mBelow_err e) fun u e w H2 s2 hv => ?_⟩
    obtain ⟨-, rfl⟩ := hv
    obtain ⟨eb, hv0⟩ := mBelow_ok e
    rw [eb] at R
    
    refine ⟨fits (by simp), fun z hz => ?_⟩
    have sz := Same.new (o := .lst [V.int 0]) hz
    have hS' := hS.same sz
    obtain ⟨dx, vs, h1, h2, h3⟩ := hS'
    refine ⟨_, rfl, a, dx, _, rfl, h1, rfl, _, rfl, a, L, S, v, rfl, ⟨dx, vs, h1, h2, h3⟩, hv0, R.sub sz (fun ans e => by rw [e]) fun B e w H3 s3 hv => ?_⟩
    obtain ⟨rfl, d, rfl, hd⟩ := hv
    have hB := hok B (mVersion_mem e)
    rw [e] at R
    simp only [] at R
    have ht := toldB_len hB.ok
    have := mNames_len ht.1
    have := hB.len
    exact ⟨d, B, rfl, hd, hB.kA, by omega, fun N us H5 s5 hN hNl hF => ⟨N, us, _, rfl, hNl, hF, by omega, ht.1, fun p H6 s6 hp hpl => zero_cat (n := 0) R (Same.trans' sz (Same.trans' s5 s6)) (s6 _ _ (s5 _ _ upd_same)) hpl (by omega) rfl⟩⟩
end
end Fb
end
section
set_option Elab.async false
set_option maxRecDepth 100000
set_option maxHeartbeats 4000000
namespace Fb
open PySem PySem.Spec PyProof.Rows L2
section
variable {P : Program} {w : World} {K : PySem.W.Frag} {mg : Str → Option Value} {base : Heap}
abbrev nm_Reader_init : List Str := ["self", "calls"]
theorem sc_Reader_init : FnScope nm_Reader_init ["self", "calls"] (defScope s_Reader_init) := ⟨rfl, rfl, rfl, by decide +kernel, rfl, by decide +kernel, by decide +kernel⟩
def sp_Reader_init (K : PySem.W.Frag) : Sp := fun vs H Q _ => ∃ (x dx c : Addr), vs = [.ref x, .ref c] ∧ H x = some (.ins (He.ga K "Reader") dx []) ∧ Q .non (upd H x (.ins (He.ga K "Reader") dx [("calls", .ref c), ("at", .int 0)]))
theorem good_Reader_init (T : Tx K mg) : Cd P w K mg base 1 "Reader" (He.ga K "Reader") ["self", "calls"] (sp_Reader_init K) := by
  obtain ⟨fd, F⟩ := T.f_Reader_init
  refine ⟨_, fd, fn0 F sc_Reader_init (fun vs H Q E h => ?_) (fun cdv A outer s H vs Q E hr h => ⟨_, (pss_cons (ps_fld (pv 0) (pv 1) rfl)
      (pss_one (ps_fld (pv 0) pe_int rfl))), ?_⟩), F.bindsN (fun _ _ _ _ _ _ us hl => match us, hl with | [_, _], _ => rfl), T.g_Reader, T.k_Reader⟩
  · obtain ⟨_, _, _, e, _⟩ := h
    subst e
    rfl
  · obtain ⟨x, dx, c, rfl, hx, q⟩ := h
    refine ⟨_, rfl, _, rfl, x, _, dx, _, rfl, hx, T.c_Reader, T.n_Reader_calls, few0, _, rfl, x, _, dx, _, rfl, upd_same, T.c_Reader, T.n_Reader_at, few1, ?_⟩
    rw [upd_upd]
    exact q
abbrev nm_Reader_more : List Str := ["self"]
theorem sc_Reader_more : FnScope nm_Reader_more ["self"] (defScope s_Reader_more) := ⟨rfl, rfl, rfl, by decide +kernel, rfl, by decide +kernel, by decide +kernel⟩
def sp_Reader_more (K : PySem.W.Frag) : Sp := fun vs H Q _ => ∃ (r c : Addr) (zs : List Int) (p : Nat), vs = [.ref r] ∧ ReaderAt K H r c zs p ∧ Q (.bl (decide (p < zs.length))) H
theorem good_Reader_more (T : Tx K mg) : Md P w K mg base CX0 1 (He.ga K "Reader") "more" ["self"] (sp_Reader_more K) := by
  obtain ⟨fd, F⟩ := T.f_Reader_more
  refine ⟨_, fd, fn0 F sc_Reader_more (fun vs H Q E h => ?_) (fun cdv A outer s H vs Q E hr h => ⟨_, (pss_one (ps_ret (pe_cmpR op_lt (pe_fld (pv 0) rfl) (pe_callB call_len_seq (by rfl) T.b_len PySem.boot_len (pa_cons (pe_fld (pv 0) rfl) pa_nil)) (nomark _)))), ?_⟩), F.bindsN (fun _ _ _ _ _ _ us hl => match us, hl with | [_], _ => rfl), T.m_Reader_more⟩
  · obtain ⟨_, _, _, _, e, _⟩ := h
    subst e
    rfl
  · obtain ⟨r, c, zs, p, rfl, ⟨dx, h1, h2⟩, q⟩ := h
    refine ⟨_, rfl, r, _, dx, _, _, rfl, h1, T.c_Reader, T.n_Reader_at, rfl, _, rfl, r, _, dx, _, _, rfl, h1, T.c_Reader, T.n_Reader_calls, rfl, c, _, rfl, .inl h2, _, _, rfl, rfl, ?_⟩
    have e : decide ((p : Int) < ((zs.map V.int).length : Nat)) = decide (p < zs.length) := decide_eq_decide.mpr (by rw [List.length_map]; omega)
    show Q (.bl (decide ((p : Int) < ((zs.map V.int).length : Nat)))) H
    rw [e]
    exact q
abbrev nm_Reader_number : List Str := ["self", "value"]
theorem sc_Reader_number : FnScope nm_Reader_number ["self"] (defScope s_Reader_number) := ⟨rfl, rfl, rfl, by decide +kernel, rfl, by decide +kernel, by decide +kernel⟩
def sp_Reader_number (K : PySem.W.Frag) : Sp := fun vs H Q _ => ∃ (r c : Addr) (zs : List Int) (p : Nat) (z : Int), vs = [.ref r] ∧ ReaderAt K H r c zs p ∧ zs[p]? = some z ∧ ∀ H', But r H H' → ReaderAt K H' r c zs (p + 1) → Q (.int z) H'
theorem good_Reader_number (T : Tx K mg) : Md P w K mg base CX0 1 (He.ga K "Reader") "number" ["self"] (sp_Reader_number K) := by
  obtain ⟨fd, F⟩ := T.f_Reader_number
  refine ⟨_, fd, fn0 F sc_Reader_number (fun vs H Q E h => ?_) (fun cdv A outer s H vs Q E hr h => ⟨_, (pss_cons (ps_set (i := 1) sc_Reader_number.nd rfl (Or.inl rfl) (pe_ix ix_list (pe_fld (pv 0) rfl) (pe_fld (pv 0) rfl) (fun _ _ => rfl)))
      (pss_cons (ps_fldaug (pv 0) pe_int in_add)
      (pss_one (ps_ret (pv 1))))), ?_⟩), F.bindsN (fun _ _ _ _ _ _ us hl => match us, hl with | [_], _ => rfl), T.m_Reader_number⟩
  · obtain ⟨_, _, _, _, _, e, _⟩ := h
    subst e
    rfl
  · obtain ⟨r, c, zs, p, z, rfl, ⟨dx, h1, h2⟩, hz, q⟩ := h
    refine ⟨_, rfl, r, _, dx, _, _, rfl, h1, T.c_Reader, T.n_Reader_calls, rfl, _, rfl, r, _, dx, _, _, rfl, h1, T.c_Reader, T.n_Reader_at, rfl, c, _, _, .int z, rfl, rfl, h2, atI_nat (by rw [List.getElem?_map, hz]; rfl), ?_⟩
    refine ⟨_, rfl, r, _, dx, _, _, rfl, h1, T.c_Reader, T.n_Reader_at, rfl, _, _, rfl, rfl, dx, _, h1, by simp, _, rfl, ?_⟩
    exact q _ But.upd ⟨dx, upd_same, SqL.but But.upd h1 h2⟩
abbrev nm_Reader_row : List Str := ["self", "size", "start"]
theorem sc_Reader_row : FnScope nm_Reader_row ["self"] (defScope s_Reader_row) := ⟨rfl, rfl, rfl, by decide +kernel, rfl, by decide +kernel, by decide +kernel⟩
def sp_Reader_row (K : PySem.W.Frag) : Sp := fun vs H Q _ => ∃ (r c : Addr) (zs rr : List Int) (p : Nat) (n : Int), vs = [.ref r] ∧ ReaderAt K H r c zs p ∧ zs.drop p = n :: rr ∧ 0 ≤ n ∧ n.toNat ≤ rr.length ∧
  ∀ q H', But r H H' → ReaderAt K H' r c zs (p + 1 + n.toNat) → H q = none → H' q = some (.lst ((rr.take n.toNat).map V.int)) → Q (.ref q) H'
theorem good_Reader_row (T : Tx K mg) : Md P w K mg base CX0 2 (He.ga K "Reader") "row" ["self"] (sp_Reader_row K) := by
  obtain ⟨fd, F⟩ := T.f_Reader_row
  refine ⟨_, fd, fn0 F sc_Reader_row (fun vs H Q E h => ?_) (fun cdv A outer s H vs Q E hr h => ⟨_, (pss_cons (ps_set (i := 1) sc_Reader_row.nd rfl (Or.inl rfl) (pe_md0 (good_Reader_number (P := P) (w := w) (base := base) T) (pv 0) T.c_Reader hr pass0))
      (pss_cons (ps_set (i := 2) sc_Reader_row.nd rfl (Or.inl rfl) (pe_fld (pv 0) rfl))
      (pss_cons (ps_fld (pv 0) (pe_op op_add (pv 2) (pv 1)) rfl)
      (pss_one (ps_ret (pe_slice sl_list (pe_fld (pv 0) rfl) (po_some (pv 2)) (po_some (pe_op op_add (pv 2) (pv 1))))))))), ?_⟩), F.bindsN (fun _ _ _ _ _ _ us hl => match us, hl with | [_], _ => rfl), T.m_Reader_row⟩
  · obtain ⟨_, _, _, _, _, _, e, _⟩ := h
    subst e
    rfl
  · obtain ⟨r, c, zs, rr, p, n, rfl, hR, hz, hn, hl, q⟩ := h
    obtain ⟨dx, h1, h2⟩ := hR
    obtain ⟨m, rfl⟩ : ∃ m : Nat, n = (m : Nat) := ⟨n.toNat, by omega⟩
    rw [Int.toNat_natCast] at hl q
    have hzp : zs[p]? = some (m : Int) := by
      have := congrArg (fun l => l[0]?) hz
      simpa using this
    have hrr : zs.drop (p + 1) = rr := by
      have := congrArg List.tail hz
      rw [List.tail_drop] at this
      simpa using this
    refine ⟨_, rfl, r, dx, _, rfl, h1, rfl, r, c, zs, p, (m : Int), rfl, ⟨dx, h1, h2⟩, hzp, fun H1 b1 hR1 => ?_⟩
    obtain ⟨dx1, g1, g2⟩ := hR1
    refine ⟨_, rfl, r, _, dx1, _, _, rfl, g1, T.c_Reader, T.n_Reader_at, rfl, ?_⟩
    refine ⟨_, rfl, _, rfl, _, _, rfl, rfl, _, rfl, r, _, dx1, _, rfl, g1, T.c_Reader, T.n_Reader_at, by simp, ?_⟩
    have g1' : upd H1 r (.ins (He.ga K "Reader") dx1 [("calls", .ref c), ("at", .int (((p + 1 + m : Nat)) : Int))]) r = some (.ins (He.ga K "Reader") dx1 [("calls", .ref c), ("at", .int (((p + 1 + m : Nat)) : Int))]) := upd_same
    have g2' : SqL K (upd H1 r (.ins (He.ga K "Reader") dx1 [("calls", .ref c), ("at", .int (((p + 1 + m : Nat)) : Int))])) c (zs.map V.int) := SqL.but But.upd g1 g2
    refine ⟨_, rfl, r, _, dx1, _, _, rfl, g1', T.c_Reader, T.n_Reader_calls, rfl, _, rfl, ((p + 1 : Nat) : Int), rfl, _, rfl, _, rfl, _, _, rfl, rfl, ((p + 1 + m : Nat) : Int), rfl, c, _, rfl, g2', fun u hu => ?_⟩
    have hlen : p + 1 + m ≤ zs.length := by
      have := congrArg List.length hrr
      rw [List.length_drop] at this
      have := (List.getElem?_eq_some_iff.mp hzp).1
      omega
    rw [cut_list zs (by omega) hlen, show p + 1 + m - (p + 1) = m by omega, hrr]
    have hu' : upd H1 r (.ins (He.ga K "Reader") dx1 [("calls", .ref c), ("at", .int (((p + 1 + m : Nat)) : Int))]) u = none := hu
    have bu : But r H (upd (upd H1 r (.ins (He.ga K "Reader") dx1 [("calls", .ref c), ("at", .int (((p + 1 + m : Nat)) : Int))])) u (.lst ((rr.take m).map V.int))) := But.trans b1 (But.trans But.upd (But.new hu'))
    refine q u (upd (upd H1 r (.ins (He.ga K "Reader") dx1 [("calls", .ref c), ("at", .int (((p + 1 + m : Nat)) : Int))])) u (.lst ((rr.take m).map V.int))) bu ⟨dx1, Same.new hu' _ _ g1', SqL.but (r := r) (But.new hu') g1' g2'⟩ ?_ upd_same
    have hur : u ≠ r := fun e => by rw [e, g1'] at hu'; cases hu'
    cases e : H u with
    | none => rfl
    | some o =>
      have := But.upd (r := r) (o := (.ins (He.ga K "Reader") dx1 [("calls", .ref c), ("at", .int (((p + 1 + m : Nat)) : Int))])) _ _ hur (b1 _ _ hur e)
      rw [this] at hu'
      cases hu'
abbrev nm_call_of_texts : List Str := ["shelf", "call", "numbers", "rows"]
theorem sc_call_of_texts : FnScope nm_call_of_texts ["shelf", "call", "numbers", "rows"] (defScope s_call_of_texts) := ⟨rfl, rfl, rfl, by decide +kernel, rfl, by decide +kernel, by decide +kernel⟩
def sp_call_of_texts (K : PySem.W.Frag) : Sp := fun vs H Q E => ∃ (a L N Rw : Addr) (S : Sh) (c : Int) (ns : List Int) (us : List V) (Ts : List (List Nat)), vs = [.ref a, .int c, .ref N, .ref Rw] ∧ (c = 1 ∨ c = 2 ∨ c = 7 ∨ c = 8) ∧ ShelfAt K H a L S ∧ ShOk S ∧ H N = some (.lst (ns.map V.int)) ∧ H Rw = some (.lst us) ∧ F2 (TextR H) us Ts ∧ (∀ T ∈ Ts, T.length ≤ 4100) ∧ PyWrsctf.shape c = some (ns.length, Ts.length) ∧ RetC K Q E H a L (mCall S c ns Ts)
theorem good_call_of_texts (T : Tx K mg) : Gd P w K mg base (L2.CX P w) 9 "call_of_texts" ["shelf", "call", "numbers", "rows"] (sp_call_of_texts K) := by
  obtain ⟨fd, F⟩ := T.f_call_of_texts
  refine ⟨_, fd, fnX F sc_call_of_texts (fun vs H Q E h => ?_) (fun cdv A outer s H vs Q E hr h => ⟨_, (pss_cons (ps_if (pt_cmpR op_eq (pv 1) pe_int (nomark _)) (pss_one (ps_ret (pe_md (good_Shelf_call_read (P := P) (w := w) (base := base) T) (pv 0) T.c_Shelf hr (passes_call (takes_of rfl rfl rfl rfl) (fun _ _ _ _ h => h)) (pa_cons (pe_ix ix_list (pv 3) pe_int (fun _ _ => rfl)) pa_nil)))) pss_nil)
      (pss_cons (ps_if (pt_cmpR op_eq (pv 1) pe_int (nomark _)) (pss_one (ps_ret (pe_gd (good_call_judge (P := P) (w := w) (base := base) T) hr (passes_call (takes_of rfl rfl rfl rfl) (fun _ _ _ _ h => h)) (pa_cons (pe_ix ix_list (pv 3) pe_int (fun _ _ => rfl)) pa_nil)))) pss_nil)
      (pss_cons (ps_if (pt_cmpR op_eq (pv 1) pe_int (nomark _)) (pss_one (ps_ret (pe_md (good_Shelf_call_apply (P := P) (w := w) (base := base) T) (pv 0) T.c_Shelf hr (passes_call (takes_of rfl rfl rfl rfl) (fun _ _ _ _ h => h)) (pa_cons (pe_ix ix_list (pv 2) pe_int (fun _ _ => rfl)) (pa_cons (pe_ix ix_list (pv 3) pe_int (fun _ _ => rfl)) pa_nil))))) pss_nil)
      (pss_one (ps_ret (pe_gd (good_call_invert (P := P) (w := w) (base := base) T) hr (passes_call (takes_of rfl rfl rfl rfl) (fun _ _ _ _ h => h)) (pa_cons (pe_ix ix_list (pv 3) pe_int (fun _ _ => rfl)) pa_nil))))))), ?_⟩), F.bindsN (fun _ _ _ _ _ _ us hl => match us, hl with | [_, _, _, _], _ => rfl), T.g_call_of_texts, F.kp⟩
  · obtain ⟨_, _, _, _, _, _, _, _, _, e, _⟩ := h
    subst e
    rfl
  · obtain ⟨a, L, N, Rw, S, c, ns, us, Ts, rfl, gc, hS, hok, hN, hRw, hF, hT, hsh, R⟩ := h
    have h1 : Ts.length = 1 := by rcases shape_cases hsh with h | h | h | h | h | h | h | h | h | h | h | h | h | h <;> omega
    obtain ⟨T0, rfl⟩ := List.length_eq_one_iff.mp h1
    cases hF with
    | cons hr hnil =>
    cases hnil
    obtain ⟨t, rfl, ht⟩ := hr
    have hT0 : T0.length ≤ 4100 := hT T0 List.mem_cons_self
    have hS0 := hS
    obtain ⟨dx, vs, s1, s2, s3⟩ := hS
    rcases gc with rfl | rfl | rfl | rfl
    · have R' : RetC K Q E H a L (mRead S T0) := R
      exact ⟨_, rfl, rfl, _, rfl, if_t rfl ⟨_, rfl, a, dx, _, rfl, s1, rfl, _, rfl, Rw, _, ((0 : Nat) : Int), _, rfl, rfl, SqL.of hRw, atI_nat rfl, a, L, t, S, T0, rfl, hS0, ht, hT0, R'⟩⟩
    · have R' : RetC K Q E H a L (still S (mJudge T0)) := R
      exact ⟨_, rfl, rfl, _, rfl, if_f rfl ⟨_, rfl, rfl, _, rfl, if_t rfl ⟨_, rfl, Rw, _, ((0 : Nat) : Int), _, rfl, rfl, SqL.of hRw, atI_nat rfl, t, T0, rfl, ht, by omega, R'.still hS0⟩⟩⟩
    · have h2 : ns.length = 1 := by rcases shape_cases hsh with h | h | h | h | h | h | h | h | h | h | h | h | h | h <;> omega
      obtain ⟨v, rfl⟩ := List.length_eq_one_iff.mp h2
      have R' : RetC K Q E H a L (mApply S v T0) := R
      exact ⟨_, rfl, rfl, _, rfl, if_f rfl ⟨_, rfl, rfl, _, rfl, if_f rfl ⟨_, rfl, rfl, _, rfl, if_t rfl ⟨_, rfl, a, dx, _, rfl, s1, rfl, _, rfl, N, _, ((0 : Nat) : Int), _, rfl, rfl, SqL.of hN, atI_nat rfl, _, rfl, Rw, _, ((0 : Nat) : Int), _, rfl, rfl, SqL.of hRw, atI_nat rfl, a, L, t, S, v, T0, rfl, hS0, hok, ht, hT0, R'⟩⟩⟩⟩
    · have R' : RetC K Q E H a L (still S (mInvert T0)) := R
      exact ⟨_, rfl, rfl, _, rfl, if_f rfl ⟨_, rfl, rfl, _, rfl, if_f rfl ⟨_, rfl, rfl, _, rfl, if_f rfl ⟨_, rfl, Rw, _, ((0 : Nat) : Int), _, rfl, rfl, SqL.of hRw, atI_nat rfl, t, T0, rfl, ht, hT0, R'.still hS0⟩⟩⟩⟩
abbrev nm_call_of_names : List Str := ["shelf", "call", "v", "rows"]
theorem sc_call_of_names : FnScope nm_call_of_names ["shelf", "call", "v", "rows"] (defScope s_call_of_names) := ⟨rfl, rfl, rfl, by decide +kernel, rfl, by decide +kernel, by decide +kernel⟩
def sp_call_of_names (K : PySem.W.Frag) : Sp := fun vs H Q E => ∃ (a L Rw : Addr) (S : Sh) (c v : Int) (us : List V) (Ts : List (List Nat)), vs = [.ref a, .int c, .int v, .ref Rw] ∧ (c = 10 ∨ c = 11 ∨ c = 12 ∨ c = 13) ∧ ShelfAt K H a L S ∧ ShOk S ∧ H Rw = some (.lst us) ∧ F2 (TextR H) us Ts ∧ PyWrsctf.shape c = some (1, Ts.length) ∧ RetC K Q E H a L (mCall S c [v] Ts)
theorem good_call_of_names (T : Tx K mg) : Gd P w K mg base (L2.CX P w) 7 "call_of_names" ["shelf", "call", "v", "rows"] (sp_call_of_names K) := by
  obtain ⟨fd, F⟩ := T.f_call_of_names
  refine ⟨_, fd, fnX F sc_call_of_names (fun vs H Q E h => ?_) (fun cdv A outer s H vs Q E hr h => ⟨_, (pss_cons (ps_if (pt_cmpR op_eq (pv 1) pe_int (nomark _)) (pss_one (ps_ret (pe_md (good_Shelf_call_rename (P := P) (w := w) (base := base) T) (pv 0) T.c_Shelf hr (passes_call (takes_of rfl rfl rfl rfl) (fun _ _ _ _ h => h)) (pa_cons (pv 2) (pa_cons (pe_ix ix_list (pv 3) pe_int (fun _ _ => rfl)) (pa_cons (pe_ix ix_list (pv 3) pe_int (fun _ _ => rfl)) pa_nil)))))) pss_nil)
      (pss_cons (ps_if (pt_cmpR op_eq (pv 1) pe_int (nomark _)) (pss_one (ps_ret (pe_md (good_Shelf_call_drop (P := P) (w := w) (base := base) T) (pv 0) T.c_Shelf hr (passes_call (takes_of rfl rfl rfl rfl) (fun _ _ _ _ h => h)) (pa_cons (pv 2) (pa_cons (pe_ix ix_list (pv 3) pe_int (fun _ _ => rfl)) pa_nil))))) pss_nil)
      (pss_cons (ps_if (pt_cmpR op_eq (pv 1) pe_int (nomark _)) (pss_one (ps_ret (pe_md (good_Shelf_call_parts (P := P) (w := w) (base := base) T) (pv 0) T.c_Shelf hr (passes_call (takes_of rfl rfl rfl rfl) (fun _ _ _ _ h => h)) (pa_cons (pv 2) (pa_cons (pe_ix ix_list (pv 3) pe_int (fun _ _ => rfl)) pa_nil))))) pss_nil)
      (pss_one (ps_ret (pe_md (good_Shelf_call_users (P := P) (w := w) (base := base) T) (pv 0) T.c_Shelf hr (passes_call (takes_of rfl rfl rfl rfl) (fun _ _ _ _ h => h)) (pa_cons (pv 2) (pa_cons (pe_ix ix_list (pv 3) pe_int (fun _ _ => rfl)) pa_nil)))))))), ?_⟩), F.bindsN (fun _ _ _ _ _ _ us hl => match us, hl with | [_, _, _, _], _ => rfl), T.g_call_of_names, F.kp⟩
  · obtain ⟨_, _, _, _, _, _, _, _, e, _⟩ := h
    subst e
    rfl
  · obtain ⟨a, L, Rw, S, c, v, us, Ts, rfl, gc, hS, hok, hRw, hF, hsh, R⟩ := h
    have hS0 := hS
    obtain ⟨dx, vs, s1, s2, s3⟩ := hS
    rcases gc with rfl | gc
    · have h1 : Ts.length = 2 := by rcases shape_cases hsh with h | h | h | h | h | h | h | h | h | h | h | h | h | h <;> omega
      obtain ⟨T0, T1, rfl⟩ := len2 h1
      cases hF with
      | cons hr hF =>
      cases hF with
      | cons hr2 hnil =>
      cases hnil
      obtain ⟨t, rfl, ht⟩ := hr
      obtain ⟨t2, rfl, ht2⟩ := hr2
      have R' : RetC K Q E H a L (mCallRename S v T0 T1) := R
      exact ⟨_, rfl, rfl, _, rfl, if_t rfl ⟨_, rfl, a, dx, _, rfl, s1, rfl, _, rfl, _, rfl, Rw, _, ((0 : Nat) : Int), _, rfl, rfl, SqL.of hRw, atI_nat rfl, _, rfl, Rw, _, ((1 : Nat) : Int), _, rfl, rfl, SqL.of hRw, atI_nat rfl, a, L, t, t2, S, v, T0, T1, rfl, hS0, hok, ht, ht2, R'⟩⟩
    have h1 : Ts.length = 1 := by rcases shape_cases hsh with h | h | h | h | h | h | h | h | h | h | h | h | h | h <;> omega
    obtain ⟨T0, rfl⟩ := List.length_eq_one_iff.mp h1
    cases hF with
    | cons hr hnil =>
    cases hnil
    obtain ⟨t, rfl, ht⟩ := hr
    rcases gc with rfl | rfl | rfl
    · have R' : RetC K Q E H a L (mCallDrop S v T0) := R
      exact ⟨_, rfl, rfl, _, rfl, if_f rfl ⟨_, rfl, rfl, _, rfl, if_t rfl ⟨_, rfl, a, dx, _, rfl, s1, rfl, _, rfl, _, rfl, Rw, _, ((0 : Nat) : Int), _, rfl, rfl, SqL.of hRw, atI_nat rfl, a, L, t, S, v, T0, rfl, hS0, hok, ht, R'⟩⟩⟩
    · have R' : RetC K Q E H a L (still S (mCallParts S v T0)) := R
      exact ⟨_, rfl, rfl, _, rfl, if_f rfl ⟨_, rfl, rfl, _, rfl, if_f rfl ⟨_, rfl, rfl, _, rfl, if_t rfl ⟨_, rfl, a, dx, _, rfl, s1, rfl, _, rfl, _, rfl, Rw, _, ((0 : Nat) : Int), _, rfl, rfl, SqL.of hRw, atI_nat rfl, a, L, t, S, v, T0, rfl, hS0, hok, ht, R'.still hS0⟩⟩⟩⟩
    · have R' : RetC K Q E H a L (still S (mCallUsers S v T0)) := R
      exact ⟨_, rfl, rfl, _, rfl, if_f rfl ⟨_, rfl, rfl, _, rfl, if_f rfl ⟨_, rfl, rfl, _, rfl, if_f rfl ⟨_, rfl, a, dx, _, rfl, s1, rfl, _, rfl, _, rfl, Rw, _, ((0 : Nat) : Int), _, rfl, rfl, SqL.of hRw, atI_nat rfl, a, L, t, S, v, T0, rfl, hS0, hok, ht, R'.still hS0⟩⟩⟩⟩
abbrev nm_call_of_versions : List Str := ["shelf", "call", "numbers"]
theorem sc_call_of_versions : FnScope nm_call_of_versions ["shelf", "call", "numbers"] (defScope s_call_of_versions) := ⟨rfl, rfl, rfl, by decide +kernel, rfl, by decide +kernel, by decide +kernel⟩
def sp_call_of_versions (K : PySem.W.Frag) : Sp := fun vs H Q E => ∃ (a L N : Addr) (S : Sh) (c : Int) (ns : List Int) (Ts : List (List Nat)), vs = [.ref a, .int c, .ref N] ∧ (c = 3 ∨ c = 4 ∨ c = 5 ∨ c = 6 ∨ c = 9 ∨ c = 14) ∧ ShelfAt K H a L S ∧ ShOk S ∧ H N = some (.lst (ns.map V.int)) ∧ PyWrsctf.shape c = some (ns.length, Ts.length) ∧ RetC K Q E H a L (mCall S c ns Ts)
theorem good_call_of_versions (T : Tx K mg) : Gd P w K mg base (L2.CX P w) 7 "call_of_versions" ["shelf", "call", "numbers"] (sp_call_of_versions K) := by
  obtain ⟨fd, F⟩ := T.f_call_of_versions
  refine ⟨_, fd, fnX F sc_call_of_versions (fun vs H Q E h => ?_) (fun cdv A outer s H vs Q E hr h => ⟨_, (pss_cons (ps_if (pt_cmpR op_eq (pv 1) pe_int (nomark _)) (pss_one (ps_ret (pe_md (good_Shelf_call_text (P := P) (w := w) (base := base) T) (pv 0) T.c_Shelf hr (passes_call (takes_of rfl rfl rfl rfl) (fun _ _ _ _ h => h)) (pa_cons (pe_ix ix_list (pv 2) pe_int (fun _ _ => rfl)) pa_nil)))) pss_nil)
      (pss_cons (ps_if (pt_cmpR op_eq (pv 1) pe_int (nomark _)) (pss_one (ps_ret (pe_md (good_Shelf_call_count (P := P) (w := w) (base := base) T) (pv 0) T.c_Shelf hr (passes_call (takes_of rfl rfl rfl rfl) (fun _ _ _ _ h => h)) (pa_cons (pe_ix ix_list (pv 2) pe_int (fun _ _ => rfl)) pa_nil)))) pss_nil)
      (pss_cons (ps_if (pt_cmpR op_eq (pv 1) pe_int (nomark _)) (pss_one (ps_ret (pe_md (good_Shelf_call_same (P := P) (w := w) (base := base) T) (pv 0) T.c_Shelf hr (passes_call (takes_of rfl rfl rfl rfl) (fun _ _ _ _ h => h)) (pa_cons (pe_ix ix_list (pv 2) pe_int (fun _ _ => rfl)) (pa_cons (pe_ix ix_list (pv 2) pe_int (fun _ _ => rfl)) pa_nil))))) pss_nil)
      (pss_cons (ps_if (pt_cmpR op_eq (pv 1) pe_int (nomark _)) (pss_one (ps_ret (pe_md (good_Shelf_call_diff (P := P) (w := w) (base := base) T) (pv 0) T.c_Shelf hr (passes_call (takes_of rfl rfl rfl rfl) (fun _ _ _ _ h => h)) (pa_cons (pe_ix ix_list (pv 2) pe_int (fun _ _ => rfl)) (pa_cons (pe_ix ix_list (pv 2) pe_int (fun _ _ => rfl)) pa_nil))))) pss_nil)
      (pss_cons (ps_if (pt_cmpR op_eq (pv 1) pe_int (nomark _)) (pss_one (ps_ret (pe_md (good_Shelf_call_merge (P := P) (w := w) (base := base) T) (pv 0) T.c_Shelf hr (passes_call (takes_of rfl rfl rfl rfl) (fun _ _ _ _ h => h)) (pa_cons (pe_ix ix_list (pv 2) pe_int (fun _ _ => rfl)) (pa_cons (pe_ix ix_list (pv 2) pe_int (fun _ _ => rfl)) (pa_cons (pe_ix ix_list (pv 2) pe_int (fun _ _ => rfl)) pa_nil)))))) pss_nil)
      (pss_one (ps_ret (pe_md (good_Shelf_call_order (P := P) (w := w) (base := base) T) (pv 0) T.c_Shelf hr (passes_call (takes_of rfl rfl rfl rfl) (fun _ _ _ _ h => h)) (pa_cons (pe_ix ix_list (pv 2) pe_int (fun _ _ => rfl)) pa_nil))))))))), ?_⟩), F.bindsN (fun _ _ _ _ _ _ us hl => match us, hl with | [_, _, _], _ => rfl), T.g_call_of_versions, F.kp⟩
  · obtain ⟨_, _, _, _, _, _, _, e, _⟩ := h
    subst e
    rfl
  · obtain ⟨a, L, N, S, c, ns, Ts, rfl, gc, hS, hok, hN, hsh, R⟩ := h
    have hS0 := hS
    obtain ⟨dx, vs, s1, s2, s3⟩ := hS
    have hlen : ns.length = (if c = 9 then 3 else if c = 5 ∨ c = 6 then 2 else 1) := by rcases shape_cases hsh with h | h | h | h | h | h | h | h | h | h | h | h | h | h <;> (obtain ⟨rfl, h, -⟩ := h; first | exact h | (exfalso; omega))
    rcases gc with rfl | rfl | rfl | rfl | rfl | rfl
    · obtain ⟨v, rfl⟩ := List.length_eq_one_iff.mp hlen
      have R' : RetC K Q E H a L (still S (mCallText S v)) := R
      exact ⟨_, rfl, rfl, _, rfl, if_t rfl ⟨_, rfl, a, dx, _, rfl, s1, rfl, _, rfl, N, _, ((0 : Nat) : Int), _, rfl, rfl, SqL.of hN, atI_nat rfl, a, L, S, v, rfl, hS0, hok, R'.still hS0⟩⟩
    · obtain ⟨v, rfl⟩ := List.length_eq_one_iff.mp hlen
      have R' : RetC K Q E H a L (still S (mCount S v)) := R
      exact ⟨_, rfl, rfl, _, rfl, if_f rfl ⟨_, rfl, rfl, _, rfl, if_t rfl ⟨_, rfl, a, dx, _, rfl, s1, rfl, _, rfl, N, _, ((0 : Nat) : Int), _, rfl, rfl, SqL.of hN, atI_nat rfl, a, L, S, v, rfl, hS0, R'.still hS0⟩⟩⟩
    · obtain ⟨v, w, rfl⟩ := len2 hlen
      have R' : RetC K Q E H a L (still S (mCallSame S v w)) := R
      exact ⟨_, rfl, rfl, _, rfl, if_f rfl ⟨_, rfl, rfl, _, rfl, if_f rfl ⟨_, rfl, rfl, _, rfl, if_t rfl ⟨_, rfl, a, dx, _, rfl, s1, rfl, _, rfl, N, _, ((0 : Nat) : Int), _, rfl, rfl, SqL.of hN, atI_nat rfl, _, rfl, N, _, ((1 : Nat) : Int), _, rfl, rfl, SqL.of hN, atI_nat rfl, a, L, S, v, w, rfl, hS0, R'.still hS0⟩⟩⟩⟩
    · obtain ⟨v, w, rfl⟩ := len2 hlen
      have R' : RetC K Q E H a L (still S (mCallDiff S v w)) := R
      exact ⟨_, rfl, rfl, _, rfl, if_f rfl ⟨_, rfl, rfl, _, rfl, if_f rfl ⟨_, rfl, rfl, _, rfl, if_f rfl ⟨_, rfl, rfl, _, rfl, if_t rfl ⟨_, rfl, a, dx, _, rfl, s1, rfl, _, rfl, N, _, ((0 : Nat) : Int), _, rfl, rfl, SqL.of hN, atI_nat rfl, _, rfl, N, _, ((1 : Nat) : Int), _, rfl, rfl, SqL.of hN, atI_nat rfl, a, L, S, v, w, rfl, hS0, hok, R'.still hS0⟩⟩⟩⟩⟩
    · obtain ⟨b, v, w, rfl⟩ := len3 hlen
      have R' : RetC K Q E H a L (mCallMerge S b v w) := R
      exact ⟨_, rfl, rfl, _, rfl, if_f rfl ⟨_, rfl, rfl, _, rfl, if_f rfl ⟨_, rfl, rfl, _, rfl, if_f rfl ⟨_, rfl, rfl, _, rfl, if_f rfl ⟨_, rfl, rfl, _, rfl, if_t rfl ⟨_, rfl, a, dx, _, rfl, s1, rfl, _, rfl, N, _, ((0 : Nat) : Int), _, rfl, rfl, SqL.of hN, atI_nat rfl, _, rfl, N, _, ((1 : Nat) : Int), _, rfl, rfl, SqL.of hN, atI_nat rfl, _, rfl, N, _, ((2 : Nat) : Int), _, rfl, rfl, SqL.of hN, atI_nat rfl, a, L, S, b, v, w, rfl, hS0, hok, R'⟩⟩⟩⟩⟩⟩
    · obtain ⟨v, rfl⟩ := List.length_eq_one_iff.mp hlen
      have R' : RetC K Q E H a L (still S (mOrder S v)) := R
      exact ⟨_, rfl, rfl, _, rfl, if_f rfl ⟨_, rfl, rfl, _, rfl, if_f rfl ⟨_, rfl, rfl, _, rfl, if_f rfl ⟨_, rfl, rfl, _, rfl, if_f rfl ⟨_, rfl, rfl, _, rfl, if_f rfl ⟨_, rfl, a, dx, _, rfl, s1, rfl, _, rfl, N, _, ((0 : Nat) : Int), _, rfl, rfl, SqL.of hN, atI_nat rfl, a, L, S, v, rfl, hS0, hok, R'.still hS0⟩⟩⟩⟩⟩⟩
abbrev nm_do_call : List Str := ["shelf", "call", "numbers", "rows"]
theorem sc_do_call : FnScope nm_do_call ["shelf", "call", "numbers", "rows"] (defScope s_do_call) := ⟨rfl, rfl, rfl, by decide +kernel, rfl, by decide +kernel, by decide +kernel⟩
def sp_do_call (K : PySem.W.Frag) : Sp := fun vs H Q E => ∃ (a L N Rw : Addr) (S : Sh) (c : Int) (ns : List Int) (us : List V) (Ts : List (List Nat)), vs = [.ref a, .int c, .ref N, .ref Rw] ∧ ShelfAt K H a L S ∧ ShOk S ∧ H N = some (.lst (ns.map V.int)) ∧ H Rw = some (.lst us) ∧ F2 (TextR H) us Ts ∧ (∀ T ∈ Ts, T.length ≤ 4100) ∧ PyWrsctf.shape c = some (ns.length, Ts.length) ∧ RetC K Q E H a L (mCall S c ns Ts)
theorem good_do_call (T : Tx K mg) : Gd P w K mg base (L2.CX P w) 10 "do_call" ["shelf", "call", "numbers", "rows"] (sp_do_call K) := by
  obtain ⟨fd, F⟩ := T.f_do_call
  refine ⟨_, fd, fnX F sc_do_call (fun vs H Q E h => ?_) (fun cdv A outer s H vs Q E hr h => ⟨_, (pss_cons (ps_if (pt_cmpR op_in_seq (pv 1) (pe_tup (pa_cons pe_int (pa_cons pe_int (pa_cons pe_int (pa_cons pe_int pa_nil))))) (by with_unfolding_all rfl)) (pss_one (ps_ret (pe_gd (good_call_of_texts (P := P) (w := w) (base := base) T) hr (passes_call (takes_of rfl rfl rfl rfl) (fun _ _ _ _ h => h)) (pa_cons (pv 0) (pa_cons (pv 1) (pa_cons (pv 2) (pa_cons (pv 3) pa_nil))))))) pss_nil)
      (pss_cons (ps_if (pt_cmpR op_in_seq (pv 1) (pe_tup (pa_cons pe_int (pa_cons pe_int (pa_cons pe_int (pa_cons pe_int pa_nil))))) (by with_unfolding_all rfl)) (pss_one (ps_ret (pe_gd (good_call_of_names (P := P) (w := w) (base := base) T) hr (passes_call (takes_of rfl rfl rfl rfl) (fun _ _ _ _ h => h)) (pa_cons (pv 0) (pa_cons (pv 1) (pa_cons (pe_ix ix_list (pv 2) pe_int (fun _ _ => rfl)) (pa_cons (pv 3) pa_nil))))))) pss_nil)
      (pss_one (ps_ret (pe_gd (good_call_of_versions (P := P) (w := w) (base := base) T) hr (passes_call (takes_of rfl rfl rfl rfl) (fun _ _ _ _ h => h)) (pa_cons (pv 0) (pa_cons (pv 1) (pa_cons (pv 2) pa_nil)))))))), ?_⟩), F.bindsN (fun _ _ _ _ _ _ us hl => match us, hl with | [_, _, _, _], _ => rfl), T.g_do_call, F.kp⟩
  · obtain ⟨_, _, _, _, _, _, _, _, _, e, _⟩ := h
    subst e
    rfl
  · obtain ⟨a, L, N, Rw, S, c, ns, us, Ts, rfl, hS, hok, hN, hRw, hF, hT, hsh, R⟩ := h
    have g1 : (c = 1 ∨ c = 2 ∨ c = 7 ∨ c = 8) ∨ (c = 10 ∨ c = 11 ∨ c = 12 ∨ c = 13) ∨ (c = 3 ∨ c = 4 ∨ c = 5 ∨ c = 6 ∨ c = 9 ∨ c = 14) := by
      rcases shape_cases hsh with h | h | h | h | h | h | h | h | h | h | h | h | h | h <;> omega
    have in1 : (if false = true then !inV (V.int c) [V.int 1, .int 2, .int 7, .int 8] else inV (V.int c) [V.int 1, .int 2, .int 7, .int 8]) = (decide (c = 1) || (decide (c = 2) || (decide (c = 7) || decide (c = 8)))) := by
      rw [if_neg Bool.false_ne_true]
      have := inV_ints c [1, 2, 7, 8]
      rw [show ([1, 2, 7, 8] : List Int).map V.int = [V.int 1, .int 2, .int 7, .int 8] from rfl] at this
      rw [this]
      simp only [List.any_cons, List.any_nil, Bool.or_false]
      have e : ∀ k : Int, (k == c) = decide (c = k) := fun k => by
        by_cases h : c = k
        · simp [h]
        · simp [h, Ne.symm h]
      rw [e, e, e, e]
    have in2 : (if false = true then !inV (V.int c) [V.int 10, .int 11, .int 12, .int 13] else inV (V.int c) [V.int 10, .int 11, .int 12, .int 13]) = (decide (c = 10) || (decide (c = 11) || (decide (c = 12) || decide (c = 13)))) := by
      rw [if_neg Bool.false_ne_true]
      have := inV_ints c [10, 11, 12, 13]
      rw [show ([10, 11, 12, 13] : List Int).map V.int = [V.int 10, .int 11, .int 12, .int 13] from rfl] at this
      rw [this]
      simp only [List.any_cons, List.any_nil, Bool.or_false]
      have e : ∀ k : Int, (k == c) = decide (c = k) := fun k => by
        by_cases h : c = k
        · simp [h]
        · simp [h, Ne.symm h]
      rw [e, e, e, e]
    refine ⟨_, rfl, fits (by simp), fun p hp => ⟨p, _, rfl, .inr (SqT.of upd_same), rfl, rfl, _, rfl, ?_⟩⟩
    rw [in1]
    have sp := Same.new (o := .tup [V.int 1, .int 2, .int 7, .int 8]) hp
    refine if_b (fun t => ?_) fun t => ?_
    · have gc : c = 1 ∨ c = 2 ∨ c = 7 ∨ c = 8 := by simpa using t
      exact ⟨_, rfl, _, rfl, _, rfl, _, rfl, a, L, N, Rw, S, c, ns, us, Ts, rfl, gc, hS.same sp, hok, sp _ _ hN, sp _ _ hRw, hF.imp fun _ _ ⟨x, e, h⟩ => ⟨x, e, sp _ _ h⟩, hT, hsh, R.last sp⟩
    have n1 : ¬ (c = 1 ∨ c = 2 ∨ c = 7 ∨ c = 8) := by simpa using t
    refine ⟨_, rfl, fits (by simp), fun p2 hp2 => ⟨p2, _, rfl, .inr (SqT.of upd_same), rfl, rfl, _, rfl, ?_⟩⟩
    rw [in2]
    have sp2 := Same.trans' sp (Same.new (o := .tup [V.int 10, .int 11, .int 12, .int 13]) hp2)
    refine if_b (fun t => ?_) fun t => ?_
    · have gc : c = 10 ∨ c = 11 ∨ c = 12 ∨ c = 13 := by simpa using t
      have h1 : ns.length = 1 := by rcases shape_cases hsh with h | h | h | h | h | h | h | h | h | h | h | h | h | h <;> omega
      obtain ⟨v, rfl⟩ := List.length_eq_one_iff.mp h1
      exact ⟨_, rfl, _, rfl, _, rfl, N, _, ((0 : Nat) : Int), _, rfl, rfl, SqL.of (sp2 _ _ hN), atI_nat rfl, _, rfl, a, L, Rw, S, c, v, us, Ts, rfl, gc, hS.same sp2, hok, sp2 _ _ hRw, hF.imp fun _ _ ⟨x, e, h⟩ => ⟨x, e, sp2 _ _ h⟩, hsh, R.last sp2⟩
    have n2 : ¬ (c = 10 ∨ c = 11 ∨ c = 12 ∨ c = 13) := by simpa using t
    have gc : c = 3 ∨ c = 4 ∨ c = 5 ∨ c = 6 ∨ c = 9 ∨ c = 14 := by omega
    exact ⟨_, rfl, _, rfl, _, rfl, a, L, N, S, c, ns, Ts, rfl, gc, hS.same sp2, hok, sp2 _ _ hN, hsh, R.last sp2⟩
abbrev nm_next_answer : List Str := ["shelf", "reader", "call", "numbers", "argument", "rows", "refusal"]
theorem sc_next_answer : FnScope nm_next_answer ["shelf", "reader"] (defScope s_next_answer) := ⟨rfl, rfl, rfl, by decide +kernel, rfl, by decide +kernel, by decide +kernel⟩
def sp_next_answer (K : PySem.W.Frag) : Sp := fun vs H Q _ => ∃ (H0 : Hp) (a L r cA : Addr) (S : Sh) (zs : List Int) (p : Nat) (c : Int) (ns : List Int) (rows : List (List Int)) (rest : List Int), vs = [.ref a, .ref r] ∧ ShelfAt K H a L S ∧ ShOk S ∧ ReaderAt K H r cA zs p ∧ r ≠ a ∧ SqL K H0 cA (zs.map V.int) ∧ Same H0 H ∧ H0 L = none ∧ H0 r = none ∧
  PyFlat.call PyWrsctf.shape (zs.drop p) = some ((c :: ns) :: rows, rest) ∧ (∀ z ∈ rows, RowOk z) ∧
  ∀ v H' p', (∀ b o, b ≠ r → b ≠ L → H b = some o → H' b = some o) → ShelfAt K H' a L (mStep S c ns (rows.map fun z => z.map Int.toNat)).1 → ReaderAt K H' r cA zs p' → zs.drop p' = rest → AnsP H (mStep S c ns (rows.map fun z => z.map Int.toNat)).2 v H' → Q v H'
theorem good_next_answer (T : Tx K mg) : Gd P w K mg base CX0 11 "next_answer" ["shelf", "reader"] (sp_next_answer K) := by
  obtain ⟨fd, F⟩ := T.f_next_answer
  refine ⟨_, fd, fn0 F sc_next_answer (fun vs H Q E h => ?_) (fun cdv A outer s H vs Q E hr h => ⟨_, (pss_cons (ps_set (i := 2) sc_next_answer.nd rfl (Or.inl rfl) (pe_md0 (good_Reader_number (P := P) (w := w) (base := base) T) (pv 1) T.c_Reader hr pass0))
      (pss_cons (ps_set (i := 3) sc_next_answer.nd rfl (Or.inl rfl) (pe_lst pa_nil))
      (pss_cons (ps_for PassesOwn.never rfl (pi_range1 rfl T.b_range (pa_cons (pe_ix ix_tup (pe_gr T.g_NUMBERS) (pv 2) (fun _ _ => rfl)) pa_nil)) (pg_name (i := 4) sc_next_answer.nd rfl (Or.inl rfl)) (pss_one (ps_expr (pe_bm PySem.F.plainAttrs_list PySem.F.slot_list_append PySem.F.type_list_append mt_append (pv 3) (pa_cons (pe_md0 (good_Reader_number (P := P) (w := w) (base := base) T) (pv 1) T.c_Reader hr pass0) pa_nil)))))
      (pss_cons (ps_set (i := 5) sc_next_answer.nd rfl (Or.inl rfl) (pe_lst pa_nil))
      (pss_cons (ps_for PassesOwn.never rfl (pi_range1 rfl T.b_range (pa_cons (pe_ix ix_tup (pe_gr T.g_ROWS) (pv 2) (fun _ _ => rfl)) pa_nil)) (pg_name (i := 4) sc_next_answer.nd rfl (Or.inl rfl)) (pss_one (ps_expr (pe_bm PySem.F.plainAttrs_list PySem.F.slot_list_append PySem.F.type_list_append mt_append (pv 5) (pa_cons (pe_md0 (good_Reader_row (P := P) (w := w) (base := base) T) (pv 1) T.c_Reader hr pass0) pa_nil)))))
      (pss_one (ps_try_as (i := 6) (tb := fun W => tRet (tCallS (sp_do_call K) (WE W) (tCons (tVar 0) (tCons (tVar 2) (tCons (tVar 3) (tCons (tVar 5) tNil)))))) (ts := fun a cls d => tRet (tByRef (He.ga K "Refusal") a cls d (tVar 6))) (Wout := fun _ _ _ _ => False) rfl rfl sc_next_answer.nd rfl rfl ⟨rfl, by decide, Or.inl T.ref.gC⟩ takes0
        (fun W pn xe tk _ => pss_one (ps_ret (by exact (pe_gdS (good_do_call (P := P) (w := w) (base := base) T) hr (fun σ => passAt tk σ) (by exact (pa_cons (pv 0) (pa_cons (pv 2) (pa_cons (pv 3) (pa_cons (pv 5) pa_nil)))))))))
        (fun a oe cls d pn hz hf => pss_one (ps_ret (by exact (pe_byRef T.ref hz hf (pv 6)))))))))))), ?_⟩), F.bindsN (fun _ _ _ _ _ _ us hl => match us, hl with | [_, _], _ => rfl), T.g_next_answer, F.kp⟩
  · obtain ⟨_, _, _, _, _, _, _, _, _, _, _, _, e, _⟩ := h
    subst e
    rfl
  · obtain ⟨H0, a, L, r, cA, S, zs, p, c, ns, rows, rest, rfl, hS, hok, hR, hra, hq0, s0, hL0, hr0, hcall, hrows, q⟩ := h
    obtain ⟨pc, rr, n, k, xs, hz, hsh, hn, hrk, he⟩ := flat_call hcall
    injection he with he1 he2
    injection he1 with he1 he3
    subst he1 he2 he3
    have hS0 := hS
    obtain ⟨dxr, r1, r2⟩ := hR
    have hzp : zs[p]? = some c := by
      have := congrArg (fun l => l[0]?) hz
      simpa using this
    have hrr : zs.drop (p + 1) = rr := by
      have := congrArg List.tail hz
      rw [List.tail_drop] at this
      simpa using this
    have hNU : atI [V.int 0, .int 0, .int 0, .int 1, .int 1, .int 2, .int 2, .int 1, .int 0, .int 3, .int 1, .int 1, .int 1, .int 1, .int 1] c = some (.int (n : Nat)) := by
      rcases shape_cases hsh with ⟨rfl, rfl, rfl⟩ | ⟨rfl, rfl, rfl⟩ | ⟨rfl, rfl, rfl⟩ | ⟨rfl, rfl, rfl⟩ | ⟨rfl, rfl, rfl⟩ | ⟨rfl, rfl, rfl⟩ | ⟨rfl, rfl, rfl⟩ | ⟨rfl, rfl, rfl⟩ | ⟨rfl, rfl, rfl⟩ | ⟨rfl, rfl, rfl⟩ | ⟨rfl, rfl, rfl⟩ | ⟨rfl, rfl, rfl⟩ | ⟨rfl, rfl, rfl⟩ | ⟨rfl, rfl, rfl⟩ <;> rfl
    have hRO : atI [V.int 0, .int 1, .int 1, .int 0, .int 0, .int 0, .int 0, .int 1, .int 1, .int 0, .int 2, .int 1, .int 1, .int 1, .int 0] c = some (.int (k : Nat)) := by
      rcases shape_cases hsh with ⟨rfl, rfl, rfl⟩ | ⟨rfl, rfl, rfl⟩ | ⟨rfl, rfl, rfl⟩ | ⟨rfl, rfl, rfl⟩ | ⟨rfl, rfl, rfl⟩ | ⟨rfl, rfl, rfl⟩ | ⟨rfl, rfl, rfl⟩ | ⟨rfl, rfl, rfl⟩ | ⟨rfl, rfl, rfl⟩ | ⟨rfl, rfl, rfl⟩ | ⟨rfl, rfl, rfl⟩ | ⟨rfl, rfl, rfl⟩ | ⟨rfl, rfl, rfl⟩ | ⟨rfl, rfl, rfl⟩ <;> rfl
    have hnk : n ≤ 3 ∧ k ≤ 2 := by rcases shape_cases hsh with h | h | h | h | h | h | h | h | h | h | h | h | h | h <;> omega
    refine ⟨_, rfl, r, dxr, _, rfl, r1, rfl, r, cA, zs, p, c, rfl, ⟨dxr, r1, r2⟩, hzp, fun H1 b1 hR1 => ?_⟩
    have hS1 := hS0.but r1 hra b1
    refine ⟨fits (by simp), fun N hN => ?_⟩
    have hNn : ∀ H' : Hp, But r H H' → H' N = none → H N = none := fun H' b h => by
      cases e : H N with
      | none => rfl
      | some o =>
        by_cases hNr : N = r
        · rw [hNr] at hN
          obtain ⟨dx, g, _⟩ := hR1
          rw [g] at hN
          cases hN
        · rw [b _ _ hNr e] at h
          cases h
    have hN0 := hNn H1 b1 hN
    have hNr : N ≠ r := fun e => by rw [e] at hN0; rw [r1] at hN0; cases hN0
    have b1N : But r H (upd H1 N (.lst [])) := But.trans b1 (But.new hN)
    have hR1N : ReaderAt K (upd H1 N (.lst [])) r cA zs (p + 1) := by
      obtain ⟨dx, g1, g2⟩ := hR1
      exact ⟨dx, Same.new hN _ _ g1, SqL.but (r := r) (But.new hN) g1 g2⟩
    refine ⟨_, rfl, _, _, _, _, rfl, rfl, T.t_NUMBERS _, hNU, _, rfl, by omega, by omega, ?_⟩
    refine for_range (fun i σ H' => But r H H' ∧ (∃ o, σ = [some (.ref a), some (.ref r), some (.int c), some (.ref N), o, none, none]) ∧ ReaderAt K H' r cA zs (p + 1 + i) ∧ H' N = some (.lst ((rr.take i).map V.int)) ∧ i ≤ n) ⟨b1N, ⟨_, rfl⟩, hR1N, upd_same, Nat.zero_le _⟩ ?_ ?_
    · rintro i σ H' hi ⟨b, ⟨o, rfl⟩, hRi, hNi, hin⟩
      have hi' : i < n := by omega
      have hzi : zs[p + 1 + i]? = some rr[i] := by
        have := congrArg (fun l => l[i]?) hrr
        simp only [List.getElem?_drop] at this
        rw [this, List.getElem?_eq_getElem (by omega)]
      have hRi0 := hRi
      obtain ⟨dx, g1, g2⟩ := hRi
      refine ⟨_, rfl, .inl ⟨rfl, _, SqL.of hNi⟩, _, rfl, r, dx, _, rfl, g1, rfl, r, cA, zs, p + 1 + i, rr[i], rfl, hRi0, hzi, fun H2 b2 hR2 => ?_⟩
      have hN2 := b2 _ _ hNr hNi
      obtain ⟨dx2, g3, g4⟩ := hR2
      refine ⟨N, _, _, rfl, rfl, hN2, fits' (by rw [List.length_map, List.length_take]; omega), ?_, ⟨_, rfl⟩, ?_, ?_, by omega⟩
      · intro b' o' n' e'
        rw [upd_ne (fun z => by rw [z] at e'; rw [hN0] at e'; cases e')]
        exact b2 _ _ n' (b _ _ n' e')
      · refine ⟨dx2, by rw [upd_ne (Ne.symm hNr)]; exact g3, ?_⟩
        have ncN : ∀ xs, H2 cA = some xs → H cA ≠ none → cA ≠ N := fun xs e1 e2 z => e2 (z ▸ hN0)
        exact sqL_lst r2 (fun x e n' => b2 _ _ (by rintro rfl; rw [r1] at e; cases e; exact n' _ _ _ rfl) (b _ _ (by rintro rfl; rw [r1] at e; cases e; exact n' _ _ _ rfl) e)) hN0
      · rw [upd_same, List.take_add_one, List.getElem?_eq_getElem (by omega), List.map_append]
        rfl
    rintro σ H2 ⟨b2, ⟨o, rfl⟩, hR2, hN2, -⟩
    have e3 : ((n : Nat) : Int).toNat = n := Int.toNat_natCast n
    rw [e3] at hR2 hN2
    have hdrop : zs.drop (p + 1 + n) = rr.drop n := by rw [← hrr, List.drop_drop]
    refine ⟨fits (by simp), fun W hW => ?_⟩
    have hWr : W ≠ r := fun e => by
      obtain ⟨dx, g, _⟩ := hR2
      rw [e, g] at hW
      cases hW
    have hW0 : H W = none := by
      cases e : H W with
      | none => rfl
      | some o => rw [b2 _ _ hWr e] at hW; cases hW
    have hNW : N ≠ W := fun e => by rw [e, hW] at hN2; cases hN2
    refine ⟨_, rfl, _, _, _, _, rfl, rfl, T.t_ROWS _, hRO, _, rfl, by omega, by omega, ?_⟩
    refine for_range (fun i σ H' => But r H H' ∧ (∃ o, σ = [some (.ref a), some (.ref r), some (.int c), some (.ref N), o, some (.ref W), none]) ∧ H' N = some (.lst ((rr.take n).map V.int)) ∧ i ≤ k ∧ ∃ p' us dn ys, ReaderAt K H' r cA zs p' ∧ H' W = some (.lst us) ∧ F2 (TextR H') us (dn.map fun z => z.map Int.toNat) ∧ (∀ x ∈ us, ∀ b, x = V.ref b → b ≠ W ∧ b ≠ r) ∧ rows = dn ++ ys ∧ dn.length = i ∧ PyFlat.rows (k - i) (zs.drop p') = some (ys, rest)) ?_ ?_ ?_
    · refine ⟨But.trans b2 (But.new hW), ⟨_, rfl⟩, Same.new hW _ _ hN2, Nat.zero_le _, p + 1 + n, [], [], rows, ?_, upd_same, .nil, (fun x m => by cases m), rfl, rfl, by rw [hdrop]; exact hrk⟩
      obtain ⟨dx, g1, g2⟩ := hR2
      exact ⟨dx, Same.new hW _ _ g1, SqL.but (r := r) (But.new hW) g1 g2⟩
    · rintro i σ H' hi ⟨b, ⟨o, rfl⟩, hN', hik, p', us, dn, ys, hRp, hWu, hF, hne, hrw, hdl, hfr⟩
      have hi' : i < k := by omega
      rw [show k - i = (k - (i + 1)) + 1 by omega] at hfr
      obtain ⟨x, s, ys', e1, e2, rfl⟩ := flat_rows hfr
      obtain ⟨m, rr', h3, h4, h5, rfl, rfl⟩ := flat_row e1
      have hrow := hrows (rr'.take m.toNat) (by rw [hrw]; simp)
      have hRp0 := hRp
      obtain ⟨dx, g1, g2⟩ := hRp
      refine ⟨_, rfl, .inl ⟨rfl, _, SqL.of hWu⟩, _, rfl, r, dx, _, rfl, g1, rfl, r, cA, zs, rr', p', m, rfl, hRp0, h3, h4, h5, fun w H3 b3 hR3 hw hwl => ?_⟩
      have hW3 := b3 _ _ hWr hWu
      have hwW : w ≠ W := fun e => by rw [e, hWu] at hw; cases hw
      have hwr : w ≠ r := fun e => by
        rw [e] at hwl
        obtain ⟨dx3, g5, _⟩ := hR3
        rw [g5] at hwl
        cases hwl
      obtain ⟨dx3, g5, g6⟩ := hR3
      have hul := hF.length
      rw [List.length_map] at hul
      refine ⟨W, us, _, rfl, rfl, hW3, fits' (by omega), ?_, ⟨_, rfl⟩, by rw [upd_ne hNW]; exact b3 _ _ hNr hN', hi', p' + 1 + m.toNat, us ++ [.ref w], dn ++ [rr'.take m.toNat], ys', ⟨dx3, by rw [upd_ne (Ne.symm hWr)]; exact g5, ?_⟩, upd_same, ?_, ?_, by rw [hrw, List.append_assoc]; rfl, by simp; omega, ?_⟩
      · intro b' o' n' e'
        rw [upd_ne (fun z => by rw [z] at e'; rw [hW0] at e'; cases e')]
        exact b3 _ _ n' (b _ _ n' e')
      · exact sqL_lst r2 (fun x e n' => b3 _ _ (by rintro rfl; rw [r1] at e; cases e; exact n' _ _ _ rfl) (b _ _ (by rintro rfl; rw [r1] at e; cases e; exact n' _ _ _ rfl) e)) hW0
      · rw [List.map_append]
        refine F2.app ?_ (.cons ⟨w, rfl, ?_⟩ .nil)
        · have keep : ∀ {vs Ts}, F2 (TextR H') vs Ts → (∀ x ∈ vs, ∀ b, x = V.ref b → b ≠ W ∧ b ≠ r) → F2 (TextR (upd H3 W (.lst (us ++ [.ref w])))) vs Ts := by
            intro vs Ts hh
            induction hh with
            | nil => exact fun _ => .nil
            | cons q t ih =>
              intro hne
              obtain ⟨b', rfl, hb'⟩ := q
              obtain ⟨n1, n2⟩ := hne _ List.mem_cons_self b' rfl
              refine .cons ⟨b', rfl, ?_⟩ (ih fun x m => hne x (List.mem_cons_of_mem _ m))
              show upd H3 W _ b' = _
              rw [upd_ne n1]
              exact b3 _ _ n2 hb'
          exact keep hF hne
        · show upd H3 W _ w = _
          rw [upd_ne hwW, hwl, row_vn hrow]
      · intro x m b' e
        rcases List.mem_append.mp m with m | m
        · exact hne x m b' e
        · rw [List.mem_singleton] at m
          rw [m] at e
          cases e
          exact ⟨hwW, hwr⟩
      · rw [show zs.drop (p' + 1 + m.toNat) = rr'.drop m.toNat by
          rw [← List.drop_drop]
          congr 1
          have := congrArg List.tail h3
          rw [List.tail_drop] at this
          simpa using this]
        exact e2
    rintro σ H3 ⟨b3, ⟨o, rfl⟩, hN3, -, p', us, dn, ys, hR3, hW3, hF3, -, hrw, hdl, hfr⟩
    rw [show ((k : Nat) : Int).toNat = k from Int.toNat_natCast k] at hdl hfr
    rw [Nat.sub_self] at hfr
    obtain ⟨rfl, hrest⟩ := flat_rows0 hfr
    rw [List.append_nil] at hrw
    subst hrw
    have hS3 := hS0.but r1 hra b3
    have hlenr : (rows.map fun z => z.map Int.toNat).length = k := by rw [List.length_map, hdl]
    have hnsl : (rr.take n).length = n := by rw [List.length_take]; omega
    have hfin : ∀ (v : V) (H' : Hp), (∀ b o, b ≠ L → H3 b = some o → H' b = some o) → (∀ b o, b ≠ r → b ≠ L → H b = some o → H' b = some o) := fun v H' h b o n1 n2 e => h b o n2 (b3 b o n1 e)
    have hLr : L ≠ r := fun e => by
      obtain ⟨dx, vs, s1, s2, s3⟩ := hS0
      rw [e, r1] at s2
      cases s2
    have hLc : ∀ (H' : Hp), (∀ b o, b ≠ L → H3 b = some o → H' b = some o) → ReaderAt K H' r cA zs p' := fun H' hb => by
      obtain ⟨dx, g, _⟩ := hR3
      refine ⟨dx, hb _ _ (Ne.symm hLr) g, sqL_same (fun b o e => hb _ _ (ne_of_none e hL0) (b3 _ _ (ne_of_none e hr0) (s0 _ _ e))) hq0⟩
    refine ⟨_, rfl, _, rfl, _, rfl, _, rfl, a, L, N, W, S, c, rr.take n, us, _, rfl, hS3, hok, hN3, hW3, hF3, ?_, by rw [hlenr, hnsl]; exact hsh, ⟨fun b e v H' hv => ?_, fun ans e d H' s ra => ?_⟩⟩
    · intro T0 m
      obtain ⟨z, hz1, rfl⟩ := List.mem_map.mp m
      rw [List.length_map]
      exact (hrows z hz1).1
    · obtain ⟨hb, hs, ⟨q1, rfl, hq0, hq1⟩⟩ := hv
      have est : mStep S c (rr.take n) (rows.map fun z => z.map Int.toNat) = b := by unfold mStep; rw [e]
      refine q (.ref q1) H' p' (hfin (.ref q1) H' hb) (by rw [est]; exact hs) (hLc H' hb) hrest.symm ⟨q1, rfl, ?_, by rw [est]; exact hq1⟩
      cases e2 : H q1 with
      | none => rfl
      | some o =>
        by_cases hq : q1 = r
        · rw [hq] at hq0
          obtain ⟨dx, g, _⟩ := hR3
          rw [g] at hq0
          cases hq0
        · rw [b3 _ _ hq e2] at hq0
          cases hq0
    · obtain ⟨l, hl0, hd, hl⟩ := ra
      have est : mStep S c (rr.take n) (rows.map fun z => z.map Int.toNat) = (S, ans) := by unfold mStep; rw [e]
      refine ⟨true, T.ref.te, fun _ x hx => ⟨_, rfl, rfl, rfl, d, _, rfl, hd, ?_⟩, fun h => by cases h⟩
      have hb : ∀ b o, b ≠ L → H3 b = some o → H' b = some o := fun b o _ e => s b o e
      refine q (.ref l) H' p' (hfin (.ref l) H' hb) (by rw [est]; exact hS3.same s) (hLc H' hb) hrest.symm ⟨l, rfl, ?_, by rw [est]; exact hl⟩
      cases e2 : H l with
      | none => rfl
      | some o =>
        by_cases hq : l = r
        · rw [hq] at hl0
          obtain ⟨dx, g, _⟩ := hR3
          rw [g] at hl0
          cases hl0
        · rw [b3 _ _ hq e2] at hl0
          cases hl0
end
end Fb
end
section
set_option Elab.async false
set_option maxRecDepth 100000
set_option maxHeartbeats 4000000
namespace Fb
open PySem PySem.Spec PyProof.Rows L2
section
variable {P : Program} {w : World} {K : PySem.W.Frag} {mg : Str → Option Value} {base : Heap}
abbrev nm_answers : List Str := ["calls", "shelf", "reader", "told", "answer"]
theorem sc_answers : FnScope nm_answers ["calls"] (defScope s_answers) := ⟨rfl, rfl, rfl, by decide +kernel, rfl, by decide +kernel, by decide +kernel⟩
def sp_answers (K : PySem.W.Frag) : Sp := fun vs H Q _ => ∃ (c : Addr) (zs : List Int) (cs : List (List (List Int))), vs = [.ref c] ∧ SqL K H c (zs.map V.int) ∧ PyFlat.calls PyWrsctf.shape zs.length zs = some cs ∧ (∀ l ∈ cs, ∀ z ∈ l.tail, RowOk z) ∧
  (∀ S d ns Ts, ShOk S → (∀ T ∈ Ts, List.length T ≤ 4100) → ShOk (mStep S d ns Ts).1) ∧ (PyFlat.told (mPlay [] cs)).length ≤ 10000000 ∧ ∀ q H', Same H H' → H' q = some (.lst ((PyFlat.told (mPlay [] cs)).map V.int)) → Q (.ref q) H'
theorem fin_answers (T : Tx K mg) : ∃ fd, (∀ (s : Shared) (us : List Value), us.length = [("calls" : Str)].length → BindsTo s fd ⟨us, []⟩ ([("calls" : Str)].zip us)) ∧ ∀ base : Heap, FnOk P w K mg base CX0 12 (He.fAd K ("answers", none)) fd ["calls"] (sp_answers K) := by
  obtain ⟨fd, F⟩ := T.f_answers
  refine ⟨fd, FunD.bindsA (ps := ["calls"]) F (fun _ _ _ _ _ _ us hl => match us, hl with | [_], _ => rfl), fun base => fn0 F sc_answers (fun vs H Q E h => ?_) (fun cdv A outer s H vs Q E hr h => ⟨_, (pss_cons (ps_set (i := 1) sc_answers.nd rfl (Or.inl rfl) (pe_cd0 (good_Shelf_init (P := P) (w := w) (base := base) T) hr))
      (pss_cons (ps_set (i := 2) sc_answers.nd rfl (Or.inl rfl) (pe_cd (good_Reader_init (P := P) (w := w) (base := base) T) hr (pa_cons (pv 0) pa_nil)))
      (pss_cons (ps_set (i := 3) sc_answers.nd rfl (Or.inl rfl) (pe_lst pa_nil))
      (pss_cons (ps_while PassesOwn.never (pt_val (pe_md0 (good_Reader_more (P := P) (w := w) (base := base) T) (pv 2) T.c_Reader hr pass0)) (pss_cons (ps_set (i := 4) sc_answers.nd rfl (Or.inl rfl) (pe_gd (good_next_answer (P := P) (w := w) (base := base) T) hr pass0 (pa_cons (pv 1) (pa_cons (pv 2) pa_nil))))
      (pss_cons (ps_expr (pe_bm PySem.F.plainAttrs_list PySem.F.slot_list_append PySem.F.type_list_append mt_append (pv 3) (pa_cons (pe_callB call_len_seq (by rfl) T.b_len PySem.boot_len (pa_cons (pv 4) pa_nil)) pa_nil)))
      (pss_one (ps_expr (pe_bm PySem.F.plainAttrs_list PySem.F.slot_list_extend PySem.F.type_list_extend mt_extend (pv 3) (pa_cons (pv 4) pa_nil)))))))
      (pss_one (ps_ret (pv 3))))))), ?_⟩)⟩
  · obtain ⟨_, _, _, e, _⟩ := h
    subst e
    rfl
  · obtain ⟨c, zs, cs, rfl, hc, hcs, hrows, hst, hlen, q⟩ := h
    refine fun x dx hx hdx hne => ⟨x, dx, rfl, upd_same, fun L hL => ⟨rfl, ?_⟩⟩
    have s1 : Same H (upd (upd H dx (.own x)) x (.ins (He.ga K "Shelf") dx [])) := Same.mut (Same.new hdx) hx
    have hL0 := none_of s1 hL
    have hLx : L ≠ x := fun e => by rw [e, upd_same] at hL; cases hL
    have s2 : Same H (upd (upd (upd (upd H dx (.own x)) x (.ins (He.ga K "Shelf") dx [])) L (.lst [])) x (.ins (He.ga K "Shelf") dx [("versions", .ref L)])) := Same.mut (Same.trans' s1 (Same.new hL)) hx
    have hS2 : ShelfAt K (upd (upd (upd (upd H dx (.own x)) x (.ins (He.ga K "Shelf") dx [])) L (.lst [])) x (.ins (He.ga K "Shelf") dx [("versions", .ref L)])) x L [] := ⟨dx, [], upd_same, by rw [upd_ne hLx, upd_same], .nil⟩
    refine ⟨_, rfl, fun r dr hr hdr hner => ⟨r, dr, c, rfl, upd_same, rfl, ?_⟩⟩
    have hr0 := none_of s2 hr
    have s3 := same_made (o := .own r) (u := .ins (He.ga K "Reader") dr []) (o2 := .ins (He.ga K "Reader") dr [("calls", .ref c), ("at", .int 0)]) hr hdr
    have hS3 := hS2.same s3
    have hR3 : ReaderAt K _ r c zs 0 := ⟨dr, upd_same, sqL_same (Same.trans' s2 s3) hc⟩
    have hrx : r ≠ x := fun e => by
      obtain ⟨d0, _, g, _⟩ := hS2
      subst e
      exact nomatch g.symm.trans hr
    have s03 := Same.trans' s2 s3
    refine ⟨fits (by simp), fun t ht => ?_⟩
    have ht0 := none_of s03 ht
    have sT := Same.new (o := .lst []) ht
    have htL : t ≠ L := fun e => by
      obtain ⟨_, _, _, g, _⟩ := hS3
      subst e
      exact nomatch g.symm.trans ht
    have htr : t ≠ r := fun e => by
      obtain ⟨_, g, _⟩ := hR3
      subst e
      exact nomatch g.symm.trans ht
    refine ⟨fun m σ H' => Same H H' ∧ ∃ (S : Sh) (p f : Nat) (told : List Int) (cs' : List (List (List Int))) (o : Option V), σ = [some (.ref c), some (.ref x), some (.ref r), some (.ref t), o] ∧ ShelfAt K H' x L S ∧ ShOk S ∧ ReaderAt K H' r c zs p ∧ H' t = some (.lst (told.map V.int)) ∧
      PyFlat.calls PyWrsctf.shape f (zs.drop p) = some cs' ∧ PyFlat.told (mPlay [] cs) = told ++ PyFlat.told (mPlay S cs') ∧ (∀ l ∈ cs', ∀ z ∈ l.tail, RowOk z) ∧ m = cs'.length, ⟨cs.length, Same.trans' s03 sT, [], 0, zs.length, [], cs, none, rfl, hS3.same sT, (fun B m => by cases m), ?_, upd_same, hcs, rfl, hrows, rfl⟩, ?_⟩
    · obtain ⟨d0, g1, g2⟩ := hR3
      exact ⟨d0, sT _ _ g1, sqL_same sT g2⟩
    rintro m σ H' ⟨s, S, p, f, told, cs', o, rfl, hS, hok, hR, hT, hf, htot, hrw, rfl⟩
    have hR0 := hR
    obtain ⟨d0, g1, g2⟩ := hR
    refine ⟨_, rfl, r, d0, _, rfl, g1, rfl, r, c, zs, p, rfl, hR0, _, rfl, if_b (fun e => ?_) fun e => ?_⟩
    · have hp : p < zs.length := of_decide_eq_true e
      rcases flat_calls hf with ⟨h1, -⟩ | ⟨f', c0, rest, cs'', rfl, hnil, hcall, hf', rfl⟩
      · have := congrArg List.length h1
        rw [List.length_drop, List.length_nil] at this
        omega
      obtain ⟨pc, rr, n, k, xs, -, -, -, -, rfl⟩ := flat_call hcall
      have hro : ∀ z ∈ xs, RowOk z := fun z m => hrw _ List.mem_cons_self z m
      have htot' : PyFlat.told (mPlay [] cs) = told ++ ((((mStep S pc (rr.take n) (xs.map fun z => z.map Int.toNat)).2.length : Nat) : Int) :: ((mStep S pc (rr.take n) (xs.map fun z => z.map Int.toNat)).2 ++ PyFlat.told (mPlay (mStep S pc (rr.take n) (xs.map fun z => z.map Int.toNat)).1 cs''))) := by
        rw [htot]
        rfl
      have hS'ok := hst S pc (rr.take n) (xs.map fun z => z.map Int.toNat) hok fun T0 m => by
        obtain ⟨z, hz, rfl⟩ := List.mem_map.mp m
        rw [List.length_map]
        exact (hro z hz).1
      refine ⟨fun σ' H2 => Same H H2 ∧ ∃ (S : Sh) (p f : Nat) (told : List Int) (cs' : List (List (List Int))) (o : Option V), σ' = [some (.ref c), some (.ref x), some (.ref r), some (.ref t), o] ∧ ShelfAt K H2 x L S ∧ ShOk S ∧ ReaderAt K H2 r c zs p ∧ H2 t = some (.lst (told.map V.int)) ∧
        PyFlat.calls PyWrsctf.shape f (zs.drop p) = some cs' ∧ PyFlat.told (mPlay [] cs) = told ++ PyFlat.told (mPlay S cs') ∧ (∀ l ∈ cs', ∀ z ∈ l.tail, RowOk z) ∧ cs''.length = cs'.length, fun σ' H2 h => ⟨cs''.length, by simp, h⟩, ?_⟩
      refine ⟨_, rfl, _, rfl, H, x, L, r, c, S, zs, p, pc, rr.take n, xs, rest, rfl, hS, hok, hR0, hrx, hc, s, hL0, hr0, hcall, hro, fun v H2 p' hb hS2 hR2 hrest hans => ?_⟩
      generalize mStep S pc (rr.take n) (xs.map fun z => z.map Int.toNat) = st at *
      obtain ⟨w, rfl, hw0, hw⟩ := hans
      have sH2 : Same H H2 := fun b o e => hb b o (ne_of_none e hr0) (ne_of_none e hL0) (s b o e)
      have hT2 : H2 t = some (.lst (told.map V.int)) := hb _ _ htr htL hT
      have hwt : w ≠ t := fun e => by rw [e, hT] at hw0; cases hw0
      have hbound : told.length + 1 + st.2.length ≤ 10000000 := by
        have := congrArg List.length htot'
        rw [List.length_append, List.length_cons, List.length_append] at this
        omega
      have e2 : upd H2 t (.lst (told.map V.int ++ [V.int ((st.2.map V.int).length : Nat)])) w = some (.lst (st.2.map V.int)) := by rw [upd_ne hwt]; exact hw
      refine ⟨_, rfl, .inl ⟨rfl, _, SqL.of hT2⟩, _, rfl, w, _, rfl, .inl (SqL.of hw), t, _, _, rfl, rfl, hT2, fits' (by rw [List.length_map]; omega), ?_⟩
      refine ⟨_, rfl, .inl ⟨rfl, _, SqL.of upd_same⟩, _, rfl, t, w, _, _, rfl, rfl, upd_same, e2, fits (by simp only [List.length_append, List.length_map, List.length_cons, List.length_nil]; omega), ?_⟩
      obtain ⟨d2, k1, k2⟩ := hR2
      have hS3' := (hS2.lst (o := .lst (told.map V.int ++ [V.int ((st.2.map V.int).length : Nat)])) hT2 htL).lst (o := .lst ((told.map V.int ++ [V.int ((st.2.map V.int).length : Nat)]) ++ st.2.map V.int)) (upd_same) htL
      refine ⟨Same.mut (Same.mut sH2 ht0) ht0, st.1, p', f', told ++ ((st.2.length : Nat) : Int) :: st.2, cs'', _, rfl, hS3', hS'ok, ⟨d2, by rw [upd_ne (Ne.symm htr), upd_ne (Ne.symm htr)]; exact k1, sqL_same (Same.mut (Same.mut sH2 ht0) ht0) hc⟩, ?_, by rw [hrest]; exact hf', ?_, fun l m => hrw l (List.mem_cons_of_mem _ m), rfl⟩
      · rw [upd_same, List.length_map, List.map_append, List.map_cons, List.append_assoc]
        rfl
      · rw [htot', List.append_assoc]
        rfl
    · have hp : ¬ p < zs.length := of_decide_eq_false e
      rw [List.drop_eq_nil_of_le (by omega)] at hf
      rcases flat_calls hf with ⟨-, rfl⟩ | ⟨_, _, _, _, -, h1, -⟩
      · refine ⟨_, rfl, q t H' s ?_⟩
        rw [htot, show PyFlat.told (mPlay S []) = [] from rfl, List.append_nil]
        exact hT
      · exact absurd rfl h1
end
end Fb
end
section
/-! A call keeps the shelf within bounds. -/
namespace Fb
open SctBook
theorem nodup_le0 {κ : Type} [DecidableEq κ] : ∀ {s r : List κ}, s.Nodup → (∀ x ∈ s, x ∈ r) → s.length ≤ r.length
  | [], r, _, _ => Nat.zero_le _
  | x :: s, r, h, f => by
    have hx := f x List.mem_cons_self
    obtain ⟨h1, h2⟩ := List.nodup_cons.mp h
    have := nodup_le0 (s := s) (r := r.erase x) h2 fun y m => by
      have : y ≠ x := fun e => h1 (e ▸ m)
      exact (List.mem_erase_of_ne this).mpr (f y (List.mem_cons_of_mem _ m))
    rw [List.length_erase_of_mem hx] at this
    have : 0 < r.length := List.length_pos_of_mem hx
    simp only [List.length_cons]
    omega
theorem putG_nd {κ β : Type} [DecidableEq κ] {D : List (κ × β)} {k : κ} {v : β} (h : (D.map (·.1)).Nodup) : ((putG D k v).map (·.1)).Nodup := by
  rw [putG_keys]
  exact addS_nodup h
theorem foldB_nd : ∀ (ls : List Ln) (B : Bk), (B.map (·.1)).Nodup → ((ls.foldl (fun B l => putG B l.key l.told) B).map (·.1)).Nodup
  | [], B, h => h
  | l :: ls, B, h => by
    rw [List.foldl_cons]
    exact foldB_nd ls _ (putG_nd h)
theorem bookOf_nd (ls : List Ln) : ((bookOf ls).map (·.1)).Nodup := foldB_nd ls [] List.nodup_nil
theorem putAll_nd : ∀ (l M : Bk), (M.map (·.1)).Nodup → ((putAll M l).map (·.1)).Nodup
  | [], M, h => h
  | b :: l, M, h => putAll_nd l (putG M b.1 b.2) (putG_nd h)
theorem filter_nd {B : Bk} (f : Ky × Int → Bool) (h : (B.map (·.1)).Nodup) : ((B.filter f).map (·.1)).Nodup := h.sublist (List.filter_sublist.map _)
/-! ### a right book is small -/
def msum (P : Pt) : Nat := (P.map fun p => 1 + p.2.length).foldr (· + ·) 0
theorem msum_cons (p : Nm × List Nm) (P : Pt) : msum (p :: P) = 1 + p.2.length + msum P := rfl
theorem msum_app (P R : Pt) : msum (P ++ R) = msum P + msum R := by
  induction P with
  | nil => simp [msum]
  | cons p P ih => rw [List.cons_append, msum_cons, msum_cons, ih]; omega
theorem msum_part {y x : Nm} : ∀ {P : Pt}, (P.map (·.1)).Nodup → y ∈ P.map (·.1) → msum (P.map fun p => if p.1 = y then (p.1, p.2 ++ [x]) else p) = msum P + 1
  | [], _, h => by cases h
  | p :: P, hn, h => by
    rw [List.map_cons, List.nodup_cons] at hn
    rw [List.map_cons, msum_cons, msum_cons]
    by_cases e : p.1 = y
    · rw [if_pos e]
      have same : (P.map fun p => if p.1 = y then (p.1, p.2 ++ [x]) else p) = P := by
        have : ∀ q ∈ P, (fun p : Nm × List Nm => if p.1 = y then (p.1, p.2 ++ [x]) else p) q = q := fun q hq => if_neg fun e2 => hn.1 (by rw [e, ← e2]; exact List.mem_map_of_mem (f := (·.1)) hq)
        calc _ = P.map id := List.map_congr_left this
          _ = P := List.map_id P
      rw [same]
      simp only [List.length_append, List.length_cons, List.length_nil]
      omega
    · rw [if_neg e]
      have h' : y ∈ P.map (·.1) := by
        rcases List.mem_cons.mp h with h | h
        · exact absurd h.symm e
        · exact h
      rw [msum_part hn.2 h']
      omega
theorem putG_app {κ β : Type} [DecidableEq κ] {D : List (κ × β)} {k : κ} {v : β} (h : k ∉ D.map (·.1)) : putG D k v = D ++ [(k, v)] := by
  unfold putG
  rw [if_neg]
  intro e
  obtain ⟨x, hx, q⟩ := List.any_eq_true.mp e
  exact h (by rw [← of_decide_eq_true q]; exact List.mem_map_of_mem hx)
theorem msum_done {B : Bk} (hn : (B.map (·.1)).Nodup) (hk : KnownA B) : ∀ (n : Nat), n ≤ (keysOfB B).length → msum (((keysOfB B).take n).foldl addP []) = n
  | 0, _ => rfl
  | n + 1, h => by
    have ih := msum_done hn hk n (by omega)
    have hlt : n < (keysOfB B).length := h
    rw [List.take_add_one, List.getElem?_eq_getElem hlt, List.foldl_append]
    have e : (keysOfB B).take n ++ (keysOfB B)[n] :: (keysOfB B).drop (n + 1) = keysOfB B := by
      rw [← List.drop_eq_getElem_cons hlt, List.take_append_drop]
    generalize (keysOfB B)[n] = k at e
    generalize (keysOfB B).take n = d at e ih
    show msum (if k.2 = [] then putG (d.foldl addP []) k.1 [] else (d.foldl addP []).map fun p => if p.1 = k.1 then (p.1, p.2 ++ [k.2]) else p) = n + 1
    by_cases c : k.2 = []
    · rw [if_pos c]
      have : k.1 ∉ (d.foldl addP []).map (·.1) := by
        rw [foldP_keys]
        rintro (h | h)
        · cases h
        · rw [← c] at h
          exact notin_done hn e h
      rw [putG_app this, msum_app, ih]
      rfl
    · rw [if_neg c]
      have : k.1 ∈ (d.foldl addP []).map (·.1) := (foldP_keys d []).mpr (.inr (before_parts hn hk e c))
      rw [msum_part (foldP_nodup d [] List.nodup_nil) this, ih]
theorem msum_parts {B : Bk} (hn : (B.map (·.1)).Nodup) (hk : KnownA B) : msum (partsB B) = B.length := by
  have := msum_done hn hk (keysOfB B).length (Nat.le_refl _)
  rw [List.take_length, keys_length] at this
  exact this
theorem msum_le (c : Nat) : ∀ (P : Pt), (∀ p ∈ P, p.2.length ≤ c) → msum P ≤ (1 + c) * P.length
  | [], _ => by simp [msum]
  | p :: P, h => by
    have h1 := h p List.mem_cons_self
    have h2 := msum_le c P fun q m => h q (List.mem_cons_of_mem _ m)
    rw [msum_cons, List.length_cons, Nat.mul_succ]
    omega
theorem rightB_all {B : Bk} (h : rightB B = true) : (thingsB B).length ≤ 40 ∧ knownB B = true ∧ ∀ y ∈ accordsB B, 1 ≤ (inP (partsB B) y).length ∧ (inP (partsB B) y).length ≤ 12 ∧ y ∉ standB (partsB B) y := by
  unfold rightB at h
  split at h
  · cases h
  rename_i c1
  split at h
  · cases h
  rename_i c2
  refine ⟨by omega, by simpa using c2, fun y m => ?_⟩
  have := List.all_eq_true.mp h y m
  rw [Bool.and_eq_true, Bool.and_eq_true] at this
  exact ⟨of_decide_eq_true this.1, of_decide_eq_true this.2.1, memB_false.mp (by simpa using this.2.2)⟩
theorem said_known {B : Bk} (h : knownB B = true) {k : Ky} (hk : k ∈ B.map (·.1)) (hne : k.2 ≠ []) : saidB B (k.1, []) = -2 ∧ hasB B k.2 = true := by
  obtain ⟨b, hb, rfl⟩ := List.mem_map.mp hk
  have := List.all_eq_true.mp h b hb
  rw [decide_eq_false hne, Bool.false_or, Bool.and_eq_true] at this
  exact ⟨of_decide_eq_true this.1, this.2⟩
theorem said_mem {B : Bk} {k : Ky} {n : Int} (h : saidB B k = n) (hn : n ≠ 0) : (k, n) ∈ B := by
  unfold saidB at h
  cases e : lookG B k with
  | none => rw [e] at h; exact absurd h.symm hn
  | some m =>
    rw [e] at h
    have : m = n := h
    rw [← this]
    exact look_mem0 e
theorem right_len {B : Bk} (hn : (B.map (·.1)).Nodup) (h : rightB B = true) : B.length ≤ 520 := by
  obtain ⟨h1, h2, h3⟩ := rightB_all h
  have kA := (known_of h2).1
  have hP : (partsB B).length ≤ 40 := by
    have := nodup_le0 (s := (partsB B).map (·.1)) (r := thingsB B) (parts_nodup B) fun x m => things_mem.mpr (parts_mem.mp m)
    rw [List.length_map] at this
    omega
  have := msum_le 12 (partsB B) fun p hp => by
    by_cases c : p.2 = []
    · rw [c]; simp
    · obtain ⟨x, hx⟩ := List.exists_mem_of_ne_nil _ c
      obtain ⟨q1, q2⟩ := parts_in (y := p.1) (ys := p.2) hp hx
      have q3 := (said_known h2 q1 q2).1
      have hacc : p.1 ∈ accordsB B := List.mem_filter.mpr ⟨things_mem.mpr (List.mem_map_of_mem (f := (·.1)) (said_mem q3 (by decide))), by rw [q3]; rfl⟩
      have hl : inP (partsB B) p.1 = p.2 := by
        unfold inP
        rw [look_of_mem (parts_nodup B) (v := p.2) hp]
        rfl
      have := (h3 p.1 hacc).2.1
      rw [hl] at this
      exact this
  rw [msum_parts hn kA] at this
  omega
theorem okB_right {B : Bk} (hn : (B.map (·.1)).Nodup) (hok : BookOk B) (h : rightB B = true) : OkB B := by
  have h2 := (rightB_all h).2.1
  have := right_len hn h
  exact ⟨hn, hok, by omega, (known_of h2).1, (known_of h2).2⟩
/-! ### what is kept -/
theorem keep_ok {S : Sh} {B : Bk} {r : Sh × List Int} (hS : ShOk S) (hB : OkB B) (h : mKeep S B = .ok r) : ShOk r.1 := by
  unfold mKeep at h
  split at h
  · cases h
  · cases h
    intro C hC
    rcases List.mem_append.mp hC with hC | hC
    · exact hS C hC
    · rw [List.mem_singleton.mp hC]
      exact hB
theorem keepRight_ok {S : Sh} {B : Bk} {r : Sh × List Int} (hS : ShOk S) (hn : (B.map (·.1)).Nodup) (hB : BookOk B) (h : mKeepRight S B = .ok r) : ShOk r.1 := by
  unfold mKeepRight at h
  split at h
  · cases h
  · rename_i c
    exact keep_ok hS (okB_right hn hB (by simpa using c)) h
theorem putAll_each {B : Bk} (hB : ∀ b ∈ B, FactOk b.1 b.2) : ∀ (l : Bk), (∀ b ∈ l, FactOk b.1 b.2) → ∀ b ∈ putAll B l, FactOk b.1 b.2 := by
  intro l
  induction l generalizing B with
  | nil => exact fun _ => hB
  | cons c l ih =>
    intro hl
    refine ih (B := putG B c.1 c.2) (fun b m => ?_) fun b m => hl b (List.mem_cons_of_mem _ m)
    rcases mem_putG m with m | rfl
    · exact hB b m
    · exact hl c List.mem_cons_self
theorem mergeL_ok0 {A B C : Bk} (hA : BookOk A) (hB : BookOk B) (hC : BookOk C) : ∀ (l : List Ky) (M : Bk), (M.map (·.1)).Nodup → (∀ b ∈ M, FactOk b.1 b.2) → ((l.foldl (fun M k => if mergeSay A B C k ≠ 0 then putG M k (mergeSay A B C k) else M) M).map (·.1)).Nodup ∧ ∀ b ∈ l.foldl (fun M k => if mergeSay A B C k ≠ 0 then putG M k (mergeSay A B C k) else M) M, FactOk b.1 b.2
  | [], M, h1, h2 => ⟨h1, h2⟩
  | k :: l, M, h1, h2 => by
    rw [List.foldl_cons]
    by_cases c : mergeSay A B C k ≠ 0
    · rw [if_pos c]
      refine mergeL_ok0 hA hB hC l _ (putG_nd h1) fun b m => ?_
      rcases mem_putG m with m | rfl
      · exact h2 b m
      · unfold mergeSay at c ⊢
        split at c
        · rename_i c2
          rw [if_pos c2]
          exact hC.each _ (said_mem rfl c)
        · rename_i c2
          rw [if_neg c2]
          exact hB.each _ (said_mem rfl c)
    · rw [if_neg c]
      exact mergeL_ok0 hA hB hC l M h1 h2
theorem mergeL_ok {A B C : Bk} (hA : BookOk A) (hB : BookOk B) (hC : BookOk C) (l : List Ky) : ((mergeL A B C l).map (·.1)).Nodup ∧ ∀ b ∈ mergeL A B C l, FactOk b.1 b.2 := mergeL_ok0 hA hB hC l [] List.nodup_nil (fun b m => by cases m)
/-! ### renaming -/
theorem ren_keys {a z : Nm} {k : Ky} : ∀ (B M : Bk), k ∈ (B.foldl (renP a z) M).map (·.1) ↔ k ∈ M.map (·.1) ∨ ∃ b ∈ B, renK a z b.1 = k
  | [], M => by simp
  | b :: B, M => by
    rw [List.foldl_cons, ren_keys B]
    unfold renP
    rw [putG_keys, mem_addS]
    constructor
    · rintro ((h | rfl) | ⟨c, hc, e⟩)
      · exact .inl h
      · exact .inr ⟨b, List.mem_cons_self, rfl⟩
      · exact .inr ⟨c, List.mem_cons_of_mem _ hc, e⟩
    · rintro (h | ⟨c, hc, e⟩)
      · exact .inl (.inl h)
      · rcases List.mem_cons.mp hc with rfl | hc
        · exact .inl (.inr e.symm)
        · exact .inr ⟨c, hc, e⟩
theorem renB_keys {a z : Nm} {k : Ky} {B : Bk} : k ∈ (renB B a z).map (·.1) ↔ ∃ b ∈ B, renK a z b.1 = k := by
  unfold renB
  rw [ren_keys]
  simp
theorem ren_ok {a z : Nm} (hP : ∀ b : Ky × Int, FactOk b.1 b.2 → FactOk (renK a z b.1) b.2) : ∀ (B M : Bk), (∀ b ∈ B, FactOk b.1 b.2) → (M.map (·.1)).Nodup → (∀ b ∈ M, FactOk b.1 b.2) → ((B.foldl (renP a z) M).map (·.1)).Nodup ∧ (∀ b ∈ B.foldl (renP a z) M, FactOk b.1 b.2) ∧ (B.foldl (renP a z) M).length ≤ M.length + B.length
  | [], M, _, h1, h2 => ⟨h1, h2, by simp⟩
  | b :: B, M, h0, h1, h2 => by
    rw [List.foldl_cons]
    have := ren_ok hP B (renP a z M b) (fun c m => h0 c (List.mem_cons_of_mem _ m)) (putG_nd h1) fun c m => by
      rcases mem_putG m with m | rfl
      · exact h2 c m
      · exact hP b (h0 b List.mem_cons_self)
    refine ⟨this.1, this.2.1, ?_⟩
    have h3 := this.2.2
    have h4 : (renP a z M b).length ≤ M.length + 1 := putG_length M _ _
    simp only [List.length_cons]
    omega
theorem isName_ne {x : Nm} (h : mIsName x = true) : x ≠ [] ∧ x.length ≤ 16 := by
  unfold mIsName at h
  rw [Bool.and_eq_true, Bool.and_eq_true] at h
  refine ⟨fun e => ?_, of_decide_eq_true h.2.1⟩
  have := of_decide_eq_true h.1
  rw [e] at this
  simp at this
theorem ren_nil {a z : Nm} (ha : a ≠ []) : (if ([] : Nm) = a then z else []) = [] := if_neg (Ne.symm ha)
theorem ren_nil_iff {a z x : Nm} (ha : a ≠ []) (hz : z ≠ []) : (if x = a then z else x) = [] ↔ x = [] := by
  by_cases h : x = a
  · rw [if_pos h, h]
    exact ⟨fun e => absurd e hz, fun e => absurd e ha⟩
  · rw [if_neg h]
theorem renB_ok {B : Bk} {a z : Nm} (hB : OkB B) (ha : mIsName a = true) (hz : mIsName z = true) : OkB (renB B a z) := by
  obtain ⟨ha1, ha2⟩ := isName_ne ha
  obtain ⟨hz1, hz2⟩ := isName_ne hz
  have hr := ren_ok (a := a) (z := z) (fun b hb => ?_) B [] hB.ok.each List.nodup_nil (fun b m => by cases m)
  · have hl := hr.2.2
    have hbl := hB.len
    simp only [List.length_nil, Nat.zero_add] at hl
    refine ⟨hr.1, ⟨by unfold renB; omega, hr.2.1⟩, by unfold renB; omega, ?_, ?_⟩
    · intro k hk hne
      obtain ⟨b, hb, rfl⟩ := renB_keys.mp hk
      have hne' : b.1.2 ≠ [] := fun e => hne ((ren_nil_iff ha1 hz1).mpr e)
      obtain ⟨c, hc, ec⟩ := List.mem_map.mp (hB.kA b.1 (List.mem_map_of_mem hb) hne')
      refine renB_keys.mpr ⟨c, hc, ?_⟩
      rw [ec]
      unfold renK
      rw [ren_nil ha1]
    · intro k hk hne
      obtain ⟨b, hb, rfl⟩ := renB_keys.mp hk
      have hne' : b.1.2 ≠ [] := fun e => hne ((ren_nil_iff ha1 hz1).mpr e)
      obtain ⟨c, hc, ec⟩ := List.mem_map.mp (hB.kP b.1 (List.mem_map_of_mem hb) hne')
      refine renB_keys.mpr ⟨c, hc, ?_⟩
      rw [ec]
      unfold renK
      rw [ren_nil ha1]
  · refine ⟨?_, ?_, hb.big, fun h => hb.pos fun e => h ?_⟩
    · unfold renK
      simp only []
      split
      · exact hz2
      · exact hb.fst
    · unfold renK
      simp only []
      split
      · exact hz2
      · exact hb.snd
    · exact (ren_nil_iff ha1 hz1).mpr e
theorem still_ok {S : Sh} {m : Mi (List Int)} {r : Sh × List Int} (h : still S m = .ok r) : r.1 = S := by
  unfold still at h
  split at h
  · cases h
  · cases h
    rfl
theorem step_ok (S : Sh) (d : Int) (ns : List Int) (Ts : List (List Nat)) (hS : ShOk S) (hT : ∀ T ∈ Ts, List.length T ≤ 4100) : ShOk (mStep S d ns Ts).1 := by
  unfold mStep
  split
  · exact hS
  rename_i r h
  have hT0 : ∀ i, (Ts.getD i []).length ≤ 4100 := fun i => by
    rw [List.getD_eq_getElem?_getD]
    cases e : Ts[i]? with
    | none => simp
    | some T => exact hT T (List.mem_of_getElem? e)
  have hst : ∀ {m : Mi (List Int)}, still S m = .ok r → ShOk r.1 := fun e => by rw [still_ok e]; exact hS
  unfold mCall at h
  have hV : ∀ {v : Int} {B : Bk}, mVersion S v = .ok B → OkB B := fun e => hS _ (mVersion_mem e)
  have hVW : ∀ {v : Int} {x : Nm} {B : Bk}, mVersionWith S v x = .ok B → OkB B := fun e => hS _ (mVersionWith_mem e).1
  by_cases c1 : d = 1
  · rw [if_pos c1] at h
    unfold mRead mLong at h
    split at h
    · cases h
    split at h
    · cases h
    rename_i B e
    have := mReadBook_ok e (hT0 0)
    obtain ⟨ls, -, rfl, -⟩ := mReadBook_lines e
    exact keep_ok hS ⟨bookOf_nd ls, this.1, this.2.1, this.2.2.1, this.2.2.2⟩ h
  rw [if_neg c1] at h
  by_cases c2 : d = 2
  · rw [if_pos c2] at h
    exact hst h
  rw [if_neg c2] at h
  by_cases c7 : d = 7
  · rw [if_pos c7] at h
    unfold mApply mBelow mLong at h
    split at h
    · cases h
    split at h
    · cases h
    split at h
    · cases h
    rename_i B e1
    split at h
    · cases h
    rename_i ls e2
    split at h
    · cases h
    rename_i M e3
    unfold mChanged at e3
    split at e3
    · cases e3
    cases e3
    have hB := hV e1
    have hc := mReadChange_ok e2 (hT0 0)
    have hBl := hB.len
    refine keepRight_ok hS (putAll_nd _ _ (filter_nd _ hB.nd)) ⟨?_, putAll_each (fun b m => hB.ok.each b (List.mem_filter.mp m).1) _ hc.1.coming.each⟩ h
    have := foldPut_len (mChangeOf ls).coming (B.filter fun b => !(lookG (mChangeOf ls).going b.1).isSome)
    have h5 : (B.filter fun b => !(lookG (mChangeOf ls).going b.1).isSome).length ≤ B.length := List.length_filter_le _ _
    have := hc.2.2
    omega
  rw [if_neg c7] at h
  by_cases c8 : d = 8
  · rw [if_pos c8] at h
    exact hst h
  rw [if_neg c8] at h
  by_cases c10 : d = 10
  · rw [if_pos c10] at h
    unfold mCallRename mBelow mNamed at h
    split at h
    · cases h
    split at h
    · cases h
    rename_i cx
    split at h
    · cases h
    rename_i cz
    split at h
    · cases h
    rename_i B e1
    split at h
    · cases h
    exact keep_ok hS (renB_ok (hVW e1) (by simpa using cx) (by simpa using cz)) h
  rw [if_neg c10] at h
  by_cases c11 : d = 11
  · rw [if_pos c11] at h
    unfold mCallDrop mBelow mNamed at h
    split at h
    · cases h
    split at h
    · cases h
    split at h
    · cases h
    rename_i B e1
    have hB := hVW e1
    refine keepRight_ok hS (filter_nd _ hB.nd) ⟨Nat.le_trans (List.length_filter_le _ _) hB.ok.len, fun b m => hB.ok.each b (List.mem_filter.mp m).1⟩ h
  rw [if_neg c11] at h
  by_cases c12 : d = 12
  · rw [if_pos c12] at h
    exact hst h
  rw [if_neg c12] at h
  by_cases c13 : d = 13
  · rw [if_pos c13] at h
    exact hst h
  rw [if_neg c13] at h
  by_cases c3 : d = 3
  · rw [if_pos c3] at h
    exact hst h
  rw [if_neg c3] at h
  by_cases c4 : d = 4
  · rw [if_pos c4] at h
    exact hst h
  rw [if_neg c4] at h
  by_cases c5 : d = 5
  · rw [if_pos c5] at h
    exact hst h
  rw [if_neg c5] at h
  by_cases c6 : d = 6
  · rw [if_pos c6] at h
    exact hst h
  rw [if_neg c6] at h
  by_cases c9 : d = 9
  · rw [if_pos c9] at h
    unfold mCallMerge mBelow at h
    split at h
    · cases h
    split at h
    · cases h
    rename_i A e1
    split at h
    · cases h
    rename_i B e2
    split at h
    · cases h
    rename_i C e3
    split at h
    · cases h
      exact hS
    have hA := hV e1
    have hB := hV e2
    have hC := hV e3
    have l1 := hA.len
    have l2 := hB.len
    have l3 := hC.len
    have hm := mergeL_ok hA.ok hB.ok hC.ok (subjectsB [A, B, C])
    have hsub := subjects_len [A, B, C]
    simp only [List.map_cons, List.map_nil, List.foldr_cons, List.foldr_nil] at hsub
    have hl := mergeL_len A B C (subjectsB [A, B, C])
    exact keepRight_ok hS hm.1 ⟨by omega, hm.2⟩ h
  rw [if_neg c9] at h
  exact hst h
end Fb
end
section
/-! Books of the mirror as books of facts. -/
namespace Fb
open SctBook
def factOf (k : Ky) (n : Int) : Fact := if k.2 = [] then (if n = -1 then .material k.1 else .accord k.1) else .part k.1 k.2 n.toNat
def F (B : Bk) : Book := (keysOfB B).map fun k => factOf k (saidB B k)
/-- unsorted -/
def U (B : Bk) : List Fact := B.map fun b => factOf b.1 b.2
structure Val (k : Ky) (n : Int) : Prop where
  thing : k.2 = [] → n = -1 ∨ n = -2
  part : k.2 ≠ [] → 0 < n
  name : k.1 ≠ []
structure Good (B : Bk) : Prop where
  nd : (B.map (·.1)).Nodup
  val : ∀ b ∈ B, Val b.1 b.2
theorem factOf_key (k : Ky) (n : Int) : (factOf k n).key = k := by
  unfold factOf
  by_cases c : k.2 = []
  · rw [if_pos c]
    have e : (k.1, ([] : Nm)) = k := by rw [← c]
    split
    · exact e
    · exact e
  · rw [if_neg c]
    rfl
theorem F_keys (B : Bk) : (F B).map Fact.key = keysOfB B := by
  unfold F
  rw [List.map_map]
  have : (Fact.key ∘ fun k => factOf k (saidB B k)) = id := by
    funext k
    exact factOf_key _ _
  rw [this, List.map_id]
theorem U_keys (B : Bk) : (U B).map Fact.key = B.map (·.1) := by
  unfold U
  rw [List.map_map]
  refine List.map_congr_left fun b _ => factOf_key _ _
theorem said_of_mem {B : Bk} (hn : (B.map (·.1)).Nodup) {b : Ky × Int} (h : b ∈ B) : saidB B b.1 = b.2 := by
  unfold saidB
  rw [look_of_mem hn (v := b.2) h]
  rfl
theorem F_perm {B : Bk} (hn : (B.map (·.1)).Nodup) : (F B).Perm (U B) := by
  have h1 : (F B).Perm ((B.map (·.1)).map fun k => factOf k (saidB B k)) := (keys_perm B).map _
  rw [List.map_map] at h1
  have : (B.map ((fun k => factOf k (saidB B k)) ∘ (·.1))) = U B := List.map_congr_left fun b hb => by
    show factOf b.1 (saidB B b.1) = factOf b.1 b.2
    rw [said_of_mem hn hb]
  rw [this] at h1
  exact h1
theorem inOrder_le (l : List Fact) : inOrder l = l.mergeSort fun a b => kLe a.key b.key := rfl
theorem F_sorted {B : Bk} (hn : (B.map (·.1)).Nodup) : (F B).Pairwise fun a b => keyBefore a.key b.key = true := by
  have := keys_strict hn
  rw [← F_keys, List.pairwise_map] at this
  exact this
/-- facts of a book, in whatever order, sorted -/
theorem inOrder_F {B : Bk} {l : List Fact} (hn : (B.map (·.1)).Nodup) (h : l.Perm (U B)) : inOrder l = F B := by
  have hk : (l.map Fact.key).Nodup := by
    have := h.map Fact.key
    rw [U_keys] at this
    exact this.nodup_iff.mpr hn
  refine sorted_one Fact.key ((List.mergeSort_perm _ _).trans (h.trans (F_perm hn).symm)) (sorted_strict Fact.key l hk) (F_sorted hn)
/-- the same facts, the same book -/
theorem F_ext {B C : Bk} (hn : (B.map (·.1)).Nodup) (hm : (C.map (·.1)).Nodup) (h : B.Perm C) : F B = F C := by
  have := inOrder_F (B := B) hn (List.Perm.refl _)
  rw [← this]
  exact inOrder_F hm (h.map _)
theorem F_mem {B : Bk} (hn : (B.map (·.1)).Nodup) {f : Fact} : f ∈ F B ↔ ∃ b ∈ B, factOf b.1 b.2 = f := by
  rw [(F_perm hn).mem_iff]
  unfold U
  exact List.mem_map
theorem F_length (B : Bk) : (F B).length = B.length := by unfold F; rw [List.length_map, keys_length]
theorem factOf_inj {k k' : Ky} {n n' : Int} (h : factOf k n = factOf k' n') (v : Val k n) (v' : Val k' n') : k = k' ∧ n = n' := by
  have hk : k = k' := by
    have := congrArg Fact.key h
    rw [factOf_key, factOf_key] at this
    exact this
  subst hk
  refine ⟨rfl, ?_⟩
  unfold factOf at h
  by_cases c : k.2 = []
  · rw [if_pos c, if_pos c] at h
    have h1 := v.thing c
    have h2 := v'.thing c
    rcases h1 with rfl | rfl <;> rcases h2 with rfl | rfl <;> first | rfl | (simp at h)
  · rw [if_neg c, if_neg c] at h
    injection h with _ _ h
    have h1 := v.part c
    have h2 := v'.part c
    omega
/-! ### heads, accords, within -/
theorem heads_map (g : Ky → Int) : ∀ l : List Ky, heads (l.map fun k => factOf k (g k)) = (l.filter fun k => decide (k.2 = [])).map (·.1)
  | [] => rfl
  | k :: l => by
    have ih := heads_map g l
    unfold heads at *
    rw [List.map_cons, List.filterMap_cons, List.filter_cons, ih]
    unfold factOf
    by_cases c : k.2 = []
    · rw [if_pos c, decide_eq_true c]
      by_cases e : g k = -1
      · rw [if_pos e]; rfl
      · rw [if_neg e]; rfl
    · rw [if_neg c, decide_eq_false c]
      rfl
theorem heads_F (B : Bk) : heads (F B) = thingsB B := heads_map (saidB B) (keysOfB B)
theorem accords_map (g : Ky → Int) : ∀ l : List Ky, (∀ k ∈ l, k.2 = [] → g k = -1 ∨ g k = -2) → accords (l.map fun k => factOf k (g k)) = (l.filter fun k => decide (k.2 = []) && decide (g k = -2)).map (·.1)
  | [], _ => rfl
  | k :: l, h => by
    have ih := accords_map g l fun x m => h x (List.mem_cons_of_mem _ m)
    have hk := h k List.mem_cons_self
    unfold accords at *
    rw [List.map_cons, List.filterMap_cons, List.filter_cons, ih]
    unfold factOf
    by_cases c : k.2 = []
    · rw [if_pos c]
      rcases hk c with e | e
      · rw [if_pos e, e]
        simp [c]
      · rw [if_neg (by rw [e]; decide), e]
        simp [c]
    · rw [if_neg c]
      simp [c]
theorem accords_F {B : Bk} (h : Good B) : accords (F B) = accordsB B := by
  unfold F
  rw [accords_map (saidB B) (keysOfB B) fun k m c => by
    obtain ⟨b, hb, rfl⟩ := List.mem_map.mp (keys_mem.mp m)
    rw [said_of_mem h.nd hb]
    exact (h.val b hb).thing c]
  unfold accordsB thingsB
  rw [List.filter_map, List.filter_filter]
  congr 1
  refine List.filter_congr fun k m => ?_
  show (decide (k.2 = []) && decide (saidB B k = -2)) = (decide (saidB B (k.1, []) = -2) && decide (k.2 = []))
  by_cases c : k.2 = []
  · have e : (k.1, ([] : Nm)) = k := by rw [← c]
    rw [e, Bool.and_comm]
  · rw [decide_eq_false c, Bool.false_and, Bool.and_false]
/-- the parts of a thing, by the keys -/
def partsIn (B : Bk) (y : Nm) : List Nm := ((keysOfB B).filter fun k => decide (k.1 = y) && !decide (k.2 = [])).map (·.2)
theorem within_map (g : Ky → Int) (y : Nm) : ∀ l : List Ky, within (l.map fun k => factOf k (g k)) y = (l.filter fun k => decide (k.1 = y) && !decide (k.2 = [])).map (·.2)
  | [] => rfl
  | k :: l => by
    have ih := within_map g y l
    unfold within at *
    rw [List.map_cons, List.filterMap_cons, List.filter_cons, ih]
    unfold factOf
    by_cases c : k.2 = []
    · have hf : (decide (k.1 = y) && !decide (k.2 = [])) = false := by simp [c]
      rw [if_pos c, hf]
      by_cases e : g k = -1
      · rw [if_pos e]; rfl
      · rw [if_neg e]; rfl
    · rw [if_neg c]
      by_cases e : k.1 = y
      · rw [if_pos (by simp [c, e])]
        simp [e]
      · rw [if_neg (by simp [e])]
        simp [e]
theorem within_F (B : Bk) (y : Nm) : within (F B) y = partsIn B y := within_map (saidB B) y (keysOfB B)
/-! ### what parts_of makes, by the keys -/
theorem look_app {κ β : Type} [DecidableEq κ] (D E : List (κ × β)) (k : κ) : lookG (D ++ E) k = (lookG D k).or (lookG E k) := by
  unfold lookG
  rw [List.find?_append]
  cases D.find? fun x => decide (x.1 = k) <;> rfl
theorem look_mapP {x y : Nm} {v : Nm} : ∀ P : Pt, lookG (P.map fun p => if p.1 = y then (p.1, p.2 ++ [v]) else p) x = (lookG P x).map fun l => if x = y then l ++ [v] else l
  | [] => rfl
  | p :: P => by
    have ih := look_mapP (x := x) (y := y) (v := v) P
    unfold lookG at *
    rw [List.map_cons, List.find?_cons, List.find?_cons]
    have e1 : (if p.1 = y then (p.1, p.2 ++ [v]) else p).1 = p.1 := by split <;> rfl
    rw [e1]
    by_cases h : p.1 = x
    · rw [decide_eq_true h]
      simp only [Option.map_some]
      by_cases h2 : p.1 = y
      · rw [if_pos h2, if_pos (by rw [← h, h2])]
      · rw [if_neg h2, if_neg (by rw [← h]; exact h2)]
    · rw [decide_eq_false h]
      exact ih
theorem inP_done {B : Bk} (hn : (B.map (·.1)).Nodup) (hk : KnownA B) (y : Nm) : ∀ (n : Nat), n ≤ (keysOfB B).length → inP (((keysOfB B).take n).foldl addP []) y = (((keysOfB B).take n).filter fun k => decide (k.1 = y) && !decide (k.2 = [])).map (·.2)
  | 0, _ => rfl
  | n + 1, h => by
    have ih := inP_done hn hk y n (by omega)
    have hlt : n < (keysOfB B).length := h
    rw [List.take_add_one, List.getElem?_eq_getElem hlt, List.foldl_append, List.filter_append, List.map_append]
    have e : (keysOfB B).take n ++ (keysOfB B)[n] :: (keysOfB B).drop (n + 1) = keysOfB B := by
      rw [← List.drop_eq_getElem_cons hlt, List.take_append_drop]
    generalize (keysOfB B)[n] = k at e ⊢
    generalize (keysOfB B).take n = d at e ih ⊢
    rw [← ih]
    show inP (if k.2 = [] then putG (d.foldl addP []) k.1 [] else (d.foldl addP []).map fun p => if p.1 = k.1 then (p.1, p.2 ++ [k.2]) else p) y = _
    by_cases c : k.2 = []
    · have hnot : k.1 ∉ (d.foldl addP []).map (·.1) := by
        rw [foldP_keys]
        rintro (h | h)
        · cases h
        · rw [← c] at h
          exact notin_done hn e h
      rw [if_pos c, putG_app hnot]
      unfold inP
      rw [look_app]
      have : ([k].filter fun k => decide (k.1 = y) && !decide (k.2 = [])) = [] := by simp [c]
      show _ = _ ++ ([k].filter fun k => decide (k.1 = y) && !decide (k.2 = [])).map (·.2)
      rw [this, List.map_nil, List.append_nil]
      cases q : lookG (d.foldl addP []) y with
      | some l => rfl
      | none =>
        unfold lookG
        rw [List.find?_cons]
        cases decide (k.1 = y) <;> rfl
    · rw [if_neg c]
      unfold inP
      rw [look_mapP]
      have hin : k.1 ∈ (d.foldl addP []).map (·.1) := (foldP_keys d []).mpr (.inr (before_parts hn hk e c))
      show _ = _ ++ ([k].filter fun k => decide (k.1 = y) && !decide (k.2 = [])).map (·.2)
      by_cases h2 : k.1 = y
      · subst h2
        obtain ⟨l, hl⟩ := Option.isSome_iff_exists.mp ((look_isSome _ _).mpr hin)
        rw [hl]
        simp [c]
      · have : ([k].filter fun k => decide (k.1 = y) && !decide (k.2 = [])) = [] := by simp [h2]
        rw [this, List.map_nil, List.append_nil]
        cases lookG (d.foldl addP []) y with
        | none => rfl
        | some l => simp [Ne.symm h2]
theorem inP_parts {B : Bk} (hn : (B.map (·.1)).Nodup) (hk : KnownA B) (y : Nm) : inP (partsB B) y = partsIn B y := by
  have := inP_done hn hk y (keysOfB B).length (Nat.le_refl _)
  rw [List.take_length] at this
  exact this
end Fb
end
section
/-! The mirror's scanning and the specification's. -/
namespace Fb
open SctBook
def cur (T : List Nat) (p : Nat) : Cur := ⟨T.drop p, p⟩
theorem cur_on (T : List Nat) (p : Nat) : (cur T p).on = cur T (p + 1) := by
  unfold Cur.on cur
  rw [List.drop_drop]
/-- both go on alike, or both stop at one place -/
inductive Sm {α β : Type} (R : α → β → Prop) : Except Nat α → Mi β → Prop
  | ok {a : α} {b : β} : R a b → Sm R (.ok a) (.ok b)
  | err (p : Nat) : Sm R (.error p) (.error (bad p))
theorem byteAt_nat {T : List Nat} {p x : Nat} (h : T[p]? = some x) : byteAt T p = (x : Int) := by unfold byteAt; rw [h]
theorem byteAt_none {T : List Nat} {p : Nat} (h : T[p]? = none) : byteAt T p = -1 := by unfold byteAt; rw [h]
theorem head_drop (T : List Nat) (p : Nat) : (T.drop p).head? = T[p]? := by rw [List.head?_drop]
theorem byteAt_iff {T : List Nat} {p x : Nat} : byteAt T p = (x : Int) ↔ T[p]? = some x := by
  constructor
  · intro h
    cases e : T[p]? with
    | none => rw [byteAt_none e] at h; omega
    | some y => rw [byteAt_nat e] at h; congr 1; omega
  · exact byteAt_nat
theorem rest_cases (T : List Nat) (p : Nat) : (T.drop p = [] ∧ T[p]? = none) ∨ ∃ x, T.drop p = x :: T.drop (p + 1) ∧ T[p]? = some x := by
  by_cases h : p < T.length
  · exact .inr ⟨T[p], List.drop_eq_getElem_cons h, List.getElem?_eq_getElem h⟩
  · exact .inl ⟨List.drop_eq_nil_of_le (by omega), List.getElem?_eq_none (by omega)⟩
theorem byte_sm (T : List Nat) (p x : Nat) : Sm (fun a q => a.2 = cur T q ∧ q = p + 1) (byteIn x (cur T p)) (mExpect T p x) := by
  unfold byteIn mExpect
  show Sm _ (if (T.drop p).head? = some x then _ else _) _
  rw [head_drop]
  by_cases h : T[p]? = some x
  · rw [if_pos h, if_pos (byteAt_nat h)]
    exact .ok ⟨cur_on T p, rfl⟩
  · rw [if_neg h, if_neg fun e => h (byteAt_iff.mp e)]
    exact .err p
theorem word_sm (T : List Nat) : ∀ (w : List Nat) (p : Nat), Sm (fun a q => a.2 = cur T q) (wordIn w (cur T p)) (mWord T p w)
  | [], p => .ok rfl
  | x :: w, p => by
    unfold wordIn mWord mExpect
    show Sm _ (if (T.drop p).head? = some x then _ else _) _
    rw [head_drop]
    by_cases h : T[p]? = some x
    · rw [if_pos h, if_pos (byteAt_nat h), cur_on]
      exact word_sm T w (p + 1)
    · rw [if_neg h, if_neg fun e => h (byteAt_iff.mp e)]
      exact .err p
theorem letter_I (x : Nat) : letterI (x : Int) = letter x := by
  unfold letterI letter
  congr 1 <;> exact decide_eq_decide.mpr (by omega)
theorem digit_I (x : Nat) : digitI (x : Int) = digit x := by
  unfold digitI digit
  congr 1 <;> exact decide_eq_decide.mpr (by omega)
theorem name_I (x : Nat) : nameI (x : Int) = nameByte x := by
  unfold nameI nameByte
  rw [letter_I, digit_I]
  congr 2
  by_cases h : x = 45
  · subst h
    rfl
  · rw [decide_eq_false (by omega)]
    symm
    simpa using h
theorem cut_cons {T : List Nat} {p q x : Nat} (h : T.drop p = x :: T.drop (p + 1)) (hq : p < q) : cut T p q = x :: cut T (p + 1) q := by
  unfold cut
  rw [h, show q - p = (q - (p + 1)) + 1 by omega, List.take_succ_cons]
theorem cut_self (T : List Nat) (p : Nat) : cut T p p = [] := by unfold cut; simp
theorem more_eq (T : List Nat) : ∀ (n p : Nat), moreIn n (cur T p) = (cut T p (run nameI T n p), cur T (run nameI T n p))
  | 0, p => by
    unfold moreIn run
    rw [cut_self]
  | n + 1, p => by
    unfold moreIn run
    show (match T.drop p with | x :: _ => _ | [] => _) = _
    rcases rest_cases T p with ⟨e, h⟩ | ⟨x, e, h⟩
    · rw [e, byteAt_none h, if_neg (by decide), cut_self]
    · rw [e, byteAt_nat h, name_I]
      simp only []
      by_cases c : nameByte x = true
      · rw [if_pos c, if_pos c, cur_on, more_eq T n (p + 1)]
        have := run_ge nameI T n (p + 1)
        rw [cut_cons e (by omega)]
      · rw [if_neg c, if_neg c, cut_self]
theorem name_sm (T : List Nat) (p : Nat) : Sm (fun a q => a = (cut T p q, cur T q)) (nameIn (cur T p)) (mName T p) := by
  unfold nameIn mName
  show Sm _ (match T.drop p with | x :: _ => _ | [] => _) _
  rcases rest_cases T p with ⟨e, h⟩ | ⟨x, e, h⟩
  · rw [e, byteAt_none h, if_neg (by decide)]
    exact .err p
  · rw [e, byteAt_nat h, letter_I]
    simp only []
    by_cases c : letter x = true
    · rw [if_pos c, if_pos c, cur_on, more_eq]
      refine .ok ?_
      have := run_ge nameI T 15 (p + 1)
      rw [cut_cons e (by omega)]
      rfl
    · rw [if_neg c, if_neg c]
      exact .err p
/-! ### amounts -/
theorem digits_eq (T : List Nat) : ∀ (f n p : Nat), (digitsIn f n (cur T p)).2 = cur T (run digitI T f p) ∧ (((digitsIn f n (cur T p)).1 : Nat) : Int) = (cut T p (run digitI T f p)).foldl (fun (v : Int) (x : Nat) => v * 10 + x - 48) n
  | 0, n, p => by
    unfold digitsIn run
    rw [cut_self]
    exact ⟨rfl, rfl⟩
  | f + 1, n, p => by
    unfold digitsIn run
    have hc : (cur T p).rest = T.drop p := rfl
    rw [hc]
    rcases rest_cases T p with ⟨e, h⟩ | ⟨x, e, h⟩
    · rw [e, byteAt_none h, if_neg (by decide), cut_self]
      exact ⟨rfl, rfl⟩
    · rw [e, byteAt_nat h, digit_I]
      simp only []
      by_cases c : digit x = true
      · rw [if_pos c, if_pos c, cur_on]
        obtain ⟨h1, h2⟩ := digits_eq T f (10 * n + (x - 48)) (p + 1)
        refine ⟨h1, ?_⟩
        rw [h2, cut_cons e (by have := run_ge digitI T f (p + 1); omega), List.foldl_cons]
        congr 1
        unfold digit at c
        rw [Bool.and_eq_true] at c
        have := of_decide_eq_true c.1
        omega
      · rw [if_neg c, if_neg c, cut_self]
        exact ⟨rfl, rfl⟩
theorem digit_nat {x : Nat} (h : digit x = true) : 48 ≤ x ∧ x ≤ 57 := by
  unfold digit at h
  rw [Bool.and_eq_true] at h
  exact ⟨of_decide_eq_true h.1, of_decide_eq_true h.2⟩
/-- what stands at a place: no digit, or a digit -/
theorem digit_cases (T : List Nat) (p : Nat) : (digitI (byteAt T p) = false ∧ (T.drop p = [] ∨ ∃ x r, T.drop p = x :: r ∧ digit x = false)) ∨ ∃ x, T.drop p = x :: T.drop (p + 1) ∧ digit x = true ∧ digitI (byteAt T p) = true := by
  rcases rest_cases T p with ⟨e, h⟩ | ⟨x, e, h⟩
  · exact .inl ⟨by rw [byteAt_none h]; rfl, .inl e⟩
  · by_cases c : digit x = true
    · exact .inr ⟨x, e, c, by rw [byteAt_nat h, digit_I]; exact c⟩
    · exact .inl ⟨by rw [byteAt_nat h, digit_I]; simpa using c, .inr ⟨x, _, e, by simpa using c⟩⟩
theorem pointIn_stop {T : List Nat} {p f u n : Nat} (h : T.drop p = [] ∨ ∃ x r, T.drop p = x :: r ∧ digit x = false) : pointIn (f + 1) u n (cur T p) = if u = 100 ∨ n = 0 then .error p else .ok (n, cur T p) := by
  unfold pointIn
  have hc : (cur T p).rest = T.drop p := rfl
  rw [hc]
  rcases h with h | ⟨x, r, h, hd⟩
  · rw [h]
    rfl
  · rw [h]
    simp only []
    rw [if_neg (by rw [hd]; simp)]
    rfl
theorem pointIn_go {T : List Nat} {p f u n x : Nat} (h : T.drop p = x :: T.drop (p + 1)) (hd : digit x = true) : pointIn (f + 1) u n (cur T p) = if u = 1 ∧ n = 0 ∧ x = 48 then (if u = 100 ∨ n = 0 then .error p else .ok (n, cur T p)) else pointIn f (u / 10) (n + (x - 48) * u) (cur T (p + 1)) := by
  conv => lhs; unfold pointIn
  have hc : (cur T p).rest = T.drop p := rfl
  rw [hc, h]
  simp only []
  by_cases c : u = 1 ∧ n = 0 ∧ x = 48
  · rw [if_neg (fun q => q.2 c), if_pos c]
    rfl
  · rw [if_pos ⟨hd, c⟩, if_neg c, cur_on]
/-- behind the point -/
def mBehind (T : List Nat) (w : Int) (s : Nat) : Mi (Nat × Int) :=
  if run digitI T 3 s = s then .error (bad s) else
  if w * 1000 + numOf T s (run digitI T 3 s) * scale (run digitI T 3 s - s) = 0 then .error (bad (min (run digitI T 3 s) (s + 2))) else
  .ok (run digitI T 3 s, w * 1000 + numOf T s (run digitI T 3 s) * scale (run digitI T 3 s - s))
theorem run_yes {f : Int → Bool} {T : List Nat} {n p : Nat} (h : f (byteAt T p) = true) : run f T (n + 1) p = run f T n (p + 1) := by
  conv => lhs; unfold run
  rw [if_pos h]
theorem run_no {f : Int → Bool} {T : List Nat} {n p : Nat} (h : f (byteAt T p) = false) : run f T (n + 1) p = p := by
  unfold run
  rw [if_neg (by rw [h]; exact Bool.noConfusion)]
theorem behind_sm (T : List Nat) (w s : Nat) : Sm (fun a r => a.2 = cur T r.1 ∧ r.2 = (a.1 : Int)) (pointIn 3 100 (1000 * w) (cur T s)) (mBehind T w s) := by
  unfold mBehind
  rcases digit_cases T s with ⟨d1, h1⟩ | ⟨x1, e1, g1, d1⟩
  · rw [run_no d1, if_pos rfl, pointIn_stop h1, if_pos (.inl rfl)]
    exact .err s
  obtain ⟨a1, b1⟩ := digit_nat g1
  rw [run_yes d1, pointIn_go e1 g1, if_neg (by omega)]
  rcases digit_cases T (s + 1) with ⟨d2, h2⟩ | ⟨x2, e2, g2, d2⟩
  · have hn : numOf T s (s + 1) = (x1 : Int) - 48 := by
      unfold numOf
      rw [e1, show s + 1 - s = 1 by omega]
      simp
    rw [run_no d2, if_neg (by omega), pointIn_stop h2, hn, show s + 1 - s = 1 by omega, show scale 1 = 100 from rfl]
    show Sm _ (if 100 / 10 = 100 ∨ 1000 * w + (x1 - 48) * 100 = 0 then _ else _) (if (w : Int) * 1000 + ((x1 : Int) - 48) * 100 = 0 then _ else _)
    by_cases c : 1000 * w + (x1 - 48) * 100 = 0
    · rw [if_pos (.inr c), if_pos (by omega), show min (s + 1) (s + 2) = s + 1 by omega]
      exact .err (s + 1)
    · rw [if_neg (by omega), if_neg (by omega)]
      exact .ok ⟨rfl, by simp only []; omega⟩
  obtain ⟨a2, b2⟩ := digit_nat g2
  rw [run_yes d2, pointIn_go e2 g2, if_neg (by omega)]
  rcases digit_cases T (s + 1 + 1) with ⟨d3, h3⟩ | ⟨x3, e3, g3, d3⟩
  · have hn : numOf T s (s + 1 + 1) = ((x1 : Int) - 48) * 10 + x2 - 48 := by
      unfold numOf
      rw [e1, e2, show s + 1 + 1 - s = 2 by omega]
      simp
    rw [run_no d3, if_neg (by omega), pointIn_stop h3, hn, show s + 1 + 1 - s = 2 by omega, show scale 2 = 10 from rfl]
    show Sm _ (if 100 / 10 / 10 = 100 ∨ 1000 * w + (x1 - 48) * 100 + (x2 - 48) * (100 / 10) = 0 then _ else _) (if (w : Int) * 1000 + (((x1 : Int) - 48) * 10 + x2 - 48) * 10 = 0 then _ else _)
    by_cases c : 1000 * w + (x1 - 48) * 100 + (x2 - 48) * (100 / 10) = 0
    · rw [if_pos (.inr c), if_pos (by omega), show min (s + 1 + 1) (s + 2) = s + 1 + 1 by omega]
      exact .err (s + 1 + 1)
    · rw [if_neg (by omega), if_neg (by omega)]
      exact .ok ⟨rfl, by simp only []; omega⟩
  obtain ⟨a3, b3⟩ := digit_nat g3
  have hn : numOf T s (s + 1 + 1 + 1) = (((x1 : Int) - 48) * 10 + x2 - 48) * 10 + x3 - 48 := by
    unfold numOf
    rw [e1, e2, e3, show s + 1 + 1 + 1 - s = 3 by omega]
    simp
  rw [run_yes d3, show run digitI T 0 (s + 1 + 1 + 1) = s + 1 + 1 + 1 from rfl, if_neg (by omega), pointIn_go e3 g3, hn, show s + 1 + 1 + 1 - s = 3 by omega, show scale 3 = 1 from rfl]
  show Sm _ (if 100 / 10 / 10 = 1 ∧ 1000 * w + (x1 - 48) * 100 + (x2 - 48) * (100 / 10) = 0 ∧ x3 = 48 then _ else _) (if (w : Int) * 1000 + ((((x1 : Int) - 48) * 10 + x2 - 48) * 10 + x3 - 48) * 1 = 0 then _ else _)
  by_cases c : 1000 * w + (x1 - 48) * 100 + (x2 - 48) * (100 / 10) = 0 ∧ x3 = 48
  · rw [if_pos ⟨by decide, c⟩, if_pos (.inr c.1), if_pos (by omega), show min (s + 1 + 1 + 1) (s + 2) = s + 1 + 1 by omega]
    exact .err (s + 1 + 1)
  · rw [if_neg (fun h => c h.2), if_neg (by omega)]
    exact .ok ⟨rfl, by simp only []; omega⟩
theorem foldl_pos : ∀ (l : List Nat) (v : Int), 0 < v → (∀ x ∈ l, 48 ≤ x ∧ x ≤ 57) → 0 < l.foldl (fun (v : Int) (x : Nat) => v * 10 + x - 48) v
  | [], v, h, _ => h
  | x :: l, v, h, hd => by
    have := hd x List.mem_cons_self
    exact foldl_pos l _ (by show (0 : Int) < v * 10 + x - 48; omega) fun y m => hd y (List.mem_cons_of_mem _ m)
theorem mAmount_eq (T : List Nat) (p : Nat) : mAmount T p = (match mWhole T p with
  | .error e => .error e
  | .ok q => if numOf T p q > 0 ∧ byteAt T q ≠ 46 then .ok (q, numOf T p q * 1000) else match mExpect T q 46 with
    | .error e => .error e
    | .ok s => mBehind T (numOf T p q) s) := rfl
theorem amount_sm (T : List Nat) (p : Nat) : Sm (fun a r => a.2 = cur T r.1 ∧ r.2 = (a.1 : Int)) (amountIn (cur T p)) (mAmount T p) := by
  rw [mAmount_eq]
  unfold amountIn
  have hc : (cur T p).rest = T.drop p := rfl
  rw [hc]
  rcases rest_cases T p with ⟨e, h⟩ | ⟨x, e, h⟩
  · have hw : mWhole T p = .error (bad p) := by
      unfold mWhole
      rw [byteAt_none h, if_neg (by decide), run_no (by rw [byteAt_none h]; rfl), if_pos rfl]
    rw [e, hw]
    exact .err p
  rw [e]
  simp only []
  by_cases c : x = 48
  · have hw : mWhole T p = .ok (p + 1) := by
      unfold mWhole
      rw [byteAt_nat h, c]; rfl
    have hz := numOf_one T p (by rw [byteAt_nat h, c]; rfl)
    rw [if_pos c, hw, cur_on]
    simp only []
    rw [hz, if_neg (by omega)]
    have hb : Sm (fun a q => a.2 = cur T q ∧ q = p + 1 + 1) (byteIn 46 (cur T (p + 1))) (mExpect T (p + 1) 46) := byte_sm T (p + 1) 46
    revert hb
    generalize byteIn 46 (cur T (p + 1)) = g
    generalize mExpect T (p + 1) 46 = m
    intro hb
    cases hb with
    | err q => exact .err q
    | ok r =>
      rename_i a b
      obtain ⟨a1, a2⟩ := a
      obtain ⟨r1, r2⟩ := r
      simp only [] at r1 ⊢
      rw [r1]
      exact behind_sm T 0 b
  rw [if_neg c]
  have n48 : ¬ byteAt T p = 48 := by rw [byteAt_nat h]; omega
  by_cases d : digit x = true
  · rw [if_pos d]
    have hdi : digitI (byteAt T p) = true := by rw [byteAt_nat h, digit_I]; exact d
    have hge := run_ge digitI T 5 (p + 1)
    have hr6 : run digitI T 6 p = run digitI T 5 (p + 1) := run_yes hdi
    have hw : mWhole T p = .ok (run digitI T 6 p) := by
      unfold mWhole
      rw [if_neg n48, if_neg (by omega)]
    obtain ⟨h1, h2⟩ := digits_eq T 6 0 p
    have hnum : ((digitsIn 6 0 (cur T p)).1 : Int) = numOf T p (run digitI T 6 p) := h2
    have hpos : 0 < numOf T p (run digitI T 6 p) := by
      have := digit_nat d
      rw [← hnum, h2, cut_cons e (by omega), List.foldl_cons]
      refine foldl_pos _ _ (by show (0 : Int) < ((0 : Nat) : Int) * 10 + x - 48; omega) fun y m => ?_
      have := run_all (f := digitI) (T := T) (by decide) 5 (p + 1) y (by rw [← hr6]; exact m)
      exact digit_range this
    rw [hw]
    simp only []
    have hh : (digitsIn 6 0 (cur T p)).2.rest.head? = T[run digitI T 6 p]? := by rw [h1]; exact head_drop T _
    rw [hh]
    generalize run digitI T 6 p = q at *
    by_cases c46 : T[q]? = some 46
    · have b46 : byteAt T q = 46 := byteAt_nat c46
      rw [if_pos c46, if_neg (fun h => h.2 b46)]
      have he : mExpect T q 46 = .ok (q + 1) := by unfold mExpect; rw [if_pos b46]
      rw [he, h1, cur_on]
      simp only []
      rw [← hnum]
      exact behind_sm T (digitsIn 6 0 (cur T p)).1 (q + 1)
    · have b46 : byteAt T q ≠ 46 := fun e => c46 (byteAt_iff.mp e)
      rw [if_neg c46, if_pos ⟨hpos, b46⟩]
      refine .ok ⟨h1, ?_⟩
      simp only []
      omega
  · rw [if_neg d]
    have hw : mWhole T p = .error (bad p) := by
      unfold mWhole
      rw [if_neg n48, run_no (by rw [byteAt_nat h, digit_I]; simpa using d), if_pos rfl]
    rw [hw]
    exact .err p
end Fb
end
section
/-! Lines: the mirror's and the specification's. -/
namespace Fb
open SctBook
def lf (l : Ln) : Fact × Nat := (factOf l.key l.told, l.place)
theorem word_app (x : Nat) : ∀ (w : List Nat) (c : Cur), wordIn (w ++ [x]) c = match wordIn w c with
    | .error p => .error p
    | .ok (_, d) => byteIn x d
  | [], c => by
    unfold byteIn
    simp only [List.nil_append, wordIn]
    try (split <;> rfl)
  | y :: w, c => by
    show (if c.rest.head? = some y then wordIn (w ++ [x]) c.on else .error c.at_) = match (if c.rest.head? = some y then wordIn w c.on else .error c.at_) with
      | .error p => .error p
      | .ok (_, d) => byteIn x d
    by_cases h : c.rest.head? = some y
    · rw [if_pos h, if_pos h]
      exact word_app x w c.on
    · rw [if_neg h, if_neg h]
theorem byte_sm' (T : List Nat) (p x : Nat) (b : Int) (h : b = (x : Int)) : Sm (fun a q => a.2 = cur T q ∧ q = p + 1) (byteIn x (cur T p)) (mExpect T p b) := by
  subst h
  exact byte_sm T p x
theorem head_sm (T : List Nat) (p : Nat) (w : List Nat) (f : Bytes → Fact) (hw : (if byteAt T p = 109 then MATERIAL else ACCORD) = w) (hf : ∀ x, f x = factOf (x, []) (if byteAt T p = 109 then -1 else -2)) :
    Sm (fun a r => a.1 = some (lf r.2) ∧ a.2 = cur T r.1) (headIn w f (cur T p)) (mThingLine T p) := by
  unfold headIn mThingLine
  rw [word_app, hw]
  have h1 := word_sm T w p
  revert h1
  generalize wordIn w (cur T p) = g1
  generalize mWord T p w = m1
  intro h1
  cases h1 with
  | err q => exact .err q
  | ok r1 =>
  rename_i a q
  obtain ⟨a1, a2⟩ := a
  simp only [] at r1 ⊢
  rw [r1]
  have h2 := byte_sm' T q 32 32 rfl
  revert h2
  generalize byteIn 32 (cur T q) = g2
  generalize mExpect T q 32 = m2
  intro h2
  cases h2 with
  | err q => exact .err q
  | ok r2 =>
  rename_i a s
  obtain ⟨a1, a2⟩ := a
  obtain ⟨r2, -⟩ := r2
  simp only [] at r2 ⊢
  rw [r2]
  have h3 := name_sm T s
  revert h3
  generalize nameIn (cur T s) = g3
  generalize mName T s = m3
  intro h3
  cases h3 with
  | err q => exact .err q
  | ok r3 =>
  rename_i a z
  subst r3
  simp only []
  have h4 := byte_sm' T z 10 10 rfl
  revert h4
  show Sm _ (byteIn END (cur T z)) _ → _
  generalize byteIn END (cur T z) = g4
  generalize mExpect T z 10 = m4
  intro h4
  cases h4 with
  | err q => exact .err q
  | ok r4 =>
  rename_i a b
  obtain ⟨a1, a2⟩ := a
  obtain ⟨r4, -⟩ := r4
  simp only [] at r4 ⊢
  exact .ok ⟨by rw [hf]; rfl, r4⟩
theorem cut_ne {T : List Nat} {s z : Nat} (h : mName T s = .ok z) : cut T s z ≠ [] := by
  have := mName_ok h
  intro e
  have := congrArg List.length e
  simp only [cut, List.length_take, List.length_drop, List.length_nil] at this
  omega
theorem part_sm (T : List Nat) (p : Nat) (y : Nm) : Sm (fun a r => a.1 = some (lf r.2) ∧ a.2 = cur T r.1) (partIn y (cur T p)) (mPartLine T p y) := by
  unfold partIn mPartLine
  have h1 := word_sm T [32, 32] p
  revert h1
  generalize wordIn [32, 32] (cur T p) = g1
  generalize mWord T p [32, 32] = m1
  intro h1
  cases h1 with
  | err q => exact .err q
  | ok r1 =>
  rename_i a s
  obtain ⟨a1, a2⟩ := a
  simp only [] at r1 ⊢
  rw [r1]
  have h3 := name_sm T s
  cases e3 : mName T s with
  | error e =>
    rw [e3] at h3
    revert h3
    generalize nameIn (cur T s) = g3
    intro h3
    cases h3 with
    | err q => exact .err q
  | ok z =>
  rw [e3] at h3
  have hne := cut_ne e3
  revert h3
  generalize nameIn (cur T s) = g3
  intro h3
  cases h3 with
  | ok r3 =>
  subst r3
  simp only []
  have h4 := byte_sm' T z 32 32 rfl
  revert h4
  generalize byteIn 32 (cur T z) = g4
  generalize mExpect T z 32 = m4
  intro h4
  cases h4 with
  | err q => exact .err q
  | ok r4 =>
  rename_i a g
  obtain ⟨a1, a2⟩ := a
  obtain ⟨r4, -⟩ := r4
  simp only [] at r4 ⊢
  rw [r4]
  have h5 := amount_sm T g
  cases e5 : mAmount T g with
  | error e =>
    rw [e5] at h5
    revert h5
    generalize amountIn (cur T g) = g5
    intro h5
    cases h5 with
    | err q => exact .err q
  | ok h =>
  rw [e5] at h5
  revert h5
  generalize amountIn (cur T g) = g5
  intro h5
  cases h5 with
  | ok r5 =>
  rename_i a
  obtain ⟨a1, a2⟩ := a
  obtain ⟨r5, r6⟩ := r5
  simp only [] at r5 r6 ⊢
  rw [r5]
  have h6 := byte_sm' T h.1 10 10 rfl
  revert h6
  show Sm _ (byteIn END (cur T h.1)) _ → _
  generalize byteIn END (cur T h.1) = g6
  generalize mExpect T h.1 10 = m6
  intro h6
  cases h6 with
  | err q => exact .err q
  | ok r7 =>
  rename_i a b
  obtain ⟨b1, b2⟩ := a
  obtain ⟨r7, -⟩ := r7
  simp only [] at r7 ⊢
  refine .ok ⟨?_, r7⟩
  show some (Fact.part y (cut T s z) a1, s) = some (factOf (y, cut T s z) h.2, s)
  unfold factOf
  rw [if_neg hne, r6]
  rfl
theorem remark_sm (T : List Nat) : ∀ (f q : Nat), T.length < f + q → Sm (fun a r => a.1 = none ∧ a.2 = cur T r) (remarkIn f (cur T q)) (mExpect T (run notEnd T (T.length - q) q) 10)
  | 0, q, h => by
    unfold remarkIn
    rw [show T.length - q = 0 by omega]
    have : mExpect T q 10 = .error (bad q) := by
      unfold mExpect
      rw [byteAt_none (List.getElem?_eq_none (by omega)), if_neg (by decide)]
    show Sm _ (.error q) (mExpect T q 10)
    rw [this]
    exact .err q
  | f + 1, q, h => by
    unfold remarkIn
    have hc : (cur T q).rest = T.drop q := rfl
    rw [hc]
    rcases rest_cases T q with ⟨e, h1⟩ | ⟨x, e, h1⟩
    · have hq : T.length ≤ q := by
        have := congrArg List.length e
        rw [List.length_drop, List.length_nil] at this
        omega
      rw [e, show T.length - q = 0 by omega]
      have : mExpect T q 10 = .error (bad q) := by
        unfold mExpect
        rw [byteAt_none h1, if_neg (by decide)]
      show Sm _ (.error q) (mExpect T q 10)
      rw [this]
      exact .err q
    · have hq : q < T.length := (List.getElem?_eq_some_iff.mp h1).1
      rw [e, show T.length - q = (T.length - (q + 1)) + 1 by omega]
      show Sm _ (if x = 10 then _ else _) _
      by_cases c : x = 10
      · have : notEnd (byteAt T q) = false := by rw [byteAt_nat h1, c]; rfl
        rw [if_pos c, run_no this]
        have : mExpect T q 10 = .ok (q + 1) := by unfold mExpect; rw [byteAt_nat h1, c]; rfl
        rw [this, cur_on]
        exact .ok ⟨rfl, rfl⟩
      · have : notEnd (byteAt T q) = true := by
          rw [byteAt_nat h1]
          unfold notEnd
          rw [decide_eq_true (show ¬ (x : Int) = 10 by omega), decide_eq_true (show ¬ (x : Int) = -1 by omega)]
          rfl
        rw [if_neg c, run_yes this, cur_on]
        exact remark_sm T f (q + 1) (by omega)
theorem mThingLine_told {T : List Nat} {p : Nat} {r : Nat × Ln} (h : mThingLine T p = .ok r) : r.2.told = (if byteAt T p = 109 then (-1 : Int) else -2) ∧ r.2.key.2 = [] := by
  unfold mThingLine at h
  split at h
  · cases h
  split at h
  · cases h
  split at h
  · cases h
  split at h
  · cases h
  cases h
  exact ⟨rfl, rfl⟩
theorem mThing_bad {T : List Nat} {p : Nat} (h1 : ¬ byteAt T p = 109) (h2 : ¬ byteAt T p = 97) : mThingLine T p = .error (bad p) := by
  have e : mWord T p ACCORD = .error (bad p) := by
    have : mExpect T p ((97 : Nat) : Int) = .error (bad p) := by
      unfold mExpect
      rw [if_neg (show ¬ byteAt T p = ((97 : Nat) : Int) from h2)]
    unfold ACCORD mWord
    rw [this]
  unfold mThingLine
  rw [if_neg h1, e]
/-- the accord begun last -/
def yOf (acc : Nm) : Option Bytes := if acc = [] then none else some acc
theorem line_sm (T : List Nat) (p : Nat) (acc : Nm) (hp : p < T.length) : Sm (fun a r => a.1 = r.2.1.map lf ∧ a.2 = cur T r.1 ∧ begun (yOf acc) a.1 = yOf r.2.2) (lineIn (yOf acc) (cur T p)) (mLine T p acc) := by
  have hx : T[p]? = some T[p] := List.getElem?_eq_getElem hp
  have e : T.drop p = T[p] :: T.drop (p + 1) := List.drop_eq_getElem_cons hp
  have hb : byteAt T p = (T[p] : Nat) := byteAt_nat hx
  have hc : (cur T p).rest = T.drop p := rfl
  generalize T[p] = x at *
  unfold mLine
  rw [hb]
  have thing : ∀ (w : List Nat) (f : Bytes → Fact), (if byteAt T p = 109 then MATERIAL else ACCORD) = w → (∀ x, f x = factOf (x, []) (if byteAt T p = 109 then -1 else -2)) → (∀ x n, begun (yOf acc) (some (f x, n)) = yOf (if (if byteAt T p = 109 then (-1 : Int) else -2) = -2 then x else [])) →
      Sm (fun a r => a.1 = r.2.1.map lf ∧ a.2 = cur T r.1 ∧ begun (yOf acc) a.1 = yOf r.2.2) (headIn w f (cur T p)) (match mThingLine T p with | .error e => (.error e : Mi (Nat × Option Ln × Nm)) | .ok r => .ok (r.1, some r.2, if r.2.told = -2 then r.2.key.1 else [])) := by
    intro w f hw hf hbeg
    have h := head_sm T p w f hw hf
    cases e3 : mThingLine T p with
    | error er =>
      rw [e3] at h
      revert h
      generalize headIn w f (cur T p) = g
      intro h
      cases h with
      | err q => exact .err q
    | ok r =>
      rw [e3] at h
      have hr := mThingLine_told e3
      revert h
      generalize headIn w f (cur T p) = g
      intro h
      cases h with
      | ok q =>
        rename_i a
        refine .ok ⟨q.1, q.2, ?_⟩
        rw [q.1]
        have hk : (r.2.key.1, ([] : Nm)) = r.2.key := by rw [← hr.2]
        have e4 : lf r.2 = (f r.2.key.1, r.2.place) := by
          unfold lf
          rw [hf, hr.1, hk]
        rw [e4, hbeg, hr.1]
  by_cases c10 : x = 10
  · have : lineIn (yOf acc) (cur T p) = .ok (none, cur T (p + 1)) := by
      unfold lineIn
      rw [hc, e, c10]
      show Except.ok (none, (cur T p).on) = _
      rw [cur_on]
    rw [this, if_pos (show (x : Int) = 10 by omega)]
    exact .ok ⟨rfl, rfl, rfl⟩
  rw [if_neg (show ¬ (x : Int) = 10 by omega)]
  by_cases c35 : x = 35
  · have : lineIn (yOf acc) (cur T p) = remarkIn (T.length - p) (cur T (p + 1)) := by
      unfold lineIn
      rw [hc, e, c35]
      show remarkIn (35 :: T.drop (p + 1)).length (cur T p).on = _
      rw [cur_on, ← c35, ← e, List.length_drop]
    have hr : mRemark T p = mExpect T (run notEnd T (T.length - (p + 1)) (p + 1)) 10 := by
      unfold mRemark
      rw [show T.length - p = (T.length - (p + 1)) + 1 by omega, run_yes (by rw [hb, c35]; rfl)]
    rw [this, if_pos (show (x : Int) = 35 by omega), hr]
    have h := remark_sm T (T.length - p) (p + 1) (by omega)
    revert h
    generalize remarkIn (T.length - p) (cur T (p + 1)) = g
    generalize mExpect T (run notEnd T (T.length - (p + 1)) (p + 1)) 10 = m
    intro h
    cases h with
    | err q => exact .err q
    | ok r => exact .ok ⟨r.1, r.2, by rw [r.1]; rfl⟩
  rw [if_neg (show ¬ (x : Int) = 35 by omega)]
  by_cases c109 : x = 109
  · have : lineIn (yOf acc) (cur T p) = headIn MATERIAL .material (cur T p) := by
      unfold lineIn
      rw [hc, e, c109]
      rfl
    have b109 : byteAt T p = 109 := by rw [hb, c109]; rfl
    rw [this, if_neg (fun h => by have := h.1; omega)]
    refine thing MATERIAL .material (by rw [if_pos b109]) (fun x => by rw [if_pos b109]; rfl) fun x n => ?_
    rw [if_pos b109]
    rfl
  have n109 : ¬ byteAt T p = 109 := by rw [hb]; omega
  by_cases c97 : x = 97
  · have : lineIn (yOf acc) (cur T p) = headIn ACCORD .accord (cur T p) := by
      unfold lineIn
      rw [hc, e, c97]
      rfl
    rw [this, if_neg (fun h => by have := h.1; omega)]
    have hthing : ∀ (r : Nat × Ln), mThingLine T p = .ok r → r.2.key.1 ≠ [] := fun r h => (mThingLine_ok h).2.2.2.2
    have h := head_sm T p ACCORD .accord (by rw [if_neg n109]) (fun x => by rw [if_neg n109]; rfl)
    cases e3 : mThingLine T p with
    | error er =>
      rw [e3] at h
      revert h
      generalize headIn ACCORD .accord (cur T p) = g
      intro h
      cases h with
      | err q => exact .err q
    | ok r =>
      have hr := mThingLine_told e3
      have hne := hthing r e3
      rw [e3] at h
      revert h
      generalize headIn ACCORD .accord (cur T p) = g
      intro h
      cases h with
      | ok q =>
        rename_i a
        refine .ok ⟨q.1, q.2, ?_⟩
        rw [q.1]
        have hk : (r.2.key.1, ([] : Nm)) = r.2.key := by rw [← hr.2]
        have e4 : lf r.2 = (.accord r.2.key.1, r.2.place) := by
          unfold lf
          rw [hr.1, if_neg n109, ← hk]
          rfl
        rw [e4, hr.1, if_neg n109]
        unfold yOf
        rw [if_pos rfl, if_neg hne]
        rfl
  by_cases c32 : x = 32
  · by_cases ca : acc = []
    · have : lineIn (yOf acc) (cur T p) = .error p := by
        unfold lineIn yOf
        rw [hc, e, c32, if_pos ca]
        rfl
      have ht : mThingLine T p = .error (bad p) := by
        exact mThing_bad n109 (by rw [hb]; omega)
      rw [this, if_neg (fun h => h.2 ca), ht]
      exact .err p
    · have : lineIn (yOf acc) (cur T p) = partIn acc (cur T p) := by
        unfold lineIn yOf
        rw [hc, e, c32, if_neg ca]
        rfl
      rw [this, if_pos ⟨by omega, ca⟩]
      have h := part_sm T p acc
      revert h
      generalize partIn acc (cur T p) = g
      cases e3 : mPartLine T p acc with
      | error er =>
        intro h
        cases h with
        | err q => exact .err q
      | ok r =>
        intro h
        cases h with
        | ok q =>
          refine .ok ⟨q.1, q.2, ?_⟩
          rw [q.1]
          have h2 := mPartLine_ok e3
          have : lf r.2 = (.part r.2.key.1 r.2.key.2 r.2.told.toNat, r.2.place) := by
            unfold lf factOf
            rw [if_neg h2.2.2.1]
          rw [this]
          rfl
  · have : lineIn (yOf acc) (cur T p) = .error p := by
      unfold lineIn
      rw [hc, e]
      split <;> first | (rename_i h; injection h with h1 h2; omega) | rfl
    have ht : mThingLine T p = .error (bad p) := by
      exact mThing_bad n109 (by rw [hb]; omega)
    rw [this, if_neg (fun h => by have := h.1; omega), ht]
    exact .err p
theorem lines_sm (T : List Nat) : ∀ (f p : Nat) (acc : Nm), Sm (fun L ls => L = ls.map lf) (linesIn f (yOf acc) (cur T p)) (mLines T f p acc)
  | 0, p, acc => .ok rfl
  | f + 1, p, acc => by
    unfold linesIn mLines
    have hc : (cur T p).rest = T.drop p := rfl
    rw [hc]
    by_cases hp : p < T.length
    · have hne : ¬ T.drop p = [] := fun e => by
        have := congrArg List.length e
        rw [List.length_drop, List.length_nil] at this
        omega
      rw [if_pos hp, if_neg hne]
      have h := line_sm T p acc hp
      revert h
      generalize lineIn (yOf acc) (cur T p) = g
      generalize mLine T p acc = m
      intro h
      cases h with
      | err q => exact .err q
      | ok r =>
        rename_i a b
        obtain ⟨a1, a2⟩ := a
        obtain ⟨r1, r2, r3⟩ := r
        simp only [] at r1 r2 r3 ⊢
        rw [r2, r3]
        have ih := lines_sm T f b.1 b.2.2
        revert ih
        generalize linesIn f (yOf b.2.2) (cur T b.1) = g2
        generalize mLines T f b.1 b.2.2 = m2
        intro ih
        cases ih with
        | err q => exact .err q
        | ok r4 =>
          refine .ok ?_
          rw [r4, r1, List.map_append]
          cases b.2.1 <;> rfl
    · rw [if_neg hp, if_pos (List.drop_eq_nil_of_le (by omega))]
      exact .ok rfl
/-- all lines of a text -/
theorem allLines_sm (T : List Nat) : Sm (fun L ls => L = ls.map lf) (linesIn (T.length + 1) none ⟨T, 0⟩) (mLinesOf T) := lines_sm T (T.length + 1) 0 []
end Fb
end
section
/-! What stands in what: paths; the program's search and the specification's bits both tell them. -/
namespace Fb
open SctBook
/-- a path of so many steps -/
def Pa (E : Nm → Nm → Prop) : Nat → Nm → Nm → Prop
  | 0, x, y => x = y
  | n + 1, x, y => ∃ z, E x z ∧ Pa E n z y
theorem Pa.add {E : Nm → Nm → Prop} : ∀ {m n : Nat} {x y z : Nm}, Pa E m x y → Pa E n y z → Pa E (m + n) x z
  | 0, n, x, y, z, h, k => by
    have h : x = y := h
    rw [h, Nat.zero_add]
    exact k
  | m + 1, n, x, y, z, h, k => by
    obtain ⟨w, h1, h2⟩ := h
    rw [show m + 1 + n = (m + n) + 1 by omega]
    exact ⟨w, h1, h2.add k⟩
theorem Pa.snoc {E : Nm → Nm → Prop} {n : Nat} {x y z : Nm} (h : Pa E n x y) (e : E y z) : Pa E (n + 1) x z := h.add (n := 1) ⟨z, e, rfl⟩
theorem Pa.cut {E : Nm → Nm → Prop} : ∀ {m n : Nat} {x z : Nm}, Pa E (m + n) x z → ∃ y, Pa E m x y ∧ Pa E n y z
  | 0, n, x, z, h => ⟨x, rfl, by rw [Nat.zero_add] at h; exact h⟩
  | m + 1, n, x, z, h => by
    rw [show m + 1 + n = (m + n) + 1 by omega] at h
    obtain ⟨w, h1, h2⟩ := h
    obtain ⟨y, h3, h4⟩ := h2.cut
    exact ⟨y, ⟨w, h1, h3⟩, h4⟩
theorem Pa.mono {E E' : Nm → Nm → Prop} (he : ∀ x y, E x y → E' x y) : ∀ {n : Nat} {x y : Nm}, Pa E n x y → Pa E' n x y
  | 0, _, _, h => h
  | _ + 1, _, _, ⟨w, h1, h2⟩ => ⟨w, he _ _ h1, h2.mono he⟩
/-! ### the search -/
theorem seeOne_spec : ∀ (ys : List Nm) (s : List Nm × List Nm), ∃ new, seeOne s ys = (s.1 ++ new, s.2 ++ new) ∧ (∀ y ∈ new, y ∈ ys ∧ y ∉ s.1) ∧ (∀ y ∈ ys, y ∈ s.1 ++ new) ∧ (s.1.Nodup → (s.1 ++ new).Nodup)
  | [], s => ⟨[], by simp [seeOne], (fun y m => by cases m), (fun y m => by cases m), fun h => by simpa using h⟩
  | x :: r, s => by
    unfold seeOne
    by_cases c : x ∈ s.1
    · rw [if_pos c]
      obtain ⟨new, e, h1, h2, h3⟩ := seeOne_spec r s
      refine ⟨new, e, fun y m => ⟨List.mem_cons_of_mem _ (h1 y m).1, (h1 y m).2⟩, fun y m => ?_, h3⟩
      rcases List.mem_cons.mp m with rfl | m
      · exact List.mem_append_left _ c
      · exact h2 y m
    · rw [if_neg c]
      obtain ⟨new, e, h1, h2, h3⟩ := seeOne_spec r (s.1 ++ [x], s.2 ++ [x])
      refine ⟨x :: new, by rw [e]; simp, fun y m => ?_, fun y m => ?_, fun h => ?_⟩
      · rcases List.mem_cons.mp m with rfl | m
        · exact ⟨List.mem_cons_self, c⟩
        · exact ⟨List.mem_cons_of_mem _ (h1 y m).1, fun h => (h1 y m).2 (List.mem_append_left _ h)⟩
      · rcases List.mem_cons.mp m with rfl | m
        · simp
        · have := h2 y m
          simpa using this
      · have : (s.1 ++ [x]).Nodup := List.nodup_append.mpr ⟨h, by simp, fun a ha b hb => by
          rw [List.mem_singleton] at hb
          subst hb
          exact fun e => c (e ▸ ha)⟩
        have := h3 this
        simpa using this
theorem seeAll_spec (P : Pt) : ∀ (zs : List Nm) (s : List Nm × List Nm), ∃ new, seeAll P s zs = (s.1 ++ new, s.2 ++ new) ∧ (∀ y ∈ new, (∃ z ∈ zs, y ∈ inP P z) ∧ y ∉ s.1) ∧ (∀ z ∈ zs, ∀ y ∈ inP P z, y ∈ s.1 ++ new) ∧ (s.1.Nodup → (s.1 ++ new).Nodup)
  | [], s => ⟨[], by simp [seeAll], (fun y m => by cases m), (fun y m => by cases m), fun h => by simpa using h⟩
  | z :: r, s => by
    unfold seeAll
    obtain ⟨n1, e1, h1, h2, h3⟩ := seeOne_spec (inP P z) s
    rw [e1]
    obtain ⟨n2, e2, k1, k2, k3⟩ := seeAll_spec P r (s.1 ++ n1, s.2 ++ n1)
    refine ⟨n1 ++ n2, by rw [e2]; simp, fun y m => ?_, fun w m y hy => ?_, fun h => ?_⟩
    · rcases List.mem_append.mp m with m | m
      · exact ⟨⟨z, List.mem_cons_self, (h1 y m).1⟩, (h1 y m).2⟩
      · obtain ⟨⟨w, hw, hy⟩, hn⟩ := k1 y m
        exact ⟨⟨w, List.mem_cons_of_mem _ hw, hy⟩, fun h => hn (List.mem_append_left _ h)⟩
    · rcases List.mem_cons.mp m with rfl | m
      · have := h2 y hy
        rcases List.mem_append.mp this with q | q
        · exact List.mem_append_left _ q
        · exact List.mem_append_right _ (List.mem_append_left _ q)
      · have := k2 w m y hy
        simpa using this
    · have := k3 (h3 h)
      simpa using this
def EP (P : Pt) : Nm → Nm → Prop := fun y z => z ∈ inP P y
structure SeeI (P : Pt) (x : Nm) (r : Nat) (found layer : List Nm) : Prop where
  nd : found.Nodup
  sub : ∀ y ∈ found, y ∈ P.map (·.1)
  snd : ∀ y ∈ found, ∃ m, 1 ≤ m ∧ m ≤ r ∧ m ≤ found.length ∧ Pa (EP P) m x y
  lay : ∀ y ∈ layer, Pa (EP P) r x y
  cmp : ∀ m y, 1 ≤ m → m ≤ r → Pa (EP P) m x y → y ∈ found
  low : ∀ y, Pa (EP P) r x y → y ∈ layer ∨ ∃ m, 1 ≤ m ∧ m < r ∧ Pa (EP P) m x y
  grow : layer ≠ [] → r ≤ found.length
theorem inP_key {P : Pt} (hC : Closed P) {y z : Nm} (h : z ∈ inP P y) : z ∈ P.map (·.1) := by
  unfold inP at h
  cases e : lookG P y with
  | none => rw [e] at h; cases h
  | some l =>
    rw [e] at h
    exact hC _ (look_mem0 e) z h
theorem SeeI.step {P : Pt} {x : Nm} {r : Nat} {found layer : List Nm} (hC : Closed P) (I : SeeI P x r found layer) (hl : layer ≠ []) : SeeI P x (r + 1) (seeAll P (found, []) layer).1 (seeAll P (found, []) layer).2 ∧ found.length ≤ (seeAll P (found, []) layer).1.length ∧ ((seeAll P (found, []) layer).2 ≠ [] → found.length + 1 ≤ (seeAll P (found, []) layer).1.length) := by
  obtain ⟨new, e, h1, h2, h3⟩ := seeAll_spec P layer (found, [])
  rw [e]
  simp only [List.nil_append]
  have hg := I.grow hl
  refine ⟨⟨h3 I.nd, fun y m => ?_, fun y m => ?_, fun y m => ?_, fun m y m1 m2 hp => ?_, fun y hp => ?_, fun hn => ?_⟩, by simp, fun hn => ?_⟩
  · rcases List.mem_append.mp m with m | m
    · exact I.sub y m
    · obtain ⟨⟨z, _, hz⟩, _⟩ := h1 y m
      exact inP_key hC hz
  · rw [List.length_append]
    rcases List.mem_append.mp m with m | m
    · obtain ⟨n, n1, n2, n3, n4⟩ := I.snd y m
      exact ⟨n, n1, by omega, by omega, n4⟩
    · obtain ⟨⟨z, hz, hy⟩, _⟩ := h1 y m
      have : 0 < new.length := List.length_pos_of_mem m
      exact ⟨r + 1, by omega, by omega, by omega, (I.lay z hz).snoc hy⟩
  · obtain ⟨⟨z, hz, hy⟩, _⟩ := h1 y m
    exact (I.lay z hz).snoc hy
  · by_cases c : m ≤ r
    · exact List.mem_append_left _ (I.cmp m y m1 c hp)
    · have em : m = r + 1 := by omega
      subst em
      obtain ⟨w, p1, p2⟩ := hp.cut (m := r) (n := 1)
      obtain ⟨y', p3, rfl⟩ := p2
      rcases I.low w p1 with q | ⟨n, n1, n2, n3⟩
      · exact h2 w q _ p3
      · exact List.mem_append_left _ (I.cmp (n + 1) _ (by omega) (by omega) (n3.snoc p3))
  · obtain ⟨w, p1, p2⟩ := hp.cut (m := r) (n := 1)
    obtain ⟨y', p3, rfl⟩ := p2
    rcases I.low w p1 with q | ⟨n, n1, n2, n3⟩
    · rcases List.mem_append.mp (h2 w q _ p3) with q2 | q2
      · obtain ⟨n, n1, n2, _, n4⟩ := I.snd _ q2
        exact .inr ⟨n, n1, by omega, n4⟩
      · exact .inl q2
    · exact .inr ⟨n + 1, by omega, by omega, n3.snoc p3⟩
  · rw [List.length_append]
    have : 0 < new.length := List.length_pos_iff.mpr hn
    omega
  · rw [List.length_append]
    have : 0 < new.length := List.length_pos_iff.mpr hn
    omega
theorem SeeI.all {P : Pt} {x : Nm} {r : Nat} {found : List Nm} (I : SeeI P x r found []) : ∀ (m : Nat) (y : Nm), 1 ≤ m → Pa (EP P) m x y → y ∈ found := by
  intro m
  induction m using Nat.strongRecOn with
  | _ m ih =>
    intro y m1 hp
    by_cases c : m ≤ r
    · exact I.cmp m y m1 c hp
    · rw [show m = r + (m - r) by omega] at hp
      obtain ⟨w, p1, p2⟩ := hp.cut
      rcases I.low w p1 with q | ⟨n, n1, n2, n3⟩
      · cases q
      · exact ih (n + (m - r)) (by omega) y (by omega) (n3.add p2)
theorem seeFrom_spec {P : Pt} {x : Nm} (hC : Closed P) : ∀ (f r : Nat) (found layer : List Nm), SeeI P x r found layer → (layer ≠ [] → P.length + 2 ≤ found.length + f) →
    (∀ m y, 1 ≤ m → Pa (EP P) m x y → y ∈ seeFrom P f found layer) ∧ ∀ y ∈ seeFrom P f found layer, ∃ m, 1 ≤ m ∧ m ≤ P.length ∧ Pa (EP P) m x y := by
  have small : ∀ {r : Nat} {found layer : List Nm}, SeeI P x r found layer → found.length ≤ P.length := fun I => by
    have := nodup_le0 I.nd I.sub
    rwa [List.length_map] at this
  have done : ∀ {r : Nat} {found : List Nm}, SeeI P x r found [] → (∀ m y, 1 ≤ m → Pa (EP P) m x y → y ∈ found) ∧ ∀ y ∈ found, ∃ m, 1 ≤ m ∧ m ≤ P.length ∧ Pa (EP P) m x y := fun I => by
    refine ⟨fun m y => I.all m y, fun y hy => ?_⟩
    obtain ⟨m, m1, _, m3, m4⟩ := I.snd y hy
    exact ⟨m, m1, Nat.le_trans m3 (small I), m4⟩
  intro f
  induction f with
  | zero =>
    intro r found layer I hf
    have hl : layer = [] := by
      by_cases c : layer = []
      · exact c
      · have := hf c
        have := small I
        omega
    subst hl
    exact done I
  | succ f ih =>
    intro r found layer I hf
    unfold seeFrom
    by_cases c : layer = []
    · rw [if_pos c]
      subst c
      exact done I
    · rw [if_neg c]
      obtain ⟨I', h1, h2⟩ := I.step hC c
      refine ih (r + 1) _ _ I' fun hn => ?_
      have := h2 hn
      have := hf c
      omega
theorem stand_iff {P : Pt} {x y : Nm} (hC : Closed P) : y ∈ standB P x ↔ ∃ m, 1 ≤ m ∧ m ≤ P.length ∧ Pa (EP P) m x y := by
  have I : SeeI P x 0 [] [x] := ⟨List.nodup_nil, (fun y m => by cases m), (fun y m => by cases m), (fun y m => by rw [List.mem_singleton.mp m]; rfl), (fun m y m1 m2 => by omega), (fun y h => .inl (by rw [show x = y from h]; exact List.mem_singleton.mpr rfl)), fun _ => Nat.zero_le _⟩
  have := seeFrom_spec hC (P.length + 2) 0 [] [x] I (fun _ => by simp)
  constructor
  · exact this.2 y
  · rintro ⟨m, m1, _, m3⟩
    exact this.1 m y m1 m3
/-! ### the bits -/
theorem fold_bits (h : List Nat) (b : Nat) : ∀ (r : List Nat) (m : Nat), (r.foldl (fun (m i : Nat) => m ||| (2 ^ i ||| h.getD i 0)) m).testBit b = (m.testBit b || r.any fun i => decide (i = b) || (h.getD i 0).testBit b)
  | [], m => by simp
  | i :: r, m => by
    rw [List.foldl_cons, fold_bits h b r, Nat.testBit_or, Nat.testBit_or, Nat.testBit_two_pow, List.any_cons, Bool.or_assoc]
/-- paths by places -/
def PaI (t : List (List Nat)) : Nat → Nat → Nat → Prop
  | 0, j, b => j = b
  | n + 1, j, b => ∃ i ∈ t.getD j [], PaI t n i b
theorem held_bit (t : List (List Nat)) : ∀ (n j b : Nat), ((heldBy t n).getD j 0).testBit b = true ↔ ∃ m, 1 ≤ m ∧ m ≤ n ∧ PaI t m j b
  | 0, j, b => by
    have : (heldBy t 0).getD j 0 = 0 := by
      unfold heldBy
      rw [List.getD_eq_getElem?_getD, List.getElem?_map]
      cases t[j]? <;> rfl
    rw [this]
    simp
    intro m h1 h2
    omega
  | n + 1, j, b => by
    have ih := held_bit t n
    have e : (heldBy t (n + 1)).getD j 0 = (t.getD j []).foldl (fun (m i : Nat) => m ||| (2 ^ i ||| (heldBy t n).getD i 0)) 0 := by
      show (t.map fun (r : List Nat) => r.foldl (fun (m i : Nat) => m ||| (2 ^ i ||| (heldBy t n).getD i 0)) 0).getD j 0 = _
      rw [List.getD_eq_getElem?_getD, List.getD_eq_getElem?_getD, List.getElem?_map]
      cases t[j]? <;> rfl
    rw [e, fold_bits, Nat.zero_testBit, Bool.false_or, List.any_eq_true]
    constructor
    · rintro ⟨i, hi, hb⟩
      rw [Bool.or_eq_true] at hb
      rcases hb with hb | hb
      · exact ⟨1, by omega, by omega, i, hi, (show i = b by simpa using hb)⟩
      · obtain ⟨m, m1, m2, m3⟩ := (ih i b).mp hb
        exact ⟨m + 1, by omega, by omega, i, hi, m3⟩
    · rintro ⟨m, m1, m2, hp⟩
      obtain ⟨k, rfl⟩ : ∃ k, m = k + 1 := ⟨m - 1, by omega⟩
      obtain ⟨i, hi, hp⟩ := hp
      refine ⟨i, hi, ?_⟩
      rw [Bool.or_eq_true]
      by_cases c : k = 0
      · subst c
        exact .inl (by rw [show i = b from hp]; simp)
      · exact .inr ((ih i b).mpr ⟨k, by omega, by omega, hp⟩)
/-- an edge between things told -/
def EW (l : List Fact) : Nm → Nm → Prop := fun y x => x ∈ within l y ∧ x ∈ heads l
theorem find_ix {hs : List Nm} (hn : hs.Nodup) {x : Nm} {i : Nat} : (hs.findIdx? fun (z : Bytes) => z == x) = some i ↔ hs[i]? = some x := by
  rw [List.findIdx?_eq_some_iff_getElem]
  constructor
  · rintro ⟨h, e, _⟩
    rw [List.getElem?_eq_getElem h]
    congr 1
    simpa using e
  · intro e
    obtain ⟨h, e⟩ := List.getElem?_eq_some_iff.mp e
    refine ⟨h, by simpa using e, fun j hj => ?_⟩
    have : hs[j] ≠ x := fun q => by
      have := (List.nodup_iff_pairwise_ne.mp hn)
      rw [List.pairwise_iff_getElem] at this
      exact this j i (by omega) h hj (by rw [q, e])
    simpa using this
theorem places_mem {l : List Fact} (hn : (heads l).Nodup) {y : Nm} {i : Nat} : i ∈ places l y ↔ ∃ x, x ∈ within l y ∧ (heads l)[i]? = some x := by
  unfold places
  rw [List.mem_filterMap]
  constructor
  · rintro ⟨x, hx, e⟩
    exact ⟨x, hx, (find_ix hn).mp e⟩
  · rintro ⟨x, hx, e⟩
    exact ⟨x, hx, (find_ix hn).mpr e⟩
theorem paI_iff {l : List Fact} (hn : (heads l).Nodup) : ∀ (n j b : Nat) (y x : Nm), (heads l)[j]? = some y → (heads l)[b]? = some x → (PaI ((heads l).map (places l)) n j b ↔ Pa (EW l) n y x)
  | 0, j, b, y, x, hj, hb => by
    constructor
    · intro h
      have h : j = b := h
      rw [h, hb] at hj
      exact (Option.some.inj hj).symm
    · intro h
      have h : y = x := h
      subst h
      have h1 := (find_ix hn).mpr hj
      have h2 := (find_ix hn).mpr hb
      rw [h1] at h2
      exact Option.some.inj h2
  | n + 1, j, b, y, x, hj, hb => by
    have e : ((heads l).map (places l)).getD j [] = places l y := by
      rw [List.getD_eq_getElem?_getD, List.getElem?_map, hj]
      rfl
    constructor
    · rintro ⟨i, hi, hp⟩
      rw [e] at hi
      obtain ⟨z, hz, hz2⟩ := (places_mem hn).mp hi
      exact ⟨z, ⟨hz, List.mem_of_getElem? hz2⟩, (paI_iff hn n i b z x hz2 hb).mp hp⟩
    · rintro ⟨z, ⟨hz, hz2⟩, hp⟩
      obtain ⟨i, hi, ei⟩ := List.getElem_of_mem hz2
      have ei' : (heads l)[i]? = some z := by rw [List.getElem?_eq_getElem hi, ei]
      refine ⟨i, ?_, (paI_iff hn n i b z x ei' hb).mpr hp⟩
      rw [e]
      exact (places_mem hn).mpr ⟨z, hz, ei'⟩
/-- y stands in x's .. : by so many steps as there are things -/
def Stands (l : List Fact) (y x : Nm) : Prop := ∃ m, 1 ≤ m ∧ m ≤ (heads l).length ∧ Pa (EW l) m y x
theorem bit_iff {l : List Fact} (hn : (heads l).Nodup) {j b : Nat} {y x : Nm} (hj : (heads l)[j]? = some y) (hb : (heads l)[b]? = some x) : ((heldBy ((heads l).map (places l)) (heads l).length).getD j 0).testBit b = true ↔ Stands l y x := by
  rw [held_bit]
  constructor
  · rintro ⟨m, m1, m2, m3⟩
    exact ⟨m, m1, m2, (paI_iff hn m j b y x hj hb).mp m3⟩
  · rintro ⟨m, m1, m2, m3⟩
    exact ⟨m, m1, m2, (paI_iff hn m j b y x hj hb).mpr m3⟩
theorem heldBy_len (t : List (List Nat)) (n : Nat) : (heldBy t n).length = t.length := by
  cases n with
  | zero => unfold heldBy; rw [List.length_map]
  | succ n => unfold heldBy; rw [List.length_map]
theorem held_get {l : List Fact} {j : Nat} {p : Bytes × Nat} (h : (held l)[j]? = some p) : (heads l)[j]? = some p.1 ∧ (heldBy ((heads l).map (places l)) (heads l).length).getD j 0 = p.2 := by
  unfold held at h
  rw [List.getElem?_zip_eq_some] at h
  refine ⟨h.1, ?_⟩
  rw [List.getD_eq_getElem?_getD, h.2]
  rfl
theorem held_get' {l : List Fact} {j : Nat} {y : Nm} (h : (heads l)[j]? = some y) : (held l)[j]? = some (y, (heldBy ((heads l).map (places l)) (heads l).length).getD j 0) := by
  unfold held
  rw [List.getElem?_zip_eq_some]
  refine ⟨h, ?_⟩
  have hl : j < (heldBy ((heads l).map (places l)) (heads l).length).length := by
    rw [heldBy_len, List.length_map]
    exact (List.getElem?_eq_some_iff.mp h).1
  rw [List.getD_eq_getElem?_getD, List.getElem?_eq_getElem hl]
  rfl
theorem rings_mem {l : List Fact} (hn : (heads l).Nodup) {y : Nm} : y ∈ rings l ↔ y ∈ heads l ∧ Stands l y y := by
  unfold rings
  rw [List.mem_map]
  constructor
  · rintro ⟨⟨p, j⟩, h, rfl⟩
    obtain ⟨h1, h2⟩ := List.mem_filter.mp h
    rw [List.mem_zipIdx_iff_getElem?] at h1
    obtain ⟨q1, q2⟩ := held_get h1
    refine ⟨List.mem_of_getElem? q1, (bit_iff hn q1 q1).mp ?_⟩
    rw [q2]
    exact h2
  · rintro ⟨h1, h2⟩
    obtain ⟨j, hj, e⟩ := List.getElem_of_mem h1
    have e' : (heads l)[j]? = some y := by rw [List.getElem?_eq_getElem hj, e]
    refine ⟨((y, (heldBy ((heads l).map (places l)) (heads l).length).getD j 0), j), List.mem_filter.mpr ⟨?_, (bit_iff hn e' e').mpr h2⟩, rfl⟩
    rw [List.mem_zipIdx_iff_getElem?]
    exact held_get' e'
theorem zip_filter {α : Type} (p : Nat → Bool) (g : α → Bool) : ∀ (hs : List α) (vs : List Nat), hs.length = vs.length → (∀ (j : Nat) (a : α) (v : Nat), hs[j]? = some a → vs[j]? = some v → p v = g a) → (((hs.zip vs).filter fun q => p q.2).map fun q => q.1) = hs.filter g
  | [], [], _, _ => rfl
  | a :: hs, v :: vs, hl, h => by
    have h0 : p v = g a := h 0 a v rfl rfl
    have ih := zip_filter p g hs vs (by simpa using hl) fun j b w e1 e2 => h (j + 1) b w (by simpa using e1) (by simpa using e2)
    rw [List.zip_cons_cons, List.filter_cons, List.filter_cons]
    show List.map _ (if p v = true then _ else _) = _
    rw [h0]
    cases g a with
    | true => rw [if_pos rfl, if_pos rfl, List.map_cons, ih]
    | false => rw [if_neg Bool.false_ne_true, if_neg Bool.false_ne_true, ih]
theorem above_eq {l : List Fact} (hn : (heads l).Nodup) {x : Nm} (hx : x ∈ heads l) (g : Nm → Bool) (hg : ∀ y ∈ heads l, (g y = true ↔ Stands l y x)) : above l x = (heads l).filter g := by
  obtain ⟨i, hi, e⟩ := List.getElem_of_mem hx
  have e' : (heads l)[i]? = some x := by rw [List.getElem?_eq_getElem hi, e]
  unfold above
  rw [(find_ix hn).mpr e']
  unfold held
  refine zip_filter (fun v => v.testBit i) g _ _ (by rw [heldBy_len, List.length_map]) fun j y v h1 h2 => ?_
  have hb := bit_iff hn h1 e'
  rw [List.getD_eq_getElem?_getD, h2] at hb
  have hg' := hg y (List.mem_of_getElem? h1)
  rw [Bool.eq_iff_iff, hg']
  exact hb
end Fb
end
section
/-! A right book: the mirror's word and the specification's. -/
namespace Fb
open SctBook
theorem things_nodup {B : Bk} (hn : (B.map (·.1)).Nodup) : (thingsB B).Nodup := by
  have h := (keys_nodup hn).filter fun k => decide (k.2 = [])
  unfold thingsB
  have : ∀ l : List Ky, l.Nodup → (∀ k ∈ l, k.2 = []) → (l.map (·.1)).Nodup := by
    intro l
    induction l with
    | nil => exact fun _ _ => List.nodup_nil
    | cons k l ih =>
      intro h hk
      rw [List.nodup_cons] at h
      rw [List.map_cons, List.nodup_cons]
      refine ⟨fun m => ?_, ih h.2 fun x m => hk x (List.mem_cons_of_mem _ m)⟩
      obtain ⟨j, hj, e⟩ := List.mem_map.mp m
      have h1 := hk k List.mem_cons_self
      have h2 := hk j (List.mem_cons_of_mem _ hj)
      have : j = k := by
        rw [show j = (j.1, j.2) from rfl, show k = (k.1, k.2) from rfl, h1, h2]
        rw [show j.1 = k.1 from e]
      exact h.1 (this ▸ hj)
  exact this _ h fun k m => of_decide_eq_true (List.mem_filter.mp m).2
theorem parts_len {B : Bk} (hn : (B.map (·.1)).Nodup) : (partsB B).length = (thingsB B).length := by
  have h1 := nodup_le0 (s := (partsB B).map (·.1)) (r := thingsB B) (parts_nodup B) fun x m => things_mem.mpr (parts_mem.mp m)
  have h2 := nodup_le0 (s := thingsB B) (r := (partsB B).map (·.1)) (things_nodup hn) fun x m => parts_mem.mpr (things_mem.mp m)
  rw [List.length_map] at h1 h2
  omega
theorem partsIn_mem {B : Bk} {y x : Nm} : x ∈ partsIn B y ↔ (y, x) ∈ B.map (·.1) ∧ x ≠ [] := by
  unfold partsIn
  rw [List.mem_map]
  constructor
  · rintro ⟨k, hk, rfl⟩
    obtain ⟨h1, h2⟩ := List.mem_filter.mp hk
    rw [Bool.and_eq_true] at h2
    have e := of_decide_eq_true h2.1
    refine ⟨?_, by simpa using h2.2⟩
    rw [← e]
    exact keys_mem.mp h1
  · rintro ⟨h1, h2⟩
    exact ⟨(y, x), List.mem_filter.mpr ⟨keys_mem.mpr h1, by simp [h2]⟩, rfl⟩
theorem stands_iff {B : Bk} (hn : (B.map (·.1)).Nodup) (hA : KnownA B) (hP : KnownP B) {y x : Nm} : Stands (F B) y x ↔ x ∈ standB (partsB B) y := by
  have hE : ∀ a b, EW (F B) a b ↔ EP (partsB B) a b := fun a b => by
    unfold EW EP
    rw [within_F, heads_F, inP_parts hn hA]
    constructor
    · exact fun h => h.1
    · intro h
      obtain ⟨h1, h2⟩ := partsIn_mem.mp h
      exact ⟨h, things_mem.mpr (hP _ h1 h2)⟩
  rw [stand_iff (closed_parts hP)]
  unfold Stands
  rw [heads_F, parts_len hn]
  constructor
  · rintro ⟨m, m1, m2, m3⟩
    exact ⟨m, m1, m2, m3.mono fun a b => (hE a b).mp⟩
  · rintro ⟨m, m1, m2, m3⟩
    exact ⟨m, m1, m2, m3.mono fun a b => (hE a b).mpr⟩
theorem accords_mem {B : Bk} {x : Nm} : x ∈ accordsB B ↔ (x, []) ∈ B.map (·.1) ∧ saidB B (x, []) = -2 := by
  unfold accordsB
  rw [List.mem_filter, things_mem]
  constructor
  · rintro ⟨h1, h2⟩
    exact ⟨h1, of_decide_eq_true h2⟩
  · rintro ⟨h1, h2⟩
    exact ⟨h1, decide_eq_true h2⟩
theorem stand_step {P : Pt} (hC : Closed P) {y x : Nm} (h : x ∈ standB P y) : inP P y ≠ [] := by
  obtain ⟨m, m1, _, m3⟩ := (stand_iff hC).mp h
  obtain ⟨k, rfl⟩ : ∃ k, m = k + 1 := ⟨m - 1, by omega⟩
  obtain ⟨z, hz, _⟩ := m3
  intro e
  have hz : z ∈ inP P y := hz
  rw [e] at hz
  cases hz
theorem right_iff {B : Bk} (hB : Good B) : right (F B) = true ↔ rightB B = true := by
  have hn := hB.nd
  have hnk : ((F B).map Fact.key).Nodup := by rw [F_keys]; exact keys_nodup hn
  have hkn : ((F B).all (fun (f : Fact) => match f with
      | .part y x _ => (accords (F B)).contains y && (heads (F B)).contains x
      | _ => true) = true) ↔ knownB B = true := by
    rw [List.all_eq_true]
    unfold knownB
    rw [List.all_eq_true]
    constructor
    · intro h b hb
      by_cases c : b.1.2 = []
      · rw [decide_eq_true c]; rfl
      · have := h (factOf b.1 b.2) ((F_mem hn).mpr ⟨b, hb, rfl⟩)
        unfold factOf at this
        rw [if_neg c] at this
        simp only [Bool.and_eq_true, List.contains_iff_mem] at this
        rw [accords_F hB, heads_F] at this
        rw [decide_eq_false c, Bool.false_or, decide_eq_true (accords_mem.mp this.1).2, Bool.true_and]
        exact (look_isSome _ _).mpr (things_mem.mp this.2)
    · intro h f hf
      obtain ⟨b, hb, rfl⟩ := (F_mem hn).mp hf
      have := h b hb
      unfold factOf
      by_cases c : b.1.2 = []
      · rw [if_pos c]
        split <;> rename_i q <;> first | rfl | (split at q <;> cases q)
      · rw [if_neg c]
        rw [decide_eq_false c, Bool.false_or, Bool.and_eq_true] at this
        simp only [Bool.and_eq_true, List.contains_iff_mem]
        rw [accords_F hB, heads_F]
        have h1 := of_decide_eq_true this.1
        refine ⟨accords_mem.mpr ⟨List.mem_map_of_mem (f := (·.1)) (said_mem h1 (by decide)), h1⟩, things_mem.mpr ((look_isSome _ _).mp this.2)⟩
  unfold right
  rw [decide_eq_true hnk, Bool.true_and, Bool.and_eq_true]
  refine Iff.trans (and_congr hkn Iff.rfl) ?_
  constructor
  · rintro ⟨hk, h⟩
    rw [Bool.and_eq_true, Bool.and_eq_true] at h
    obtain ⟨h1, h2, h3⟩ := h
    obtain ⟨kA, kP⟩ := known_of hk
    rw [accords_F hB, List.all_eq_true] at h1
    rw [heads_F] at h3
    have h3 : (thingsB B).length ≤ 40 := of_decide_eq_true h3
    unfold rightB
    rw [if_neg (by omega), if_neg (by rw [hk]; exact Bool.noConfusion), List.all_eq_true]
    intro y hy
    have hw := h1 y hy
    rw [within_F, Bool.and_eq_true] at hw
    rw [inP_parts hn kA]
    have hne : partsIn B y ≠ [] := by
      intro e
      rw [e] at hw
      exact absurd hw.1 (by simp)
    have hl : (partsIn B y).length ≤ 12 := of_decide_eq_true hw.2
    rw [decide_eq_true (show 1 ≤ (partsIn B y).length from List.length_pos_iff.mpr hne), decide_eq_true hl, Bool.true_and, Bool.true_and]
    have : y ∉ standB (partsB B) y := fun hs => by
      have hr : y ∈ rings (F B) := (rings_mem (by rw [heads_F]; exact things_nodup hn)).mpr ⟨by rw [heads_F]; exact (List.mem_filter.mp hy).1, (stands_iff hn kA kP).mpr hs⟩
      have : rings (F B) = [] := List.isEmpty_iff.mp h2
      rw [this] at hr
      cases hr
    rw [memB_false.mpr this]
    rfl
  · intro h
    obtain ⟨q1, q2, q3⟩ := rightB_all h
    obtain ⟨kA, kP⟩ := known_of q2
    refine ⟨q2, ?_⟩
    rw [Bool.and_eq_true, Bool.and_eq_true]
    refine ⟨?_, ?_, ?_⟩
    · rw [accords_F hB, List.all_eq_true]
      intro y hy
      obtain ⟨w1, w2, _⟩ := q3 y hy
      rw [inP_parts hn kA] at w1 w2
      rw [within_F, Bool.and_eq_true]
      refine ⟨?_, decide_eq_true w2⟩
      cases e : partsIn B y with
      | nil => rw [e] at w1; simp at w1
      | cons a l => rfl
    · rw [List.isEmpty_iff]
      by_cases e : rings (F B) = []
      · exact e
      · obtain ⟨y, hy⟩ := List.exists_mem_of_ne_nil _ e
        obtain ⟨r1, r2⟩ := (rings_mem (by rw [heads_F]; exact things_nodup hn)).mp hy
        have hs := (stands_iff hn kA kP).mp r2
        have hne := stand_step (closed_parts kP) hs
        obtain ⟨z, hz⟩ := List.exists_mem_of_ne_nil _ hne
        rw [inP_parts hn kA] at hz
        obtain ⟨z1, z2⟩ := partsIn_mem.mp hz
        have hsd := (said_known q2 z1 z2).1
        rw [heads_F] at r1
        exact absurd hs (q3 y (accords_mem.mpr ⟨things_mem.mp r1, hsd⟩)).2.2
    · rw [heads_F]
      exact decide_eq_true q1
theorem right_F {B : Bk} (hB : Good B) : right (F B) = rightB B := by
  rw [Bool.eq_iff_iff]
  exact right_iff hB
end Fb
end
section
/-! A text as a book: the mirror's checks, one behind another, and the specification's least kind and place. -/
namespace Fb
open SctBook
/-- the first line that is wrong, given the lines ahead of it; or none -/
def FirstIs (Bd : List Ln → Ln → Prop) (ls : List Ln) (v : Int) : Prop :=
  (v = -1 ∧ ∀ d l r, ls = d ++ l :: r → ¬ Bd d l) ∨ ∃ d l r, ls = d ++ l :: r ∧ Bd d l ∧ v = (l.place : Nat) ∧ ∀ d' l' r', d = d' ++ l' :: r' → ¬ Bd d' l'
/-- the places of wrong lines -/
def Bad (Bd : List Ln → Ln → Prop) (ls : List Ln) (p : Nat) : Prop := ∃ d l r, ls = d ++ l :: r ∧ Bd d l ∧ p = l.place
def Up (ls : List Ln) : Prop := ls.Pairwise fun a b => a.place < b.place
/-- two splits of one list -/
theorem split_two {α : Type} : ∀ {d d' : List α} {l l' : α} {r r' : List α}, d ++ l :: r = d' ++ l' :: r' → (d = d' ∧ l = l' ∧ r = r') ∨ (∃ e, d' = d ++ l :: e ∧ r = e ++ l' :: r') ∨ ∃ e, d = d' ++ l' :: e ∧ r' = e ++ l :: r
  | [], [], l, l', r, r', h => by
    simp only [List.nil_append, List.cons.injEq] at h
    exact .inl ⟨rfl, h.1, h.2⟩
  | [], a :: d', l, l', r, r', h => by
    simp only [List.nil_append, List.cons_append, List.cons.injEq] at h
    obtain ⟨rfl, rfl⟩ := h
    exact .inr (.inl ⟨d', rfl, rfl⟩)
  | a :: d, [], l, l', r, r', h => by
    simp only [List.nil_append, List.cons_append, List.cons.injEq] at h
    obtain ⟨rfl, rfl⟩ := h
    exact .inr (.inr ⟨d, rfl, rfl⟩)
  | a :: d, b :: d', l, l', r, r', h => by
    simp only [List.cons_append, List.cons.injEq] at h
    obtain ⟨rfl, h⟩ := h
    rcases split_two h with ⟨rfl, rfl, rfl⟩ | ⟨e, rfl, rfl⟩ | ⟨e, rfl, rfl⟩
    · exact .inl ⟨rfl, rfl, rfl⟩
    · exact .inr (.inl ⟨e, rfl, rfl⟩)
    · exact .inr (.inr ⟨e, rfl, rfl⟩)
theorem first_min {Bd : List Ln → Ln → Prop} {ls : List Ln} {v : Int} (hu : Up ls) (h : FirstIs Bd ls v) : (v = -1 ∧ ∀ p, ¬ Bad Bd ls p) ∨ ∃ p : Nat, v = (p : Int) ∧ Bad Bd ls p ∧ ∀ q, Bad Bd ls q → p ≤ q := by
  rcases h with ⟨h1, h2⟩ | ⟨d, l, r, e, hb, hv, hm⟩
  · exact .inl ⟨h1, fun p ⟨d, l, r, e, hb, _⟩ => h2 d l r e hb⟩
  · refine .inr ⟨l.place, hv, ⟨d, l, r, e, hb, rfl⟩, fun q ⟨d', l', r', e', hb', hq⟩ => ?_⟩
    rw [hq]
    rcases split_two (e.symm.trans e') with ⟨_, rfl, _⟩ | ⟨x, _, hr⟩ | ⟨x, hd, _⟩
    · exact Nat.le_refl _
    · unfold Up at hu
      rw [e, hr] at hu
      have h1 := (List.pairwise_append.mp hu).2.1
      have h2 := (List.pairwise_cons.mp h1).1 l' (by simp)
      omega
    · exact absurd hb' (hm d' l' x hd)
/-- a filtered list, split -/
theorem filter_split {f : Ln → Bool} : ∀ {ls d : List Ln} {l : Ln} {r : List Ln}, ls.filter f = d ++ l :: r → ∃ d0 r0, ls = d0 ++ l :: r0 ∧ d0.filter f = d ∧ f l = true
  | [], d, l, r, h => by
    cases d <;> simp at h
  | a :: ls, d, l, r, h => by
    rw [List.filter_cons] at h
    by_cases c : f a = true
    · rw [if_pos c] at h
      cases d with
      | nil =>
        simp only [List.nil_append, List.cons.injEq] at h
        obtain ⟨rfl, rfl⟩ := h
        exact ⟨[], ls, rfl, rfl, c⟩
      | cons b d =>
        simp only [List.cons_append, List.cons.injEq] at h
        obtain ⟨rfl, h⟩ := h
        obtain ⟨d0, r0, h1, h2, h3⟩ := filter_split h
        exact ⟨a :: d0, r0, by rw [h1]; rfl, by rw [List.filter_cons, if_pos c, h2], h3⟩
    · rw [if_neg c] at h
      obtain ⟨d0, r0, h1, h2, h3⟩ := filter_split h
      exact ⟨a :: d0, r0, by rw [h1]; rfl, by rw [List.filter_cons, if_neg c, h2], h3⟩
theorem split_filter {f : Ln → Bool} {d r : List Ln} {l : Ln} (h : f l = true) : (d ++ l :: r).filter f = d.filter f ++ l :: r.filter f := by
  rw [List.filter_append, List.filter_cons, if_pos h]
/-- a first one among the filtered is a first one among all -/
theorem first_filter {f : Ln → Bool} {Bd Bd' : List Ln → Ln → Prop} {ls : List Ln} {v : Int} (h : FirstIs Bd' (ls.filter f) v) (e : ∀ d l, Bd d l ↔ f l = true ∧ Bd' (d.filter f) l) : FirstIs Bd ls v := by
  rcases h with ⟨h1, h2⟩ | ⟨d, l, r, e1, hb, hv, hm⟩
  · refine .inl ⟨h1, fun d l r e1 hb => ?_⟩
    obtain ⟨hf, hb⟩ := (e d l).mp hb
    exact h2 _ l _ (by rw [e1, split_filter hf]) hb
  · obtain ⟨d0, r0, e2, e3, hf⟩ := filter_split e1
    refine .inr ⟨d0, l, r0, e2, (e d0 l).mpr ⟨hf, by rw [e3]; exact hb⟩, hv, fun d' l' r' e4 hb' => ?_⟩
    obtain ⟨hf', hb'⟩ := (e d' l').mp hb'
    exact hm _ l' _ (by rw [← e3, e4, split_filter hf']) hb'
theorem mRep_first : ∀ (ls : List Ln) (seen : List Ky), FirstIs (fun d l => l.key ∈ seen ++ d.map (·.key)) ls (mRep seen ls)
  | [], seen => .inl ⟨rfl, fun d l r e => by cases d <;> simp at e⟩
  | a :: ls, seen => by
    unfold mRep
    by_cases c : a.key ∈ seen
    · rw [if_pos c]
      exact .inr ⟨[], a, ls, rfl, by simpa using c, rfl, fun d' l' r' e => by cases d' <;> simp at e⟩
    · rw [if_neg c]
      rcases mRep_first ls (seen ++ [a.key]) with ⟨h1, h2⟩ | ⟨d, l, r, e, hb, hv, hm⟩
      · refine .inl ⟨h1, fun d l r e => ?_⟩
        cases d with
        | nil =>
          simp only [List.nil_append, List.cons.injEq] at e
          rw [← e.1]
          simpa using c
        | cons b d =>
          simp only [List.cons_append, List.cons.injEq] at e
          rw [← e.1]
          have := h2 d l r e.2
          simpa using this
      · refine .inr ⟨a :: d, l, r, by rw [e]; rfl, by simpa using hb, hv, fun d' l' r' e' => ?_⟩
        cases d' with
        | nil =>
          simp only [List.nil_append, List.cons.injEq] at e'
          rw [← e'.1]
          simpa using c
        | cons b d' =>
          simp only [List.cons_append, List.cons.injEq] at e'
          rw [← e'.1]
          have := hm d' l' r' e'.2
          simpa using this
theorem placeOf_first (f : Ln → Bool) : ∀ ls : List Ln, FirstIs (fun _ l => f l = true) ls (placeOf f ls)
  | [] => .inl ⟨rfl, fun d l r e => by cases d <;> simp at e⟩
  | a :: ls => by
    have ih := placeOf_first f ls
    unfold placeOf at *
    rw [List.find?_cons]
    by_cases c : f a = true
    · rw [c]
      exact .inr ⟨[], a, ls, rfl, c, rfl, fun d' l' r' e => by cases d' <;> simp at e⟩
    · have c' : f a = false := by simpa using c
      rw [c']
      rcases ih with ⟨h1, h2⟩ | ⟨d, l, r, e, hb, hv, hm⟩
      · refine .inl ⟨h1, fun d l r e => ?_⟩
        cases d with
        | nil =>
          simp only [List.nil_append, List.cons.injEq] at e
          rw [← e.1]
          exact c
        | cons b d =>
          simp only [List.cons_append, List.cons.injEq] at e
          exact h2 d l r e.2
      · refine .inr ⟨a :: d, l, r, by rw [e]; rfl, hb, hv, fun d' l' r' e' => ?_⟩
        cases d' with
        | nil =>
          simp only [List.nil_append, List.cons.injEq] at e'
          rw [← e'.1]
          exact c
        | cons b d' =>
          simp only [List.cons_append, List.cons.injEq] at e'
          exact hm d' l' r' e'.2
def isT (l : Ln) : Bool := decide (l.key.2 = [])
/-- so many things, so many parts of one accord -/
def nT (d : List Ln) : Nat := (d.filter isT).length
def nP (d : List Ln) (y : Nm) : Nat := (d.filter fun m => !isT m && decide (m.key.1 = y)).length
def Bd7 (d : List Ln) (l : Ln) : Prop := (l.key.2 = [] ∧ 40 ≤ nT d) ∨ (l.key.2 ≠ [] ∧ 12 ≤ nP d l.key.1)
theorem look_put {κ β : Type} [DecidableEq κ] (k j : κ) (v : β) : ∀ D : List (κ × β), lookG (putG D k v) j = if j = k then some v else lookG D j := by
  intro D
  unfold putG
  by_cases c : (D.any fun x => decide (x.1 = k)) = true
  · rw [if_pos c]
    induction D with
    | nil => simp at c
    | cons x D ih =>
      unfold lookG at *
      rw [List.map_cons, List.find?_cons, List.find?_cons]
      by_cases e : x.1 = k
      · rw [if_pos e]
        by_cases ej : x.1 = j
        · rw [decide_eq_true ej, if_pos (by rw [← ej, e])]
          rfl
        · rw [decide_eq_false ej]
          by_cases jk : j = k
          · exact absurd (by rw [e, jk]) ej
          · rw [if_neg jk]
            have : ∀ E : List (κ × β), (E.map fun x => if x.1 = k then (x.1, v) else x).find? (fun x => decide (x.1 = j)) = E.find? (fun x => decide (x.1 = j)) := by
              intro E
              induction E with
              | nil => rfl
              | cons y E ihE =>
                rw [List.map_cons, List.find?_cons, List.find?_cons, ihE]
                by_cases ey : y.1 = k
                · rw [if_pos ey, decide_eq_false (show ¬ y.1 = j from fun q => jk (by rw [← q, ey]))]
                · rw [if_neg ey]
            rw [this]
      · rw [if_neg e]
        have c' : (D.any fun x => decide (x.1 = k)) = true := by
          rw [List.any_cons, decide_eq_false e, Bool.false_or] at c
          exact c
        by_cases ej : x.1 = j
        · rw [decide_eq_true ej, if_neg (fun q => e (by rw [ej, q]))]
        · rw [decide_eq_false ej]
          exact ih c'
  · rw [if_neg c, look_app]
    have hk : ∀ i, lookG D i ≠ none → i ≠ k := fun i h q => by
      have := (look_isSome D i).mp (Option.isSome_iff_ne_none.mpr h)
      obtain ⟨x, hx, e⟩ := List.mem_map.mp this
      exact c (List.any_eq_true.mpr ⟨x, hx, decide_eq_true (e.trans q)⟩)
    by_cases jk : j = k
    · rw [if_pos jk]
      cases e : lookG D j with
      | some w => exact absurd jk (hk j (by rw [e]; simp))
      | none =>
        subst jk
        unfold lookG
        simp
    · rw [if_neg jk]
      cases lookG D j with
      | some w => rfl
      | none =>
        unfold lookG
        simp [Ne.symm jk]
theorem mMany_first : ∀ (ls pre : List Ln) (n : Nat) (c : List (Nm × Int)), n = nT pre → n ≤ 40 → (∀ y, (lookG c y).getD 0 = (nP pre y : Nat)) → (∀ y, nP pre y ≤ 12) → FirstIs (fun d l => Bd7 (pre ++ d) l) ls (mMany n c ls)
  | [], pre, n, c, _, _, _, _ => .inl ⟨rfl, fun d l r e => by cases d <;> simp at e⟩
  | a :: ls, pre, n, c, hn, hn40, hc, hp => by
    have lift : ∀ v, (¬ Bd7 pre a) → FirstIs (fun d l => Bd7 ((pre ++ [a]) ++ d) l) ls v → FirstIs (fun d l => Bd7 (pre ++ d) l) (a :: ls) v := by
      intro v hna h
      rcases h with ⟨h1, h2⟩ | ⟨d, l, r, e, hb, hv, hm⟩
      · refine .inl ⟨h1, fun d l r e => ?_⟩
        cases d with
        | nil =>
          simp only [List.nil_append, List.cons.injEq] at e
          rw [← e.1]
          show ¬ Bd7 (pre ++ []) a
          rw [List.append_nil]
          exact hna
        | cons b d =>
          simp only [List.cons_append, List.cons.injEq] at e
          rw [← e.1]
          have := h2 d l r e.2
          simpa using this
      · refine .inr ⟨a :: d, l, r, by rw [e]; rfl, by simpa using hb, hv, fun d' l' r' e' => ?_⟩
        cases d' with
        | nil =>
          simp only [List.nil_append, List.cons.injEq] at e'
          rw [← e'.1]
          show ¬ Bd7 (pre ++ []) a
          rw [List.append_nil]
          exact hna
        | cons b d' =>
          simp only [List.cons_append, List.cons.injEq] at e'
          rw [← e'.1]
          have := hm d' l' r' e'.2
          simpa using this
    have here : Bd7 pre a → FirstIs (fun d l => Bd7 (pre ++ d) l) (a :: ls) (a.place : Nat) := fun h => .inr ⟨[], a, ls, rfl, by simpa using h, rfl, fun d' l' r' e => by cases d' <;> simp at e⟩
    unfold mMany
    by_cases ct : a.key.2 = []
    · rw [if_pos ct]
      have hT : nT (pre ++ [a]) = nT pre + 1 := by
        unfold nT
        rw [List.filter_append, List.filter_cons, if_pos (show isT a = true from decide_eq_true ct)]
        simp
      have hP : ∀ y, nP (pre ++ [a]) y = nP pre y := fun y => by
        unfold nP
        rw [List.filter_append, List.filter_cons, if_neg (by unfold isT; simp [ct])]
        simp
      by_cases c40 : n = 40
      · rw [if_pos c40]
        exact here (.inl ⟨ct, by omega⟩)
      · rw [if_neg c40]
        refine lift _ (fun h => ?_) (mMany_first ls (pre ++ [a]) (n + 1) c (by omega) (by omega) (fun y => by rw [hP]; exact hc y) fun y => by rw [hP]; exact hp y)
        rcases h with ⟨_, h⟩ | ⟨h, _⟩
        · omega
        · exact h ct
    · rw [if_neg ct]
      have hT : nT (pre ++ [a]) = nT pre := by
        unfold nT
        rw [List.filter_append, List.filter_cons, if_neg (by unfold isT; simpa using ct)]
        simp
      have hP : ∀ y, nP (pre ++ [a]) y = nP pre y + (if a.key.1 = y then 1 else 0) := fun y => by
        unfold nP
        rw [List.filter_append, List.length_append, List.filter_cons]
        by_cases e : a.key.1 = y
        · rw [if_pos (by unfold isT; simp [ct, e]), if_pos e]
          simp
        · rw [if_neg (by simp [e]), if_neg e]
          simp
      rw [hc]
      by_cases c12 : ((nP pre a.key.1 : Nat) : Int) = 12
      · rw [if_pos c12]
        exact here (.inr ⟨ct, by omega⟩)
      · rw [if_neg c12]
        have := hp a.key.1
        refine lift _ (fun h => ?_) (mMany_first ls (pre ++ [a]) n _ (by omega) hn40 (fun y => ?_) fun y => ?_)
        · rcases h with ⟨h, _⟩ | ⟨_, h⟩
          · exact ct h
          · omega
        · rw [look_put, hP]
          by_cases e : y = a.key.1
          · rw [if_pos e, if_pos e.symm, e]
            rfl
          · rw [if_neg e, if_neg (Ne.symm e), hc]
            rfl
        · rw [hP]
          by_cases e : a.key.1 = y
          · rw [if_pos e, ← e]
            omega
          · rw [if_neg e]
            exact hp y
/-! ### the places rise -/
theorem mThingLine_place {T : List Nat} {p : Nat} {r : Nat × Ln} (h : mThingLine T p = .ok r) : p ≤ r.2.place ∧ r.2.place < r.1 := by
  unfold mThingLine at h
  split at h
  · cases h
  rename_i q e1
  split at h
  · cases h
  rename_i s e2
  split at h
  · cases h
  rename_i z e3
  split at h
  · cases h
  rename_i b e4
  cases h
  obtain ⟨h1, -⟩ := mWord_ok e1
  obtain ⟨rfl, h2, -⟩ := mExpect_ok e2 (by decide)
  have h3 := mName_ok e3
  obtain ⟨rfl, h4, -⟩ := mExpect_ok e4 (by decide)
  simp only []
  omega
theorem mPartLine_place {T : List Nat} {p : Nat} {acc : Nm} {r : Nat × Ln} (h : mPartLine T p acc = .ok r) : p ≤ r.2.place ∧ r.2.place < r.1 := by
  unfold mPartLine at h
  split at h
  · cases h
  rename_i s e2
  split at h
  · cases h
  rename_i z e3
  split at h
  · cases h
  rename_i g e4
  split at h
  · cases h
  rename_i a e5
  split at h
  · cases h
  rename_i b e6
  cases h
  obtain ⟨h1, -⟩ := mWord_ok e2
  have h3 := mName_ok e3
  obtain ⟨rfl, h4, -⟩ := mExpect_ok e4 (by decide)
  have h5 := mAmount_ok e5
  obtain ⟨rfl, h6, -⟩ := mExpect_ok e6 (by decide)
  simp only []
  omega
theorem mLine_place {T : List Nat} {p : Nat} {acc : Nm} {r : Nat × Option Ln × Nm} (h : mLine T p acc = .ok r) : ∀ l, r.2.1 = some l → p ≤ l.place ∧ l.place < r.1 := by
  unfold mLine at h
  split at h
  · cases h
    exact fun l e => by cases e
  split at h
  · split at h
    · cases h
    cases h
    exact fun l e => by cases e
  split at h
  · split at h
    · cases h
    rename_i e
    cases h
    exact fun l e2 => by cases e2; exact mPartLine_place e
  · split at h
    · cases h
    rename_i e
    cases h
    exact fun l e2 => by cases e2; exact mThingLine_place e
theorem mLines_up {T : List Nat} : ∀ (f p : Nat) (acc : Nm) (ls : List Ln), mLines T f p acc = .ok ls → Up ls ∧ ∀ l ∈ ls, p ≤ l.place
  | 0, p, acc, ls, h => by
    cases h
    exact ⟨List.Pairwise.nil, fun l m => by cases m⟩
  | f + 1, p, acc, ls, h => by
    unfold mLines at h
    split at h
    · rename_i hp
      split at h
      · cases h
      rename_i r e
      split at h
      · cases h
      rename_i ls' e'
      cases h
      have h1 := mLine_place e
      have h2 := (mLine_ok e hp).1
      obtain ⟨u, b⟩ := mLines_up f _ _ _ e'
      cases q : r.2.1 with
      | none => exact ⟨u, fun l m => by have := b l m; omega⟩
      | some l0 =>
        have h3 := h1 l0 q
        refine ⟨List.pairwise_cons.mpr ⟨fun l m => ?_, u⟩, fun l m => ?_⟩
        · have := b l m
          omega
        · rcases List.mem_cons.mp m with rfl | m
          · exact h3.1
          · have := b l m
            omega
    · cases h
      exact ⟨List.Pairwise.nil, fun l m => by cases m⟩
/-! ### what is wrong, by places -/
theorem isPart_factOf (k : Ky) (n : Int) : isPart (factOf k n) = !decide (k.2 = []) := by
  unfold factOf
  by_cases c : k.2 = []
  · rw [if_pos c, decide_eq_true c]
    split <;> rfl
  · rw [if_neg c, decide_eq_false c]
    rfl
theorem twice_mem {ls : List Ln} {which : Fact → Bool} {p : Nat} : p ∈ twice (ls.map lf) which ↔ Bad (fun d l => which (factOf l.key l.told) = true ∧ ∃ m ∈ d, m.key = l.key) ls p := by
  unfold twice
  rw [List.mem_filterMap]
  have hany : ∀ (d : List Ln) (l : Ln), ((d.map lf).any fun (x : Fact × Nat) => x.1.key == (lf l).1.key) = true ↔ ∃ m ∈ d, m.key = l.key := fun d l => by
    rw [List.any_map, List.any_eq_true]
    constructor
    · rintro ⟨m, hm, e⟩
      refine ⟨m, hm, ?_⟩
      have : (lf m).1.key = (lf l).1.key := by simpa using e
      unfold lf at this
      rwa [factOf_key, factOf_key] at this
    · rintro ⟨m, hm, e⟩
      refine ⟨m, hm, ?_⟩
      have : (lf m).1.key = (lf l).1.key := by
        unfold lf
        rw [factOf_key, factOf_key, e]
      simpa using this
  constructor
  · rintro ⟨i, hi, e⟩
    rw [List.getElem?_map] at e
    cases q : ls[i]? with
    | none => rw [q] at e; cases e
    | some l =>
      rw [q] at e
      have e : (if which (lf l).1 = true ∧ (((ls.map lf).take i).any fun (x : Fact × Nat) => x.1.key == (lf l).1.key) = true then some (lf l).2 else none) = some p := e
      rw [← List.map_take] at e
      split at e
      · rename_i c
        cases e
        obtain ⟨hlt, hq⟩ := List.getElem?_eq_some_iff.mp q
        refine ⟨ls.take i, l, ls.drop (i + 1), ?_, ⟨c.1, (hany _ _).mp c.2⟩, rfl⟩
        rw [← hq, ← List.drop_eq_getElem_cons hlt, List.take_append_drop]
      · cases e
  · rintro ⟨d, l, r, rfl, ⟨h1, h2⟩, rfl⟩
    refine ⟨d.length, by simp, ?_⟩
    rw [List.getElem?_map, List.getElem?_append_right (Nat.le_refl _), Nat.sub_self]
    show (if which (lf l).1 = true ∧ ((((d ++ l :: r).map lf).take d.length).any fun (x : Fact × Nat) => x.1.key == (lf l).1.key) = true then some (lf l).2 else none) = some l.place
    rw [← List.map_take, List.take_left]
    rw [if_pos ⟨h1, (hany d l).mpr h2⟩]
    rfl
theorem bad_all {f : Ln → Prop} {ls : List Ln} {p : Nat} : Bad (fun _ l => f l) ls p ↔ ∃ l ∈ ls, f l ∧ p = l.place := by
  constructor
  · rintro ⟨d, l, r, rfl, h, rfl⟩
    exact ⟨l, by simp, h, rfl⟩
  · rintro ⟨l, hl, h, rfl⟩
    obtain ⟨d, r, rfl⟩ := List.append_of_mem hl
    exact ⟨d, l, r, rfl, h, rfl⟩
theorem drop_mem {f : Ln → Bool} {ls : List Ln} {n : Nat} {p : Nat} : (∃ l ∈ (ls.filter f).drop n, p = l.place) ↔ Bad (fun d l => f l = true ∧ n ≤ (d.filter f).length) ls p := by
  constructor
  · rintro ⟨l, hl, rfl⟩
    obtain ⟨i, hi, e⟩ := List.getElem_of_mem hl
    rw [List.getElem_drop] at e
    have hlt : n + i < (ls.filter f).length := by rw [List.length_drop] at hi; omega
    have hs : ls.filter f = (ls.filter f).take (n + i) ++ l :: (ls.filter f).drop (n + i + 1) := by
      rw [← e, ← List.drop_eq_getElem_cons hlt, List.take_append_drop]
    obtain ⟨d0, r0, h1, h2, h3⟩ := filter_split hs
    refine ⟨d0, l, r0, h1, ⟨h3, ?_⟩, rfl⟩
    rw [h2, List.length_take]
    omega
  · rintro ⟨d, l, r, rfl, ⟨h1, h2⟩, rfl⟩
    refine ⟨l, ?_, rfl⟩
    rw [split_filter h1, List.drop_append_of_le_length h2]
    simp
end Fb
end
section
/-! The least kind and place; a text as a book. -/
namespace Fb
open SctBook
def lexLt (x y : Nat × Nat) : Prop := x.1 < y.1 ∨ (x.1 = y.1 ∧ x.2 < y.2)
theorem firstOf_go : ∀ (l : List (Nat × Nat)) (m : Nat × Nat), ∃ r, l.foldl (fun (m : Option (Nat × Nat)) (x : Nat × Nat) => match m with
  | none => some x
  | some y => if x.1 < y.1 ∨ (x.1 = y.1 ∧ x.2 < y.2) then some x else some y) (some m) = some r ∧ r ∈ m :: l ∧ ∀ y ∈ m :: l, ¬ lexLt y r
  | [], m => ⟨m, rfl, List.mem_cons_self, fun y h => by
    rw [List.mem_singleton] at h
    subst h
    unfold lexLt
    omega⟩
  | x :: l, m => by
    rw [List.foldl_cons]
    by_cases c : x.1 < m.1 ∨ (x.1 = m.1 ∧ x.2 < m.2)
    · obtain ⟨r, h1, h2, h3⟩ := firstOf_go l x
      refine ⟨r, by rw [← h1]; simp only []; rw [if_pos c], List.mem_cons_of_mem _ h2, fun y hy => ?_⟩
      rcases List.mem_cons.mp hy with rfl | hy
      · have := h3 x List.mem_cons_self
        unfold lexLt at *
        omega
      · exact h3 y hy
    · obtain ⟨r, h1, h2, h3⟩ := firstOf_go l m
      refine ⟨r, by rw [← h1]; simp only []; rw [if_neg c], ?_, fun y hy => ?_⟩
      · rcases List.mem_cons.mp h2 with rfl | h2
        · exact List.mem_cons_self
        · exact List.mem_cons_of_mem _ (List.mem_cons_of_mem _ h2)
      · rcases List.mem_cons.mp hy with rfl | hy
        · exact h3 y List.mem_cons_self
        · rcases List.mem_cons.mp hy with rfl | hy
          · have := h3 m List.mem_cons_self
            unfold lexLt at *
            omega
          · exact h3 y (List.mem_cons_of_mem _ hy)
theorem firstOf_is {l : List (Nat × Nat)} {x : Nat × Nat} (hx : x ∈ l) (hm : ∀ y ∈ l, ¬ lexLt y x) : firstOf l = some x := by
  cases l with
  | nil => cases hx
  | cons m l =>
    obtain ⟨r, h1, h2, h3⟩ := firstOf_go l m
    have : firstOf (m :: l) = some r := h1
    rw [this]
    have a := hm r h2
    have b := h3 x hx
    unfold lexLt at a b
    congr 1
    refine Prod.ext ?_ ?_ <;> omega
theorem FirstIs.congr {Bd Bd' : List Ln → Ln → Prop} {ls : List Ln} {v : Int} (h : FirstIs Bd ls v) (e : ∀ d l r, ls = d ++ l :: r → (Bd d l ↔ Bd' d l)) : FirstIs Bd' ls v := by
  rcases h with ⟨h1, h2⟩ | ⟨d, l, r, e1, hb, hv, hm⟩
  · exact .inl ⟨h1, fun d l r e1 hb => h2 d l r e1 ((e d l r e1).mpr hb)⟩
  · refine .inr ⟨d, l, r, e1, (e d l r e1).mp hb, hv, fun d' l' r' e2 hb' => ?_⟩
    exact hm d' l' r' e2 ((e d' l' (r' ++ l :: r) (by rw [e1, e2]; simp)).mpr hb')
/-- the facts of lines -/
def fs (ls : List Ln) : List Fact := ls.map fun l => factOf l.key l.told
theorem fs_eq (ls : List Ln) : (ls.map lf).map (fun (x : Fact × Nat) => x.1) = fs ls := by
  rw [List.map_map]
  rfl
theorem heads_fs {ls : List Ln} {y : Nm} : y ∈ heads (fs ls) ↔ ∃ m ∈ ls, m.key = (y, []) := by
  unfold heads fs
  rw [List.mem_filterMap]
  constructor
  · rintro ⟨f, hf, e⟩
    obtain ⟨m, hm, rfl⟩ := List.mem_map.mp hf
    refine ⟨m, hm, ?_⟩
    unfold factOf at e
    by_cases c : m.key.2 = []
    · rw [if_pos c] at e
      have : m.key.1 = y := by
        by_cases q : m.told = -1
        · rw [if_pos q] at e; exact Option.some.inj e
        · rw [if_neg q] at e; exact Option.some.inj e
      rw [← this, ← c]
    · rw [if_neg c] at e
      cases e
  · rintro ⟨m, hm, e⟩
    refine ⟨factOf m.key m.told, List.mem_map_of_mem hm, ?_⟩
    unfold factOf
    rw [e, if_pos rfl]
    by_cases q : m.told = -1
    · rw [if_pos q]
    · rw [if_neg q]
theorem accords_fs {ls : List Ln} {y : Nm} : y ∈ accords (fs ls) ↔ ∃ m ∈ ls, m.key = (y, []) ∧ m.told ≠ -1 := by
  unfold accords fs
  rw [List.mem_filterMap]
  constructor
  · rintro ⟨f, hf, e⟩
    obtain ⟨m, hm, rfl⟩ := List.mem_map.mp hf
    refine ⟨m, hm, ?_⟩
    unfold factOf at e
    by_cases c : m.key.2 = []
    · rw [if_pos c] at e
      by_cases q : m.told = -1
      · rw [if_pos q] at e; cases e
      · rw [if_neg q] at e
        have : m.key.1 = y := Option.some.inj e
        exact ⟨by rw [← this, ← c], q⟩
    · rw [if_neg c] at e
      cases e
  · rintro ⟨m, hm, e, q⟩
    refine ⟨factOf m.key m.told, List.mem_map_of_mem hm, ?_⟩
    unfold factOf
    rw [e, if_pos rfl, if_neg q]
theorem within_fs {ls : List Ln} {y x : Nm} : x ∈ within (fs ls) y ↔ ∃ m ∈ ls, m.key = (y, x) ∧ x ≠ [] := by
  unfold within fs
  rw [List.mem_filterMap]
  constructor
  · rintro ⟨f, hf, e⟩
    obtain ⟨m, hm, rfl⟩ := List.mem_map.mp hf
    refine ⟨m, hm, ?_⟩
    unfold factOf at e
    by_cases c : m.key.2 = []
    · rw [if_pos c] at e
      by_cases q : m.told = -1
      · rw [if_pos q] at e; cases e
      · rw [if_neg q] at e; cases e
    · rw [if_neg c] at e
      have e : (if m.key.1 = y then some m.key.2 else none) = some x := e
      split at e
      · rename_i q
        cases e
        exact ⟨by rw [← q], c⟩
      · cases e
  · rintro ⟨m, hm, e, q⟩
    refine ⟨factOf m.key m.told, List.mem_map_of_mem hm, ?_⟩
    unfold factOf
    rw [e, if_neg q]
    show (if y = y then some x else none) = some x
    rw [if_pos rfl]
/-- a line that tells an accord -/
def isA (l : Ln) : Prop := l.key.2 = [] ∧ l.told ≠ -1
def B2 (d : List Ln) (l : Ln) : Prop := l.key.2 = [] ∧ ∃ m ∈ d, m.key = l.key
def B3 (d : List Ln) (l : Ln) : Prop := l.key.2 ≠ [] ∧ ∃ m ∈ d, m.key = l.key
def B4 (ls : List Ln) (l : Ln) : Prop := l.key.2 ≠ [] ∧ l.key.2 ∉ heads (fs ls)
def B5 (ls : List Ln) (l : Ln) : Prop := isA l ∧ within (fs ls) l.key.1 = []
def B6 (ls : List Ln) (l : Ln) : Prop := isA l ∧ l.key.1 ∈ rings (fs ls)
def B7 (ls : List Ln) (p : Nat) : Prop := Bad (fun d l => l.key.2 = [] ∧ 40 ≤ nT d) ls p ∨ ∃ y ∈ accords (fs ls), Bad (fun d l => (l.key.2 ≠ [] ∧ l.key.1 = y) ∧ 12 ≤ nP d y) ls p
def WK (ls : List Ln) (k p : Nat) : Prop := (k = 2 ∧ Bad B2 ls p) ∨ (k = 3 ∧ Bad B3 ls p) ∨ (k = 4 ∧ ∃ l ∈ ls, B4 ls l ∧ p = l.place) ∨ (k = 5 ∧ ∃ l ∈ ls, B5 ls l ∧ p = l.place) ∨ (k = 6 ∧ ∃ l ∈ ls, B6 ls l ∧ p = l.place) ∨ (k = 7 ∧ B7 ls p)
theorem bad_congr {Bd Bd' : List Ln → Ln → Prop} {ls : List Ln} {p : Nat} (h : ∀ d l, Bd d l ↔ Bd' d l) : Bad Bd ls p ↔ Bad Bd' ls p := by
  constructor
  · rintro ⟨d, l, r, e, hb, hp⟩
    exact ⟨d, l, r, e, (h d l).mp hb, hp⟩
  · rintro ⟨d, l, r, e, hb, hp⟩
    exact ⟨d, l, r, e, (h d l).mpr hb, hp⟩
theorem map_pair_mem {l : List Nat} {j k p : Nat} : (k, p) ∈ l.map (fun (p : Nat) => (j, p)) ↔ k = j ∧ p ∈ l := by
  rw [List.mem_map]
  constructor
  · rintro ⟨q, hq, e⟩
    cases e
    exact ⟨rfl, hq⟩
  · rintro ⟨rfl, h⟩
    exact ⟨p, h, rfl⟩
theorem fm_mem {ls : List Ln} {g : Fact × Nat → Option (Nat × Nat)} {j k p : Nat} {Q : Ln → Prop} (h : ∀ l ∈ ls, (g (lf l) = some (k, p) ↔ k = j ∧ Q l ∧ p = l.place)) : (k, p) ∈ (ls.map lf).filterMap g ↔ k = j ∧ ∃ l ∈ ls, Q l ∧ p = l.place := by
  rw [List.mem_filterMap]
  constructor
  · rintro ⟨x, hx, e⟩
    obtain ⟨l, hl, rfl⟩ := List.mem_map.mp hx
    obtain ⟨h1, h2, h3⟩ := (h l hl).mp e
    exact ⟨h1, l, hl, h2, h3⟩
  · rintro ⟨h1, l, hl, h2, h3⟩
    exact ⟨lf l, List.mem_map_of_mem hl, (h l hl).mpr ⟨h1, h2, h3⟩⟩
theorem wrong_mem {ls : List Ln} {k p : Nat} : (k, p) ∈ wrongs (ls.map lf) ↔ WK ls k p := by
  unfold wrongs
  simp only [fs_eq]
  rw [List.mem_append, List.mem_append, List.mem_append, List.mem_append, List.mem_append, List.mem_append]
  unfold WK
  refine or_congr ?_ (or_congr ?_ (or_congr ?_ (or_congr ?_ (or_congr ?_ ?_))))
  · rw [map_pair_mem, twice_mem]
    refine and_congr Iff.rfl (bad_congr fun d l => ?_)
    unfold B2
    rw [isPart_factOf]
    simp
  · rw [map_pair_mem, twice_mem]
    refine and_congr Iff.rfl (bad_congr fun d l => ?_)
    unfold B3
    rw [isPart_factOf]
    simp
  · refine fm_mem fun l hl => ?_
    unfold B4 lf factOf
    by_cases c : l.key.2 = []
    · rw [if_pos c]
      by_cases q : l.told = -1
      · rw [if_pos q]
        simp [c]
      · rw [if_neg q]
        simp [c]
    · rw [if_neg c]
      show (if (heads (fs ls)).contains l.key.2 = true then none else some (4, l.place)) = some (k, p) ↔ _
      by_cases q : l.key.2 ∈ heads (fs ls)
      · rw [if_pos (List.contains_iff_mem.mpr q)]
        simp [q]
      · rw [if_neg (fun h => q (List.contains_iff_mem.mp h))]
        simp [c, q]
        constructor
        · rintro ⟨rfl, rfl⟩; exact ⟨rfl, rfl⟩
        · rintro ⟨rfl, rfl⟩; exact ⟨rfl, rfl⟩
  · refine fm_mem fun l hl => ?_
    unfold B5 isA lf factOf
    by_cases c : l.key.2 = []
    · rw [if_pos c]
      by_cases q : l.told = -1
      · rw [if_pos q]
        simp [q]
      · rw [if_neg q]
        show (if (within (fs ls) l.key.1).isEmpty = true then some (5, l.place) else none) = some (k, p) ↔ _
        by_cases w : within (fs ls) l.key.1 = []
        · rw [if_pos (by rw [w]; rfl)]
          simp [c, q, w]
          constructor
          · rintro ⟨rfl, rfl⟩; exact ⟨rfl, rfl⟩
          · rintro ⟨rfl, rfl⟩; exact ⟨rfl, rfl⟩
        · rw [if_neg (fun h => w (List.isEmpty_iff.mp h))]
          simp [w]
    · rw [if_neg c]
      simp [c]
  · refine fm_mem fun l hl => ?_
    unfold B6 isA lf factOf
    by_cases c : l.key.2 = []
    · rw [if_pos c]
      by_cases q : l.told = -1
      · rw [if_pos q]
        simp [q]
      · rw [if_neg q]
        show (if (rings (fs ls)).contains l.key.1 = true then some (6, l.place) else none) = some (k, p) ↔ _
        by_cases w : l.key.1 ∈ rings (fs ls)
        · rw [if_pos (List.contains_iff_mem.mpr w)]
          simp [c, q, w]
          constructor
          · rintro ⟨rfl, rfl⟩; exact ⟨rfl, rfl⟩
          · rintro ⟨rfl, rfl⟩; exact ⟨rfl, rfl⟩
        · rw [if_neg (fun h => w (List.contains_iff_mem.mp h))]
          simp [w]
    · rw [if_neg c]
      simp [c]
  · have hdrop : ∀ (f : Fact × Nat → Bool) (n : Nat), ((ls.map lf).filter f).drop n = ((ls.filter fun l => f (lf l)).drop n).map lf := fun f n => by
      rw [List.filter_map, List.map_drop]
      rfl
    have hmem : ∀ (l : List Ln), (k, p) ∈ (l.map lf).map (fun (x : Fact × Nat) => (7, x.2)) ↔ k = 7 ∧ ∃ m ∈ l, p = m.place := fun l => by
      rw [List.map_map, List.mem_map]
      constructor
      · rintro ⟨m, hm, e⟩
        cases e
        exact ⟨rfl, m, hm, rfl⟩
      · rintro ⟨rfl, m, hm, rfl⟩
        exact ⟨m, hm, rfl⟩
    rw [hdrop, hmem, List.mem_flatMap]
    unfold B7
    have hT : ∀ m : Ln, (!isPart (lf m).1) = isT m := fun m => by
      unfold lf isT
      rw [isPart_factOf, Bool.not_not]
    have hP : ∀ (y : Nm) (m : Ln), (match (lf m).1 with | .part z _ _ => z == y | _ => false) = (!isT m && decide (m.key.1 = y)) := fun y m => by
      unfold lf factOf isT
      by_cases c : m.key.2 = []
      · rw [if_pos c, decide_eq_true c]
        by_cases q : m.told = -1
        · rw [if_pos q]; rfl
        · rw [if_neg q]; rfl
      · rw [if_neg c, decide_eq_false c]
        show (m.key.1 == y) = (true && decide (m.key.1 = y))
        rw [Bool.true_and]
        by_cases q : m.key.1 = y
        · rw [decide_eq_true q]; simpa using q
        · rw [decide_eq_false q]; simpa using q
    have e1 : (∃ m ∈ (ls.filter fun l => !isPart (lf l).1).drop THINGS, p = m.place) ↔ Bad (fun d l => l.key.2 = [] ∧ 40 ≤ nT d) ls p := by
      rw [drop_mem]
      refine bad_congr fun d l => ?_
      rw [hT, show (fun l => !isPart (lf l).1) = isT from funext hT]
      exact and_congr ⟨fun h => of_decide_eq_true h, fun h => decide_eq_true h⟩ Iff.rfl
    have e2 : ∀ y, (∃ m ∈ (ls.filter fun l => match (lf l).1 with | .part z _ _ => z == y | _ => false).drop PARTS, p = m.place) ↔ Bad (fun d l => (l.key.2 ≠ [] ∧ l.key.1 = y) ∧ 12 ≤ nP d y) ls p := fun y => by
      rw [drop_mem]
      refine bad_congr fun d l => ?_
      rw [show (fun l => match (lf l).1 with | .part z _ _ => z == y | _ => false) = (fun m => !isT m && decide (m.key.1 = y)) from funext (hP y)]
      refine and_congr ?_ Iff.rfl
      refine Iff.trans (Bool.eq_iff_iff.mp (hP y l)) ?_
      rw [Bool.and_eq_true]
      refine and_congr ?_ ⟨fun h => of_decide_eq_true h, fun h => decide_eq_true h⟩
      unfold isT
      simp
    constructor
    · rintro (⟨h1, h2⟩ | ⟨y, hy, h⟩)
      · exact ⟨h1, .inl (e1.mp h2)⟩
      · rw [hdrop, hmem] at h
        exact ⟨h.1, .inr ⟨y, List.mem_eraseDups.mp hy, (e2 y).mp h.2⟩⟩
    · rintro ⟨h1, h2 | ⟨y, hy, h2⟩⟩
      · exact .inl ⟨h1, e1.mpr h2⟩
      · refine .inr ⟨y, List.mem_eraseDups.mpr hy, ?_⟩
        rw [hdrop, hmem]
        exact ⟨h1, (e2 y).mpr h2⟩
end Fb
end
section
/-! A text as a book, whole. -/
namespace Fb
open SctBook
theorem mAmount_pos {T : List Nat} {p : Nat} {r : Nat × Int} (h : mAmount T p = .ok r) : 0 < r.2 := by
  have hn := (mAmount_num h).1
  unfold mAmount at h
  split at h
  · cases h
  · split at h
    · rename_i c
      cases h
      simp only []
      have := c.1
      omega
    · split at h
      · cases h
      · split at h
        · cases h
        · split at h
          · cases h
          · rename_i c
            cases h
            simp only [] at hn ⊢
            omega
theorem mThingLine_val {T : List Nat} {p : Nat} {r : Nat × Ln} (h : mThingLine T p = .ok r) : Val r.2.key r.2.told := by
  have h1 := mThingLine_ok h
  exact ⟨fun _ => h1.2.2.2.1, fun c => absurd h1.2.2.1 c, h1.2.2.2.2⟩
theorem mPartLine_val {T : List Nat} {p : Nat} {acc : Nm} {r : Nat × Ln} (h : mPartLine T p acc = .ok r) (ha : acc ≠ []) : Val r.2.key r.2.told := by
  have h1 := mPartLine_ok h
  refine ⟨fun c => absurd c h1.2.2.1, fun _ => ?_, by rw [h1.2.2.2]; exact ha⟩
  unfold mPartLine at h
  split at h
  · cases h
  split at h
  · cases h
  split at h
  · cases h
  split at h
  · cases h
  rename_i e5
  split at h
  · cases h
  cases h
  exact mAmount_pos e5
theorem mLines_val {T : List Nat} : ∀ (f p : Nat) (acc : Nm) (ls : List Ln), mLines T f p acc = .ok ls → ∀ l ∈ ls, Val l.key l.told
  | 0, p, acc, ls, h, l, m => by
    cases h
    cases m
  | f + 1, p, acc, ls, h, l, m => by
    unfold mLines at h
    split at h
    · split at h
      · cases h
      rename_i r e
      split at h
      · cases h
      rename_i ls' e'
      cases h
      rcases List.mem_append.mp m with m | m
      · have : r.2.1 = some l := by
          cases q : r.2.1 with
          | none => rw [q] at m; cases m
          | some l0 =>
            rw [q] at m
            have : l = l0 := by simpa using m
            rw [this]
        unfold mLine at e
        split at e
        · cases e
          cases this
        split at e
        · split at e
          · cases e
          cases e
          cases this
        split at e
        · rename_i c
          split at e
          · cases e
          rename_i e2
          cases e
          cases this
          exact mPartLine_val e2 c.2
        · split at e
          · cases e
          rename_i e2
          cases e
          cases this
          exact mThingLine_val e2
      · exact mLines_val f _ _ _ e' l m
    · cases h
      cases m
theorem bookOf_map {ls : List Ln} (h : (ls.map (·.key)).Nodup) : bookOf ls = ls.map fun l => (l.key, l.told) := by
  have : ∀ (ls : List Ln) (B : Bk), ((B.map (·.1)) ++ ls.map (·.key)).Nodup → ls.foldl (fun B l => putG B l.key l.told) B = B ++ ls.map fun l => (l.key, l.told) := by
    intro ls
    induction ls with
    | nil => intro B _; simp
    | cons l ls ih =>
      intro B hn
      have hk : l.key ∉ B.map (·.1) := fun m => by
        rw [List.map_cons] at hn
        exact (List.nodup_append.mp hn).2.2 l.key m l.key List.mem_cons_self rfl
      rw [List.foldl_cons, putG_app hk, ih]
      · simp
      · rw [List.map_append, List.map_cons, List.append_assoc]
        simpa using hn
  have := this ls [] (by simpa using h)
  simpa [bookOf] using this
theorem nodup_of_bad {ls : List Ln} (h2 : ∀ p, ¬ Bad B2 ls p) (h3 : ∀ p, ¬ Bad B3 ls p) : (ls.map (·.key)).Nodup := by
  rw [List.nodup_iff_pairwise_ne, List.pairwise_map]
  have : ∀ d l r, ls = d ++ l :: r → ∀ m ∈ d, m.key ≠ l.key := fun d l r e m hm he => by
    by_cases c : l.key.2 = []
    · exact h2 l.place ⟨d, l, r, e, ⟨c, m, hm, he⟩, rfl⟩
    · exact h3 l.place ⟨d, l, r, e, ⟨c, m, hm, he⟩, rfl⟩
  clear h2 h3
  have go : ∀ (r d : List Ln), ls = d ++ r → r.Pairwise fun a b => a.key ≠ b.key := by
    intro r
    induction r with
    | nil => intro d _; exact List.Pairwise.nil
    | cons a r ih =>
      intro d e
      refine List.pairwise_cons.mpr ⟨fun b hb => ?_, ih (d ++ [a]) (by rw [e]; simp)⟩
      obtain ⟨s, t, rfl⟩ := List.append_of_mem hb
      exact this (d ++ a :: s) b t (by rw [e]; simp) a (by simp)
  exact go ls [] rfl
theorem stands_perm {l r : List Fact} (h : l.Perm r) {y x : Nm} : Stands l y x ↔ Stands r y x := by
  have hh : (heads l).Perm (heads r) := h.filterMap _
  have hw : ∀ y, (within l y).Perm (within r y) := fun y => h.filterMap _
  have hE : ∀ a b, EW l a b ↔ EW r a b := fun a b => by
    unfold EW
    rw [(hw a).mem_iff, hh.mem_iff]
  unfold Stands
  rw [hh.length_eq]
  constructor
  · rintro ⟨m, m1, m2, m3⟩
    exact ⟨m, m1, m2, m3.mono fun a b => (hE a b).mp⟩
  · rintro ⟨m, m1, m2, m3⟩
    exact ⟨m, m1, m2, m3.mono fun a b => (hE a b).mpr⟩
theorem pick {ls : List Ln} {k p : Nat} (hk : WK ls k p) (hmin : ∀ q, WK ls k q → p ≤ q) (hno : ∀ j q, j < k → ¬ WK ls j q) : firstOf (wrongs (ls.map lf)) = some (k, p) := by
  refine firstOf_is (wrong_mem.mpr hk) fun y hy => ?_
  have hw := wrong_mem.mp (show (y.1, y.2) ∈ _ from hy)
  rintro (h | ⟨h1, h2⟩)
  · exact hno y.1 y.2 h hw
  · have h1 : y.1 = k := h1
    rw [h1] at hw
    have := hmin y.2 hw
    have h2 : y.2 < p := h2
    omega
theorem wk2 {ls : List Ln} {p : Nat} : WK ls 2 p ↔ Bad B2 ls p := by unfold WK; constructor <;> intro h <;> simp_all
theorem wk3 {ls : List Ln} {p : Nat} : WK ls 3 p ↔ Bad B3 ls p := by unfold WK; constructor <;> intro h <;> simp_all
theorem wk4 {ls : List Ln} {p : Nat} : WK ls 4 p ↔ ∃ l ∈ ls, B4 ls l ∧ p = l.place := by unfold WK; constructor <;> intro h <;> simp_all
theorem wk5 {ls : List Ln} {p : Nat} : WK ls 5 p ↔ ∃ l ∈ ls, B5 ls l ∧ p = l.place := by unfold WK; constructor <;> intro h <;> simp_all
theorem wk6 {ls : List Ln} {p : Nat} : WK ls 6 p ↔ ∃ l ∈ ls, B6 ls l ∧ p = l.place := by unfold WK; constructor <;> intro h <;> simp_all
theorem wk7 {ls : List Ln} {p : Nat} : WK ls 7 p ↔ B7 ls p := by unfold WK; constructor <;> intro h <;> simp_all
theorem wk_lt {ls : List Ln} {j q : Nat} (h : WK ls j q) : 2 ≤ j ∧ j ≤ 7 := by
  unfold WK at h
  omega
theorem heads_fs_eq : ∀ ls : List Ln, heads (fs ls) = (ls.filter isT).map fun l => l.key.1
  | [] => rfl
  | l :: ls => by
    have ih := heads_fs_eq ls
    unfold heads fs at *
    rw [List.map_cons, List.filterMap_cons, List.filter_cons, ih]
    unfold factOf isT
    by_cases c : l.key.2 = []
    · rw [if_pos c, decide_eq_true c]
      by_cases q : l.told = -1
      · rw [if_pos q]; rfl
      · rw [if_neg q]; rfl
    · rw [if_neg c, decide_eq_false c]
      rfl
theorem within_cons (k : Ky) (n : Int) (r : List Fact) (y : Nm) : within (factOf k n :: r) y = if k.2 ≠ [] ∧ k.1 = y then k.2 :: within r y else within r y := by
  unfold within
  rw [List.filterMap_cons]
  unfold factOf
  by_cases c : k.2 = []
  · have hf : ¬ (k.2 ≠ [] ∧ k.1 = y) := fun h => h.1 c
    rw [if_pos c, if_neg (c := k.2 ≠ [] ∧ k.1 = y) hf]
    by_cases q : n = -1
    · rw [if_pos q]
    · rw [if_neg q]
  · rw [if_neg c]
    by_cases q : k.1 = y
    · rw [if_pos ⟨c, q⟩]
      simp [q]
    · rw [if_neg (fun h => q h.2)]
      simp [q]
theorem within_fs_len (y : Nm) : ∀ ls : List Ln, (within (fs ls) y).length = nP ls y
  | [] => rfl
  | l :: ls => by
    have ih := within_fs_len y ls
    show (within (factOf l.key l.told :: fs ls) y).length = _
    rw [within_cons]
    unfold nP at *
    rw [List.filter_cons]
    unfold isT at *
    by_cases c : l.key.2 = []
    · rw [if_neg (fun h => h.1 c), decide_eq_true c]
      exact ih
    · rw [decide_eq_false c]
      by_cases q : l.key.1 = y
      · rw [if_pos ⟨c, q⟩, decide_eq_true q]
        exact congrArg Nat.succ ih
      · rw [if_neg (fun h => q h.2), decide_eq_false q]
        exact ih
theorem few_of {f : Ln → Bool} {ls : List Ln} {n : Nat} (h : ∀ p, ¬ Bad (fun d l => f l = true ∧ n ≤ (d.filter f).length) ls p) : (ls.filter f).length ≤ n := by
  have : (ls.filter f).drop n = [] := by
    by_cases c : (ls.filter f).drop n = []
    · exact c
    · obtain ⟨l, hl⟩ := List.exists_mem_of_ne_nil _ c
      exact absurd (drop_mem.mp ⟨l, hl, rfl⟩) (h l.place)
  exact List.drop_eq_nil_iff.mp this
theorem mAt_neg {k : Int} : mAt k (-1) = .ok () := rfl
theorem mAt_pos {k : Int} {p : Nat} : mAt k (p : Int) = .error [-5, k, p] := by
  unfold mAt
  rw [if_pos (by omega)]
theorem book_eq (T : List Nat) : match mReadBook T with
    | .error e => ∃ k p : Nat, bookIn T = .error (k, p) ∧ e = [-5, (k : Int), (p : Int)]
    | .ok B => bookIn T = .ok (F B) ∧ Good B ∧ rightB B = true := by
  have h := allLines_sm T
  unfold bookIn
  cases e0 : mLinesOf T with
  | error er =>
    rw [e0] at h
    have hm : mReadBook T = .error er := by unfold mReadBook; rw [e0]
    rw [hm]
    revert h
    generalize linesIn (T.length + 1) none ⟨T, 0⟩ = g
    intro h
    cases h with
    | err p => exact ⟨1, p, rfl, rfl⟩
  | ok ls =>
    rw [e0] at h
    revert h
    generalize linesIn (T.length + 1) none ⟨T, 0⟩ = g
    intro h
    cases h with
    | ok hL =>
    subst hL
    simp only []
    have hup := (mLines_up _ _ _ _ e0).1
    have hval := mLines_val _ _ _ _ e0
    have kA := known_bookOf e0
    have kl := known_lines e0
    unfold mReadBook
    rw [e0]
    simp only []
    -- 2
    have f2 : FirstIs B2 ls (mRep [] (ls.filter fun l => decide (l.key.2 = []))) := by
      refine first_filter (mRep_first _ []) fun d l => ?_
      unfold B2
      rw [List.nil_append, List.mem_map]
      constructor
      · rintro ⟨c, m, hm, e⟩
        exact ⟨decide_eq_true c, m, List.mem_filter.mpr ⟨hm, decide_eq_true (by rw [e]; exact c)⟩, e⟩
      · rintro ⟨c, m, hm, e⟩
        exact ⟨of_decide_eq_true c, m, (List.mem_filter.mp hm).1, e⟩
    rcases first_min hup f2 with ⟨v2, n2⟩ | ⟨p, v2, b2, m2⟩
    rotate_left
    · rw [v2, mAt_pos]
      refine ⟨2, p, ?_, rfl⟩
      rw [pick (k := 2) (p := p) (wk2.mpr b2) (fun q hq => m2 q (wk2.mp hq)) (fun j q hj hw => by have := wk_lt hw; omega)]
    rw [v2, mAt_neg]
    simp only []
    -- 3
    have f3 : FirstIs B3 ls (mRep [] (ls.filter fun l => !decide (l.key.2 = []))) := by
      refine first_filter (mRep_first _ []) fun d l => ?_
      unfold B3
      rw [List.nil_append, List.mem_map]
      constructor
      · rintro ⟨c, m, hm, e⟩
        exact ⟨by simpa using c, m, List.mem_filter.mpr ⟨hm, by rw [e]; simpa using c⟩, e⟩
      · rintro ⟨c, m, hm, e⟩
        exact ⟨by simpa using c, m, (List.mem_filter.mp hm).1, e⟩
    rcases first_min hup f3 with ⟨v3, n3⟩ | ⟨p, v3, b3, m3⟩
    rotate_left
    · rw [v3, mAt_pos]
      refine ⟨3, p, ?_, rfl⟩
      rw [pick (k := 3) (p := p) (wk3.mpr b3) (fun q hq => m3 q (wk3.mp hq)) (fun j q hj hw => by
        have := wk_lt hw
        have : j = 2 := by omega
        subst this
        exact n2 q (wk2.mp hw))]
    rw [v3, mAt_neg]
    simp only []
    have hnd := nodup_of_bad n2 n3
    have hbm := bookOf_map hnd
    -- 4
    have f4 : FirstIs (fun _ l => B4 ls l) ls (mUnknown (bookOf ls) (ls.filter fun l => !decide (l.key.2 = []))) := by
      refine first_filter (placeOf_first _ _) fun d l => ?_
      unfold B4
      refine and_congr (by simp) ?_
      rw [heads_fs, ← bookOf_keys, ← look_isSome]
      unfold hasB
      cases (lookG (bookOf ls) (l.key.2, [])).isSome <;> simp
    rcases first_min hup f4 with ⟨v4, n4⟩ | ⟨p, v4, b4, m4⟩
    rotate_left
    · rw [v4, mAt_pos]
      refine ⟨4, p, ?_, rfl⟩
      rw [pick (k := 4) (p := p) (wk4.mpr (bad_all.mp b4)) (fun q hq => m4 q (bad_all.mpr (wk4.mp hq))) (fun j q hj hw => by
        have := wk_lt hw
        have : j = 2 ∨ j = 3 := by omega
        rcases this with rfl | rfl
        · exact n2 q (wk2.mp hw)
        · exact n3 q (wk3.mp hw))]
    have kP : KnownP (bookOf ls) := known_things (by rw [v4]; decide)
    rw [v4, mAt_neg]
    simp only []
    -- 5
    have hacc : ∀ l ∈ ls, l.key.2 = [] → (l.told ≠ -1 ↔ l.told = -2) := fun l hl c => by
      have := (hval l hl).thing c
      omega
    have f5 : FirstIs (fun _ l => B5 ls l) ls (mWithout (ls.filter fun l => decide (l.key.2 = [])) (ls.filter fun l => !decide (l.key.2 = []))) := by
      refine (first_filter (Bd := fun d l => decide (l.key.2 = []) = true ∧ (decide (l.told = -2) && !memB ((ls.filter fun l => !decide (l.key.2 = [])).foldl (fun s l => addS s l.key.1) []) l.key.1) = true) (placeOf_first _ _) fun d l => Iff.rfl).congr fun d l r e => ?_
      have hl : l ∈ ls := by rw [e]; simp
      unfold B5 isA
      rw [Bool.and_eq_true]
      have hw : (!memB ((ls.filter fun l => !decide (l.key.2 = [])).foldl (fun s l => addS s l.key.1) []) l.key.1) = true ↔ within (fs ls) l.key.1 = [] := by
        rw [Bool.not_eq_true', memB_false, mem_foldAdd (fun l : Ln => l.key.1)]
        constructor
        · intro h
          by_cases c : within (fs ls) l.key.1 = []
          · exact c
          · obtain ⟨x, hx⟩ := List.exists_mem_of_ne_nil _ c
            obtain ⟨m, hm, e1, e2⟩ := within_fs.mp hx
            exact absurd (.inr ⟨m, List.mem_filter.mpr ⟨hm, by rw [e1]; simpa using e2⟩, by rw [e1]⟩) h
        · rintro h (h1 | ⟨m, hm, e1⟩)
          · cases h1
          · obtain ⟨q1, q2⟩ := List.mem_filter.mp hm
            have : m.key.2 ∈ within (fs ls) l.key.1 := within_fs.mpr ⟨m, q1, by rw [← e1], by simpa using q2⟩
            rw [h] at this
            cases this
      rw [hw]
      constructor
      · rintro ⟨c, t, w⟩
        have c := of_decide_eq_true c
        exact ⟨⟨c, (hacc l hl c).mpr (of_decide_eq_true t)⟩, w⟩
      · rintro ⟨⟨c, t⟩, w⟩
        exact ⟨decide_eq_true c, decide_eq_true ((hacc l hl c).mp t), w⟩
    rcases first_min hup f5 with ⟨v5, n5⟩ | ⟨p, v5, b5, m5⟩
    rotate_left
    · rw [v5, mAt_pos]
      refine ⟨5, p, ?_, rfl⟩
      rw [pick (k := 5) (p := p) (wk5.mpr (bad_all.mp b5)) (fun q hq => m5 q (bad_all.mpr (wk5.mp hq))) (fun j q hj hw => by
        have := wk_lt hw
        have : j = 2 ∨ j = 3 ∨ j = 4 := by omega
        rcases this with rfl | rfl | rfl
        · exact n2 q (wk2.mp hw)
        · exact n3 q (wk3.mp hw)
        · exact n4 q (bad_all.mpr (wk4.mp hw)))]
    rw [v5, mAt_neg]
    simp only []
    -- 6
    have hndB := bookOf_nd ls
    have hUB : U (bookOf ls) = fs ls := by
      rw [hbm]
      unfold U fs
      rw [List.map_map]
      rfl
    have hperm : (F (bookOf ls)).Perm (fs ls) := by rw [← hUB]; exact F_perm hndB
    have hheads : (heads (fs ls)).Nodup := by
      have : (heads (F (bookOf ls))).Perm (heads (fs ls)) := hperm.filterMap _
      rw [heads_F] at this
      exact this.nodup_iff.mp (things_nodup hndB)
    have hst : ∀ y, Stands (fs ls) y y ↔ y ∈ standB (partsB (bookOf ls)) y := fun y => by
      rw [← stands_perm hperm, stands_iff hndB kA kP]
    have f6 : FirstIs (fun _ l => B6 ls l) ls (mInItself (bookOf ls) (ls.filter fun l => decide (l.key.2 = []))) := by
      refine (first_filter (Bd := fun d l => decide (l.key.2 = []) = true ∧ memB (standB (partsB (bookOf ls)) l.key.1) l.key.1 = true) (placeOf_first _ _) fun d l => Iff.rfl).congr fun d l r e => ?_
      have hl : l ∈ ls := by rw [e]; simp
      unfold B6 isA
      rw [memB_iff, rings_mem hheads, hst, heads_fs]
      constructor
      · rintro ⟨c, w⟩
        have c := of_decide_eq_true c
        have hk : (l.key.1, ([] : Nm)) = l.key := by rw [← c]
        refine ⟨⟨c, fun t => ?_⟩, ⟨l, hl, hk.symm⟩, w⟩
        have hne := stand_step (closed_parts kP) w
        obtain ⟨z, hz⟩ := List.exists_mem_of_ne_nil _ hne
        rw [inP_parts hndB kA] at hz
        obtain ⟨z1, z2⟩ := partsIn_mem.mp hz
        obtain ⟨m, hm, em⟩ := bookOf_keys.mp z1
        obtain ⟨m2, hm2, em2, t2⟩ := kl m hm (by rw [em]; exact z2)
        rw [em] at em2
        have e2 : m2.key = l.key := by rw [em2]; exact hk
        have h1 : (l.key, l.told) ∈ bookOf ls := by rw [hbm]; exact List.mem_map_of_mem hl
        have h2 : (l.key, m2.told) ∈ bookOf ls := by
          rw [hbm, ← e2]
          exact List.mem_map_of_mem (f := fun l : Ln => (l.key, l.told)) hm2
        have q1 := look_of_mem hndB h1
        have q2 := look_of_mem hndB h2
        rw [q1] at q2
        have := Option.some.inj q2
        omega
      · rintro ⟨⟨c, _⟩, _, w⟩
        exact ⟨decide_eq_true c, w⟩
    rcases first_min hup f6 with ⟨v6, n6⟩ | ⟨p, v6, b6, m6⟩
    rotate_left
    · rw [v6, mAt_pos]
      refine ⟨6, p, ?_, rfl⟩
      rw [pick (k := 6) (p := p) (wk6.mpr (bad_all.mp b6)) (fun q hq => m6 q (bad_all.mpr (wk6.mp hq))) (fun j q hj hw => by
        have := wk_lt hw
        have : j = 2 ∨ j = 3 ∨ j = 4 ∨ j = 5 := by omega
        rcases this with rfl | rfl | rfl | rfl
        · exact n2 q (wk2.mp hw)
        · exact n3 q (wk3.mp hw)
        · exact n4 q (bad_all.mpr (wk4.mp hw))
        · exact n5 q (bad_all.mpr (wk5.mp hw)))]
    rw [v6, mAt_neg]
    simp only []
    -- 7
    have f7 : FirstIs Bd7 ls (mMany 0 [] ls) := (mMany_first ls [] 0 [] rfl (by omega) (fun y => rfl) (fun y => Nat.zero_le _)).congr fun d l r e => by rw [List.nil_append]
    have h7 : ∀ q, B7 ls q ↔ Bad Bd7 ls q := fun q => by
      unfold B7 Bd7
      constructor
      · rintro (⟨d, l, r, e, h, hp⟩ | ⟨y, _, d, l, r, e, ⟨⟨c, hy⟩, h⟩, hp⟩)
        · exact ⟨d, l, r, e, .inl h, hp⟩
        · exact ⟨d, l, r, e, .inr ⟨c, by rw [hy]; exact h⟩, hp⟩
      · rintro ⟨d, l, r, e, h | ⟨c, h⟩, hp⟩
        · exact .inl ⟨d, l, r, e, h, hp⟩
        · obtain ⟨m, hm, em, t⟩ := kl l (by rw [e]; simp) c
          exact .inr ⟨l.key.1, accords_fs.mpr ⟨m, hm, em, by omega⟩, d, l, r, e, ⟨⟨c, rfl⟩, h⟩, hp⟩
    have lower : ∀ j q, j < 7 → ¬ WK ls j q := fun j q hj hw => by
      have := wk_lt hw
      have : j = 2 ∨ j = 3 ∨ j = 4 ∨ j = 5 ∨ j = 6 := by omega
      rcases this with rfl | rfl | rfl | rfl | rfl
      · exact n2 q (wk2.mp hw)
      · exact n3 q (wk3.mp hw)
      · exact n4 q (bad_all.mpr (wk4.mp hw))
      · exact n5 q (bad_all.mpr (wk5.mp hw))
      · exact n6 q (bad_all.mpr (wk6.mp hw))
    rcases first_min hup f7 with ⟨v7, n7⟩ | ⟨p, v7, b7, m7⟩
    rotate_left
    · rw [v7, mAt_pos]
      refine ⟨7, p, ?_, rfl⟩
      rw [pick (k := 7) (p := p) (wk7.mpr ((h7 p).mpr b7)) (fun q hq => m7 q ((h7 q).mp (wk7.mp hq))) lower]
    rw [v7, mAt_neg]
    simp only []
    have hnone : wrongs (ls.map lf) = [] := by
      by_cases c : wrongs (ls.map lf) = []
      · exact c
      · obtain ⟨⟨k, q⟩, hx⟩ := List.exists_mem_of_ne_nil _ c
        have hw := wrong_mem.mp hx
        have := wk_lt hw
        by_cases k7 : k = 7
        · subst k7
          exact absurd ((h7 q).mp (wk7.mp hw)) (n7 q)
        · exact absurd hw (lower k q (by omega))
    have hgood : Good (bookOf ls) := ⟨hndB, fun b hb => by
      rw [hbm] at hb
      obtain ⟨l, hl, rfl⟩ := List.mem_map.mp hb
      exact hval l hl⟩
    have hsaid : ∀ l ∈ ls, saidB (bookOf ls) l.key = l.told := fun l hl => by
      have := said_of_mem hndB (b := (l.key, l.told)) (by rw [hbm]; exact List.mem_map_of_mem hl)
      exact this
    have hkn : knownB (bookOf ls) = true := by
      unfold knownB
      rw [List.all_eq_true]
      intro b hb
      by_cases c : b.1.2 = []
      · rw [decide_eq_true c]; rfl
      · have hk := List.mem_map_of_mem (f := (·.1)) hb
        obtain ⟨l, hl, e⟩ := bookOf_keys.mp hk
        obtain ⟨m, hm, em, t⟩ := kl l hl (by rw [e]; exact c)
        have h1 := hsaid m hm
        rw [em, e, t] at h1
        rw [decide_eq_false c, Bool.false_or, h1, decide_eq_true rfl, Bool.true_and]
        exact (look_isSome _ _).mpr (kP b.1 hk c)
    refine ⟨?_, hgood, ?_⟩
    · rw [hnone]
      show Except.ok (inOrder ((ls.map lf).map fun (x : Fact × Nat) => x.1)) = _
      rw [fs_eq, inOrder_F hndB (by rw [hUB])]
    · unfold rightB
      have ht : (thingsB (bookOf ls)).length ≤ 40 := by
        have h1 : (heads (F (bookOf ls))).Perm (heads (fs ls)) := hperm.filterMap _
        rw [heads_F] at h1
        rw [h1.length_eq, heads_fs_eq, List.length_map]
        refine few_of fun q hq => n7 q ?_
        obtain ⟨d, l, r, e, ⟨c1, c2⟩, hp⟩ := hq
        exact ⟨d, l, r, e, .inl ⟨of_decide_eq_true c1, c2⟩, hp⟩
      rw [if_neg (by omega), if_neg (by rw [hkn]; exact Bool.noConfusion), List.all_eq_true]
      intro y hy
      obtain ⟨y1, y2⟩ := accords_mem.mp hy
      obtain ⟨l, hl, e⟩ := bookOf_keys.mp y1
      have hA : isA l := ⟨by rw [e], by have := hsaid l hl; rw [e, y2] at this; omega⟩
      have ey : l.key.1 = y := by rw [e]
      have hwl : (partsIn (bookOf ls) y).length = nP ls y := by
        have h1 : (within (F (bookOf ls)) y).Perm (within (fs ls) y) := hperm.filterMap _
        rw [within_F] at h1
        rw [h1.length_eq, within_fs_len]
      rw [inP_parts hndB kA, hwl]
      have w1 : within (fs ls) y ≠ [] := fun w => n5 l.place (bad_all.mpr ⟨l, hl, ⟨hA, by rw [ey]; exact w⟩, rfl⟩)
      have w2 : 1 ≤ nP ls y := by
        rw [← within_fs_len]
        exact List.length_pos_iff.mpr w1
      have w3 : nP ls y ≤ 12 := by
        refine few_of fun q hq => n7 q ?_
        obtain ⟨d, l2, r, e2, ⟨c1, c2⟩, hp⟩ := hq
        rw [Bool.and_eq_true] at c1
        have ct : l2.key.2 ≠ [] := by
          have := c1.1
          unfold isT at this
          simpa using this
        have cy := of_decide_eq_true c1.2
        exact ⟨d, l2, r, e2, .inr ⟨ct, by rw [cy]; exact c2⟩, hp⟩
      have w4 : y ∉ standB (partsB (bookOf ls)) y := fun hs => by
        refine n6 l.place (bad_all.mpr ⟨l, hl, ⟨hA, ?_⟩, rfl⟩)
        rw [ey, rings_mem hheads]
        exact ⟨heads_fs.mpr ⟨l, hl, e⟩, (hst y).mpr hs⟩
      rw [decide_eq_true w2, decide_eq_true w3, memB_false.mpr w4]
      rfl
end Fb
end
section
/-! A text as a change. -/
namespace Fb
open SctBook
def cf (l : Cl) : Fact × Bool × Nat := (factOf l.key l.told, !l.comes, l.place)
theorem cline_sm (T : List Nat) (p : Nat) : Sm (fun a r => a.1 = cf r.2 ∧ a.2 = cur T r.1) (changeLine (cur T p)) (mChangeLine T p) := by
  unfold changeLine mChangeLine
  have hc : (cur T p).rest.head? = T[p]? := head_drop T p
  simp only [hc]
  have h43 : byteAt T p = 43 ↔ T[p]? = some 43 := byteAt_iff (x := 43)
  have h45 : byteAt T p = 45 ↔ T[p]? = some 45 := byteAt_iff (x := 45)
  by_cases c0 : T[p]? ≠ some 43 ∧ T[p]? ≠ some 45
  · rw [if_pos c0, if_pos ⟨fun h => c0.1 (h43.mp h), fun h => c0.2 (h45.mp h)⟩]
    exact .err p
  have hsign : (T[p]? == some 45) = !decide (byteAt T p = 43) := by
    by_cases c : T[p]? = some 43
    · rw [decide_eq_true (h43.mpr c), c]
      rfl
    · have : T[p]? = some 45 := by
        by_cases d : T[p]? = some 45
        · exact d
        · exact absurd ⟨c, d⟩ c0
      rw [decide_eq_false (fun h => c (h43.mp h)), this]
      rfl
  rw [if_neg c0, if_neg (fun h => c0 ⟨fun e => h.1 (h43.mpr e), fun e => h.2 (h45.mpr e)⟩), cur_on, hsign]
  have h1 := name_sm T (p + 1)
  cases e1 : mName T (p + 1) with
  | error e =>
    rw [e1] at h1
    revert h1
    generalize nameIn (cur T (p + 1)) = g
    intro h1
    cases h1 with
    | err q => exact .err q
  | ok z =>
  rw [e1] at h1
  revert h1
  generalize nameIn (cur T (p + 1)) = g
  intro h1
  cases h1 with
  | ok r1 =>
  subst r1
  simp only []
  have hz : (cur T z).rest.head? = T[z]? := head_drop T z
  have h32 : byteAt T z = 32 ↔ T[z]? = some 32 := byteAt_iff (x := 32)
  rw [hz]
  by_cases c1 : T[z]? = some 32 ∧ (cut T (p + 1) z = MATERIAL ∨ cut T (p + 1) z = ACCORD)
  · rw [if_pos c1, if_pos ⟨h32.mpr c1.1, c1.2⟩, cur_on]
    have h2 := name_sm T (z + 1)
    revert h2
    generalize nameIn (cur T (z + 1)) = g2
    generalize mName T (z + 1) = m2
    intro h2
    cases h2 with
    | err q => exact .err q
    | ok r2 =>
    rename_i a s
    subst r2
    simp only []
    have h3 := byte_sm' T s 10 10 rfl
    revert h3
    show Sm _ (byteIn END (cur T s)) _ → _
    generalize byteIn END (cur T s) = g3
    generalize mExpect T s 10 = m3
    intro h3
    cases h3 with
    | err q => exact .err q
    | ok r3 =>
    rename_i a b
    obtain ⟨a1, a2⟩ := a
    obtain ⟨r3, -⟩ := r3
    simp only [] at r3 ⊢
    refine .ok ⟨?_, r3⟩
    unfold cf factOf
    simp only []
    rw [if_pos trivial]
    by_cases cm : cut T (p + 1) z = MATERIAL
    · rw [if_pos cm, if_pos cm]
      rfl
    · rw [if_neg cm, if_neg cm]
      rfl
  · rw [if_neg c1, if_neg (fun h => c1 ⟨h32.mp h.1, h.2⟩)]
    have h2 := byte_sm' T z 46 46 rfl
    revert h2
    generalize byteIn 46 (cur T z) = g2
    generalize mExpect T z 46 = m2
    intro h2
    cases h2 with
    | err q => exact .err q
    | ok r2 =>
    rename_i a s
    obtain ⟨a1, a2⟩ := a
    obtain ⟨r2, -⟩ := r2
    simp only [] at r2 ⊢
    rw [r2]
    have h3 := name_sm T s
    cases e3 : mName T s with
    | error e =>
      rw [e3] at h3
      revert h3
      generalize nameIn (cur T s) = g3
      intro h3
      cases h3 with
      | err q => exact .err q
    | ok z2 =>
    rw [e3] at h3
    have hne := cut_ne e3
    revert h3
    generalize nameIn (cur T s) = g3
    intro h3
    cases h3 with
    | ok r3 =>
    subst r3
    simp only []
    have h4 := byte_sm' T z2 32 32 rfl
    revert h4
    generalize byteIn 32 (cur T z2) = g4
    generalize mExpect T z2 32 = m4
    intro h4
    cases h4 with
    | err q => exact .err q
    | ok r4 =>
    rename_i a g
    obtain ⟨a1, a2⟩ := a
    obtain ⟨r4, -⟩ := r4
    simp only [] at r4 ⊢
    rw [r4]
    have h5 := amount_sm T g
    revert h5
    generalize amountIn (cur T g) = g5
    generalize mAmount T g = m5
    intro h5
    cases h5 with
    | err q => exact .err q
    | ok r5 =>
    rename_i a h
    obtain ⟨a1, a2⟩ := a
    obtain ⟨r5, r6⟩ := r5
    simp only [] at r5 r6 ⊢
    rw [r5]
    have h6 := byte_sm' T h.1 10 10 rfl
    revert h6
    show Sm _ (byteIn END (cur T h.1)) _ → _
    generalize byteIn END (cur T h.1) = g6
    generalize mExpect T h.1 10 = m6
    intro h6
    cases h6 with
    | err q => exact .err q
    | ok r7 =>
    rename_i a b
    obtain ⟨b1, b2⟩ := a
    obtain ⟨r7, -⟩ := r7
    simp only [] at r7 ⊢
    refine .ok ⟨?_, r7⟩
    unfold cf factOf
    simp only []
    rw [if_neg hne, r6]
    rfl
theorem clines_sm (T : List Nat) : ∀ (f p : Nat), Sm (fun L ls => L = ls.map cf) (changeLines f (cur T p)) (mChangeLines T f p)
  | 0, p => .ok rfl
  | f + 1, p => by
    unfold changeLines mChangeLines
    have hc : (cur T p).rest = T.drop p := rfl
    rw [hc]
    by_cases hp : p < T.length
    · have hne : ¬ T.drop p = [] := fun e => by
        have := congrArg List.length e
        rw [List.length_drop, List.length_nil] at this
        omega
      rw [if_pos hp, if_neg hne]
      have h := cline_sm T p
      revert h
      generalize changeLine (cur T p) = g
      generalize mChangeLine T p = m
      intro h
      cases h with
      | err q => exact .err q
      | ok r =>
        rename_i a b
        obtain ⟨a1, a2⟩ := a
        obtain ⟨r1, r2⟩ := r
        simp only [] at r1 r2 ⊢
        rw [r2]
        have ih := clines_sm T f b.1
        revert ih
        generalize changeLines f (cur T b.1) = g2
        generalize mChangeLines T f b.1 = m2
        intro ih
        cases ih with
        | err q => exact .err q
        | ok r4 =>
          refine .ok ?_
          rw [r4, r1, List.map_cons]
    · rw [if_neg hp, if_pos (List.drop_eq_nil_of_le (by omega))]
      exact .ok rfl
/-- with one sign, about one thing, once -/
theorem mCRep_first : ∀ (ls : List Cl) (seen : List (Bool × Ky)), (mCRep seen ls = -1 ∧ ∀ d l r, ls = d ++ l :: r → (l.comes, l.key) ∉ seen ++ d.map fun m => (m.comes, m.key)) ∨
    ∃ d l r, ls = d ++ l :: r ∧ (l.comes, l.key) ∈ seen ++ (d.map fun m => (m.comes, m.key)) ∧ mCRep seen ls = (l.place : Nat) ∧ ∀ d' l' r', d = d' ++ l' :: r' → (l'.comes, l'.key) ∉ seen ++ d'.map fun m => (m.comes, m.key)
  | [], seen => .inl ⟨rfl, fun d l r e => by cases d <;> simp at e⟩
  | a :: ls, seen => by
    unfold mCRep
    by_cases c : (a.comes, a.key) ∈ seen
    · rw [if_pos c]
      exact .inr ⟨[], a, ls, rfl, by simpa using c, rfl, fun d' l' r' e => by cases d' <;> simp at e⟩
    · rw [if_neg c]
      rcases mCRep_first ls (seen ++ [(a.comes, a.key)]) with ⟨h1, h2⟩ | ⟨d, l, r, e, hb, hv, hm⟩
      · refine .inl ⟨h1, fun d l r e => ?_⟩
        cases d with
        | nil =>
          simp only [List.nil_append, List.cons.injEq] at e
          rw [← e.1]
          simpa using c
        | cons b d =>
          simp only [List.cons_append, List.cons.injEq] at e
          rw [← e.1]
          have := h2 d l r e.2
          simpa using this
      · refine .inr ⟨a :: d, l, r, by rw [e]; rfl, by simpa using hb, hv, fun d' l' r' e' => ?_⟩
        cases d' with
        | nil =>
          simp only [List.nil_append, List.cons.injEq] at e'
          rw [← e'.1]
          simpa using c
        | cons b d' =>
          simp only [List.cons_append, List.cons.injEq] at e'
          rw [← e'.1]
          have := hm d' l' r' e'.2
          simpa using this
def atF {α β : Type} (g : List α → α → Option β) (L : List α) (i : Nat) : Option β := match L[i]? with
  | some x => g (L.take i) x
  | none => none
/-- a list by places, the first that is told -/
theorem first_range {α β : Type} (g : List α → α → Option β) : ∀ (L : List α), (((List.range L.length).filterMap fun i => atF g L i).head? = none ↔ ∀ d x r, L = d ++ x :: r → g d x = none) ∧ ∀ d x r b, L = d ++ x :: r → g d x = some b → (∀ d' x' r', d = d' ++ x' :: r' → g d' x' = none) → ((List.range L.length).filterMap fun i => atF g L i).head? = some b := by
  intro L
  have key : ∀ i, atF g L i = none ∨ ∃ d x r b, L = d ++ x :: r ∧ d.length = i ∧ g d x = some b ∧ atF g L i = some b := fun i => by
    unfold atF
    cases q : L[i]? with
    | none => exact .inl rfl
    | some x =>
      obtain ⟨hlt, hq⟩ := List.getElem?_eq_some_iff.mp q
      cases e : g (L.take i) x with
      | none => exact .inl e
      | some b => exact .inr ⟨L.take i, x, L.drop (i + 1), b, by rw [← hq, ← List.drop_eq_getElem_cons hlt, List.take_append_drop], by rw [List.length_take]; omega, e, e⟩
  have at_ : ∀ d x r, L = d ++ x :: r → atF g L d.length = g d x := fun d x r e => by
    unfold atF
    rw [e, List.getElem?_append_right (Nat.le_refl _), Nat.sub_self, List.take_left]
    rfl
  constructor
  · rw [List.head?_eq_none_iff, List.filterMap_eq_nil_iff]
    constructor
    · intro h d x r e
      rw [← at_ d x r e]
      exact h d.length (by rw [List.mem_range, e]; simp)
    · intro h i _
      rcases key i with h1 | ⟨d, x, r, b, e, _, hg, _⟩
      · exact h1
      · rw [h d x r e] at hg
        cases hg
  · intro d x r b e hg hm
    have hl : d.length < L.length := by rw [e]; simp
    have hsplit : List.range L.length = List.range d.length ++ d.length :: (List.range L.length).drop (d.length + 1) := by
      have h1 : (List.range L.length).take d.length = List.range d.length := by
        rw [List.take_range, Nat.min_eq_left (by omega)]
      have h2 : (List.range L.length).drop d.length = d.length :: (List.range L.length).drop (d.length + 1) := by
        rw [List.drop_eq_getElem_cons (by rw [List.length_range]; exact hl), List.getElem_range]
      rw [← h1, ← h2, List.take_append_drop]
    rw [List.head?_filterMap, List.findSome?_eq_some_iff]
    refine ⟨List.range d.length, d.length, _, hsplit, by rw [at_ d x r e]; exact hg, fun i hi => ?_⟩
    rw [List.mem_range] at hi
    rcases key i with h1 | ⟨d', x', r', b', e', hd', hg', _⟩
    · exact h1
    · exfalso
      rcases split_two (e.symm.trans e') with ⟨h, _, _⟩ | ⟨y, h, _⟩ | ⟨y, h, _⟩
      · rw [h] at hi
        omega
      · rw [h, List.length_append] at hd'
        simp only [List.length_cons] at hd'
        omega
      · rw [hm d' x' y h] at hg'
        cases hg'
theorem again_eq (ls : List Cl) : (mCRep [] ls = -1 ∧ again (ls.map cf) = none ∧ (ls.map fun m => (m.comes, m.key)).Nodup) ∨ ∃ p : Nat, mCRep [] ls = (p : Int) ∧ again (ls.map cf) = some p := by
  let g : List Cl → Cl → Option Nat := fun d l => if ((d.map cf).any fun (y : Fact × Bool × Nat) => y.1.key == (cf l).1.key && y.2.1 == (cf l).2.1) = true then some (cf l).2.2 else none
  have hg : ∀ (d : List Cl) (l : Cl), ((d.map cf).any fun (y : Fact × Bool × Nat) => y.1.key == (cf l).1.key && y.2.1 == (cf l).2.1) = true ↔ (l.comes, l.key) ∈ ([] : List (Bool × Ky)) ++ d.map fun m => (m.comes, m.key) := fun d l => by
    rw [List.nil_append, List.any_map, List.any_eq_true, List.mem_map]
    constructor
    · rintro ⟨m, hm, e⟩
      have e : ((cf m).1.key == (cf l).1.key && (cf m).2.1 == (cf l).2.1) = true := e
      rw [Bool.and_eq_true] at e
      have e1 : (cf m).1.key = (cf l).1.key := by simpa using e.1
      have e2 : (cf m).2.1 = (cf l).2.1 := by simpa using e.2
      unfold cf at e1 e2
      rw [factOf_key, factOf_key] at e1
      have e2 : m.comes = l.comes := by simpa using e2
      exact ⟨m, hm, by rw [e1, e2]⟩
    · rintro ⟨m, hm, e⟩
      injection e with e1 e2
      refine ⟨m, hm, ?_⟩
      show ((cf m).1.key == (cf l).1.key && (cf m).2.1 == (cf l).2.1) = true
      unfold cf
      rw [factOf_key, factOf_key, e1, e2]
      simp
  have hag : again (ls.map cf) = ((List.range ls.length).filterMap fun i => atF g ls i).head? := by
    have hf : (fun (i : Nat) => match (ls.map cf)[i]? with
      | some x => if (((ls.map cf).take i).any fun (y : Fact × Bool × Nat) => y.1.key == x.1.key && y.2.1 == x.2.1) = true then some x.2.2 else none
      | none => none) = fun i => atF g ls i := by
      funext i
      rw [List.getElem?_map, ← List.map_take]
      unfold atF
      cases ls[i]? with
      | none => rfl
      | some x => rfl
    unfold again
    rw [List.length_map]
    exact congrArg (fun f => ((List.range ls.length).filterMap f).head?) hf
  rw [hag]
  obtain ⟨r1, r2⟩ := first_range g ls
  rcases mCRep_first ls [] with ⟨h1, h2⟩ | ⟨d, l, r, e, hb, hv, hm⟩
  · refine .inl ⟨h1, r1.mpr fun d l r e => if_neg fun h => h2 d l r e ((hg d l).mp h), ?_⟩
    rw [List.nodup_iff_pairwise_ne, List.pairwise_map]
    have go : ∀ (r d : List Cl), ls = d ++ r → r.Pairwise fun a b => (a.comes, a.key) ≠ (b.comes, b.key) := by
      intro r
      induction r with
      | nil => intro d _; exact List.Pairwise.nil
      | cons a r ih =>
        intro d e
        refine List.pairwise_cons.mpr ⟨fun b hb => ?_, ih (d ++ [a]) (by rw [e]; simp)⟩
        obtain ⟨s, t, rfl⟩ := List.append_of_mem hb
        intro eq
        refine h2 (d ++ a :: s) b t (by rw [e]; simp) ?_
        rw [List.nil_append, List.mem_map]
        exact ⟨a, by simp, eq⟩
    exact go ls [] rfl
  · exact .inr ⟨l.place, hv, r2 d l r l.place e (if_pos ((hg d l).mpr hb)) fun d' l' r' e' => if_neg fun h => hm d' l' r' e' ((hg d' l').mp h)⟩
theorem change_eq (T : List Nat) : match mReadChange T with
    | .error e => ∃ k p : Nat, changeIn T = .error (k, p) ∧ e = [-5, (k : Int), (p : Int)]
    | .ok ls => changeIn T = .ok (ls.map cf) ∧ (ls.map fun m => (m.comes, m.key)).Nodup := by
  have h : Sm (fun L ls => L = ls.map cf) (changeLines (T.length + 1) ⟨T, 0⟩) (mChangeLines T (T.length + 1) 0) := clines_sm T (T.length + 1) 0
  unfold mReadChange changeIn
  revert h
  generalize changeLines (T.length + 1) ⟨T, 0⟩ = g
  generalize mChangeLines T (T.length + 1) 0 = m
  intro h
  cases h with
  | err p => exact ⟨1, p, rfl, rfl⟩
  | ok hL =>
    rename_i ls
    subst hL
    simp only []
    rcases again_eq ls with ⟨h1, h2, h3⟩ | ⟨p, h1, h2⟩
    · rw [h1, mAt_neg, h2]
      exact ⟨rfl, h3⟩
    · rw [h1, mAt_pos, h2]
      exact ⟨2, p, rfl, rfl⟩
end Fb
end
section
/-! Calls that only tell. -/
namespace Fb
open SctBook
theorem factLine_of {k : Ky} {n : Int} (v : Val k n) : factLine (factOf k n) = mFact k n := by
  unfold factOf mFact
  by_cases c : k.2 = []
  · rw [if_pos c, if_pos c]
    rcases v.thing c with rfl | rfl
    · rw [if_pos rfl]
      unfold mThing factLine
      simp [END]
    · rw [if_neg (by decide)]
      unfold mThing factLine
      simp [END]
  · rw [if_neg c, if_neg c]
    unfold factLine
    simp [END]
theorem Good.vals {B : Bk} (h : Good B) {k : Ky} (hk : k ∈ keysOfB B) : Val k (saidB B k) := by
  obtain ⟨b, hb, rfl⟩ := List.mem_map.mp (keys_mem.mp hk)
  rw [said_of_mem h.nd hb]
  exact h.val b hb
theorem flat_congr {α : Type} {f g : α → List Nat} : ∀ {l : List α}, (∀ x ∈ l, f x = g x) → l.flatMap f = l.flatMap g
  | [], _ => rfl
  | x :: l, h => by
    rw [List.flatMap_cons, List.flatMap_cons, h x List.mem_cons_self, flat_congr fun y m => h y (List.mem_cons_of_mem _ m)]
theorem text_F {B : Bk} (h : Good B) : bookText (F B) = mText B := by
  unfold bookText F mText
  rw [List.flatMap_map]
  exact flat_congr fun k hk => factLine_of (h.vals hk)
theorem parts_F {B : Bk} (h : Good B) (x : Nm) : ((F B).filter fun (f : Fact) => match f with
    | .part y _ _ => y == x
    | _ => false).flatMap factLine = mParts B x := by
  unfold F mParts
  rw [List.filter_map, List.flatMap_map]
  have e : (keysOfB B).filter ((fun (f : Fact) => match f with
    | .part y _ _ => y == x
    | _ => false) ∘ fun k => factOf k (saidB B k)) = (keysOfB B).filter fun k => decide (k.1 = x) && !decide (k.2 = []) := by
    refine List.filter_congr fun k _ => ?_
    show (match factOf k (saidB B k) with | .part y _ _ => y == x | _ => false) = _
    unfold factOf
    by_cases c : k.2 = []
    · rw [if_pos c, decide_eq_true c]
      by_cases q : saidB B k = -1
      · rw [if_pos q]; simp
      · rw [if_neg q]; simp
    · rw [if_neg c, decide_eq_false c]
      show (k.1 == x) = _
      by_cases q : k.1 = x
      · rw [decide_eq_true q]; simpa using q
      · rw [decide_eq_false q]; simpa using q
  rw [e]
  exact flat_congr fun k hk => factLine_of (h.vals (List.mem_filter.mp hk).1)
theorem users_F {B : Bk} (h : Good B) (kA : KnownA B) (kP : KnownP B) {x : Nm} (hx : x ∈ thingsB B) : above (F B) x = usersB B x := by
  rw [above_eq (by rw [heads_F]; exact things_nodup h.nd) (by rw [heads_F]; exact hx) (fun y => memB (standB (partsB B) y) x) fun y _ => by rw [memB_iff, stands_iff h.nd kA kP], heads_F]
  rfl
/-! ### things in an order in which they can be told -/
theorem find_map {α β : Type} (f : α → β) (p : β → Bool) : ∀ l : List α, (l.map f).find? p = (l.find? fun a => p (f a)).map f
  | [] => rfl
  | a :: l => by
    rw [List.map_cons, List.find?_cons, List.find?_cons]
    cases p (f a) with
    | true => rfl
    | false => exact find_map f p l
theorem parts_keys {B : Bk} (hn : (B.map (·.1)).Nodup) : (partsB B).map (·.1) = thingsB B := by
  have : ∀ (l : List Ky) (P : Pt), (∀ k ∈ l, k.2 = [] → k.1 ∉ P.map (·.1)) → l.Nodup → (l.foldl addP P).map (·.1) = P.map (·.1) ++ (l.filter fun k => decide (k.2 = [])).map (·.1) := by
    intro l
    induction l with
    | nil => intro P _ _; simp
    | cons k l ih =>
      intro P h hl
      rw [List.nodup_cons] at hl
      rw [List.foldl_cons, ih, addP_keys, List.filter_cons]
      · by_cases c : k.2 = []
        · rw [if_pos c, if_pos (decide_eq_true c)]
          unfold addS
          rw [if_neg (h k List.mem_cons_self c)]
          simp
        · rw [if_neg c, if_neg (by simpa using c)]
      · intro j hj cj
        rw [addP_keys]
        by_cases c : k.2 = []
        · rw [if_pos c, mem_addS]
          rintro (q | q)
          · exact h j (List.mem_cons_of_mem _ hj) cj q
          · exact hl.1 (by rw [show k = j from by rw [show k = (k.1, k.2) from rfl, show j = (j.1, j.2) from rfl, c, cj, q]]; exact hj)
        · rw [if_neg c]
          exact h j (List.mem_cons_of_mem _ hj) cj
      · exact hl.2
  have := this (keysOfB B) [] (fun k _ _ => by simp) (keys_nodup hn)
  simpa [partsB, thingsB] using this
theorem ready_F {B : Bk} (h : Good B) (kA : KnownA B) (told : List Nm) : ((heads (F B)).find? fun (y : Bytes) => !told.contains y && (within (F B) y).all fun (x : Bytes) => told.contains x) = (((partsB B).find? fun p => !memB told p.1 && p.2.all fun x => memB told x).map (·.1)) := by
  have hc : ∀ y : Nm, told.contains y = memB told y := fun y => by
    rw [Bool.eq_iff_iff, List.contains_iff_mem, memB_iff]
  rw [heads_F, ← parts_keys h.nd, find_map]
  congr 1
  have : ∀ (P : Pt), (∀ p ∈ P, p ∈ partsB B) → (P.find? fun a => !told.contains a.1 && (within (F B) a.1).all fun (x : Bytes) => told.contains x) = P.find? fun p => !memB told p.1 && p.2.all fun x => memB told x := by
    intro P
    induction P with
    | nil => exact fun _ => rfl
    | cons p P ih =>
      intro hP
      have hp := hP p List.mem_cons_self
      have e : within (F B) p.1 = p.2 := by
        rw [within_F, ← inP_parts h.nd kA]
        unfold inP
        rw [look_of_mem (parts_nodup B) (v := p.2) hp]
        rfl
      rw [List.find?_cons, List.find?_cons, ih fun q m => hP q (List.mem_cons_of_mem _ m), e, hc]
      have : (p.2.all fun (x : Bytes) => told.contains x) = p.2.all fun x => memB told x := by
        congr 1
        funext x
        exact hc x
      rw [this]
  exact this _ fun p m => m
/-- among names not yet told there is one whose parts are all told, if nothing stands in itself -/
theorem some_ready {B : Bk} (hn : (B.map (·.1)).Nodup) (kA : KnownA B) (kP : KnownP B) (hr : ∀ y ∈ thingsB B, y ∉ standB (partsB B) y) {told : List Nm} (ht : ∃ y ∈ thingsB B, y ∉ told) : ∃ p ∈ partsB B, p.1 ∉ told ∧ ∀ x ∈ p.2, x ∈ told := by
  by_cases hall : ∃ p ∈ partsB B, p.1 ∉ told ∧ ∀ x ∈ p.2, x ∈ told
  · exact hall
  exfalso
  -- from each name not told a step to another
  have step : ∀ y, y ∈ thingsB B → y ∉ told → ∃ z, EP (partsB B) y z ∧ z ∈ thingsB B ∧ z ∉ told := fun y hy hyt => by
    have hk := parts_mem.mpr (things_mem.mp hy)
    obtain ⟨ys, hys⟩ := Option.isSome_iff_exists.mp ((look_isSome (partsB B) y).mpr hk)
    have hm := look_mem0 hys
    by_cases c : ∀ x ∈ ys, x ∈ told
    · exact absurd ⟨(y, ys), hm, hyt, c⟩ hall
    · obtain ⟨z, hz⟩ := Classical.not_forall.mp c
      obtain ⟨hz1, hz2⟩ := Classical.not_imp.mp hz
      refine ⟨z, ?_, things_mem.mpr (parts_mem.mp (closed_parts kP _ hm z hz1)), hz2⟩
      unfold EP inP
      rw [hys]
      exact hz1
  obtain ⟨y0, hy0, ht0⟩ := ht
  have walk : ∀ n, ∃ c : List Nm, c.length = n + 1 ∧ (∀ z ∈ c, z ∈ thingsB B ∧ z ∉ told) ∧ c.Nodup ∧ ∃ a, c.head? = some a ∧ ∀ z ∈ c, z = a ∨ ∃ m, 1 ≤ m ∧ Pa (EP (partsB B)) m z a := by
    intro n
    induction n with
    | zero => exact ⟨[y0], rfl, fun z m => by rw [List.mem_singleton.mp m]; exact ⟨hy0, ht0⟩, by simp, y0, rfl, fun z m => .inl (List.mem_singleton.mp m)⟩
    | succ n ih =>
      obtain ⟨c, h1, h2, h3, a, h4, h5⟩ := ih
      have ham : a ∈ c := List.mem_of_mem_head? (by rw [h4]; rfl)
      obtain ⟨b, hb1, hb2, hb3⟩ := step a (h2 a ham).1 (h2 a ham).2
      have reach : ∀ z ∈ c, ∃ m, 1 ≤ m ∧ Pa (EP (partsB B)) m z b := fun z hz => by
        rcases h5 z hz with rfl | ⟨m, m1, m2⟩
        · exact ⟨1, Nat.le_refl _, b, hb1, rfl⟩
        · exact ⟨m + 1, by omega, m2.snoc hb1⟩
      have hbc : b ∉ c := fun hbc => by
        obtain ⟨m, m1, m2⟩ := reach b hbc
        have I := (stand_iff (closed_parts kP) (x := b) (y := b))
        have : b ∈ standB (partsB B) b := by
          have I : SeeI (partsB B) b 0 [] [b] := ⟨List.nodup_nil, (fun y m => by cases m), (fun y m => by cases m), (fun y m => by rw [List.mem_singleton.mp m]; rfl), (fun m y m1 m2 => by omega), (fun y h => .inl (by rw [show b = y from h]; exact List.mem_singleton.mpr rfl)), fun _ => Nat.zero_le _⟩
          exact (seeFrom_spec (closed_parts kP) ((partsB B).length + 2) 0 [] [b] I (fun _ => by simp)).1 m b m1 m2
        exact hr b hb2 this
      refine ⟨b :: c, by rw [List.length_cons, h1], fun z m => ?_, List.nodup_cons.mpr ⟨hbc, h3⟩, b, rfl, fun z m => ?_⟩
      · rcases List.mem_cons.mp m with rfl | m
        · exact ⟨hb2, hb3⟩
        · exact h2 z m
      · rcases List.mem_cons.mp m with rfl | m
        · exact .inl rfl
        · exact .inr (reach z m)
  obtain ⟨c, h1, h2, h3, -⟩ := walk (thingsB B).length
  have := nodup_le0 h3 fun z m => (h2 z m).1
  omega
theorem order_F {B : Bk} (h : Good B) (kA : KnownA B) (kP : KnownP B) (hr : ∀ y ∈ thingsB B, y ∉ standB (partsB B) y) : orderFrom (F B) (heads (F B)).length [] = toldB B := by
  have key : ∀ (n : Nat) (told : List Nm), told.Nodup → (∀ y ∈ told, y ∈ thingsB B) → told.length + n = (thingsB B).length → orderFrom (F B) n told = orderB (partsB B) n told := by
    intro n
    induction n with
    | zero => exact fun _ _ _ _ => rfl
    | succ n ih =>
      intro told hnd hsub hlen
      have hsome : ∃ y ∈ thingsB B, y ∉ told := by
        by_cases c : ∃ y ∈ thingsB B, y ∉ told
        · exact c
        · have : ∀ y ∈ thingsB B, y ∈ told := fun y hy => by
            by_cases d : y ∈ told
            · exact d
            · exact absurd ⟨y, hy, d⟩ c
          have := nodup_le0 (things_nodup h.nd) this
          omega
      obtain ⟨p, hp, hpt, hpx⟩ := some_ready h.nd kA kP hr hsome
      unfold orderFrom orderB readyB
      rw [ready_F h kA]
      cases q : (partsB B).find? fun p => !memB told p.1 && p.2.all fun x => memB told x with
      | none =>
        have := List.find?_eq_none.mp q p hp
        exfalso
        apply this
        rw [memB_false.mpr hpt, Bool.not_false, Bool.true_and, List.all_eq_true]
        exact fun x hx => memB_iff.mpr (hpx x hx)
      | some p2 =>
        have h2 := List.find?_some q
        rw [Bool.and_eq_true] at h2
        have hnot : p2.1 ∉ told := memB_false.mp (by simpa using h2.1)
        have hadd : addS told p2.1 = told ++ [p2.1] := if_neg hnot
        have hm : p2.1 ∈ thingsB B := things_mem.mpr (parts_mem.mp (List.mem_map_of_mem (f := (·.1)) (List.mem_of_find?_eq_some q)))
        simp only [Option.map_some]
        rw [hadd]
        refine ih (told ++ [p2.1]) ?_ ?_ ?_
        · rw [← hadd]
          exact addS_nodup hnd
        · intro y m
          rcases List.mem_append.mp m with m | m
          · exact hsub y m
          · rw [List.mem_singleton.mp m]
            exact hm
        · simp only [List.length_append, List.length_cons, List.length_nil]
          omega
  unfold toldB
  rw [heads_F, parts_len h.nd]
  exact key _ [] List.nodup_nil (fun y m => by cases m) (by simp)
end Fb
end
section
/-! A change as a text. -/
namespace Fb
open SctBook
theorem signed_of {s : Nat} {k : Ky} {n : Int} (v : Val k n) : signed s (factOf k n) = mSigned s k n := by
  unfold factOf mSigned
  by_cases c : k.2 = []
  · rw [if_pos c, if_pos c]
    rcases v.thing c with rfl | rfl
    · rw [if_pos rfl]
      unfold mThing signed
      simp [END]
    · rw [if_neg (by decide)]
      unfold mThing signed
      simp [END]
  · rw [if_neg c, if_neg c]
    unfold signed
    simp [END]
abbrev FB := Fact × Bool
def cLe (a b : FB) : Bool := !(keyBefore b.1.key a.1.key || (b.1.key == a.1.key && (b.2 && !a.2)))
theorem cLe_iff (a b : FB) : cLe a b = true ↔ keyBefore a.1.key b.1.key = true ∨ (a.1.key = b.1.key ∧ (b.2 = true → a.2 = true)) := by
  unfold cLe
  rw [Bool.not_eq_true', Bool.or_eq_false_iff]
  rcases keyBefore_tri a.1.key b.1.key with h | h | h
  · rw [keyBefore_asymm h]
    have : ¬ (b.1.key == a.1.key) = true := fun e => by
      have e : b.1.key = a.1.key := by simpa using e
      rw [e, keyBefore_irrefl] at h
      cases h
    simp only [Bool.not_eq_true] at this
    rw [this]
    simp [h]
  · rw [h, keyBefore_irrefl]
    cases a.2 <;> cases b.2 <;> simp
  · have h2 : keyBefore a.1.key b.1.key = false := keyBefore_asymm h
    have : ¬ a.1.key = b.1.key := fun e => by
      rw [e, keyBefore_irrefl] at h
      cases h
    rw [h, h2]
    simp [this]
theorem cLe_trans (a b c : FB) (h1 : cLe a b = true) (h2 : cLe b c = true) : cLe a c = true := by
  rw [cLe_iff] at *
  rcases h1 with h1 | ⟨e1, h1⟩ <;> rcases h2 with h2 | ⟨e2, h2⟩
  · exact .inl (keyBefore_trans h1 h2)
  · exact .inl (by rw [← e2]; exact h1)
  · exact .inl (by rw [e1]; exact h2)
  · exact .inr ⟨e1.trans e2, fun h => h1 (h2 h)⟩
theorem cLe_total (a b : FB) : (cLe a b || cLe b a) = true := by
  rw [Bool.or_eq_true, cLe_iff, cLe_iff]
  rcases keyBefore_tri a.1.key b.1.key with h | h | h
  · exact .inl (.inl h)
  · cases q : a.2 with
    | true => exact .inl (.inr ⟨h, fun _ => rfl⟩)
    | false => exact .inr (.inr ⟨h.symm, fun e => by cases e⟩)
  · exact .inr (.inl h)
def cLt (a b : FB) : Prop := keyBefore a.1.key b.1.key = true ∨ (a.1.key = b.1.key ∧ a.2 = true ∧ b.2 = false)
theorem cLt_le {a b : FB} (h : cLt a b) : cLe a b = true := by
  rw [cLe_iff]
  rcases h with h | ⟨h1, h2, h3⟩
  · exact .inl h
  · exact .inr ⟨h1, fun _ => h2⟩
def one (b : Bool) (D : Bk) (k : Ky) : List FB := match lookG D k with
  | some n => [(factOf k n, b)]
  | none => []
theorem mem_one {b : Bool} {D : Bk} {k : Ky} {x : FB} : x ∈ one b D k ↔ ∃ n, lookG D k = some n ∧ x = (factOf k n, b) := by
  unfold one
  cases lookG D k with
  | none => simp
  | some n => simp
theorem subjects_strict (Bs : List Bk) : (subjectsB Bs).Pairwise fun a b => keyBefore a b = true := by
  have nd : ∀ (Bs : List Bk) (s : List Ky), s.Nodup → (Bs.foldl addKeys s).Nodup := by
    intro Bs
    induction Bs with
    | nil => exact fun s h => h
    | cons B Bs ih =>
      intro s h
      refine ih _ ?_
      have : ∀ (B : Bk) (s : List Ky), s.Nodup → (addKeys s B).Nodup := by
        intro B
        induction B with
        | nil => exact fun s h => h
        | cons b B ih => exact fun s h => ih _ (addS_nodup h)
      exact this B s h
  have := sorted_strict (fun k : Ky => k) (Bs.foldl addKeys []) (by rw [List.map_id']; exact nd Bs [] List.nodup_nil)
  exact this
theorem changeText_eq {c : Chg} {g m : List Fact} (hg : g.Perm (U c.going)) (hm : m.Perm (U c.coming)) (h1 : Good c.going) (h2 : Good c.coming) : changeText ⟨g, m⟩ = mChangeText c := by
  let R : List FB := (subjectsB [c.going, c.coming]).flatMap fun k => one true c.going k ++ one false c.coming k
  have sortedR : R.Pairwise cLt := by
    rw [List.pairwise_flatMap]
    refine ⟨fun k _ => ?_, (subjects_strict _).imp fun {a b} h x hx y hy => ?_⟩
    · rw [List.pairwise_append]
      refine ⟨?_, ?_, fun x hx y hy => ?_⟩
      · unfold one
        cases lookG c.going k <;> simp
      · unfold one
        cases lookG c.coming k <;> simp
      · obtain ⟨n, _, rfl⟩ := mem_one.mp hx
        obtain ⟨n', _, rfl⟩ := mem_one.mp hy
        exact .inr ⟨by rw [factOf_key, factOf_key], rfl, rfl⟩
    · have kx : x.1.key = a := by
        rcases List.mem_append.mp hx with hx | hx <;>
        · obtain ⟨n, _, rfl⟩ := mem_one.mp hx
          exact factOf_key _ _
      have ky : y.1.key = b := by
        rcases List.mem_append.mp hy with hy | hy <;>
        · obtain ⟨n, _, rfl⟩ := mem_one.mp hy
          exact factOf_key _ _
      exact .inl (by rw [kx, ky]; exact h)
  have memU : ∀ {D : Bk}, Good D → ∀ f, f ∈ U D ↔ ∃ k n, lookG D k = some n ∧ f = factOf k n := fun {D} hD f => by
    unfold U
    rw [List.mem_map]
    constructor
    · rintro ⟨b, hb, rfl⟩
      exact ⟨b.1, b.2, look_of_mem hD.nd hb, rfl⟩
    · rintro ⟨k, n, h, rfl⟩
      exact ⟨(k, n), look_mem0 h, rfl⟩
  have permR : ((g.map fun (f : Fact) => (f, true)) ++ m.map fun (f : Fact) => (f, false)).Perm R := by
    have ndU : ∀ {D : Bk}, Good D → (U D).Nodup := fun {D} hD => by
      have := hD.nd
      rw [← U_keys] at this
      have go : ∀ l : List Fact, (l.map Fact.key).Nodup → l.Nodup := by
        intro l
        induction l with
        | nil => exact fun _ => List.nodup_nil
        | cons f l ih =>
          intro h
          rw [List.map_cons, List.nodup_cons] at h
          exact List.nodup_cons.mpr ⟨fun q => h.1 (List.mem_map_of_mem q), ih h.2⟩
      exact go _ this
    have ndl : ∀ (b : Bool) (l : List Fact), l.Nodup → (l.map fun (f : Fact) => (f, b)).Nodup := by
      intro b l
      induction l with
      | nil => exact fun _ => List.nodup_nil
      | cons f l ih =>
        intro h
        rw [List.nodup_cons] at h
        rw [List.map_cons, List.nodup_cons]
        refine ⟨fun q => ?_, ih h.2⟩
        obtain ⟨f', hf', e⟩ := List.mem_map.mp q
        injection e with e
        exact h.1 (e ▸ hf')
    have n1 : ((g.map fun (f : Fact) => (f, true)) ++ m.map fun (f : Fact) => (f, false)).Nodup := by
      refine List.nodup_append.mpr ⟨ndl _ _ (hg.nodup_iff.mpr (ndU h1)), ndl _ _ (hm.nodup_iff.mpr (ndU h2)), fun a ha b hb => ?_⟩
      obtain ⟨f, _, rfl⟩ := List.mem_map.mp ha
      obtain ⟨f', _, rfl⟩ := List.mem_map.mp hb
      intro e
      injection e with _ e
      cases e
    have n2 : R.Nodup := by
      rw [List.nodup_iff_pairwise_ne]
      refine sortedR.imp fun {a b} h e => ?_
      subst e
      rcases h with h | ⟨_, q1, q2⟩
      · rw [keyBefore_irrefl] at h
        cases h
      · rw [q1] at q2
        cases q2
    rw [List.perm_ext_iff_of_nodup n1 n2]
    intro x
    rw [List.mem_append, List.mem_map, List.mem_map, List.mem_flatMap]
    constructor
    · rintro (⟨f, hf, rfl⟩ | ⟨f, hf, rfl⟩)
      · obtain ⟨k, n, hk, rfl⟩ := (memU h1 f).mp (hg.mem_iff.mp hf)
        exact ⟨k, subjects_mem.mpr ⟨c.going, by simp, List.mem_map_of_mem (f := (·.1)) (look_mem0 hk)⟩, List.mem_append_left _ (mem_one.mpr ⟨n, hk, rfl⟩)⟩
      · obtain ⟨k, n, hk, rfl⟩ := (memU h2 f).mp (hm.mem_iff.mp hf)
        exact ⟨k, subjects_mem.mpr ⟨c.coming, by simp, List.mem_map_of_mem (f := (·.1)) (look_mem0 hk)⟩, List.mem_append_right _ (mem_one.mpr ⟨n, hk, rfl⟩)⟩
    · rintro ⟨k, _, hx⟩
      rcases List.mem_append.mp hx with hx | hx
      · obtain ⟨n, hk, rfl⟩ := mem_one.mp hx
        exact .inl ⟨_, hg.mem_iff.mpr ((memU h1 _).mpr ⟨k, n, hk, rfl⟩), rfl⟩
      · obtain ⟨n, hk, rfl⟩ := mem_one.mp hx
        exact .inr ⟨_, hm.mem_iff.mpr ((memU h2 _).mpr ⟨k, n, hk, rfl⟩), rfl⟩
  have hsort : (((g.map fun (f : Fact) => (f, true)) ++ m.map fun (f : Fact) => (f, false)).mergeSort cLe) = R := by
    have hs := List.pairwise_mergeSort (le := cLe) cLe_trans cLe_total ((g.map fun (f : Fact) => (f, true)) ++ m.map fun (f : Fact) => (f, false))
    have hp := (List.mergeSort_perm ((g.map fun (f : Fact) => (f, true)) ++ m.map fun (f : Fact) => (f, false)) cLe).trans permR
    have hR : R.Pairwise fun a b => cLe a b = true := sortedR.imp fun h => cLt_le h
    refine hp.eq_of_pairwise (le := fun a b => cLe a b = true) (fun a b ha hb p q => ?_) hs hR
    have ha' := hp.mem_iff.mp ha
    have same : a.1.key = b.1.key ∧ a.2 = b.2 := by
      rw [cLe_iff] at p q
      rcases p with p | ⟨e, p⟩
      · rcases q with q | ⟨e, _⟩
        · rw [keyBefore_asymm p] at q
          cases q
        · rw [e, keyBefore_irrefl] at p
          cases p
      · rcases q with q | ⟨_, q⟩
        · rw [e, keyBefore_irrefl] at q
          cases q
        · refine ⟨e, ?_⟩
          cases x : a.2 <;> cases y : b.2 <;> simp_all
    obtain ⟨k, _, hx⟩ := List.mem_flatMap.mp ha'
    obtain ⟨k', _, hy⟩ := List.mem_flatMap.mp hb
    rcases List.mem_append.mp hx with hx | hx <;> rcases List.mem_append.mp hy with hy | hy <;>
    · obtain ⟨n, e1, rfl⟩ := mem_one.mp hx
      obtain ⟨n', e2, rfl⟩ := mem_one.mp hy
      obtain ⟨s1, s2⟩ := same
      simp only [factOf_key] at s1 s2
      first
        | (subst s1; rw [e1] at e2; cases e2; rfl)
        | cases s2
  unfold changeText
  show (((g.map fun (f : Fact) => (f, true)) ++ m.map fun (f : Fact) => (f, false)).mergeSort cLe).flatMap (fun (x : Fact × Bool) => signed (if x.2 = true then 45 else 43) x.1) = _
  rw [hsort]
  unfold mChangeText
  rw [List.flatMap_assoc]
  refine flat_congr fun k _ => ?_
  rw [List.flatMap_append]
  congr 1
  · cases e : lookG c.going k with
    | none =>
      rw [chunk_none e]
      unfold one
      rw [e]
      rfl
    | some n =>
      rw [chunk_some e]
      unfold one
      rw [e]
      simp only [List.flatMap_cons, List.flatMap_nil, List.append_nil]
      exact signed_of (h1.val _ (look_mem0 e))
  · cases e : lookG c.coming k with
    | none =>
      rw [chunk_none e]
      unfold one
      rw [e]
      rfl
    | some n =>
      rw [chunk_some e]
      unfold one
      rw [e]
      simp only [List.flatMap_cons, List.flatMap_nil, List.append_nil]
      exact signed_of (h2.val _ (look_mem0 e))
end Fb
end
section
/-! Calls that compare books and change them. -/
namespace Fb
open SctBook
theorem val_ne {k : Ky} {n : Int} (v : Val k n) : n ≠ 0 := by
  by_cases c : k.2 = []
  · have := v.thing c
    omega
  · have := v.part c
    omega
theorem mem_F_iff {C : Bk} (hC : Good C) {k : Ky} {n : Int} (v : Val k n) : factOf k n ∈ F C ↔ saidB C k = n := by
  rw [F_mem hC.nd]
  constructor
  · rintro ⟨c, hc, e⟩
    obtain ⟨e1, e2⟩ := factOf_inj e (hC.val c hc) v
    rw [← e1, said_of_mem hC.nd hc, e2]
  · intro h
    exact ⟨(k, n), said_mem h (val_ne v), rfl⟩
theorem nodup_full {κ : Type} [DecidableEq κ] {s r : List κ} (h : s.Nodup) (f : ∀ x ∈ s, x ∈ r) (hl : r.length ≤ s.length) : ∀ x ∈ r, x ∈ s := fun x hx => by
  by_cases c : x ∈ s
  · exact c
  · have := nodup_le0 (s := x :: s) (r := r) (List.nodup_cons.mpr ⟨c, h⟩) fun y m => by
      rcases List.mem_cons.mp m with rfl | m
      · exact hx
      · exact f y m
    simp only [List.length_cons] at this
    omega
theorem same_F {B C : Bk} (hB : Good B) (hC : Good C) : (F B == F C) = mSame B C := by
  rw [Bool.eq_iff_iff]
  unfold mSame
  rw [beq_iff_eq, Bool.and_eq_true, beq_iff_eq, List.all_eq_true]
  constructor
  · intro h
    refine ⟨by rw [← F_length B, ← F_length C, h], fun b hb => decide_eq_true ?_⟩
    have h1 : factOf b.1 b.2 ∈ F C := by rw [← h]; exact (F_mem hB.nd).mpr ⟨b, hb, rfl⟩
    have h2 := (mem_F_iff hC (hB.val b hb)).mp h1
    exact look_of_mem hC.nd (said_mem h2 (val_ne (hB.val b hb)))
  · rintro ⟨h1, h2⟩
    have sub : ∀ b ∈ B, b ∈ C := fun b hb => look_mem0 (of_decide_eq_true (h2 b hb))
    have nd : ∀ {D : Bk}, (D.map (·.1)).Nodup → D.Nodup := by
      intro D
      induction D with
      | nil => exact fun _ => List.nodup_nil
      | cons d D ih =>
        intro h
        rw [List.map_cons, List.nodup_cons] at h
        exact List.nodup_cons.mpr ⟨fun q => h.1 (List.mem_map_of_mem q), ih h.2⟩
    have full := nodup_full (nd hB.nd) sub (by omega)
    exact F_ext hB.nd hC.nd ((List.perm_ext_iff_of_nodup (nd hB.nd) (nd hC.nd)).mpr fun b => ⟨sub b, full b⟩)
theorem U_filter (D : Bk) (p : Fact → Bool) : (U D).filter p = U (D.filter fun b => p (factOf b.1 b.2)) := by
  unfold U
  rw [List.filter_map]
  rfl
theorem good_filter {B : Bk} (h : Good B) (p : Ky × Int → Bool) : Good (B.filter p) := ⟨filter_nd p h.nd, fun b m => h.val b (List.mem_filter.mp m).1⟩
theorem diff_F {B C : Bk} (hB : Good B) (hC : Good C) : changeText (diff (F B) (F C)) = mChangeText (mDiff B C) := by
  have one : ∀ {B C : Bk}, Good B → Good C → ((F B).filter fun (f : Fact) => !(F C).contains f).Perm (U (B.filter fun b => decide (saidB C b.1 ≠ b.2))) := fun {B C} hB hC => by
    have h1 := (F_perm hB.nd).filter fun (f : Fact) => !(F C).contains f
    rw [U_filter] at h1
    have e : (B.filter fun b => !(F C).contains (factOf b.1 b.2)) = B.filter fun b => decide (saidB C b.1 ≠ b.2) := by
      refine List.filter_congr fun b hb => ?_
      have := mem_F_iff hC (hB.val b hb)
      by_cases c : saidB C b.1 = b.2
      · rw [List.contains_iff_mem.mpr (this.mpr c)]
        simp [c]
      · have h2 : ¬ (F C).contains (factOf b.1 b.2) = true := fun h => c (this.mp (List.contains_iff_mem.mp h))
        simp only [Bool.not_eq_true] at h2
        rw [h2]
        simp [c]
    rw [e] at h1
    exact h1
  exact changeText_eq (c := mDiff B C) (one hB hC) (one hC hB) (good_filter hB _) (good_filter hC _)
/-! ### the lines of a change -/
theorem mChangeLine_val {T : List Nat} {p : Nat} {r : Nat × Cl} (h : mChangeLine T p = .ok r) : Val r.2.key r.2.told := by
  unfold mChangeLine at h
  split at h
  · cases h
  split at h
  · cases h
  rename_i z e1
  split at h
  · split at h
    · cases h
    rename_i s e2
    split at h
    · cases h
    cases h
    refine ⟨fun _ => ?_, fun c => absurd rfl c, cut_ne e2⟩
    simp only []
    split
    · exact .inl rfl
    · exact .inr rfl
  · split at h
    · cases h
    split at h
    · cases h
    rename_i e3
    split at h
    · cases h
    split at h
    · cases h
    rename_i e5
    split at h
    · cases h
    cases h
    exact ⟨fun c => absurd c (cut_ne e3), fun _ => mAmount_pos e5, cut_ne e1⟩
theorem mChangeLines_val {T : List Nat} : ∀ (f p : Nat) (ls : List Cl), mChangeLines T f p = .ok ls → ∀ l ∈ ls, Val l.key l.told
  | 0, p, ls, h, l, m => by
    cases h
    cases m
  | f + 1, p, ls, h, l, m => by
    unfold mChangeLines at h
    split at h
    · split at h
      · cases h
      rename_i r e
      split at h
      · cases h
      rename_i ls' e'
      cases h
      rcases List.mem_cons.mp m with rfl | m
      · exact mChangeLine_val e
      · exact mChangeLines_val f _ _ e' l m
    · cases h
      cases m
theorem changeOf_eq {ls : List Cl} (hn : (ls.map fun m => (m.comes, m.key)).Nodup) : mChangeOf ls = ⟨(ls.filter fun l => !l.comes).map fun l => (l.key, l.told), (ls.filter fun l => l.comes).map fun l => (l.key, l.told)⟩ := by
  have go : ∀ (ls : List Cl) (c : Chg), (((c.coming.map fun b => (true, b.1)) ++ (c.going.map fun b => (false, b.1))) ++ ls.map fun m => (m.comes, m.key)).Nodup →
      ls.foldl stepC c = ⟨c.going ++ (ls.filter fun l => !l.comes).map fun l => (l.key, l.told), c.coming ++ (ls.filter fun l => l.comes).map fun l => (l.key, l.told)⟩ := by
    intro ls
    induction ls with
    | nil => intro c _; simp
    | cons l ls ih =>
      intro c h
      have hl : (l.comes, l.key) ∉ (c.coming.map fun b => (true, b.1)) ++ (c.going.map fun b => (false, b.1)) := fun m =>
        (List.nodup_append.mp h).2.2 _ m _ (by rw [List.map_cons]; exact List.mem_cons_self) rfl
      rw [List.foldl_cons]
      cases q : l.comes with
      | true =>
        have hk : l.key ∉ c.coming.map (·.1) := fun m => by
          obtain ⟨b, hb, e⟩ := List.mem_map.mp m
          exact hl (List.mem_append_left _ (List.mem_map.mpr ⟨b, hb, by rw [q, e]⟩))
        have e1 : stepC c l = ⟨c.going, c.coming ++ [(l.key, l.told)]⟩ := by
          unfold stepC
          rw [if_pos q, putG_app hk]
        rw [e1, ih]
        · rw [List.filter_cons_of_neg (by rw [q]; decide), List.filter_cons_of_pos q]
          simp
        · simp only [List.map_append, List.map_cons, List.map_nil]
          rw [List.map_cons, q] at h
          refine (List.Perm.nodup_iff ?_).mp h
          simp only [List.append_assoc]
          refine List.Perm.append_left _ ?_
          rw [← List.append_assoc]
          refine (List.perm_middle).trans ?_
          simp
      | false =>
        have hk : l.key ∉ c.going.map (·.1) := fun m => by
          obtain ⟨b, hb, e⟩ := List.mem_map.mp m
          exact hl (List.mem_append_right _ (List.mem_map.mpr ⟨b, hb, by rw [q, e]⟩))
        have e1 : stepC c l = ⟨c.going ++ [(l.key, l.told)], c.coming⟩ := by
          unfold stepC
          rw [if_neg (by rw [q]; decide), putG_app hk]
        rw [e1, ih]
        · rw [List.filter_cons_of_pos (by rw [q]; rfl), List.filter_cons_of_neg (by rw [q]; decide)]
          simp
        · simp only [List.map_append, List.map_cons, List.map_nil]
          rw [List.map_cons, q] at h
          simpa using h
  rw [mChangeOf_eq, go ls ⟨[], []⟩ (by simpa using hn)]
  simp
theorem good_lines {ls : List Cl} (hn : (ls.map fun m => (m.comes, m.key)).Nodup) (hv : ∀ l ∈ ls, Val l.key l.told) : Good (mChangeOf ls).going ∧ Good (mChangeOf ls).coming := by
  rw [changeOf_eq hn]
  have go : ∀ (b : Bool) (f : Cl → Bool), (∀ l, f l = true → l.comes = b) → Good ((ls.filter f).map fun l => (l.key, l.told)) := fun b f hf => by
    refine ⟨?_, fun x hx => ?_⟩
    · rw [List.map_map]
      have h1 : ((ls.filter f).map fun m => (m.comes, m.key)).Nodup := hn.sublist (List.filter_sublist.map _)
      have h2 : ∀ l : List Cl, (∀ m ∈ l, m.comes = b) → (l.map fun m => (m.comes, m.key)).Nodup → (l.map ((·.1) ∘ fun l => (l.key, l.told))).Nodup := by
        intro l
        induction l with
        | nil => exact fun _ _ => List.nodup_nil
        | cons a l ih =>
          intro ha h
          rw [List.map_cons, List.nodup_cons] at h ⊢
          refine ⟨fun q => h.1 ?_, ih (fun m hm => ha m (List.mem_cons_of_mem _ hm)) h.2⟩
          obtain ⟨m, hm, e⟩ := List.mem_map.mp q
          have e : m.key = a.key := e
          exact List.mem_map.mpr ⟨m, hm, by rw [e, ha m (List.mem_cons_of_mem _ hm), ha a List.mem_cons_self]⟩
      exact h2 _ (fun m hm => hf m (List.mem_filter.mp hm).2) h1
    · obtain ⟨l, hl, rfl⟩ := List.mem_map.mp hx
      exact hv l (List.mem_filter.mp hl).1
  exact ⟨go false _ fun l h => by simpa using h, go true _ fun l h => h⟩
theorem changeOf_F {ls : List Cl} (hn : (ls.map fun m => (m.comes, m.key)).Nodup) : changeOf (ls.map cf) = ⟨U (mChangeOf ls).going, U (mChangeOf ls).coming⟩ := by
  rw [changeOf_eq hn]
  unfold changeOf U
  simp only []
  rw [List.filter_map, List.filter_map, List.map_map, List.map_map, List.map_map, List.map_map]
  congr 1
  have : ((fun (x : Fact × Bool × Nat) => !x.2.1) ∘ cf) = fun l => l.comes := by
    funext l
    show (!!l.comes) = l.comes
    cases l.comes <;> rfl
  rw [this]
  rfl
theorem invert_F {ls : List Cl} (hn : (ls.map fun m => (m.comes, m.key)).Nodup) (hv : ∀ l ∈ ls, Val l.key l.told) : changeText ⟨(changeOf (ls.map cf)).come, (changeOf (ls.map cf)).gone⟩ = mChangeText ⟨(mChangeOf ls).coming, (mChangeOf ls).going⟩ := by
  rw [changeOf_F hn]
  obtain ⟨g1, g2⟩ := good_lines hn hv
  exact changeText_eq (c := ⟨(mChangeOf ls).coming, (mChangeOf ls).going⟩) (List.Perm.refl _) (List.Perm.refl _) g2 g1
end Fb
end
section
/-! A change applied; a thing dropped. -/
namespace Fb
open SctBook
theorem mem_U_iff {D : Bk} (hD : Good D) {k : Ky} {n : Int} (v : Val k n) : factOf k n ∈ U D ↔ saidB D k = n := by
  rw [← (F_perm hD.nd).mem_iff]
  exact mem_F_iff hD v
theorem find_congr {α : Type} {p q : α → Bool} : ∀ {l : List α}, (∀ x ∈ l, p x = q x) → l.find? p = l.find? q
  | [], _ => rfl
  | x :: l, h => by
    rw [List.find?_cons, List.find?_cons, h x List.mem_cons_self, find_congr fun y m => h y (List.mem_cons_of_mem _ m)]
theorem unfit_F {B : Bk} {ls : List Cl} (hB : Good B) (hn : (ls.map fun m => (m.comes, m.key)).Nodup) (hv : ∀ l ∈ ls, Val l.key l.told) :
    (mUnfit B (mChangeOf ls) ls = -1 ∧ doesnt (F B) (ls.map cf) = none ∧ ∀ l ∈ ls, fitsB B (mChangeOf ls) l = true) ∨ ∃ p : Nat, mUnfit B (mChangeOf ls) ls = (p : Int) ∧ doesnt (F B) (ls.map cf) = some p := by
  obtain ⟨g1, g2⟩ := good_lines hn hv
  have hp : ∀ l ∈ ls, (if (cf l).2.1 = true then !(F B).contains (cf l).1 else (F B).any fun (f : Fact) => f.key == (cf l).1.key && !(changeOf (ls.map cf)).gone.contains f) = !fitsB B (mChangeOf ls) l := fun l hl => by
    have v := hv l hl
    rw [changeOf_F hn]
    generalize hgo : U (mChangeOf ls).going = go at *
    unfold cf fitsB
    simp only []
    cases q : l.comes with
    | false =>
      rw [if_pos (by rfl), if_neg (by decide)]
      have := mem_F_iff hB v
      by_cases c : saidB B l.key = l.told
      · rw [List.contains_iff_mem.mpr (this.mpr c), decide_eq_true c]
      · have h2 : ¬ (F B).contains (factOf l.key l.told) = true := fun h => c (this.mp (List.contains_iff_mem.mp h))
        simp only [Bool.not_eq_true] at h2
        rw [h2, decide_eq_false c]
    | true =>
      rw [if_neg (by decide), if_pos rfl]
      subst hgo
      rw [Bool.eq_iff_iff, List.any_eq_true]
      simp only [factOf_key]
      constructor
      · rintro ⟨f, hf, e⟩
        obtain ⟨b, hb, rfl⟩ := (F_mem hB.nd).mp hf
        rw [Bool.and_eq_true] at e
        have e1 : b.1 = l.key := by
          have := e.1
          rw [factOf_key] at this
          simpa using this
        have hs := said_of_mem hB.nd hb
        have e2 : ¬ factOf b.1 b.2 ∈ U (mChangeOf ls).going := fun h => by
          have := e.2
          rw [List.contains_iff_mem.mpr h] at this
          cases this
        rw [mem_U_iff g1 (hB.val b hb)] at e2
        have hne := val_ne (hB.val b hb)
        rw [e1] at hs e2
        rw [hs, decide_eq_false hne, decide_eq_false e2]
        rfl
      · intro h
        rw [Bool.not_eq_true', Bool.or_eq_false_iff] at h
        have h1 := of_decide_eq_false h.1
        have h2 := of_decide_eq_false h.2
        have hm := said_mem rfl h1
        have vb := hB.val _ hm
        refine ⟨factOf l.key (saidB B l.key), (F_mem hB.nd).mpr ⟨_, hm, rfl⟩, ?_⟩
        rw [factOf_key, Bool.and_eq_true]
        refine ⟨by simp, ?_⟩
        have : ¬ factOf l.key (saidB B l.key) ∈ U (mChangeOf ls).going := fun h => h2 ((mem_U_iff g1 vb).mp h)
        simpa using this
  have hd : doesnt (F B) (ls.map cf) = (ls.find? fun l => !fitsB B (mChangeOf ls) l).map fun l => l.place := by
    unfold doesnt
    simp only []
    rw [find_map, Option.map_map, find_congr (q := fun l => !fitsB B (mChangeOf ls) l) hp]
    rfl
  rw [hd]
  unfold mUnfit
  cases e : ls.find? fun l => !fitsB B (mChangeOf ls) l with
  | none =>
    refine .inl ⟨rfl, rfl, fun l hl => ?_⟩
    have := List.find?_eq_none.mp e l hl
    simpa using this
  | some l => exact .inr ⟨l.place, rfl, rfl⟩
theorem putAll_app : ∀ (l M : Bk), ((M ++ l).map (·.1)).Nodup → putAll M l = M ++ l
  | [], M, _ => by simp [putAll]
  | b :: l, M, h => by
    show putAll (putG M b.1 b.2) l = _
    have hk : b.1 ∉ M.map (·.1) := fun m => by
      rw [List.map_append, List.map_cons] at h
      exact (List.nodup_append.mp h).2.2 _ m _ List.mem_cons_self rfl
    rw [putG_app hk, putAll_app l _ (by simpa using h)]
    simp
theorem applied_F {B : Bk} {ls : List Cl} (hB : Good B) (hn : (ls.map fun m => (m.comes, m.key)).Nodup) (hv : ∀ l ∈ ls, Val l.key l.told) (hf : ∀ l ∈ ls, fitsB B (mChangeOf ls) l = true) :
    applied (F B) (changeOf (ls.map cf)) = F (mMade B (mChangeOf ls)) ∧ Good (mMade B (mChangeOf ls)) := by
  obtain ⟨g1, g2⟩ := good_lines hn hv
  have hgo : ∀ b ∈ (mChangeOf ls).going, saidB B b.1 = b.2 := fun b hb => by
    rw [changeOf_eq hn] at hb
    obtain ⟨l, hl, rfl⟩ := List.mem_map.mp hb
    obtain ⟨h1, h2⟩ := List.mem_filter.mp hl
    have := hf l h1
    unfold fitsB at this
    rw [if_neg (by simpa using h2)] at this
    exact of_decide_eq_true this
  have hco : ∀ b ∈ (mChangeOf ls).coming, saidB B b.1 = 0 ∨ saidB (mChangeOf ls).going b.1 = saidB B b.1 := fun b hb => by
    have hb' := hb
    rw [changeOf_eq hn] at hb'
    obtain ⟨l, hl, e⟩ := List.mem_map.mp hb'
    obtain ⟨h1, h2⟩ := List.mem_filter.mp hl
    have := hf l h1
    unfold fitsB at this
    rw [if_pos h2, Bool.or_eq_true] at this
    rw [← e]
    rcases this with h | h
    · exact .inl (of_decide_eq_true h)
    · exact .inr (of_decide_eq_true h)
  have hfil : (B.filter fun b => !(U (mChangeOf ls).going).contains (factOf b.1 b.2)) = B.filter fun b => !(lookG (mChangeOf ls).going b.1).isSome := by
    refine List.filter_congr fun b hb => ?_
    congr 1
    rw [Bool.eq_iff_iff, List.contains_iff_mem, mem_U_iff g1 (hB.val b hb)]
    have hs := said_of_mem hB.nd hb
    constructor
    · intro h
      exact (look_isSome _ _).mpr (List.mem_map_of_mem (f := (·.1)) (said_mem h (val_ne (hB.val b hb))))
    · intro h
      obtain ⟨n, hn2⟩ := Option.isSome_iff_exists.mp h
      have h1 : saidB B b.1 = n := hgo _ (look_mem0 hn2)
      unfold saidB
      rw [hn2]
      show n = b.2
      rw [← h1]
      exact hs
  have hdis : ((B.filter fun b => !(lookG (mChangeOf ls).going b.1).isSome) ++ (mChangeOf ls).coming).map (·.1) |>.Nodup := by
    rw [List.map_append]
    refine List.nodup_append.mpr ⟨filter_nd _ hB.nd, g2.nd, fun x hx y hy e => ?_⟩
    subst e
    obtain ⟨b, hb, rfl⟩ := List.mem_map.mp hx
    obtain ⟨c, hc, e⟩ := List.mem_map.mp hy
    obtain ⟨hb1, hb2⟩ := List.mem_filter.mp hb
    have hs := said_of_mem hB.nd hb1
    have hne := val_ne (hB.val b hb1)
    rcases hco c hc with h | h
    · rw [e, hs] at h
      exact hne h
    · rw [e, hs] at h
      have : (lookG (mChangeOf ls).going b.1).isSome = true := (look_isSome _ _).mpr (List.mem_map_of_mem (f := (·.1)) (said_mem h hne))
      rw [this] at hb2
      cases hb2
  have hmade : mMade B (mChangeOf ls) = (B.filter fun b => !(lookG (mChangeOf ls).going b.1).isSome) ++ (mChangeOf ls).coming := putAll_app _ _ hdis
  have hgood : Good (mMade B (mChangeOf ls)) := by
    rw [hmade]
    refine ⟨hdis, fun b hb => ?_⟩
    rcases List.mem_append.mp hb with hb | hb
    · exact hB.val b (List.mem_filter.mp hb).1
    · exact g2.val b hb
  refine ⟨?_, hgood⟩
  unfold applied
  rw [changeOf_F hn]
  refine inOrder_F hgood.nd ?_
  rw [hmade]
  have h1 := (F_perm hB.nd).filter fun (f : Fact) => !(U (mChangeOf ls).going).contains f
  rw [U_filter, hfil] at h1
  have : U ((B.filter fun b => !(lookG (mChangeOf ls).going b.1).isSome) ++ (mChangeOf ls).coming) = U (B.filter fun b => !(lookG (mChangeOf ls).going b.1).isSome) ++ U (mChangeOf ls).coming := by
    unfold U
    rw [List.map_append]
  rw [this]
  exact h1.append_right _
/-! ### without a thing -/
theorem drop_F {B : Bk} (hB : Good B) {a : Nm} (ha : a ≠ []) : without (F B) a = F (dropB B a) ∧ Good (dropB B a) := by
  have hg : Good (dropB B a) := good_filter hB _
  refine ⟨?_, hg⟩
  have hp : ∀ k n, (match factOf k n with
      | .material x => x != a
      | .accord x => x != a
      | .part y x _ => y != a && x != a) = (decide (k.1 ≠ a) && decide (k.2 ≠ a)) := fun k n => by
    have e : ∀ x : Nm, (x != a) = decide (x ≠ a) := fun x => by
      by_cases c : x = a
      · subst c; simp
      · simp [c]
    unfold factOf
    by_cases c : k.2 = []
    · rw [if_pos c, c, decide_eq_true (Ne.symm ha), Bool.and_true]
      by_cases q : n = -1
      · rw [if_pos q]; exact e _
      · rw [if_neg q]; exact e _
    · rw [if_neg c]
      show (k.1 != a && k.2 != a) = _
      rw [e, e]
  have h1 : (without (F B) a).Perm (U (dropB B a)) := by
    have := (F_perm hB.nd).filter fun (f : Fact) => match f with
      | .material x => x != a
      | .accord x => x != a
      | .part y x _ => y != a && x != a
    rw [U_filter] at this
    have e : (B.filter fun b => match factOf b.1 b.2 with
      | .material x => x != a
      | .accord x => x != a
      | .part y x _ => y != a && x != a) = dropB B a := List.filter_congr fun b _ => hp b.1 b.2
    rw [e] at this
    exact this
  have h2 : (without (F B) a).Pairwise fun a b => keyBefore a.key b.key = true := (F_sorted hB.nd).sublist List.filter_sublist
  exact sorted_one Fact.key (h1.trans (F_perm hg.nd).symm) h2 (F_sorted hg.nd)
end Fb
end
section
/-! Two changes of one book. -/
namespace Fb
open SctBook
theorem dups_sub {α : Type} [BEq α] : ∀ (n : Nat) (l : List α), l.length ≤ n → l.eraseDups.Sublist l
  | _, [], _ => by simp
  | 0, a :: l, h => by simp at h
  | n + 1, a :: l, h => by
    rw [List.eraseDups_cons]
    have h1 : (l.filter fun b => !b == a).length ≤ n := Nat.le_trans (List.length_filter_le _ _) (by simp at h; omega)
    exact List.Sublist.cons₂ a ((dups_sub n _ h1).trans List.filter_sublist)
theorem dups_nodup {α : Type} [BEq α] [LawfulBEq α] : ∀ (n : Nat) (l : List α), l.length ≤ n → l.eraseDups.Nodup
  | _, [], _ => by simp
  | 0, a :: l, h => by simp at h
  | n + 1, a :: l, h => by
    rw [List.eraseDups_cons]
    have h1 : (l.filter fun b => !b == a).length ≤ n := Nat.le_trans (List.length_filter_le _ _) (by simp at h; omega)
    refine List.nodup_cons.mpr ⟨fun m => ?_, dups_nodup n _ h1⟩
    have := List.mem_eraseDups.mp m
    simp at this
theorem keys_eq {A B C : Bk} (hA : Good A) (hB : Good B) (hC : Good C) : keysOf [F A, F B, F C] = subjectsB [A, B, C] := by
  unfold keysOf
  have hs : ((inOrder [F A, F B, F C].flatten).map Fact.key).Pairwise fun a b => kLe a b = true := by
    rw [List.pairwise_map]
    exact List.pairwise_mergeSort (le := fun a b : Fact => kLe a.key b.key) (fun a b c => kLe_trans _ _ _) (fun a b => kLe_total _ _) _
  have hn := dups_nodup _ ((inOrder [F A, F B, F C].flatten).map Fact.key) (Nat.le_refl _)
  have hp := hs.sublist (dups_sub _ _ (Nat.le_refl _))
  have hst : (((inOrder [F A, F B, F C].flatten).map Fact.key).eraseDups).Pairwise fun a b => keyBefore a b = true :=
    (List.pairwise_and_iff.mpr ⟨hp, hn⟩).imp fun ⟨a, b⟩ => lt_of_kLe a b
  have hss := subjects_strict [A, B, C]
  have hsn : (subjectsB [A, B, C]).Nodup := hss.imp fun h e => by
    rw [e] at h
    have := keyBefore_asymm h
    rw [h] at this
    cases this
  refine sorted_one (fun k : Ky => k) ((List.perm_ext_iff_of_nodup hn hsn).mpr fun k => ?_) hst hss
  rw [List.mem_eraseDups, subjects_mem]
  have : ∀ D : Bk, k ∈ D.map (·.1) ↔ k ∈ (F D).map Fact.key := fun D => by rw [F_keys, keys_mem]
  have hq : k ∈ (inOrder [F A, F B, F C].flatten).map Fact.key ↔ k ∈ ([F A, F B, F C].flatten).map Fact.key := ((List.mergeSort_perm _ _).map _).mem_iff
  rw [hq]
  simp [this, List.mem_append]
def sy (k : Ky) (n : Int) : Option Fact := if n = 0 then none else some (factOf k n)
theorem says_F {A : Bk} (hA : Good A) (k : Ky) : saysOf (F A) k = sy k (saidB A k) := by
  unfold saysOf sy F
  rw [find_map]
  by_cases c : saidB A k = 0
  · rw [if_pos c]
    have : (keysOfB A).find? (fun a => (factOf a (saidB A a)).key == k) = none := by
      rw [List.find?_eq_none]
      intro x hx e
      rw [factOf_key] at e
      have e1 : x = k := by simpa using e
      have := val_ne (hA.vals hx)
      rw [e1] at this
      exact this c
    rw [this]
    rfl
  · rw [if_neg c]
    have hm : k ∈ keysOfB A := keys_mem.mpr (List.mem_map_of_mem (f := (·.1)) (said_mem rfl c))
    have : (keysOfB A).find? (fun a => (factOf a (saidB A a)).key == k) = some k := by
      have hsome : ((keysOfB A).find? (fun a => (factOf a (saidB A a)).key == k)).isSome = true := List.find?_isSome.mpr ⟨k, hm, by rw [factOf_key]; simp⟩
      obtain ⟨j, hj⟩ := Option.isSome_iff_exists.mp hsome
      have := List.find?_some hj
      rw [factOf_key] at this
      rw [hj, show j = k by simpa using this]
    rw [this]
    rfl
theorem said_val {A : Bk} (hA : Good A) {k : Ky} (h : saidB A k ≠ 0) : Val k (saidB A k) := hA.val _ (said_mem rfl h)
theorem sy_inj {A B : Bk} (hA : Good A) (hB : Good B) (k : Ky) : sy k (saidB A k) = sy k (saidB B k) ↔ saidB A k = saidB B k := by
  constructor
  · intro h
    unfold sy at h
    by_cases c : saidB A k = 0
    · rw [if_pos c] at h
      by_cases d : saidB B k = 0
      · rw [c, d]
      · rw [if_neg d] at h
        cases h
    · rw [if_neg c] at h
      by_cases d : saidB B k = 0
      · rw [if_pos d] at h
        cases h
      · rw [if_neg d] at h
        exact (factOf_inj (Option.some.inj h) (said_val hA c) (said_val hB d)).2
  · intro h
    rw [h]
theorem merged_F {A B C : Bk} (hA : Good A) (hB : Good B) (hC : Good C) (k : Ky) : merged (F A) (F B) (F C) k = if contraB A B C k = true then none else some (sy k (mergeSay A B C k)) := by
  unfold merged contraB mergeSay
  rw [says_F hA, says_F hB, says_F hC]
  by_cases c1 : saidB B k = saidB C k
  · rw [if_pos ((sy_inj hB hC k).mpr c1), decide_eq_false (by simpa using c1), Bool.false_and, if_neg (by decide)]
    by_cases c2 : saidB B k = saidB A k
    · rw [if_pos c2, c1]
    · rw [if_neg c2]
  · rw [if_neg (fun e => c1 ((sy_inj hB hC k).mp e)), decide_eq_true c1, Bool.true_and]
    by_cases c2 : saidB B k = saidB A k
    · rw [if_pos ((sy_inj hB hA k).mpr c2), if_pos c2, decide_eq_false (by simpa using c2), Bool.false_and, if_neg (by decide)]
    · rw [if_neg (fun e => c2 ((sy_inj hB hA k).mp e)), if_neg c2, decide_eq_true c2, Bool.true_and]
      by_cases c3 : saidB C k = saidB A k
      · rw [if_pos ((sy_inj hC hA k).mpr c3), decide_eq_false (by simpa using c3), if_neg (by decide)]
      · rw [if_neg (fun e => c3 ((sy_inj hC hA k).mp e)), decide_eq_true c3, if_pos rfl]
theorem contras_F {A B C : Bk} (hA : Good A) (hB : Good B) (hC : Good C) : ((keysOf [F A, F B, F C]).filter fun (x : Bytes × Bytes) => (merged (F A) (F B) (F C) x).isNone) = contrasB A B C := by
  rw [keys_eq hA hB hC]
  unfold contrasB
  refine List.filter_congr fun k _ => ?_
  rw [merged_F hA hB hC]
  by_cases c : contraB A B C k = true
  · rw [if_pos c, c]; rfl
  · rw [if_neg c]
    simp only [Bool.not_eq_true] at c
    rw [c]
    rfl
theorem subjects_text_F (l : List Ky) : l.flatMap keyLine = mSubjects l := by
  unfold mSubjects
  refine flat_congr fun k _ => ?_
  unfold keyLine
  by_cases c : k.2 = []
  · rw [if_pos c, if_pos c]; rfl
  · rw [if_neg c, if_neg c]; rfl
theorem mergeL_eq {A B C : Bk} : ∀ (l : List Ky) (M : Bk), (M.map (·.1) ++ l).Nodup → l.foldl (fun M k => if mergeSay A B C k ≠ 0 then putG M k (mergeSay A B C k) else M) M = M ++ (l.filter fun k => decide (mergeSay A B C k ≠ 0)).map fun k => (k, mergeSay A B C k)
  | [], M, _ => by simp
  | k :: l, M, h => by
    rw [List.foldl_cons]
    by_cases c : mergeSay A B C k ≠ 0
    · rw [if_pos c]
      have hk : k ∉ M.map (·.1) := fun m => (List.nodup_append.mp h).2.2 _ m _ List.mem_cons_self rfl
      rw [putG_app hk, mergeL_eq l _ (by simpa using h), List.filter_cons, if_pos (decide_eq_true c)]
      simp
    · rw [if_neg c, List.filter_cons, if_neg (by simpa using c)]
      refine mergeL_eq l M (h.sublist ?_)
      exact List.Sublist.append_left (List.sublist_cons_self k l) _
theorem merge_F {A B C : Bk} (hA : Good A) (hB : Good B) (hC : Good C) (h : contrasB A B C = []) :
    ((keysOf [F A, F B, F C]).filterMap fun (x : Bytes × Bytes) => (merged (F A) (F B) (F C) x).getD none) = F (mergeB A B C) ∧ Good (mergeB A B C) := by
  have hss := subjects_strict [A, B, C]
  have hsn : (subjectsB [A, B, C]).Nodup := hss.imp fun h e => by
    rw [e] at h
    have := keyBefore_asymm h
    rw [h] at this
    cases this
  have hm : mergeB A B C = ((subjectsB [A, B, C]).filter fun k => decide (mergeSay A B C k ≠ 0)).map fun k => (k, mergeSay A B C k) := mergeL_eq _ [] (by simpa using hsn)
  have hg : Good (mergeB A B C) := by
    rw [hm]
    refine ⟨?_, fun b hb => ?_⟩
    · rw [List.map_map]
      have : ((fun x : Ky × Int => x.1) ∘ fun k => (k, mergeSay A B C k)) = id := rfl
      rw [this, List.map_id]
      exact hsn.filter _
    · obtain ⟨k, hk, rfl⟩ := List.mem_map.mp hb
      have hne := of_decide_eq_true (List.mem_filter.mp hk).2
      simp only []
      unfold mergeSay at hne ⊢
      split at hne
      · rename_i c
        rw [if_pos c]
        exact said_val hC hne
      · rename_i c
        rw [if_neg c]
        exact said_val hB hne
  refine ⟨?_, hg⟩
  have hU : ((keysOf [F A, F B, F C]).filterMap fun (x : Bytes × Bytes) => (merged (F A) (F B) (F C) x).getD none) = U (mergeB A B C) := by
    rw [keys_eq hA hB hC, hm]
    have hno : ∀ k ∈ subjectsB [A, B, C], contraB A B C k = false := fun k hk => by
      cases e : contraB A B C k with
      | false => rfl
      | true =>
        have : k ∈ contrasB A B C := List.mem_filter.mpr ⟨hk, e⟩
        rw [h] at this
        cases this
    generalize subjectsB [A, B, C] = l at hno
    unfold U
    induction l with
    | nil => rfl
    | cons k l ih =>
      have ih := ih fun x m => hno x (List.mem_cons_of_mem _ m)
      rw [List.filterMap_cons, List.filter_cons, merged_F hA hB hC, hno k List.mem_cons_self, if_neg Bool.noConfusion]
      unfold sy
      by_cases c : mergeSay A B C k = 0
      · rw [if_pos c, if_neg (by simpa using c)]
        exact ih
      · rw [if_neg c, if_pos (by simpa using c)]
        show factOf k _ :: _ = _
        rw [ih]
        rfl
  rw [hU]
  refine sorted_one Fact.key (F_perm hg.nd).symm ?_ (F_sorted hg.nd)
  have hk : ((U (mergeB A B C)).map Fact.key).Pairwise fun a b => keyBefore a b = true := by
    rw [U_keys, hm, List.map_map]
    have : ((fun x : Ky × Int => x.1) ∘ fun k => (k, mergeSay A B C k)) = id := rfl
    rw [this, List.map_id]
    exact hss.sublist List.filter_sublist
  exact List.pairwise_map.mp hk
end Fb
end
section
/-! A thing's name changed. -/
namespace Fb
open SctBook
def gN (x z t : Nm) : Nm := if t = x then z else t
theorem gN_inj {x z s t : Nm} (hs : s ≠ z) (ht : t ≠ z) (h : gN x z s = gN x z t) : s = t := by
  unfold gN at h
  by_cases c : s = x
  · rw [if_pos c] at h
    by_cases d : t = x
    · rw [c, d]
    · rw [if_neg d] at h
      exact absurd h.symm ht
  · rw [if_neg c] at h
    by_cases d : t = x
    · rw [if_pos d] at h
      exact absurd h hs
    · rw [if_neg d] at h
      exact h
theorem renK_g (x z : Nm) (k : Ky) : renK x z k = (gN x z k.1, gN x z k.2) := rfl
theorem names_not {B : Bk} {z : Nm} (kA : KnownA B) (kP : KnownP B) (hz : z ≠ []) (h : hasB B z = false) {k : Ky} (hk : k ∈ B.map (·.1)) : k.1 ≠ z ∧ k.2 ≠ z := by
  have hno : (z, []) ∉ B.map (·.1) := fun m => by
    have := (look_isSome B (z, [])).mpr m
    unfold hasB at h
    rw [this] at h
    cases h
  by_cases c : k.2 = []
  · refine ⟨fun e => hno ?_, fun e => hz (e ▸ c)⟩
    rw [← e, ← c]
    exact hk
  · exact ⟨fun e => hno (e ▸ kA k hk c), fun e => hno (e ▸ kP k hk c)⟩
def reB (B : Bk) (x z : Nm) : Bk := B.map fun b => (renK x z b.1, b.2)
theorem reB_keys (B : Bk) (x z : Nm) : (reB B x z).map (·.1) = (B.map (·.1)).map (renK x z) := by
  unfold reB
  rw [List.map_map, List.map_map]
  rfl
theorem ren_put (x z : Nm) : ∀ (B M : Bk), B.foldl (renP x z) M = putAll M (reB B x z)
  | [], M => rfl
  | b :: B, M => by
    rw [List.foldl_cons, ren_put x z B]
    rfl
structure RenOk (B : Bk) (x z : Nm) : Prop where
  good : Good B
  kA : KnownA B
  kP : KnownP B
  hx : x ≠ []
  hz : z ≠ []
  no : hasB B z = false
theorem RenOk.nd {B : Bk} {x z : Nm} (h : RenOk B x z) : ((reB B x z).map (·.1)).Nodup := by
  rw [reB_keys]
  have : ∀ l : List Ky, l.Nodup → (∀ k ∈ l, k.1 ≠ z ∧ k.2 ≠ z) → (l.map (renK x z)).Nodup := by
    intro l
    induction l with
    | nil => exact fun _ _ => List.nodup_nil
    | cons k l ih =>
      intro hn hk
      rw [List.nodup_cons] at hn
      rw [List.map_cons, List.nodup_cons]
      refine ⟨fun m => ?_, ih hn.2 fun j m => hk j (List.mem_cons_of_mem _ m)⟩
      obtain ⟨j, hj, e⟩ := List.mem_map.mp m
      obtain ⟨j1, j2⟩ := hk j (List.mem_cons_of_mem _ hj)
      obtain ⟨k1, k2⟩ := hk k List.mem_cons_self
      have e1 := gN_inj j1 k1 (congrArg Prod.fst e)
      have e2 := gN_inj j2 k2 (congrArg Prod.snd e)
      have : j = k := Prod.ext e1 e2
      exact hn.1 (this ▸ hj)
  exact this _ h.good.nd fun k hk => names_not h.kA h.kP h.hz h.no hk
theorem RenOk.eq {B : Bk} {x z : Nm} (h : RenOk B x z) : renB B x z = reB B x z := by
  unfold renB
  rw [ren_put, putAll_app _ _ (by simpa using h.nd), List.nil_append]
theorem RenOk.goodR {B : Bk} {x z : Nm} (h : RenOk B x z) : Good (reB B x z) := by
  refine ⟨h.nd, fun b hb => ?_⟩
  obtain ⟨c, hc, rfl⟩ := List.mem_map.mp hb
  have v := h.good.val c hc
  refine ⟨fun e => v.thing ((ren_nil_iff h.hx h.hz).mp e), fun e => v.part fun q => e ((ren_nil_iff h.hx h.hz).mpr q), fun e => v.name ((ren_nil_iff h.hx h.hz).mp e)⟩
theorem ren_fact {x z : Nm} (hx : x ≠ []) (hz : z ≠ []) (k : Ky) (n : Int) : renamed x z (factOf k n) = factOf (renK x z k) n := by
  unfold factOf
  by_cases c : k.2 = []
  · rw [if_pos c, if_pos (show (renK x z k).2 = [] from (ren_nil_iff hx hz).mpr c)]
    by_cases q : n = -1
    · rw [if_pos q, if_pos q]; rfl
    · rw [if_neg q, if_neg q]; rfl
  · rw [if_neg c, if_neg (show ¬ (renK x z k).2 = [] from fun e => c ((ren_nil_iff hx hz).mp e))]
    rfl
theorem RenOk.book {B : Bk} {x z : Nm} (h : RenOk B x z) : inOrder ((F B).map (renamed x z)) = F (reB B x z) := by
  refine inOrder_F h.nd ?_
  have h1 := (F_perm h.good.nd).map (renamed x z)
  have : (U B).map (renamed x z) = U (reB B x z) := by
    unfold U reB
    rw [List.map_map, List.map_map]
    refine List.map_congr_left fun b _ => ?_
    exact ren_fact h.hx h.hz b.1 b.2
  rw [this] at h1
  exact h1
theorem ren_key {B : Bk} {x z : Nm} {k : Ky} : k ∈ (reB B x z).map (·.1) ↔ ∃ j ∈ B.map (·.1), renK x z j = k := by
  rw [reB_keys, List.mem_map]
theorem RenOk.said {B : Bk} {x z : Nm} (h : RenOk B x z) {k : Ky} (hk : k ∈ B.map (·.1)) : saidB (reB B x z) (renK x z k) = saidB B k := by
  obtain ⟨b, hb, rfl⟩ := List.mem_map.mp hk
  rw [said_of_mem h.good.nd hb]
  exact said_of_mem h.nd (b := (renK x z b.1, b.2)) (List.mem_map_of_mem hb)
theorem RenOk.known {B : Bk} {x z : Nm} (h : RenOk B x z) (hk : knownB B = true) : knownB (reB B x z) = true := by
  unfold knownB
  rw [List.all_eq_true]
  intro b hb
  obtain ⟨c, hc, rfl⟩ := List.mem_map.mp hb
  simp only []
  by_cases e : (renK x z c.1).2 = []
  · rw [decide_eq_true e]; rfl
  · have e' : c.1.2 ≠ [] := fun q => e ((ren_nil_iff h.hx h.hz).mpr q)
    have hm : c.1 ∈ B.map (·.1) := List.mem_map_of_mem hc
    obtain ⟨s1, s2⟩ := said_known hk hm e'
    have r0 : ∀ t : Nm, renK x z (t, []) = (gN x z t, []) := fun t => by
      rw [renK_g]
      exact Prod.ext rfl (ren_nil h.hx)
    have a1 : saidB (reB B x z) ((renK x z c.1).1, []) = -2 := by
      have := h.said (h.kA _ hm e')
      rw [r0, s1] at this
      exact this
    have a2 : hasB (reB B x z) (renK x z c.1).2 = true := by
      refine (look_isSome _ _).mpr (ren_key.mpr ⟨(c.1.2, []), h.kP _ hm e', ?_⟩)
      rw [r0]
      rfl
    rw [decide_eq_false e, Bool.false_or, decide_eq_true a1, a2]
    rfl
theorem things_count (B : Bk) : (thingsB B).length = (B.map (·.1)).countP fun k => decide (k.2 = []) := by
  unfold thingsB
  rw [List.length_map, ← List.countP_eq_length_filter]
  exact (keys_perm B).countP_eq _
theorem parts_count (B : Bk) (y : Nm) : (partsIn B y).length = (B.map (·.1)).countP fun k => decide (k.1 = y) && !decide (k.2 = []) := by
  unfold partsIn
  rw [List.length_map, ← List.countP_eq_length_filter]
  exact (keys_perm B).countP_eq _
theorem RenOk.things {B : Bk} {x z : Nm} (h : RenOk B x z) : (thingsB (reB B x z)).length = (thingsB B).length := by
  rw [things_count, things_count, reB_keys, List.countP_map]
  refine List.countP_congr fun k _ => ?_
  show decide ((renK x z k).2 = []) = true ↔ _
  rw [decide_eq_true_iff, decide_eq_true_iff]
  exact ren_nil_iff h.hx h.hz
theorem RenOk.parts {B : Bk} {x z y : Nm} (h : RenOk B x z) (hy : y ≠ z) : (partsIn (reB B x z) (gN x z y)).length = (partsIn B y).length := by
  rw [parts_count, parts_count, reB_keys, List.countP_map]
  refine List.countP_congr fun k hk => ?_
  show (decide (gN x z k.1 = gN x z y) && !decide ((renK x z k).2 = [])) = true ↔ _
  have h1 : gN x z k.1 = gN x z y ↔ k.1 = y := ⟨gN_inj (names_not h.kA h.kP h.hz h.no hk).1 hy, fun e => by rw [e]⟩
  have h2 : (renK x z k).2 = [] ↔ k.2 = [] := ren_nil_iff h.hx h.hz
  simp only [h1, h2]
theorem RenOk.knowns {B : Bk} {x z : Nm} (h : RenOk B x z) : KnownA (reB B x z) ∧ KnownP (reB B x z) := by
  constructor
  · intro k hk hne
    obtain ⟨j, hj, rfl⟩ := ren_key.mp hk
    have e' : j.2 ≠ [] := fun q => hne ((ren_nil_iff h.hx h.hz).mpr q)
    refine ren_key.mpr ⟨(j.1, []), h.kA _ hj e', ?_⟩
    rw [renK_g, renK_g]
    exact Prod.ext rfl (ren_nil h.hx)
  · intro k hk hne
    obtain ⟨j, hj, rfl⟩ := ren_key.mp hk
    have e' : j.2 ≠ [] := fun q => hne ((ren_nil_iff h.hx h.hz).mpr q)
    refine ren_key.mpr ⟨(j.2, []), h.kP _ hj e', ?_⟩
    rw [renK_g, renK_g]
    exact Prod.ext rfl (ren_nil h.hx)
theorem RenOk.step {B : Bk} {x z y t : Nm} (h : RenOk B x z) (hy : y ≠ z) (he : EP (partsB (reB B x z)) (gN x z y) t) : ∃ u, u ≠ z ∧ t = gN x z u ∧ EP (partsB B) y u := by
  unfold EP at *
  rw [inP_parts h.nd h.knowns.1] at he
  obtain ⟨h1, h2⟩ := partsIn_mem.mp he
  obtain ⟨j, hj, e⟩ := ren_key.mp h1
  obtain ⟨j1, j2⟩ := names_not h.kA h.kP h.hz h.no hj
  have e1 : gN x z j.1 = gN x z y := congrArg Prod.fst e
  have e2 : gN x z j.2 = t := congrArg Prod.snd e
  have e3 := gN_inj j1 hy e1
  refine ⟨j.2, j2, e2.symm, ?_⟩
  rw [inP_parts h.good.nd h.kA]
  refine partsIn_mem.mpr ⟨?_, fun q => h2 ?_⟩
  · rw [← e3]
    exact hj
  · rw [← e2, q]
    exact ren_nil h.hx
theorem RenOk.path {B : Bk} {x z : Nm} (h : RenOk B x z) : ∀ (m : Nat) (y t : Nm), y ≠ z → Pa (EP (partsB (reB B x z))) m (gN x z y) t → ∃ u, u ≠ z ∧ t = gN x z u ∧ Pa (EP (partsB B)) m y u
  | 0, y, t, hy, e => ⟨y, hy, (show gN x z y = t from e).symm, rfl⟩
  | m + 1, y, t, hy, ⟨w, h1, h2⟩ => by
    obtain ⟨u, u1, rfl, u3⟩ := h.step hy h1
    obtain ⟨v, v1, v2, v3⟩ := h.path m u t u1 h2
    exact ⟨v, v1, v2, u, u3, v3⟩
theorem RenOk.stand {B : Bk} {x z y : Nm} (h : RenOk B x z) (hy : y ≠ z) (hs : gN x z y ∈ standB (partsB (reB B x z)) (gN x z y)) : y ∈ standB (partsB B) y := by
  obtain ⟨m, m1, m2, m3⟩ := (stand_iff (closed_parts h.knowns.2)).mp hs
  obtain ⟨u, u1, u2, u3⟩ := h.path m y _ hy m3
  have := gN_inj hy u1 u2
  subst this
  refine (stand_iff (closed_parts h.kP)).mpr ⟨m, m1, ?_, u3⟩
  rw [parts_len h.nd, h.things] at m2
  rw [parts_len h.good.nd]
  exact m2
theorem RenOk.right {B : Bk} {x z : Nm} (h : RenOk B x z) (hr : rightB B = true) : rightB (reB B x z) = true := by
  obtain ⟨q1, q2, q3⟩ := rightB_all hr
  unfold rightB
  rw [if_neg (by rw [h.things]; omega), if_neg (by rw [h.known q2]; exact Bool.noConfusion), List.all_eq_true]
  intro y' hy'
  obtain ⟨h1, h2⟩ := accords_mem.mp hy'
  obtain ⟨j, hj, e⟩ := ren_key.mp h1
  have e1 : gN x z j.1 = y' := congrArg Prod.fst e
  have e2 : j.2 = [] := (ren_nil_iff h.hx h.hz).mp (congrArg Prod.snd e)
  have hjz := (names_not h.kA h.kP h.hz h.no hj).1
  have hs : saidB B j = -2 := by
    rw [← h.said hj, e]
    exact h2
  have ej : j = (j.1, []) := by rw [← e2]
  rw [ej] at hj hs
  obtain ⟨w1, w2, w3⟩ := q3 j.1 (accords_mem.mpr ⟨hj, hs⟩)
  subst e1
  rw [inP_parts h.nd h.knowns.1, h.parts hjz]
  rw [inP_parts h.good.nd h.kA] at w1 w2
  rw [decide_eq_true w1, decide_eq_true w2, memB_false.mpr fun m => w3 (h.stand hjz m)]
  rfl
end Fb
end
section
/-! One call: the mirror's answer is the specification's. -/
namespace Fb
open SctBook SctBase
structure GB (B : Bk) : Prop where
  good : Good B
  right : rightB B = true
def GS (S : Sh) : Prop := ∀ B ∈ S, GB B
theorem GB.kA {B : Bk} (h : GB B) : KnownA B := (known_of (rightB_all h.right).2.1).1
theorem GB.kP {B : Bk} (h : GB B) : KnownP B := (known_of (rightB_all h.right).2.1).2
def Same (S : Sh) (p : State × Answer) (m : Mi (Sh × List Int)) : Prop := match m with
  | .error e => p.1 = S.map F ∧ p.2.code :: p.2.nums = e
  | .ok r => p.1 = r.1.map F ∧ p.2.code :: p.2.nums = r.2 ∧ GS r.1
def Ans (a : Answer) (m : Mi (List Int)) : Prop := match m with
  | .error e => a.code :: a.nums = e
  | .ok l => a.code :: a.nums = l
theorem same_still {S : Sh} {a : Answer} {m : Mi (List Int)} (hS : GS S) (h : Ans a m) : Same S (S.map F, a) (still S m) := by
  cases m with
  | error e => exact ⟨rfl, h⟩
  | ok l => exact ⟨rfl, h, hS⟩
theorem version_ (S : Sh) (v : Int) (hv : ¬ v < 0) : (at_ (S.map F) v = none ∧ mVersion S v = .error [-3]) ∨ ∃ B ∈ S, at_ (S.map F) v = some (F B) ∧ mVersion S v = .ok B := by
  unfold at_ mVersion
  rw [List.getElem?_map]
  cases e : S[v.toNat]? with
  | none =>
    refine .inl ⟨rfl, ?_⟩
    split <;> rfl
  | some B =>
    refine .inr ⟨B, List.mem_of_getElem? e, rfl, ?_⟩
    have : v.toNat < S.length := by
      obtain ⟨h, _⟩ := List.getElem?_eq_some_iff.mp e
      exact h
    rw [if_neg (by omega)]
theorem same_keep {S : Sh} {B : Bk} (hS : GS S) (hB : GB B) : Same S (added (S.map F) (F B)) (mKeep S B) := by
  unfold added mKeep
  rw [right_F hB.good, hB.right, if_neg Bool.noConfusion, List.length_map]
  by_cases c : 12 ≤ S.length
  · rw [if_pos (show VERSIONS ≤ S.length from c), if_pos (show S.length ≥ 12 from c)]
    exact ⟨rfl, rfl⟩
  · rw [if_neg (show ¬ VERSIONS ≤ S.length from c), if_neg (show ¬ S.length ≥ 12 from c)]
    refine ⟨?_, rfl, fun C hC => ?_⟩
    · simp
    · rcases List.mem_append.mp hC with h | h
      · exact hS C h
      · rw [List.mem_singleton.mp h]; exact hB
theorem same_keepRight {S : Sh} {B : Bk} (hS : GS S) (hB : Good B) : Same S (added (S.map F) (F B)) (mKeepRight S B) := by
  unfold mKeepRight
  by_cases c : rightB B = false
  · rw [if_pos c]
    unfold added
    rw [right_F hB, if_pos c]
    exact ⟨rfl, rfl⟩
  · rw [if_neg c]
    exact same_keep hS ⟨hB, by simpa using c⟩
def Row (b : List Int) : Prop := ∀ z ∈ b, 0 ≤ z ∧ z ≤ 255
theorem bytes_ {b : List Int} (h : Row b) : bytesIn b = if (b.map Int.toNat).length > 4000 then none else some (b.map Int.toNat) := by
  unfold bytesIn
  have : (b.all fun (z : Int) => decide (0 ≤ z) && decide (z ≤ 255)) = true := by
    rw [List.all_eq_true]
    intro z hz
    rw [decide_eq_true (h z hz).1, decide_eq_true (h z hz).2]
    rfl
  rw [this, List.length_map]
  by_cases c : b.length > 4000
  · rw [if_pos c, if_neg (fun e => absurd (show b.length ≤ 4000 from e.1) (by omega))]
  · rw [if_neg c, if_pos ⟨show b.length ≤ 4000 by omega, rfl⟩]
theorem letter_ {z : Int} (h : 0 ≤ z) : letter z.toNat = letterI z := by
  unfold letter letterI
  congr 1 <;> (rw [decide_eq_decide]; omega)
theorem nameByte_ {z : Int} (h : 0 ≤ z) : nameByte z.toNat = nameI z := by
  unfold nameByte nameI
  rw [letter_ h]
  congr 1
  unfold digit digitI
  congr 1
  · congr 1 <;> (rw [decide_eq_decide]; omega)
  · rw [Bool.eq_iff_iff, decide_eq_true_iff, beq_iff_eq]; omega
theorem name_ {b : List Int} (h : Row b) : isName b = mIsName (b.map Int.toNat) := by
  cases b with
  | nil => rfl
  | cons z l =>
    have hz := (h z List.mem_cons_self).1
    have e0 : byteAt ((z :: l).map Int.toNat) 0 = z := by
      show ((z.toNat : Nat) : Int) = z
      omega
    have hl : (l.all fun (y : Int) => decide (0 ≤ y) && nameByte y.toNat) = (l.map Int.toNat).all fun y => nameI (y : Int) := by
      rw [List.all_map]
      rw [Bool.eq_iff_iff, List.all_eq_true, List.all_eq_true]
      have : ∀ y ∈ l, (decide (0 ≤ y) && nameByte y.toNat) = ((fun y : Nat => nameI (y : Int)) ∘ Int.toNat) y := fun y hy => by
        have hy0 := (h y (List.mem_cons_of_mem _ hy)).1
        rw [decide_eq_true hy0, nameByte_ hy0, Bool.true_and]
        show _ = nameI ((y.toNat : Nat) : Int)
        rw [Int.toNat_of_nonneg hy0]
      constructor
      · intro g y hy
        rw [← this y hy]; exact g y hy
      · intro g y hy
        rw [this y hy]; exact g y hy
    unfold isName mIsName
    simp only []
    rw [e0, hl, letter_ hz, decide_eq_true hz, Bool.true_and]
    simp only [List.map_cons, List.all_cons, List.length_cons, List.length_map]
    rw [decide_eq_true (show 1 ≤ l.length + 1 by omega), Bool.true_and, Int.toNat_of_nonneg hz]
    have hnm : letterI z = true → nameI z = true := fun e => by unfold nameI; rw [e]; rfl
    show (letterI z && (decide (l.length + 1 ≤ 16) && _)) = _
    cases e : letterI z with
    | false => simp
    | true => rw [hnm e]; simp
theorem has_F (B : Bk) (x : Nm) : (heads (F B)).contains x = hasB B x := by
  rw [heads_F, Bool.eq_iff_iff, List.contains_iff_mem, things_mem]
  exact (look_isSome _ _).symm
theorem fault_eq (k p : Nat) : (fault (k, p)).code :: (fault (k, p)).nums = [-5, (k : Int), (p : Int)] := rfl
theorem told_eq (l : List Nat) : (told l).code :: (told l).nums = 0 :: asInts l := rfl
theorem change_val {T : List Nat} {ls : List Cl} (h : mReadChange T = .ok ls) : ∀ l ∈ ls, Val l.key l.told := by
  unfold mReadChange at h
  split at h
  · cases h
  · rename_i ks e
    split at h
    · cases h
    · cases h
      exact mChangeLines_val _ _ _ e
theorem c_read {S : Sh} (hS : GS S) {b : List Int} (hb : Row b) : Same S (step (S.map F) (.read b)) (mRead S (b.map Int.toNat)) := by
  rw [step]
  unfold mRead mLong
  rw [bytes_ hb]
  by_cases c : (b.map Int.toNat).length > 4000
  · rw [if_pos c, if_pos c]
    exact ⟨rfl, rfl⟩
  · rw [if_neg c, if_neg c]
    simp only []
    have := book_eq (b.map Int.toNat)
    cases e : mReadBook (b.map Int.toNat) with
    | error er =>
      rw [e] at this
      obtain ⟨k, p, h1, rfl⟩ := this
      rw [h1]
      exact ⟨rfl, rfl⟩
    | ok B =>
      rw [e] at this
      obtain ⟨h1, h2, h3⟩ := this
      rw [h1]
      exact same_keep hS ⟨h2, h3⟩
theorem c_judge {S : Sh} (hS : GS S) {b : List Int} (hb : Row b) : Same S (step (S.map F) (.judge b)) (still S (mJudge (b.map Int.toNat))) := by
  rw [step]
  refine same_still hS ?_
  unfold mJudge mLong
  rw [bytes_ hb]
  by_cases c : (b.map Int.toNat).length > 4000
  · rw [if_pos c, if_pos c]
    exact rfl
  · rw [if_neg c, if_neg c]
    simp only []
    have := book_eq (b.map Int.toNat)
    cases e : mReadBook (b.map Int.toNat) with
    | error er =>
      rw [e] at this
      obtain ⟨k, p, h1, rfl⟩ := this
      rw [h1]
      exact rfl
    | ok B =>
      rw [e] at this
      obtain ⟨h1, h2, h3⟩ := this
      rw [h1]
      show _ :: [num (heads (F B)).length, num (accords (F B)).length] = _
      rw [heads_F, accords_F h2]
      rfl
theorem c_invert {S : Sh} (hS : GS S) {b : List Int} (hb : Row b) : Same S (step (S.map F) (.invert b)) (still S (mInvert (b.map Int.toNat))) := by
  rw [step]
  refine same_still hS ?_
  unfold mInvert mLong
  rw [bytes_ hb]
  by_cases c : (b.map Int.toNat).length > 4000
  · rw [if_pos c, if_pos c]
    exact rfl
  · rw [if_neg c, if_neg c]
    simp only []
    have := change_eq (b.map Int.toNat)
    cases e : mReadChange (b.map Int.toNat) with
    | error er =>
      rw [e] at this
      obtain ⟨k, p, h1, rfl⟩ := this
      rw [h1]
      exact rfl
    | ok ls =>
      rw [e] at this
      obtain ⟨h1, h2⟩ := this
      rw [h1]
      have hv := change_val e
      show (told _).code :: (told _).nums = _
      rw [invert_F h2 hv]
      rfl
end Fb
end
section
/-! One call, the others. -/
namespace Fb
open SctBook SctBase
theorem same_one {S : Sh} (hS : GS S) (v : Int) (f : Book → Answer) (g : Bk → List Int) (h : ∀ B, GB B → (f (F B)).code :: (f (F B)).nums = g B) : Same S (SctBook.one (S.map F) v fun b => (S.map F, f b)) (still S (mOne S v g)) := by
  unfold SctBook.one mOne mBelow
  by_cases c : v < 0
  · rw [if_pos c, if_pos c]
    exact ⟨rfl, rfl⟩
  · rw [if_neg c, if_neg c]
    rcases version_ S v c with ⟨h1, h2⟩ | ⟨B, hB, h1, h2⟩
    · rw [h1, h2]
      exact ⟨rfl, rfl⟩
    · rw [h1, h2]
      exact ⟨rfl, h B (hS B hB), hS⟩
theorem same_pair {S : Sh} (hS : GS S) (v w : Int) (f : Book → Book → Answer) (g : Bk → Bk → List Int) (h : ∀ B C, GB B → GB C → (f (F B) (F C)).code :: (f (F B) (F C)).nums = g B C) : Same S (two (S.map F) v w fun b c => (S.map F, f b c)) (still S (mTwo S v w g)) := by
  unfold two mTwo mBelow
  by_cases c : v < 0 ∨ w < 0
  · rw [if_pos c, if_pos (by omega)]
    exact ⟨rfl, rfl⟩
  · rw [if_neg c, if_neg (by omega)]
    rcases version_ S v (by omega) with ⟨h1, h2⟩ | ⟨B, hB, h1, h2⟩
    · rw [h1, h2]
      exact ⟨rfl, rfl⟩
    · rw [h1, h2]
      rcases version_ S w (by omega) with ⟨h3, h4⟩ | ⟨C, hC, h3, h4⟩
      · rw [h3, h4]
        exact ⟨rfl, rfl⟩
      · rw [h3, h4]
        exact ⟨rfl, h B C (hS B hB) (hS C hC), hS⟩
theorem same_thing {S : Sh} (v : Int) {a : List Int} (ha : Row a) (f : Book → Bytes → State × Answer) (g : Bk → Mi (Sh × List Int)) (h : ∀ B ∈ S, hasB B (a.map Int.toNat) = true → mIsName (a.map Int.toNat) = true → Same S (f (F B) (a.map Int.toNat)) (g B)) :
    Same S (thing (S.map F) v a f) (mBelow v (mNamed (a.map Int.toNat) (match mVersionWith S v (a.map Int.toNat) with
      | .error e => .error e
      | .ok B => g B))) := by
  unfold thing mBelow mNamed
  rw [name_ ha]
  by_cases c : v < 0
  · rw [if_pos (.inl c), if_pos c]
    exact ⟨rfl, rfl⟩
  · rw [if_neg c]
    by_cases d : mIsName (a.map Int.toNat) = false
    · rw [if_pos (.inr d), if_pos d]
      exact ⟨rfl, rfl⟩
    · rw [if_neg (not_or.mpr ⟨c, d⟩), if_neg d]
      unfold mVersionWith
      rcases version_ S v c with ⟨h1, h2⟩ | ⟨B, hB, h1, h2⟩
      · rw [h1, h2]
        exact ⟨rfl, rfl⟩
      · rw [h1, h2]
        simp only []
        rw [has_F]
        by_cases q : hasB B (a.map Int.toNat) = false
        · rw [if_pos q, if_pos q]
          exact ⟨rfl, rfl⟩
        · rw [if_neg q, if_neg q]
          exact h B hB (by simpa using q) (by simpa using d)
theorem c_text {S : Sh} (hS : GS S) (v : Int) : Same S (step (S.map F) (.text v)) (still S (mCallText S v)) := by
  rw [step]
  exact same_one hS v (fun b => told (bookText b)) _ fun B hB => by rw [text_F hB.good]; rfl
theorem c_count {S : Sh} (hS : GS S) (v : Int) : Same S (step (S.map F) (.count v)) (still S (mCount S v)) := by
  rw [step]
  exact same_one hS v (fun b => tells [num (heads b).length, num (accords b).length, num b.length]) _ fun B hB => by
    rw [heads_F, accords_F hB.good, F_length]; rfl
theorem stand_none {B : Bk} (h : GB B) : ∀ y ∈ thingsB B, y ∉ standB (partsB B) y := fun y hy hs => by
  obtain ⟨q1, q2, q3⟩ := rightB_all h.right
  have hne := stand_step (closed_parts h.kP) hs
  obtain ⟨z, hz⟩ := List.exists_mem_of_ne_nil _ hne
  rw [inP_parts h.good.nd h.kA] at hz
  obtain ⟨z1, z2⟩ := partsIn_mem.mp hz
  have hsd := (said_known q2 z1 z2).1
  exact absurd hs (q3 y (accords_mem.mpr ⟨things_mem.mp hy, hsd⟩)).2.2
theorem c_order {S : Sh} (hS : GS S) (v : Int) : Same S (step (S.map F) (.order v)) (still S (mOrder S v)) := by
  rw [step]
  exact same_one hS v (fun b => told (names (orderFrom b (heads b).length []))) _ fun B hB => by
    rw [order_F hB.good hB.kA hB.kP (stand_none hB)]; rfl
theorem c_same {S : Sh} (hS : GS S) (v w : Int) : Same S (step (S.map F) (.same v w)) (still S (mCallSame S v w)) := by
  rw [step]
  exact same_pair hS v w (fun b c => tells [bit (b == c)]) _ fun B C hB hC => by
    rw [same_F hB.good hC.good]
    cases mSame B C <;> rfl
theorem c_diff {S : Sh} (hS : GS S) (v w : Int) : Same S (step (S.map F) (.diff v w)) (still S (mCallDiff S v w)) := by
  rw [step]
  exact same_pair hS v w (fun b c => told (changeText (diff b c))) _ fun B C hB hC => by
    rw [diff_F hB.good hC.good]; rfl
theorem c_apply {S : Sh} (hS : GS S) (v : Int) {b : List Int} (hb : Row b) : Same S (step (S.map F) (.apply v b)) (mApply S v (b.map Int.toNat)) := by
  rw [step]
  unfold mApply mBelow mLong
  rw [bytes_ hb]
  by_cases c : v < 0
  · rw [if_pos c, if_pos c]
    exact ⟨rfl, rfl⟩
  · rw [if_neg c, if_neg c]
    by_cases d : (b.map Int.toNat).length > 4000
    · rw [if_pos d, if_pos d]
      exact ⟨rfl, rfl⟩
    · rw [if_neg d, if_neg d]
      simp only []
      rcases version_ S v c with ⟨h1, h2⟩ | ⟨B, hB, h1, h2⟩
      · rw [h1, h2]
        exact ⟨rfl, rfl⟩
      · rw [h1, h2]
        simp only []
        have := change_eq (b.map Int.toNat)
        cases e : mReadChange (b.map Int.toNat) with
        | error er =>
          rw [e] at this
          obtain ⟨k, p, h3, rfl⟩ := this
          rw [h3]
          exact ⟨rfl, rfl⟩
        | ok ls =>
          rw [e] at this
          obtain ⟨h3, h4⟩ := this
          rw [h3]
          simp only []
          have hv := change_val e
          have hg := (hS B hB).good
          unfold mChanged
          rcases unfit_F hg h4 hv with ⟨u1, u2, u3⟩ | ⟨p, u1, u2⟩
          · rw [u1, u2, mAt_neg]
            simp only []
            obtain ⟨a1, a2⟩ := applied_F hg h4 hv u3
            rw [a1]
            exact same_keepRight hS a2
          · rw [u1, u2, mAt_pos]
            exact ⟨rfl, rfl⟩
theorem c_merge {S : Sh} (hS : GS S) (a v w : Int) : Same S (step (S.map F) (.merge a v w)) (mCallMerge S a v w) := by
  rw [step]
  unfold mCallMerge mBelow
  by_cases c : a < 0 ∨ v < 0 ∨ w < 0
  · rw [if_pos c, if_pos (by omega)]
    exact ⟨rfl, rfl⟩
  · rw [if_neg c, if_neg (by omega)]
    rcases version_ S a (by omega) with ⟨h1, h2⟩ | ⟨A, hA, h1, h2⟩
    · rw [h1, h2]
      exact ⟨rfl, rfl⟩
    rcases version_ S v (by omega) with ⟨h3, h4⟩ | ⟨B, hB, h3, h4⟩
    · rw [h1, h2, h3, h4]
      exact ⟨rfl, rfl⟩
    rcases version_ S w (by omega) with ⟨h5, h6⟩ | ⟨C, hC, h5, h6⟩
    · rw [h1, h2, h3, h4, h5, h6]
      exact ⟨rfl, rfl⟩
    rw [h1, h2, h3, h4, h5, h6]
    simp only []
    have gA := (hS A hA).good
    have gB := (hS B hB).good
    have gC := (hS C hC).good
    rw [contras_F gA gB gC]
    by_cases q : contrasB A B C = []
    · rw [if_pos q, if_neg (fun e => e q)]
      obtain ⟨m1, m2⟩ := merge_F gA gB gC q
      rw [m1]
      exact same_keepRight hS m2
    · rw [if_neg q, if_pos q, subjects_text_F]
      exact ⟨rfl, rfl, hS⟩
theorem c_rename {S : Sh} (hS : GS S) (v : Int) {a z : List Int} (ha : Row a) (hz : Row z) : Same S (step (S.map F) (.rename v a z)) (mCallRename S v (a.map Int.toNat) (z.map Int.toNat)) := by
  rw [step]
  unfold mCallRename
  by_cases c : isName z = false
  · rw [if_pos c]
    rw [name_ hz] at c
    unfold mBelow mNamed
    rw [if_pos c]
    split
    · exact ⟨rfl, rfl⟩
    · split <;> exact ⟨rfl, rfl⟩
  · rw [if_neg c]
    rw [name_ hz] at c
    have e : ∀ M : Mi (Sh × List Int), mNamed (z.map Int.toNat) M = M := fun M => if_neg c
    rw [e]
    refine same_thing v ha _ (fun B => if hasB B (z.map Int.toNat) = true then .error [-8] else mKeep S (renB B (a.map Int.toNat) (z.map Int.toNat))) fun B hB hx hn => ?_
    rw [has_F]
    by_cases q : hasB B (z.map Int.toNat) = true
    · rw [if_pos q, if_pos q]
      exact ⟨rfl, rfl⟩
    · rw [if_neg q, if_neg q]
      have g := hS B hB
      have R : RenOk B (a.map Int.toNat) (z.map Int.toNat) := ⟨g.good, g.kA, g.kP, (isName_ne hn).1, (isName_ne (by simpa using c)).1, by simpa using q⟩
      rw [R.book, R.eq]
      exact same_keep hS ⟨R.goodR, R.right g.right⟩
theorem c_drop {S : Sh} (hS : GS S) (v : Int) {a : List Int} (ha : Row a) : Same S (step (S.map F) (.drop_ v a)) (mCallDrop S v (a.map Int.toNat)) := by
  rw [step]
  unfold mCallDrop
  refine same_thing v ha _ (fun B => mKeepRight S (dropB B (a.map Int.toNat))) fun B hB hx hn => ?_
  obtain ⟨d1, d2⟩ := drop_F (hS B hB).good (isName_ne hn).1
  rw [d1]
  exact same_keepRight hS d2
theorem still_thing {S : Sh} (v : Int) (x : Nm) (g : Bk → List Int) : still S (mBelow v (mNamed x (match mVersionWith S v x with
      | .error e => .error e
      | .ok B => .ok (g B)))) = mBelow v (mNamed x (match mVersionWith S v x with
      | .error e => .error e
      | .ok B => .ok (S, g B))) := by
  unfold mBelow mNamed
  split
  · rfl
  · split
    · rfl
    · cases mVersionWith S v x <;> rfl
theorem c_parts {S : Sh} (hS : GS S) (v : Int) {a : List Int} (ha : Row a) : Same S (step (S.map F) (.parts v a)) (still S (mCallParts S v (a.map Int.toNat))) := by
  rw [step]
  have e : still S (mCallParts S v (a.map Int.toNat)) = _ := still_thing v (a.map Int.toNat) fun B => 0 :: asInts (mParts B (a.map Int.toNat))
  rw [e]
  refine same_thing v ha _ (fun B => .ok (S, 0 :: asInts (mParts B (a.map Int.toNat)))) fun B hB hx hn => ?_
  refine ⟨rfl, ?_, hS⟩
  exact congrArg (fun l => (told l).code :: (told l).nums) (parts_F (hS B hB).good (a.map Int.toNat))
theorem c_users {S : Sh} (hS : GS S) (v : Int) {a : List Int} (ha : Row a) : Same S (step (S.map F) (.users v a)) (still S (mCallUsers S v (a.map Int.toNat))) := by
  rw [step]
  have e : still S (mCallUsers S v (a.map Int.toNat)) = _ := still_thing v (a.map Int.toNat) fun B => 0 :: asInts (mNames (usersB B (a.map Int.toNat)))
  rw [e]
  refine same_thing v ha _ (fun B => .ok (S, 0 :: asInts (mNames (usersB B (a.map Int.toNat))))) fun B hB hx hn => ?_
  refine ⟨rfl, ?_, hS⟩
  show (told _).code :: (told _).nums = _
  have g := hS B hB
  rw [users_F g.good g.kA g.kP (things_mem.mpr ((look_isSome _ _).mp hx))]
  rfl
end Fb
end
section
/-! The plain law: the mirror answers as the specification says. -/
namespace Fb
open SctBook SctBase
theorem row_of {b : List Int} {n : Nat} (h : SctBookNeutral.long b n 0 255 = true) : Row b ∧ b.length ≤ n := by
  unfold SctBookNeutral.long at h
  rw [Bool.and_eq_true, List.all_eq_true] at h
  refine ⟨fun z hz => ?_, of_decide_eq_true h.1⟩
  have := h.2 z hz
  rw [Bool.and_eq_true] at this
  exact ⟨of_decide_eq_true this.1, of_decide_eq_true this.2⟩
/-- one call of the neutral kind -/
def SameN (S : Sh) (p : State × List Int) (r : Sh × List Int) : Prop := p.1 = r.1.map F ∧ p.2 = r.2 ∧ GS r.1
def out (S : Sh) : Mi (Sh × List Int) → Sh × List Int
  | .error e => (S, e)
  | .ok r => r
theorem mStep_out (S : Sh) (c : Int) (ns : List Int) (rows : List (List Nat)) : mStep S c ns rows = out S (mCall S c ns rows) := by
  unfold mStep out
  cases mCall S c ns rows <;> rfl
theorem same_n {S : Sh} {x : SctBook.Call} {m : Mi (Sh × List Int)} {c : Int} {ns : List Int} {rows : List (List Nat)} (hS : GS S) (e : mCall S c ns rows = m) (h : Same S (step (S.map F) x) m) : SameN S ((step (S.map F) x).1, (step (S.map F) x).2.code :: (step (S.map F) x).2.nums) (mStep S c ns rows) := by
  rw [mStep_out, e]
  cases m with
  | error e => exact ⟨h.1, h.2, hS⟩
  | ok r => exact h
def stepM (S : Sh) (c : List (List Int)) : Sh × List Int := match c with
  | (c :: ns) :: rows => mStep S c ns (rows.map fun z => z.map Int.toNat)
  | _ => (S, [])
theorem step_n {S : Sh} (hS : GS S) (c : List (List Int)) (h : SctBookNeutral.asked1 c = true) : (∃ p ns rows, c = (p :: ns) :: rows ∧ ∀ z ∈ rows, RowOk z) ∧ SameN S (SctBookNeutral.step (S.map F) c) (stepM S c) := by
  have one : ∀ {b : List Int}, SctBookNeutral.text b = true → Row b ∧ RowOk b := fun h => ⟨(row_of h).1, (row_of h).2, fun x m => ((row_of h).1 x m).1⟩
  have two : ∀ {b : List Int}, SctBookNeutral.word b = true → Row b ∧ RowOk b := fun h => ⟨(row_of h).1, by have := (row_of h).2; omega, fun x m => ((row_of h).1 x m).1⟩
  unfold SctBookNeutral.asked1 at h
  split at h
  · exact ⟨⟨_, _, _, rfl, by simpa using (one h).2⟩, same_n hS rfl (c_read hS (one h).1)⟩
  · exact ⟨⟨_, _, _, rfl, by simpa using (one h).2⟩, same_n hS rfl (c_judge hS (one h).1)⟩
  · exact ⟨⟨_, _, _, rfl, by simp⟩, same_n hS rfl (c_text hS _)⟩
  · exact ⟨⟨_, _, _, rfl, by simp⟩, same_n hS rfl (c_count hS _)⟩
  · exact ⟨⟨_, _, _, rfl, by simp⟩, same_n hS rfl (c_same hS _ _)⟩
  · exact ⟨⟨_, _, _, rfl, by simp⟩, same_n hS rfl (c_diff hS _ _)⟩
  · rw [Bool.and_eq_true] at h
    exact ⟨⟨_, _, _, rfl, by simpa using (one h.2).2⟩, same_n hS rfl (c_apply hS _ (one h.2).1)⟩
  · exact ⟨⟨_, _, _, rfl, by simpa using (one h).2⟩, same_n hS rfl (c_invert hS (one h).1)⟩
  · exact ⟨⟨_, _, _, rfl, by simp⟩, same_n hS rfl (c_merge hS _ _ _)⟩
  · rw [Bool.and_eq_true, Bool.and_eq_true] at h
    exact ⟨⟨_, _, _, rfl, by simpa using ⟨(two h.2.1).2, (two h.2.2).2⟩⟩, same_n hS rfl (c_rename hS _ (two h.2.1).1 (two h.2.2).1)⟩
  · rw [Bool.and_eq_true] at h
    exact ⟨⟨_, _, _, rfl, by simpa using (two h.2).2⟩, same_n hS rfl (c_drop hS _ (two h.2).1)⟩
  · rw [Bool.and_eq_true] at h
    exact ⟨⟨_, _, _, rfl, by simpa using (two h.2).2⟩, same_n hS rfl (c_parts hS _ (two h.2).1)⟩
  · rw [Bool.and_eq_true] at h
    exact ⟨⟨_, _, _, rfl, by simpa using (two h.2).2⟩, same_n hS rfl (c_users hS _ (two h.2).1)⟩
  · exact ⟨⟨_, _, _, rfl, by simp⟩, same_n hS rfl (c_order hS _)⟩
  · cases h
theorem play_eq : ∀ (cs : List (List (List Int))) (S : Sh), GS S → (∀ c ∈ cs, SctBookNeutral.asked1 c = true) → mPlay S cs = PyFlat.played SctBookNeutral.step (S.map F) cs
  | [], S, _, _ => by unfold mPlay; rfl
  | c :: cs, S, hS, h => by
    obtain ⟨⟨p, ns, rows, rfl, -⟩, h1, h2, h3⟩ := step_n hS c (h c List.mem_cons_self)
    have e : stepM S ((p :: ns) :: rows) = mStep S p ns (rows.map fun z => z.map Int.toNat) := rfl
    rw [e] at h1 h2 h3
    have ih := play_eq cs _ h3 fun c m => h c (List.mem_cons_of_mem _ m)
    unfold mPlay PyFlat.played
    rw [h1, h2, ih]
theorem whole_id (c : List (List Int)) : PyWrsctf.whole c = c := by
  unfold PyWrsctf.whole
  split <;> rfl
theorem law (zs : List Int) (h : PyWrsctf.answers_asked zs = true) : ∃ cs, PyFlat.calls PyWrsctf.shape zs.length zs = some cs ∧ (∀ l ∈ cs, ∀ z ∈ l.tail, RowOk z) ∧ (PyFlat.told (mPlay [] cs)).length ≤ 10000000 ∧ PyFlat.told (mPlay [] cs) = PyWrsctf.answers zs := by
  unfold PyWrsctf.answers_asked at h
  cases e : PyFlat.calls PyWrsctf.shape zs.length zs with
  | none => rw [e] at h; cases h
  | some cs =>
    rw [e] at h
    simp only [Bool.and_eq_true] at h
    obtain ⟨⟨_, hask⟩, hshort⟩ := h
    have hw : cs.map PyWrsctf.whole = cs := by
      rw [show PyWrsctf.whole = id from funext whole_id, List.map_id]
    rw [hw] at hask
    unfold SctBookNeutral.asked at hask
    rw [Bool.and_eq_true, List.all_eq_true] at hask
    have hc := hask.1
    have hans : PyFlat.told (mPlay [] cs) = PyWrsctf.answers zs := by
      unfold PyWrsctf.answers PyWrsctf.calls
      rw [e]
      simp only []
      rw [hw, play_eq cs [] (fun B m => by cases m) hc]
      rfl
    refine ⟨cs, rfl, fun l hl z hz => ?_, ?_, hans⟩
    · obtain ⟨⟨p, ns, rows, rfl, hr⟩, _⟩ := step_n (S := []) (fun B m => by cases m) l (hc l hl)
      exact hr z hz
    · rw [hans]
      exact of_decide_eq_true hshort
end Fb
end
set_option Elab.async false
set_option maxRecDepth 100000
set_option maxHeartbeats 0
namespace Fb
open PySem PySem.Spec PyProof.Rows L2
/-- a Spec row's end over a head by facts: F gives the written part too -/
theorem walk_specE {r : PySem.W.OpenSpec} {k : Nat} {q : Program} {loose : List Str} {XP : (Str → Option Value) → Heap → Prop} {YP : World → Heap → Prop} {d : DefRec} {CX : CXT} {ps : List Str}
    (hwell : r.wellSaid = true) (hdf : d.params.defaults = []) (hlen : r.args.length = ps.length) (hr : Room k callerA)
    (F : ∀ (w : World) (mg : Str → Option Value) (fa : Addr) (h : Heap), YP w h → h.Ns mainGlobals mg → mg d.name = some (.ref fa) →
      ∃ (K : PySem.W.Frag) (fd : FuncData) (sp : Sp), K.In h ∧ (∀ (s : Shared) (us : List Value), us.length = ps.length → BindsTo s fd ⟨us, []⟩ (ps.zip us)) ∧
        (∀ (H : Hp) (xs : List V) (a : PySem.W.Codec.denoteAll r.args), OnlyF H → PySem.W.Codec.withinAll r.args a = true → PySem.W.Codec.app r.args r.asked a = true → DwAll K H xs (PySem.W.Codec.encAll r.args a) →
          sp xs H (fun v H' => Dw K H' v (r.ret.enc (PySem.W.Codec.app r.args r.f a))) fun _ _ _ => False) ∧
        ∀ base : Heap, K.In base → base.Ns mainGlobals mg → FnOk r.prog w K mg base CX k fa fd ps sp)
    (hCX : ∀ (H : Hp) (s : Shared) (e : Value) (s' : Shared), CX [] H s (fun _ _ _ => False) e s' → False) :
    PySem.W.WalkOS q loose XP YP r d [] (fun f vs => PySem.call f vs) := by
  intro w s₀ s₁ mg mb G Y fa o pm cd doc dV kV ho hd hcd hD hmg hg args vals as hpre hlay hrd hwl hlo
  obtain ⟨a, e1, e2⟩ := PySem.W.os_pre_some hpre
  obtain ⟨e3, hwi⟩ := PySem.W.Codec.encAll_of_decAll r.args args a e1
  subst e3
  obtain ⟨K, fd, sp, KX, hb, hsp, hF⟩ := F w mg fa _ Y G.T.g hmg
  refine PySem.W.enter_call (codeAny_mono (spec_call (R := []) (cl := classAt s₀.heap) (d0 := r.ret.enc (PySem.W.Codec.app r.args r.f a)) KX G.T.g G.T.b G.T.builtins G.T.nolimit hg hwl (pl_encAll _ _) (layable_weight hlay) hr hF hb (by rw [encAll_len]; exact hlen)
    (fun H xs hO hS => hsp H xs a hO hwi e2 hS) fun H e s' => hCX H s₁ e s') fun r' s' hq => ?_)
  obtain ⟨u, as', rfl, h1, h2, h3, h4⟩ := hq
  exact ⟨.inl ⟨u, _, as', rfl, fun _ => rfl, h1, (PySem.W.OpenSpec.post_iff hwell hwi _ _).mpr rfl, fun z => Bool.noConfusion (show false = true from z)⟩, h2, h3, h4⟩
/-- the asked def, given what stands written -/
theorem facts {P : Program} {w : World} {K : PySem.W.Frag} {h : Heap} {mg : Str → Option Value} {f : Addr} (X : K.In h) (G : h.Ns mainGlobals mg) (hfa : mg ("answers" : Str) = some (.ref f)) (c : SaysF chkT fnL K) :
    ∃ fd : FuncData, (∀ (s : Shared) (us : List Value), us.length = [("calls" : Str)].length → BindsTo s fd ⟨us, []⟩ ([("calls" : Str)].zip us)) ∧ ∀ base : Heap, FnOk P w K mg base CX0 12 f fd ["calls"] (sp_answers K) := by
  have T : Tx K mg := ⟨c, h, X, G⟩
  obtain ⟨fd, hb, hF⟩ := fin_answers (P := P) (w := w) T
  have e := hfa.symm.trans T.g_answers
  cases e
  exact ⟨fd, hb, hF⟩
end Fb
open PySem PySem.W PySem.Calls PyProof.Rows
theorem PySem.Challenge.cw_formulabook_s01_answers_holds : PySem.Challenge.rw_formulabook_s01_answers.Holds := by
  refine HandSHeadRun.head_spec (r := PySem.Challenge.rw_formulabook_s01_answers) (q := Fb.qv) (H := Fb.hk) (ob := Fb.ob) (M := 6000) (loose := Fb.looseA) (d := HandSHeadRun.topDef Fb.RR.prog 116) (kwd := []) Fb.ob_eq
    (by kernel_rfl) (fun s => by kernel_rfl) Fb.topRun (by kernel_rfl) (by kernel_rfl) (by kernel_rfl) os_shapes (by first | assumption | decide +kernel) (by decide +kernel) ⟨rfl, rfl, rfl, rfl, rfl, by decide +kernel⟩ ?hw ?hc
  case hw => exact ⟨[.list [.int 4, .int 0]], by decide +kernel, by decide +kernel⟩
  case hc =>
    refine Fb.walk_specE (r := PySem.Challenge.rw_formulabook_s01_answers) (k := 12) (ps := ["calls"]) (CX := L2.CX0) (by decide +kernel) (by kernel_rfl) rfl ⟨rfl, by decide, by decide⟩ ?F (fun _ _ _ _ z => z)
    intro w mg fa h Y G hmg0
    obtain ⟨K, KX, c⟩ := Y
    have hmg : mg ("answers" : PySem.Str) = some (.ref fa) := by
      have e : (HandSHeadRun.topDef Fb.RR.prog 116).name = ("answers" : PySem.Str) := by kernel_rfl
      rw [← e]
      exact hmg0
    obtain ⟨fd, hb, hF⟩ := Fb.facts (P := PySem.Challenge.rw_formulabook_s01_answers.prog) (w := w) KX G hmg c
    refine ⟨K, fd, Fb.sp_answers K, KX, hb, fun H xs a hO hwi hask hdw => ?_, fun base _ _ => hF base⟩
    obtain ⟨zs, ⟨⟩⟩ := a
    have hd : L2.DwAll K H xs [.list (zs.map WData.int)] := hdw
    cases hd with
    | cons h1 h2 =>
    cases h2
    cases h1 with
    | lst hs hx =>
    rename_i a0 xs0
    have ex := L2.ints_dw _ _ hx
    subst ex
    have hask' : PyWrsctf.answers_asked zs = true := hask
    obtain ⟨cs, c1, c2, c3, c4⟩ := Fb.law zs hask'
    exact ⟨a0, zs, cs, rfl, hs, c1, c2, Fb.step_ok, c3, fun q H' _ hq => by
      rw [c4] at hq
      exact L2.Dw.lst (L2.SqL.of hq) (L2.dw_ints _)⟩
