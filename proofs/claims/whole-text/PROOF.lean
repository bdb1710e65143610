import PyProof.Rows.All
import Wide.All
import OpenK.AllK
import Wide.FinOn
import HandS.Base
import HandS.Call
import HandS.Words
import PySem.Challenge.RW_rowjudge_k96_whole_text_to_answers
import KE.KStateDown
import HandS.Ends
import HandS.More
import HandS.WordsExc
import HandS.Defaults
import HandS.Head0
import HandS.Head1
import HandS.Head2
import HandS.HeadEnd
import HandS.HeadHook1
import HandS.HeadHook2
import HandS.HeadHook3
import HandS.HeadHook4
import HandS.ForMost
import HandS.IsInst
import HandS.ClsMeth
import HandS.CallRecv
import HandS.Walk
import HandS.SortRule
import HandS.Evl
import HandS.DictComp
import HandS.Exc
import HandS.Rev
import HandS.RevTup
import HandS.Conv
import PyProof.ListRange
set_option Elab.async false
set_option linter.all false
set_option maxRecDepth 100000
namespace Rk
open PySem L2
/-! ### the text by places -/
def top (i : Nat) : Stmt := PySem.Challenge.pw_rowjudge_k96_whole_text_to_answers.main.body.getD i (.Pass ⟨0, 0, 0, 0⟩)
abbrev s_is_word : Stmt := top 22
abbrev s_number_of : Stmt := top 23
abbrev s_number_text : Stmt := top 24
abbrev s_alike : Stmt := top 28
abbrev s_read_domain : Stmt := top 29
abbrev s_named_domains : Stmt := top 33
abbrev s_look_at_columns : Stmt := top 34
abbrev s_free_of : Stmt := top 35
abbrev s_look_for_rings : Stmt := top 36
abbrev s_table_of : Stmt := top 38
abbrev s_asks : Stmt := top 39
abbrev s_gathered : Stmt := top 40
abbrev s_order_of : Stmt := top 41
abbrev s_needs : Stmt := top 42
abbrev s_tidy : Stmt := top 44
abbrev s_holds : Stmt := top 45
abbrev s_both : Stmt := top 46
abbrev s_gaps : Stmt := top 47
abbrev s_without : Stmt := top 48
abbrev s_way_by : Stmt := top 57
abbrev s_look_at_names : Stmt := top 61
abbrev s_look_at_row : Stmt := top 62
abbrev s_own_rows : Stmt := top 63
abbrev s_fits : Stmt := top 65
abbrev s_mask : Stmt := top 66
abbrev s_judged : Stmt := top 67
abbrev s_fact_codes : Stmt := top 69
abbrev s_entry : Stmt := top 70
abbrev s_entries : Stmt := top 71
abbrev s_tables_for : Stmt := top 72
abbrev s_trail : Stmt := top 73
abbrev s_ask : Stmt := top 74
abbrev s_read_end : Stmt := top 76
abbrev s_read_stretch : Stmt := top 77
abbrev s_read_part : Stmt := top 78
abbrev s_read_cell : Stmt := top 79
abbrev s_show_stretch : Stmt := top 80
abbrev s_show_cell : Stmt := top 81
abbrev s_read_value : Stmt := top 82
abbrev s_show_value : Stmt := top 83
abbrev s_table_parts : Stmt := top 89
abbrev s_parts_of : Stmt := top 90
abbrev s_blocks_of : Stmt := top 91
abbrev s_look_at_counts : Stmt := top 92
abbrev s_look_at_all_names : Stmt := top 93
abbrev s_domains_read : Stmt := top 94
abbrev s_look_at_ways : Stmt := top 95
abbrev s_look_at_fields : Stmt := top 96
abbrev s_cells_read : Stmt := top 97
abbrev s_look_at_values : Stmt := top 98
abbrev s_table_read : Stmt := top 99
abbrev s_read_book : Stmt := top 100
abbrev s_head_text : Stmt := top 101
abbrev s_row_text : Stmt := top 102
abbrev s_show_book : Stmt := top 103
abbrev s_law_cell : Stmt := top 105
abbrev s_law_word : Stmt := top 106
abbrev s_law_numbers : Stmt := top 107
abbrev s_law_fact : Stmt := top 108
abbrev s_law_outcome : Stmt := top 109
abbrev s_law_columns : Stmt := top 110
abbrev s_law_way : Stmt := top 111
abbrev s_law_row : Stmt := top 112
abbrev s_law_model : Stmt := top 113
abbrev s_law_piece : Stmt := top 114
abbrev s_law_field : Stmt := top 115
abbrev s_law_domain_text : Stmt := top 116
abbrev s_law_names : Stmt := top 117
abbrev s_law_table_lines : Stmt := top 118
abbrev s_law_text : Stmt := top 119
abbrev s_law_places : Stmt := top 120
abbrev s_law_due : Stmt := top 121
abbrev s_law_fitting : Stmt := top 122
abbrev s_law_verdicts : Stmt := top 123
abbrev s_law_value : Stmt := top 124
abbrev s_law_whole : Stmt := top 125
abbrev s_law_is : Stmt := top 126
abbrev s_law : Stmt := top 127
abbrev s_Domain_init : Stmt := inClass (top 25) 0
abbrev s_Numbers_init : Stmt := inClass (top 26) 0
abbrev s_Numbers_bears : Stmt := inClass (top 26) 1
abbrev s_Numbers_place : Stmt := inClass (top 26) 2
abbrev s_Numbers_written : Stmt := inClass (top 26) 4
abbrev s_Numbers_code : Stmt := inClass (top 25) 5
abbrev s_Numbers_whole : Stmt := inClass (top 25) 8
abbrev s_Words_init : Stmt := inClass (top 27) 0
abbrev s_Words_bears : Stmt := inClass (top 27) 1
abbrev s_Words_place : Stmt := inClass (top 27) 2
abbrev s_Words_told : Stmt := inClass (top 27) 3
abbrev s_Words_written : Stmt := inClass (top 27) 4
abbrev s_Words_code : Stmt := inClass (top 25) 5
abbrev s_Words_worth : Stmt := inClass (top 25) 6
abbrev s_Words_whole : Stmt := inClass (top 25) 8
abbrev s_Book_init : Stmt := inClass (top 37) 0
abbrev s_Table_init : Stmt := inClass (top 64) 0
abbrev s_Way_init : Stmt := inClass (top 50) 0
abbrev s_First_init : Stmt := inClass (top 51) 0
abbrev s_First_chosen : Stmt := inClass (top 50) 1
abbrev s_First_verdict : Stmt := inClass (top 50) 2
abbrev s_Only_init : Stmt := inClass (top 52) 0
abbrev s_Only_chosen : Stmt := inClass (top 52) 1
abbrev s_Only_verdict : Stmt := inClass (top 50) 2
abbrev s_Like_init : Stmt := inClass (top 53) 0
abbrev s_Like_chosen : Stmt := inClass (top 53) 1
abbrev s_Like_verdict : Stmt := inClass (top 50) 2
abbrev s_Low_init : Stmt := inClass (top 54) 0
abbrev s_Low_chosen : Stmt := inClass (top 54) 1
abbrev s_Low_verdict : Stmt := inClass (top 50) 2
abbrev s_High_init : Stmt := inClass (top 55) 0
abbrev s_High_chosen : Stmt := inClass (top 55) 1
abbrev s_High_verdict : Stmt := inClass (top 50) 2
abbrev s_Sum_init : Stmt := inClass (top 56) 0
abbrev s_Sum_chosen : Stmt := inClass (top 56) 1
abbrev s_Sum_verdict : Stmt := inClass (top 50) 2
end Rk
set_option Elab.async false
set_option linter.all false
set_option maxRecDepth 100000
set_option maxHeartbeats 0
namespace RkH
open Rk
open PySem PySem.Spec PyProof.Rows L2
def d_is_word : He.DefD := ⟨("is_word", none), "is_word", "is_word", defArgs s_is_word, defBody s_is_word, defScope s_is_word, [], []⟩
def d_number_of : He.DefD := ⟨("number_of", none), "number_of", "number_of", defArgs s_number_of, defBody s_number_of, defScope s_number_of, [], []⟩
def d_number_text : He.DefD := ⟨("number_text", none), "number_text", "number_text", defArgs s_number_text, defBody s_number_text, defScope s_number_text, [], []⟩
def d_alike : He.DefD := ⟨("alike", none), "alike", "alike", defArgs s_alike, defBody s_alike, defScope s_alike, [], []⟩
def d_read_domain : He.DefD := ⟨("read_domain", none), "read_domain", "read_domain", defArgs s_read_domain, defBody s_read_domain, defScope s_read_domain, [], []⟩
def d_named_domains : He.DefD := ⟨("named_domains", none), "named_domains", "named_domains", defArgs s_named_domains, defBody s_named_domains, defScope s_named_domains, [], []⟩
def d_look_at_columns : He.DefD := ⟨("look_at_columns", none), "look_at_columns", "look_at_columns", defArgs s_look_at_columns, defBody s_look_at_columns, defScope s_look_at_columns, [], []⟩
def d_free_of : He.DefD := ⟨("free_of", none), "free_of", "free_of", defArgs s_free_of, defBody s_free_of, defScope s_free_of, [], []⟩
def d_look_for_rings : He.DefD := ⟨("look_for_rings", none), "look_for_rings", "look_for_rings", defArgs s_look_for_rings, defBody s_look_for_rings, defScope s_look_for_rings, [], []⟩
def d_table_of : He.DefD := ⟨("table_of", none), "table_of", "table_of", defArgs s_table_of, defBody s_table_of, defScope s_table_of, [], []⟩
def d_asks : He.DefD := ⟨("asks", none), "asks", "asks", defArgs s_asks, defBody s_asks, defScope s_asks, [], []⟩
def d_gathered : He.DefD := ⟨("gathered", none), "gathered", "gathered", defArgs s_gathered, defBody s_gathered, defScope s_gathered, [], []⟩
def d_order_of : He.DefD := ⟨("order_of", none), "order_of", "order_of", defArgs s_order_of, defBody s_order_of, defScope s_order_of, [], []⟩
def d_needs : He.DefD := ⟨("needs", none), "needs", "needs", defArgs s_needs, defBody s_needs, defScope s_needs, [], []⟩
def d_tidy : He.DefD := ⟨("tidy", none), "tidy", "tidy", defArgs s_tidy, defBody s_tidy, defScope s_tidy, [], []⟩
def d_holds : He.DefD := ⟨("holds", none), "holds", "holds", defArgs s_holds, defBody s_holds, defScope s_holds, [], []⟩
def d_both : He.DefD := ⟨("both", none), "both", "both", defArgs s_both, defBody s_both, defScope s_both, [], []⟩
def d_gaps : He.DefD := ⟨("gaps", none), "gaps", "gaps", defArgs s_gaps, defBody s_gaps, defScope s_gaps, [], []⟩
def d_without : He.DefD := ⟨("without", none), "without", "without", defArgs s_without, defBody s_without, defScope s_without, [], []⟩
def d_way_by : He.DefD := ⟨("way_by", none), "way_by", "way_by", defArgs s_way_by, defBody s_way_by, defScope s_way_by, [], []⟩
def d_look_at_names : He.DefD := ⟨("look_at_names", none), "look_at_names", "look_at_names", defArgs s_look_at_names, defBody s_look_at_names, defScope s_look_at_names, [], []⟩
def d_look_at_row : He.DefD := ⟨("look_at_row", none), "look_at_row", "look_at_row", defArgs s_look_at_row, defBody s_look_at_row, defScope s_look_at_row, [], []⟩
def d_own_rows : He.DefD := ⟨("own_rows", none), "own_rows", "own_rows", defArgs s_own_rows, defBody s_own_rows, defScope s_own_rows, [], []⟩
def d_fits : He.DefD := ⟨("fits", none), "fits", "fits", defArgs s_fits, defBody s_fits, defScope s_fits, [], []⟩
def d_mask : He.DefD := ⟨("mask", none), "mask", "mask", defArgs s_mask, defBody s_mask, defScope s_mask, [], []⟩
def d_judged : He.DefD := ⟨("judged", none), "judged", "judged", defArgs s_judged, defBody s_judged, defScope s_judged, [], []⟩
def d_fact_codes : He.DefD := ⟨("fact_codes", none), "fact_codes", "fact_codes", defArgs s_fact_codes, defBody s_fact_codes, defScope s_fact_codes, [], []⟩
def d_entry : He.DefD := ⟨("entry", none), "entry", "entry", defArgs s_entry, defBody s_entry, defScope s_entry, [], []⟩
def d_entries : He.DefD := ⟨("entries", none), "entries", "entries", defArgs s_entries, defBody s_entries, defScope s_entries, [], []⟩
def d_tables_for : He.DefD := ⟨("tables_for", none), "tables_for", "tables_for", defArgs s_tables_for, defBody s_tables_for, defScope s_tables_for, [], []⟩
def d_trail : He.DefD := ⟨("trail", none), "trail", "trail", defArgs s_trail, defBody s_trail, defScope s_trail, [], []⟩
def d_ask : He.DefD := ⟨("ask", none), "ask", "ask", defArgs s_ask, defBody s_ask, defScope s_ask, [], []⟩
def d_read_end : He.DefD := ⟨("read_end", none), "read_end", "read_end", defArgs s_read_end, defBody s_read_end, defScope s_read_end, [], []⟩
def d_read_stretch : He.DefD := ⟨("read_stretch", none), "read_stretch", "read_stretch", defArgs s_read_stretch, defBody s_read_stretch, defScope s_read_stretch, [], []⟩
def d_read_part : He.DefD := ⟨("read_part", none), "read_part", "read_part", defArgs s_read_part, defBody s_read_part, defScope s_read_part, [], []⟩
def d_read_cell : He.DefD := ⟨("read_cell", none), "read_cell", "read_cell", defArgs s_read_cell, defBody s_read_cell, defScope s_read_cell, [], []⟩
def d_show_stretch : He.DefD := ⟨("show_stretch", none), "show_stretch", "show_stretch", defArgs s_show_stretch, defBody s_show_stretch, defScope s_show_stretch, [], []⟩
def d_show_cell : He.DefD := ⟨("show_cell", none), "show_cell", "show_cell", defArgs s_show_cell, defBody s_show_cell, defScope s_show_cell, [], []⟩
def d_read_value : He.DefD := ⟨("read_value", none), "read_value", "read_value", defArgs s_read_value, defBody s_read_value, defScope s_read_value, [], []⟩
def d_show_value : He.DefD := ⟨("show_value", none), "show_value", "show_value", defArgs s_show_value, defBody s_show_value, defScope s_show_value, [], []⟩
def d_table_parts : He.DefD := ⟨("table_parts", none), "table_parts", "table_parts", defArgs s_table_parts, defBody s_table_parts, defScope s_table_parts, [], []⟩
def d_parts_of : He.DefD := ⟨("parts_of", none), "parts_of", "parts_of", defArgs s_parts_of, defBody s_parts_of, defScope s_parts_of, [], []⟩
def d_blocks_of : He.DefD := ⟨("blocks_of", none), "blocks_of", "blocks_of", defArgs s_blocks_of, defBody s_blocks_of, defScope s_blocks_of, [], []⟩
def d_look_at_counts : He.DefD := ⟨("look_at_counts", none), "look_at_counts", "look_at_counts", defArgs s_look_at_counts, defBody s_look_at_counts, defScope s_look_at_counts, [], []⟩
def d_look_at_all_names : He.DefD := ⟨("look_at_all_names", none), "look_at_all_names", "look_at_all_names", defArgs s_look_at_all_names, defBody s_look_at_all_names, defScope s_look_at_all_names, [], []⟩
def d_domains_read : He.DefD := ⟨("domains_read", none), "domains_read", "domains_read", defArgs s_domains_read, defBody s_domains_read, defScope s_domains_read, [], []⟩
def d_look_at_ways : He.DefD := ⟨("look_at_ways", none), "look_at_ways", "look_at_ways", defArgs s_look_at_ways, defBody s_look_at_ways, defScope s_look_at_ways, [], []⟩
def d_look_at_fields : He.DefD := ⟨("look_at_fields", none), "look_at_fields", "look_at_fields", defArgs s_look_at_fields, defBody s_look_at_fields, defScope s_look_at_fields, [], []⟩
def d_cells_read : He.DefD := ⟨("cells_read", none), "cells_read", "cells_read", defArgs s_cells_read, defBody s_cells_read, defScope s_cells_read, [], []⟩
def d_look_at_values : He.DefD := ⟨("look_at_values", none), "look_at_values", "look_at_values", defArgs s_look_at_values, defBody s_look_at_values, defScope s_look_at_values, [], []⟩
def d_table_read : He.DefD := ⟨("table_read", none), "table_read", "table_read", defArgs s_table_read, defBody s_table_read, defScope s_table_read, [], []⟩
def d_read_book : He.DefD := ⟨("read_book", none), "read_book", "read_book", defArgs s_read_book, defBody s_read_book, defScope s_read_book, [], []⟩
def d_head_text : He.DefD := ⟨("head_text", none), "head_text", "head_text", defArgs s_head_text, defBody s_head_text, defScope s_head_text, [], []⟩
def d_row_text : He.DefD := ⟨("row_text", none), "row_text", "row_text", defArgs s_row_text, defBody s_row_text, defScope s_row_text, [], []⟩
def d_show_book : He.DefD := ⟨("show_book", none), "show_book", "show_book", defArgs s_show_book, defBody s_show_book, defScope s_show_book, [], []⟩
def d_law_cell : He.DefD := ⟨("_law_cell", none), "_law_cell", "_law_cell", defArgs s_law_cell, defBody s_law_cell, defScope s_law_cell, [], []⟩
def d_law_word : He.DefD := ⟨("_law_word", none), "_law_word", "_law_word", defArgs s_law_word, defBody s_law_word, defScope s_law_word, [], []⟩
def d_law_numbers : He.DefD := ⟨("_law_numbers", none), "_law_numbers", "_law_numbers", defArgs s_law_numbers, defBody s_law_numbers, defScope s_law_numbers, [], []⟩
def d_law_fact : He.DefD := ⟨("_law_fact", none), "_law_fact", "_law_fact", defArgs s_law_fact, defBody s_law_fact, defScope s_law_fact, [], []⟩
def d_law_outcome : He.DefD := ⟨("_law_outcome", none), "_law_outcome", "_law_outcome", defArgs s_law_outcome, defBody s_law_outcome, defScope s_law_outcome, [], []⟩
def d_law_columns : He.DefD := ⟨("_law_columns", none), "_law_columns", "_law_columns", defArgs s_law_columns, defBody s_law_columns, defScope s_law_columns, [], []⟩
def d_law_way : He.DefD := ⟨("_law_way", none), "_law_way", "_law_way", defArgs s_law_way, defBody s_law_way, defScope s_law_way, [], []⟩
def d_law_row : He.DefD := ⟨("_law_row", none), "_law_row", "_law_row", defArgs s_law_row, defBody s_law_row, defScope s_law_row, [], []⟩
def d_law_model : He.DefD := ⟨("_law_model", none), "_law_model", "_law_model", defArgs s_law_model, defBody s_law_model, defScope s_law_model, [], []⟩
def d_law_piece : He.DefD := ⟨("_law_piece", none), "_law_piece", "_law_piece", defArgs s_law_piece, defBody s_law_piece, defScope s_law_piece, [], []⟩
def d_law_field : He.DefD := ⟨("_law_field", none), "_law_field", "_law_field", defArgs s_law_field, defBody s_law_field, defScope s_law_field, [], []⟩
def d_law_domain_text : He.DefD := ⟨("_law_domain_text", none), "_law_domain_text", "_law_domain_text", defArgs s_law_domain_text, defBody s_law_domain_text, defScope s_law_domain_text, [], []⟩
def d_law_names : He.DefD := ⟨("_law_names", none), "_law_names", "_law_names", defArgs s_law_names, defBody s_law_names, defScope s_law_names, [], []⟩
def d_law_table_lines : He.DefD := ⟨("_law_table_lines", none), "_law_table_lines", "_law_table_lines", defArgs s_law_table_lines, defBody s_law_table_lines, defScope s_law_table_lines, [], []⟩
def d_law_text : He.DefD := ⟨("_law_text", none), "_law_text", "_law_text", defArgs s_law_text, defBody s_law_text, defScope s_law_text, [], []⟩
def d_law_places : He.DefD := ⟨("_law_places", none), "_law_places", "_law_places", defArgs s_law_places, defBody s_law_places, defScope s_law_places, [], []⟩
def d_law_due : He.DefD := ⟨("_law_due", none), "_law_due", "_law_due", defArgs s_law_due, defBody s_law_due, defScope s_law_due, [], []⟩
def d_law_fitting : He.DefD := ⟨("_law_fitting", none), "_law_fitting", "_law_fitting", defArgs s_law_fitting, defBody s_law_fitting, defScope s_law_fitting, [], []⟩
def d_law_verdicts : He.DefD := ⟨("_law_verdicts", none), "_law_verdicts", "_law_verdicts", defArgs s_law_verdicts, defBody s_law_verdicts, defScope s_law_verdicts, [], []⟩
def d_law_value : He.DefD := ⟨("_law_value", none), "_law_value", "_law_value", defArgs s_law_value, defBody s_law_value, defScope s_law_value, [], []⟩
def d_law_whole : He.DefD := ⟨("_law_whole", none), "_law_whole", "_law_whole", defArgs s_law_whole, defBody s_law_whole, defScope s_law_whole, [], []⟩
def d_law_is : He.DefD := ⟨("_law_is", none), "_law_is", "_law_is", defArgs s_law_is, defBody s_law_is, defScope s_law_is, [], []⟩
def d_law : He.DefD := ⟨("law", none), "law", "law", defArgs s_law, defBody s_law, defScope s_law, [], []⟩
def d_Domain_init : He.DefD := ⟨("Domain", some "__init__"), "__init__", "Domain.__init__", defArgs s_Domain_init, defBody s_Domain_init, defScope s_Domain_init, [], []⟩
def d_Numbers_init : He.DefD := ⟨("Numbers", some "__init__"), "__init__", "Numbers.__init__", defArgs s_Numbers_init, defBody s_Numbers_init, defScope s_Numbers_init, [], []⟩
def d_Numbers_bears : He.DefD := ⟨("Numbers", some "bears"), "bears", "Numbers.bears", defArgs s_Numbers_bears, defBody s_Numbers_bears, defScope s_Numbers_bears, [], []⟩
def d_Numbers_place : He.DefD := ⟨("Numbers", some "place"), "place", "Numbers.place", defArgs s_Numbers_place, defBody s_Numbers_place, defScope s_Numbers_place, [], []⟩
def d_Numbers_written : He.DefD := ⟨("Numbers", some "written"), "written", "Numbers.written", defArgs s_Numbers_written, defBody s_Numbers_written, defScope s_Numbers_written, [], []⟩
def d_Numbers_code : He.DefD := ⟨("Numbers", some "code"), "code", "Domain.code", defArgs s_Numbers_code, defBody s_Numbers_code, defScope s_Numbers_code, [], []⟩
def d_Numbers_whole : He.DefD := ⟨("Numbers", some "whole"), "whole", "Domain.whole", defArgs s_Numbers_whole, defBody s_Numbers_whole, defScope s_Numbers_whole, [], []⟩
def d_Words_init : He.DefD := ⟨("Words", some "__init__"), "__init__", "Words.__init__", defArgs s_Words_init, defBody s_Words_init, defScope s_Words_init, [], []⟩
def d_Words_bears : He.DefD := ⟨("Words", some "bears"), "bears", "Words.bears", defArgs s_Words_bears, defBody s_Words_bears, defScope s_Words_bears, [], []⟩
def d_Words_place : He.DefD := ⟨("Words", some "place"), "place", "Words.place", defArgs s_Words_place, defBody s_Words_place, defScope s_Words_place, [], []⟩
def d_Words_told : He.DefD := ⟨("Words", some "told"), "told", "Words.told", defArgs s_Words_told, defBody s_Words_told, defScope s_Words_told, [], []⟩
def d_Words_written : He.DefD := ⟨("Words", some "written"), "written", "Words.written", defArgs s_Words_written, defBody s_Words_written, defScope s_Words_written, [], []⟩
def d_Words_code : He.DefD := ⟨("Words", some "code"), "code", "Domain.code", defArgs s_Words_code, defBody s_Words_code, defScope s_Words_code, [], []⟩
def d_Words_worth : He.DefD := ⟨("Words", some "worth"), "worth", "Domain.worth", defArgs s_Words_worth, defBody s_Words_worth, defScope s_Words_worth, [], []⟩
def d_Words_whole : He.DefD := ⟨("Words", some "whole"), "whole", "Domain.whole", defArgs s_Words_whole, defBody s_Words_whole, defScope s_Words_whole, [], []⟩
def d_Book_init : He.DefD := ⟨("Book", some "__init__"), "__init__", "Book.__init__", defArgs s_Book_init, defBody s_Book_init, defScope s_Book_init, [], []⟩
def d_Table_init : He.DefD := ⟨("Table", some "__init__"), "__init__", "Table.__init__", defArgs s_Table_init, defBody s_Table_init, defScope s_Table_init, [], []⟩
def d_Way_init : He.DefD := ⟨("Way", some "__init__"), "__init__", "Way.__init__", defArgs s_Way_init, defBody s_Way_init, defScope s_Way_init, [], []⟩
def d_First_init : He.DefD := ⟨("First", some "__init__"), "__init__", "First.__init__", defArgs s_First_init, defBody s_First_init, defScope s_First_init, [], []⟩
def d_First_chosen : He.DefD := ⟨("First", some "chosen"), "chosen", "Way.chosen", defArgs s_First_chosen, defBody s_First_chosen, defScope s_First_chosen, [], []⟩
def d_First_verdict : He.DefD := ⟨("First", some "verdict"), "verdict", "Way.verdict", defArgs s_First_verdict, defBody s_First_verdict, defScope s_First_verdict, [], []⟩
def d_Only_init : He.DefD := ⟨("Only", some "__init__"), "__init__", "Only.__init__", defArgs s_Only_init, defBody s_Only_init, defScope s_Only_init, [], []⟩
def d_Only_chosen : He.DefD := ⟨("Only", some "chosen"), "chosen", "Only.chosen", defArgs s_Only_chosen, defBody s_Only_chosen, defScope s_Only_chosen, [], []⟩
def d_Only_verdict : He.DefD := ⟨("Only", some "verdict"), "verdict", "Way.verdict", defArgs s_Only_verdict, defBody s_Only_verdict, defScope s_Only_verdict, [], []⟩
def d_Like_init : He.DefD := ⟨("Like", some "__init__"), "__init__", "Like.__init__", defArgs s_Like_init, defBody s_Like_init, defScope s_Like_init, [], []⟩
def d_Like_chosen : He.DefD := ⟨("Like", some "chosen"), "chosen", "Like.chosen", defArgs s_Like_chosen, defBody s_Like_chosen, defScope s_Like_chosen, [], []⟩
def d_Like_verdict : He.DefD := ⟨("Like", some "verdict"), "verdict", "Way.verdict", defArgs s_Like_verdict, defBody s_Like_verdict, defScope s_Like_verdict, [], []⟩
def d_Low_init : He.DefD := ⟨("Low", some "__init__"), "__init__", "Low.__init__", defArgs s_Low_init, defBody s_Low_init, defScope s_Low_init, [], []⟩
def d_Low_chosen : He.DefD := ⟨("Low", some "chosen"), "chosen", "Low.chosen", defArgs s_Low_chosen, defBody s_Low_chosen, defScope s_Low_chosen, [], []⟩
def d_Low_verdict : He.DefD := ⟨("Low", some "verdict"), "verdict", "Way.verdict", defArgs s_Low_verdict, defBody s_Low_verdict, defScope s_Low_verdict, [], []⟩
def d_High_init : He.DefD := ⟨("High", some "__init__"), "__init__", "High.__init__", defArgs s_High_init, defBody s_High_init, defScope s_High_init, [], []⟩
def d_High_chosen : He.DefD := ⟨("High", some "chosen"), "chosen", "High.chosen", defArgs s_High_chosen, defBody s_High_chosen, defScope s_High_chosen, [], []⟩
def d_High_verdict : He.DefD := ⟨("High", some "verdict"), "verdict", "Way.verdict", defArgs s_High_verdict, defBody s_High_verdict, defScope s_High_verdict, [], []⟩
def d_Sum_init : He.DefD := ⟨("Sum", some "__init__"), "__init__", "Sum.__init__", defArgs s_Sum_init, defBody s_Sum_init, defScope s_Sum_init, [], []⟩
def d_Sum_chosen : He.DefD := ⟨("Sum", some "chosen"), "chosen", "Sum.chosen", defArgs s_Sum_chosen, defBody s_Sum_chosen, defScope s_Sum_chosen, [], []⟩
def d_Sum_verdict : He.DefD := ⟨("Sum", some "verdict"), "verdict", "Way.verdict", defArgs s_Sum_verdict, defBody s_Sum_verdict, defScope s_Sum_verdict, [], []⟩
def fn0 : List He.DefD := [d_is_word, d_number_of, d_number_text, d_alike, d_read_domain, d_named_domains, d_look_at_columns, d_free_of, d_look_for_rings, d_table_of, d_asks, d_gathered, d_order_of, d_needs, d_tidy, d_holds, d_both, d_gaps, d_without, d_way_by, d_look_at_names, d_look_at_row, d_own_rows, d_fits, d_mask, d_judged, d_fact_codes, d_entry, d_entries, d_tables_for]
def fn1 : List He.DefD := [d_trail, d_ask, d_read_end, d_read_stretch, d_read_part, d_read_cell, d_show_stretch, d_show_cell, d_read_value, d_show_value, d_table_parts, d_parts_of, d_blocks_of, d_look_at_counts, d_look_at_all_names, d_domains_read, d_look_at_ways, d_look_at_fields, d_cells_read, d_look_at_values, d_table_read, d_read_book, d_head_text, d_row_text, d_show_book, d_law_cell, d_law_word, d_law_numbers, d_law_fact, d_law_outcome]
def fn2 : List He.DefD := [d_law_columns, d_law_way, d_law_row, d_law_model, d_law_piece, d_law_field, d_law_domain_text, d_law_names, d_law_table_lines, d_law_text, d_law_places, d_law_due, d_law_fitting, d_law_verdicts, d_law_value, d_law_whole, d_law_is, d_law, d_Domain_init, d_Numbers_init, d_Numbers_bears, d_Numbers_place, d_Numbers_written, d_Numbers_code, d_Numbers_whole, d_Words_init, d_Words_bears, d_Words_place, d_Words_told, d_Words_written]
def fn3 : List He.DefD := [d_Words_code, d_Words_worth, d_Words_whole, d_Book_init, d_Table_init, d_Way_init, d_First_init, d_First_chosen, d_First_verdict, d_Only_init, d_Only_chosen, d_Only_verdict, d_Like_init, d_Like_chosen, d_Like_verdict, d_Low_init, d_Low_chosen, d_Low_verdict, d_High_init, d_High_chosen, d_High_verdict, d_Sum_init, d_Sum_chosen, d_Sum_verdict]
def fn : List He.DefD := fn0 ++ fn1 ++ fn2 ++ fn3
def fa0 : List He.Fa := [.glo "is_word", .glo "number_of", .glo "number_text", .glo "alike", .glo "read_domain", .glo "named_domains", .glo "look_at_columns", .glo "free_of", .glo "look_for_rings", .glo "table_of", .glo "asks", .glo "gathered", .glo "order_of", .glo "needs", .glo "tidy", .glo "holds", .glo "both", .glo "gaps", .glo "without", .glo "way_by", .glo "look_at_names", .glo "look_at_row", .glo "own_rows", .glo "fits", .glo "mask", .glo "judged", .glo "fact_codes", .glo "entry", .glo "entries", .glo "tables_for"]
def fa1 : List He.Fa := [.glo "trail", .glo "ask", .glo "read_end", .glo "read_stretch", .glo "read_part", .glo "read_cell", .glo "show_stretch", .glo "show_cell", .glo "read_value", .glo "show_value", .glo "table_parts", .glo "parts_of", .glo "blocks_of", .glo "look_at_counts", .glo "look_at_all_names", .glo "domains_read", .glo "look_at_ways", .glo "look_at_fields", .glo "cells_read", .glo "look_at_values", .glo "table_read", .glo "read_book", .glo "head_text", .glo "row_text", .glo "show_book", .glo "_law_cell", .glo "_law_word", .glo "_law_numbers", .glo "_law_fact", .glo "_law_outcome"]
def fa2 : List He.Fa := [.glo "_law_columns", .glo "_law_way", .glo "_law_row", .glo "_law_model", .glo "_law_piece", .glo "_law_field", .glo "_law_domain_text", .glo "_law_names", .glo "_law_table_lines", .glo "_law_text", .glo "_law_places", .glo "_law_due", .glo "_law_fitting", .glo "_law_verdicts", .glo "_law_value", .glo "_law_whole", .glo "_law_is", .glo "law", .glo "Domain", .glo "Numbers", .glo "Words", .glo "Book", .glo "Table", .glo "Way", .glo "First", .glo "Only", .glo "Like", .glo "Low", .glo "High", .glo "Sum"]
def fa3 : List He.Fa := [.glo "BadNumber", .free "len", .free "all", .free "sorted", .free "max", .free "min", .free "isinstance", .free "range", .free "zip", .free "list", .free "dict", .free "str", .free "int", .free "sum", .free "reversed", .free "bool", .free "tuple", .str "LETTERS" "abcdefghijklmnopqrstuvwxyz", .str "FIGURES" "0123456789", .int "MOST_FIGURES" 60, .int "MOST_SIGNS" 12, .int "MOST_WORDS" 40, .int "MOST_FACTS_books" 20, .int "MOST_TABLES_books" 30, .int "MOST_COLUMNS_tables" 4, .int "MOST_ROWS_tables" 200, .int "MOST_FACTS_reading" 20, .int "MOST_TABLES_reading" 30, .int "MOST_COLUMNS_reading" 4, .int "MOST_ROWS_reading" 200]
def fa4 : List He.Fa := [.cls "Numbers", .cls "Words", .cls "Book", .cls "Table", .cls "First", .cls "Only", .cls "Like", .cls "Low", .cls "High", .cls "Sum", .noat "Numbers" "low", .noat "Numbers" "high", .noat "Words" "low", .noat "Words" "high", .noat "Words" "words", .noat "Book" "facts", .noat "Book" "tables", .noat "Table" "name", .noat "Table" "names", .noat "Table" "domains", .noat "Table" "outcome", .noat "Table" "way", .noat "Table" "rows", .noat "First" "called", .noat "Only" "called", .noat "Like" "called", .noat "Low" "called", .noat "High" "called", .noat "Sum" "called", .meth "Numbers" "bears"]
def fa5 : List He.Fa := [.meth "Numbers" "place", .meth "Numbers" "written", .meth "Numbers" "code", .meth "Numbers" "whole", .meth "Words" "bears", .meth "Words" "place", .meth "Words" "told", .meth "Words" "written", .meth "Words" "code", .meth "Words" "worth", .meth "Words" "whole", .meth "First" "chosen", .meth "First" "verdict", .meth "Only" "chosen", .meth "Only" "verdict", .meth "Like" "chosen", .meth "Like" "verdict", .meth "Low" "chosen", .meth "Low" "verdict", .meth "High" "chosen", .meth "High" "verdict", .meth "Sum" "chosen", .meth "Sum" "verdict", .mkr "Numbers", .mkr "Words", .mkr "Book", .mkr "Table", .mkr "First", .mkr "Only", .mkr "Like"]
def fa6 : List He.Fa := [.mkr "Low", .mkr "High", .mkr "Sum"]
def fa : List He.Fa := fa0 ++ fa1 ++ fa2 ++ fa3 ++ fa4 ++ fa5 ++ fa6
/-- what isinstance says of the own classes, a class's attribute that is a def -/
def kit1 (K : PySem.W.Frag) (c d : Str) (b : Bool) : Bool := decide (PySem.W.kitOne K (.ref (He.ga K c)) (.ref (He.ga K d)) = some b)
def cdef (K : PySem.W.Frag) (c m : Str) : Bool := PySem.W.readsIn K (He.ga K c) (.type "type") && (decide (PySem.W.specialIn K (.ref (He.ga K c)) "__getattribute__" = some (some (.builtin "type.__getattribute__"))) && (match PySem.W.findCls K (.ref (He.ga K c)) (.type "type") m with
  | some (.val (.ref a)) => decide (a = He.ma K (He.ga K c) m)
  | _ => false))
def insB (K : PySem.W.Frag) (c : Str) : Bool := decide (PySem.W.findIn K (.ref (He.ga K c)) "__class__" = some (some (.builtin "object.__class__"))) && decide (PySem.W.mroIn K (He.ga K c) (.type "object") = some true)
def getB (K : PySem.W.Frag) : Bool := decide (PySem.W.specialIn K (.builtin "object.__class__") "__get__" = some (some (.builtin "getset_descriptor.__get__"))) && decide (PySem.W.takesIn K (.builtin "object.__class__") = some true)
def ex (K : PySem.W.Frag) : Bool := kit1 K "Numbers" "Words" false && (kit1 K "Words" "Words" true && (kit1 K "Numbers" "Numbers" true && (kit1 K "Words" "Numbers" false && (cdef K "Domain" "__init__" && (cdef K "Way" "__init__" && (insB K "Numbers" && (insB K "Words" && getB K)))))))


def lo0 : List Str := ["_wall", "__name__", "TableError", "BadNumber", "BadName", "BadDomain", "BadCell", "BadWay", "BadRow", "BadLine", "TooMany", "Outside", "Unlike", "NoTable", "NoFact", "Ring", "LETTERS", "FIGURES", "MOST_FIGURES", "MOST_SIGNS", "MOST_WORDS", "is_word", "number_of", "number_text", "Domain", "Numbers", "Words", "alike", "read_domain", "MOST_FACTS_books"]
def lo1 : List Str := ["MOST_TABLES_books", "named_domains", "look_at_columns", "free_of", "look_for_rings", "Book", "table_of", "asks", "gathered", "order_of", "needs", "tidy", "holds", "both", "gaps", "without", "Way", "First", "Only", "Like", "Low", "High", "Sum", "way_by", "MOST_COLUMNS_tables", "MOST_ROWS_tables", "look_at_names", "look_at_row", "own_rows", "Table"]
def lo2 : List Str := ["fits", "mask", "judged", "fact_codes", "entry", "entries", "tables_for", "trail", "ask", "read_end", "read_stretch", "read_part", "read_cell", "show_stretch", "show_cell", "read_value", "show_value", "MOST_FACTS_reading", "MOST_TABLES_reading", "MOST_COLUMNS_reading", "MOST_ROWS_reading", "table_parts", "parts_of", "blocks_of", "look_at_counts", "look_at_all_names", "domains_read", "look_at_ways", "look_at_fields", "cells_read"]
def lo3 : List Str := ["look_at_values", "table_read", "read_book", "head_text", "row_text", "show_book", "_law_cell", "_law_word", "_law_numbers", "_law_fact", "_law_outcome", "_law_columns", "_law_way", "_law_row", "_law_model", "_law_piece", "_law_field", "_law_domain_text", "_law_names", "_law_table_lines", "_law_text", "_law_places", "_law_due", "_law_fitting", "_law_verdicts", "_law_value", "_law_whole", "_law_is"]
def loose : List Str := lo0 ++ (lo1 ++ (lo2 ++ (lo3)))
abbrev R : PySem.W.OpenRow := PySem.W.OpenLaw.row PySem.Challenge.rw_rowjudge_k96_whole_text_to_answers
/-! ### the Hook: what the top has made, forced once -/
def refsQ (o : Obj) : List Addr := match o.data with
  | .func fd => He.refV fd.code
  | .cls cd => [cd.ns]
  | .dict es _ => es.toList.flatMap fun e => He.refV e.val
  | _ => []
def asStep (g : Addr → Option Obj) : List Addr → List Addr
  | [] => []
  | a :: r => (match g a with
    | some o => refsQ o
    | none => []) ++ asStep g r
def frL {A : Type} : List Addr → (List Addr → A) → A
  | [], k => k []
  | a :: r, k => HandSHeadRun.frNat a fun a => frL r fun r => k (a :: r)
theorem frL_eq {A : Type} : ∀ (l : List Addr) (k : List Addr → A), frL l k = k l
  | [], k => rfl
  | a :: r, k => by
    show HandSHeadRun.frNat a (fun a => frL r fun r => k (a :: r)) = _
    rw [HandSHeadRun.frNat_eq, frL_eq r]
def frK {A : Type} (g : Addr → Option Obj) : List Addr → (PySem.W.Frag → A) → A
  | [], k => k []
  | a :: r, k => match g a with
    | some o => (match o with
      | ⟨c, d, dt, sl⟩ => frK g r fun f => k ((a, ⟨c, d, dt, sl⟩) :: f))
    | none => frK g r k
theorem frK_eq {A : Type} (g : Addr → Option Obj) : ∀ (l : List Addr) (k : PySem.W.Frag → A), frK g l k = k (He.frG g l)
  | [], k => rfl
  | a :: r, k => by
    unfold frK He.frG
    rw [List.filterMap_cons]
    cases h : g a with
    | none => exact frK_eq g r k
    | some o =>
      obtain ⟨c, d, dt, sl⟩ := o
      exact frK_eq g r _
/-- the globals, what they name, what that names (codes, the classes' own dicts), the methods, their codes -/
def asQ (g : Addr → Option Obj) : List Addr := 
  let l1 := asStep g [mainGlobals]
  let l2 := asStep g l1
  let l3 := asStep g l2
  [mainGlobals, PySem.cStatics] ++ (l1 ++ (l2 ++ (l3 ++ asStep g l3)))
def asF {A : Type} (g : Addr → Option Obj) (k : List Addr → A) : A := frL (asStep g [mainGlobals]) fun l1 => frL (asStep g l1) fun l2 => frL (asStep g l2) fun l3 => frL (asStep g l3) fun l4 => k ([mainGlobals, PySem.cStatics] ++ (l1 ++ (l2 ++ (l3 ++ l4))))
theorem asF_eq {A : Type} (g : Addr → Option Obj) (k : List Addr → A) : asF g k = k (asQ g) := by
  unfold asF
  rw [frL_eq, frL_eq, frL_eq, frL_eq]
  rfl
abbrev AlK : Type := He.AlD × Bool
def obsK (K : PySem.W.Frag) : AlK := (He.obsD fa fn K, ex K)
def valK : AlK := (He.valD fn, true)
structure Says (K : PySem.W.Frag) : Prop where
  d : He.SaysD fa fn K
  ex : ex K = true
def hk : PySem.W.Hook where
  α := AlK
  obs := fun s => obsK (He.frG s.heap.get? (asQ s.heap.get?))
  val := fun _ => valK
  says := fun _ h => ∃ K : PySem.W.Frag, K.In h ∧ Says K
  of := fun _ _ e => ⟨_, He.frG_in, ⟨congrArg (fun z : AlK => z.1) e, congrArg (fun z : AlK => z.2) e⟩⟩
  keeps := fun _ _ _ ⟨K, hK, c⟩ k => ⟨K, PySem.W.Frag.In.keeps hK k, c⟩
def obF {A : Type} (k : PySem.W.Frag → A) (s : PySem.W.SharedT) : A := asF (HandSHeadRun.getT s) fun as => frK (HandSHeadRun.getT s) as k
theorem obF_eq {A : Type} (k : PySem.W.Frag → A) (s : PySem.W.SharedT) : obF k s = k (He.frG s.abs.heap.get? (asQ s.abs.heap.get?)) := by
  unfold obF
  rw [asF_eq, frK_eq]
  have e : HandSHeadRun.getT s = s.abs.heap.get? := funext (HandSHeadRun.getT_eq s)
  rw [e]
def obA (K : PySem.W.Frag) : Bool := fa.all fun f => f.ok K
def obB (K : PySem.W.Frag) : Bool × List He.FnW := (fn.all fun d => d.ok K, fn.map fun d => He.fnW K d.at_)
def ob (s : PySem.W.SharedT) : AlK := ((obF obA s && (obF obB s).1, (obF obB s).2), obF ex s)
theorem ob_eq (s : PySem.W.SharedT) : ob s = hk.obs s.abs := by
  unfold ob
  rw [obF_eq, obF_eq, obF_eq]
  rfl
theorem join4 {S B C : Type} {o : Option S} {l : S → Bool} {q : S → B} {f : S → Bool} {g : S → Bool × C} {x : S → Bool} {b : B} {c : C} (h1 : o.map (fun s => (l s, q s)) = some (true, b)) (h2 : o.map f = some true) (h3 : o.map g = some (true, c)) (h4 : o.map x = some true) :
    o.map (fun s => (l s, q s, ((f s && (g s).1, (g s).2), x s))) = some (true, b, ((true, c), true)) := by
  cases o with
  | none => cases h1
  | some s =>
    have h1 := Option.some.inj h1
    have h2 := Option.some.inj h2
    have h3 := Option.some.inj h3
    have h4 := Option.some.inj h4
    have e1 : l s = true := congrArg Prod.fst h1
    have e2 : q s = b := congrArg Prod.snd h1
    show some (l s, q s, ((f s && (g s).1, (g s).2), x s)) = _
    rw [e1, e2, h2, h3, h4]
    rfl
noncomputable abbrev endS (w : World) (os : OsState) : Option PySem.W.SharedT := HandSHeadRun.endF (HandSHeadRun.stepQ (HandSHeadRun.denQ HandSHeadRun.tabQ) R.prog w) 30000 R.prog w os
abbrev vw : Program := PySem.W.view R.prog [127]
end RkH
set_option Elab.async false
set_option linter.all false
set_option maxRecDepth 100000
set_option maxHeartbeats 0
namespace RkH
open Rk
open PySem PySem.W PySem.Calls PySem.Spec PyProof.Rows L2
theorem run1 (w : World) (os : OsState) : (endS w os).map (fun s => (HandSHeadRun.looksF R.prog (boot_heap w.params) s.abs, HandSHeadRun.seenQ vw loose (importedModules R.prog.main.body) (fun s => xlAt vw [] s && recOk R.toRowW.records s) s.abs)) = some (true, openGood vw loose) := by
  kernel_rfl
end RkH
set_option Elab.async false
set_option linter.all false
set_option maxRecDepth 100000
set_option maxHeartbeats 0
namespace RkH
open Rk
open PySem PySem.W PySem.Calls PySem.Spec PyProof.Rows L2
theorem run2 (w : World) (os : OsState) : (endS w os).map (obF obA) = some true := by
  kernel_rfl
end RkH
set_option Elab.async false
set_option linter.all false
set_option maxRecDepth 100000
set_option maxHeartbeats 0
namespace RkH
open Rk
open PySem PySem.W PySem.Calls PySem.Spec PyProof.Rows L2
theorem run3 (w : World) (os : OsState) : (endS w os).map (obF obB) = some (true, fn.map He.DefD.val) := by
  kernel_rfl
end RkH
set_option Elab.async false
set_option linter.all false
set_option maxRecDepth 100000
set_option maxHeartbeats 0
namespace RkH
open Rk
open PySem PySem.W PySem.Calls PySem.Spec PyProof.Rows L2
theorem run4 (w : World) (os : OsState) : (endS w os).map (obF ex) = some true := by
  kernel_rfl
end RkH
set_option Elab.async false
set_option linter.all false
set_option maxRecDepth 100000
set_option maxHeartbeats 0
namespace RkH
open Rk
open PySem PySem.W PySem.Calls PySem.Spec PyProof.Rows L2
theorem run (w : World) : HandSHeadRun.RunEq R vw hk ob 30000 loose w := by
  intro os
  exact join4 (run1 w os) (run2 w os) (run3 w os) (run4 w os)
end RkH
set_option Elab.async false
set_option linter.all false
set_option maxRecDepth 100000
set_option maxHeartbeats 1000000
namespace Rk
open PySem L2

theorem ndec {p : Prop} [Decidable p] (h : ¬ decide p = true) : ¬ p := fun z => h (decide_eq_true z)
theorem ydec {p : Prop} [Decidable p] (h : decide p = true) : p := of_decide_eq_true h
theorem ifY {c A B : Prop} [Decidable c] (hc : c) (h : A) : if decide c = true then A else B := by rw [if_pos (decide_eq_true hc)]; exact h
theorem ifN {c A B : Prop} [Decidable c] (hc : ¬ c) (h : B) : if decide c = true then A else B := by rw [if_neg (fun z => hc (of_decide_eq_true z))]; exact h
theorem iteNT {c A B : Prop} [Decidable c] (hc : ¬ c) (h : A) : if (!decide c) = true then A else B := by rw [decide_eq_false hc]; exact iteT h
theorem strI {s t : Str} (h : ¬ s = t) : ¬ V.str s = V.str t := fun e => h (V.str.inj e)
/-! ### heaps: what stands, what is being made -/
/-- the heap without what is being made -/
def cut (H : Hp) (ls : List Addr) : Hp := fun a => if a ∈ ls then none else H a
section
variable {H H' H1 : Hp} {ls ls' : List Addr} {a l p : Addr} {o u : HO}
theorem cut_iff : cut H ls a = some o ↔ a ∉ ls ∧ H a = some o := by
  unfold cut
  by_cases h : a ∈ ls
  · rw [if_pos h]; exact ⟨fun z => (nomatch z), fun z => absurd h z.1⟩
  · rw [if_neg h]; exact ⟨fun z => ⟨h, z⟩, fun z => z.2⟩
theorem cut_at (h : cut H ls a = some o) : H a = some o := (cut_iff.mp h).2
theorem at_cut (n : a ∉ ls) (h : H a = some o) : cut H ls a = some o := cut_iff.mpr ⟨n, h⟩
theorem cut_nil : cut H [] = H := by
  funext a; unfold cut; rw [if_neg (by simp)]
end
end Rk
namespace L2
open PySem Rk
section
variable {H H' H1 : Hp} {ls ls' : List Addr} {a l p : Addr} {o u : HO}
theorem Same.cut (s : Same H H') : Same (Rk.cut H ls) (Rk.cut H' ls) := fun b o e => at_cut (cut_iff.mp e).1 (s _ _ (cut_iff.mp e).2)
theorem cut_upd (h : l ∈ ls) : cut (upd H l o) ls = cut H ls := by
  funext b; unfold cut
  by_cases hb : b ∈ ls
  · rw [if_pos hb, if_pos hb]
  · rw [if_neg hb, if_neg hb, upd_ne (fun e => hb (by rw [e]; exact h))]
theorem cut_sub : Same (Rk.cut H ls) H := fun _ _ e => cut_at e
theorem Same.upd (h : H p = none) : Same H (upd H p o) := fun b u e => by rw [upd_ne (ne_of_none e h)]; exact e
/-- what was not there when H stood may change -/
theorem Same.mut (s : Same H H') (h : H l = none) : Same H (L2.upd H' l o) := fun b u e => by rw [upd_ne (ne_of_none e h)]; exact s _ _ e
/-- more is being made: what is there stays, if it was there before that was made -/
theorem Same.more (s : Same H H') (h : ∀ l ∈ ls', l ∈ ls ∨ H l = none) : Same (Rk.cut H ls) (Rk.cut H' ls') := fun b o e => by
  obtain ⟨n, e⟩ := cut_iff.mp e
  refine at_cut (fun m => ?_) (s _ _ e)
  rcases h b m with q | q
  · exact n q
  · rw [q] at e; cases e
theorem Same.more1 (s : Same H H') (h : H l = none) : Same (Rk.cut H ls) (Rk.cut H' (l :: ls)) := Same.more s fun b m => by
  rcases List.mem_cons.mp m with q | q
  · exact .inr (q ▸ h)
  · exact .inl q
theorem Same.more2 (s : Same H H') (h : H l = none) (h' : H p = none) : Same (Rk.cut H ls) (Rk.cut H' (l :: p :: ls)) := Same.more s fun b m => by
  rcases List.mem_cons.mp m with q | m
  · exact .inr (q ▸ h)
  · rcases List.mem_cons.mp m with q | q
    · exact .inr (q ▸ h')
    · exact .inl q
theorem Same.less (h : ∀ l ∈ ls, l ∈ ls') : Same (Rk.cut H ls') (Rk.cut H ls) := fun b o e => by
  obtain ⟨n, e⟩ := cut_iff.mp e
  exact at_cut (fun m => n (h b m)) e
theorem Same.less1 : Same (Rk.cut H (l :: ls)) (Rk.cut H ls) := Same.less fun _ m => List.mem_cons_of_mem _ m
end
end L2
namespace Rk
open PySem L2
section
variable {H H' H1 : Hp} {ls ls' : List Addr} {a l p : Addr} {o u : HO}
/-- all that is being made stands in the heap -/
def Live (H : Hp) (ls : List Addr) : Prop := ∀ l ∈ ls, H l ≠ none
theorem Live.nil : Live H [] := fun _ h => by cases h
theorem Live.to (L : Live H ls) (s : Same H H') : Live H' ls := fun l m e => L l m (s.free e)
theorem Live.cons (h : H l = some o) (L : Live H ls) : Live H (l :: ls) := fun b m e => by
  rcases List.mem_cons.mp m with q | q
  · rw [q, h] at e; cases e
  · exact L b q e
theorem Live.no (L : Live H ls) (h : H p = none) : p ∉ ls := fun m => L p m h
theorem Live.new (L : Live H ls) (h : H p = none) (e : H' p = some o) : Rk.cut H' ls p = some o := at_cut (L.no h) e
end

theorem take_snoc {A : Type} {xs : List A} {i : Nat} {x : A} (h : xs[i]? = some x) : xs.take (i + 1) = xs.take i ++ [x] := by
  rw [List.take_add_one, h]; rfl
/-! ### what a value stands for -/
structure Ty (A : Type) where
  rep : Hp → V → A → Prop
  mono : ∀ {H H' : Hp} {v : V} {x : A}, Same H H' → rep H v x → rep H' v x
def tInt : Ty Int := ⟨fun _ v i => v = .int i, fun _ h => h⟩
def tStr : Ty Str := ⟨fun _ v i => v = .str i, fun _ h => h⟩
def tBool : Ty Bool := ⟨fun _ v i => v = .bl i, fun _ h => h⟩
def tNon : Ty Unit := ⟨fun _ v _ => v = .non, fun _ h => h⟩
section
variable {A B C D : Type}
def Rs (t : Ty A) (H : Hp) : List V → List A → Prop
  | [], [] => True
  | v :: vs, x :: xs => t.rep H v x ∧ Rs t H vs xs
  | _, _ => False
theorem Rs.mono {t : Ty A} {H H' : Hp} (s : Same H H') : ∀ {vs : List V} {xs : List A}, Rs t H vs xs → Rs t H' vs xs
  | [], [], _ => trivial
  | _ :: _, _ :: _, h => ⟨t.mono s h.1, Rs.mono s h.2⟩
  | [], _ :: _, h => h.elim
  | _ :: _, [], h => h.elim
theorem Rs.len {t : Ty A} {H : Hp} : ∀ {vs : List V} {xs : List A}, Rs t H vs xs → vs.length = xs.length
  | [], [], _ => rfl
  | _ :: _, _ :: _, h => congrArg Nat.succ (Rs.len h.2)
  | [], _ :: _, h => h.elim
  | _ :: _, [], h => h.elim
theorem Rs.app {t : Ty A} {H : Hp} : ∀ {vs : List V} {xs : List A} {ws : List V} {ys : List A}, Rs t H vs xs → Rs t H ws ys → Rs t H (vs ++ ws) (xs ++ ys)
  | [], [], _, _, _, k => k
  | _ :: _, _ :: _, _, _, h, k => ⟨h.1, Rs.app h.2 k⟩
  | [], _ :: _, _, _, h, _ => h.elim
  | _ :: _, [], _, _, h, _ => h.elim
theorem Rs.snoc {t : Ty A} {H : Hp} {vs : List V} {xs : List A} {v : V} {x : A} (h : Rs t H vs xs) (k : t.rep H v x) : Rs t H (vs ++ [v]) (xs ++ [x]) := h.app ⟨k, trivial⟩
theorem Rs.get {t : Ty A} {H : Hp} : ∀ {vs : List V} {xs : List A} {i : Nat} {v : V}, Rs t H vs xs → vs[i]? = some v → ∃ x, xs[i]? = some x ∧ t.rep H v x
  | [], [], _, _, _, e => by simp at e
  | v :: vs, x :: xs, 0, w, h, e => by
    have e' : v = w := Option.some.inj e
    exact ⟨x, rfl, e' ▸ h.1⟩
  | v :: vs, x :: xs, i + 1, w, h, e => Rs.get (i := i) h.2 e
  | [], _ :: _, _, _, h, _ => h.elim
  | _ :: _, [], _, _, h, _ => h.elim
theorem Rs.at_ {t : Ty A} {H : Hp} : ∀ {vs : List V} {xs : List A} {i : Nat} {x : A}, Rs t H vs xs → xs[i]? = some x → ∃ v, vs[i]? = some v ∧ t.rep H v x
  | [], [], _, _, _, e => by simp at e
  | v :: vs, x :: xs, 0, w, h, e => by
    have e' : x = w := Option.some.inj e
    exact ⟨v, rfl, e' ▸ h.1⟩
  | v :: vs, x :: xs, i + 1, w, h, e => Rs.at_ (i := i) h.2 e
  | [], _ :: _, _, _, h, _ => h.elim
  | _ :: _, [], _, _, h, _ => h.elim
theorem Rs.snoc_inv {t : Ty A} {H : Hp} : ∀ {pre : List A} {vs : List V} {x : A}, Rs t H vs (pre ++ [x]) → ∃ ws v, vs = ws ++ [v] ∧ Rs t H ws pre ∧ t.rep H v x
  | [], [], _, h => h.elim
  | [], [v], _, h => ⟨[], v, rfl, trivial, h.1⟩
  | [], _ :: _ :: _, _, h => h.2.elim
  | _ :: _, [], _, h => h.elim
  | y :: pre, v :: vs, x, h => by
    obtain ⟨ws, w, e, h1, h2⟩ := Rs.snoc_inv (pre := pre) h.2
    exact ⟨v :: ws, w, by rw [e]; rfl, ⟨h.1, h1⟩, h2⟩
theorem rs_int {H : Hp} : ∀ {vs : List V} {xs : List Int}, Rs tInt H vs xs → vs = xs.map V.int
  | [], [], _ => rfl
  | _ :: _, _ :: _, h => by rw [show _ = _ from h.1, rs_int h.2]; rfl
  | [], _ :: _, h => h.elim
  | _ :: _, [], h => h.elim
theorem int_rs {H : Hp} : ∀ {xs : List Int}, Rs tInt H (xs.map V.int) xs
  | [] => trivial
  | _ :: _ => ⟨rfl, int_rs⟩
theorem rs_str {H : Hp} : ∀ {vs : List V} {xs : List Str}, Rs tStr H vs xs → vs = xs.map V.str
  | [], [], _ => rfl
  | _ :: _, _ :: _, h => by rw [show _ = _ from h.1, rs_str h.2]; rfl
  | [], _ :: _, h => h.elim
  | _ :: _, [], h => h.elim
theorem str_rs {H : Hp} : ∀ {xs : List Str}, Rs tStr H (xs.map V.str) xs
  | [] => trivial
  | _ :: _ => ⟨rfl, str_rs⟩
theorem rs_bool {H : Hp} : ∀ {vs : List V} {xs : List Bool}, Rs tBool H vs xs → vs = xs.map V.bl
  | [], [], _ => rfl
  | _ :: _, _ :: _, h => by rw [show _ = _ from h.1, rs_bool h.2]; rfl
  | [], _ :: _, h => h.elim
  | _ :: _, [], h => h.elim
/-- a list -/
def tLst (t : Ty A) : Ty (List A) := ⟨fun H v xs => ∃ a vs, v = .ref a ∧ H a = some (.lst vs) ∧ Rs t H vs xs, fun s ⟨a, vs, e, h, r⟩ => ⟨a, vs, e, s _ _ h, r.mono s⟩⟩
def tPair (t : Ty A) (u : Ty B) : Ty (A × B) := ⟨fun H v x => ∃ a v1 v2, v = .ref a ∧ H a = some (.tup [v1, v2]) ∧ t.rep H v1 x.1 ∧ u.rep H v2 x.2, fun s ⟨a, v1, v2, e, h, r1, r2⟩ => ⟨a, v1, v2, e, s _ _ h, t.mono s r1, u.mono s r2⟩⟩
def tTri (t : Ty A) (u : Ty B) (w : Ty C) : Ty (A × B × C) := ⟨fun H v x => ∃ a v1 v2 v3, v = .ref a ∧ H a = some (.tup [v1, v2, v3]) ∧ t.rep H v1 x.1 ∧ u.rep H v2 x.2.1 ∧ w.rep H v3 x.2.2,
  fun s ⟨a, v1, v2, v3, e, h, r1, r2, r3⟩ => ⟨a, v1, v2, v3, e, s _ _ h, t.mono s r1, u.mono s r2, w.mono s r3⟩⟩
def tQuad (t : Ty A) (u : Ty B) (w : Ty C) (z : Ty D) : Ty (A × B × C × D) := ⟨fun H v x => ∃ a v1 v2 v3 v4, v = .ref a ∧ H a = some (.tup [v1, v2, v3, v4]) ∧ t.rep H v1 x.1 ∧ u.rep H v2 x.2.1 ∧ w.rep H v3 x.2.2.1 ∧ z.rep H v4 x.2.2.2,
  fun s ⟨a, v1, v2, v3, v4, e, h, r1, r2, r3, r4⟩ => ⟨a, v1, v2, v3, v4, e, s _ _ h, t.mono s r1, u.mono s r2, w.mono s r3, z.mono s r4⟩⟩
/-- a dict with text keys -/
def Ps (t : Ty A) (H : Hp) : List (Key × V) → List (Str × A) → Prop
  | [], [] => True
  | v :: vs, x :: xs => (v.1 = Sum.inr x.1 ∧ t.rep H v.2 x.2) ∧ Ps t H vs xs
  | _, _ => False
theorem Ps.mono {t : Ty A} {H H' : Hp} (s : Same H H') : ∀ {vs : List (Key × V)} {xs : List (Str × A)}, Ps t H vs xs → Ps t H' vs xs
  | [], [], _ => trivial
  | _ :: _, _ :: _, h => ⟨⟨h.1.1, t.mono s h.1.2⟩, Ps.mono s h.2⟩
  | [], _ :: _, h => h.elim
  | _ :: _, [], h => h.elim
theorem Ps.len {t : Ty A} {H : Hp} : ∀ {vs : List (Key × V)} {xs : List (Str × A)}, Ps t H vs xs → vs.length = xs.length
  | [], [], _ => rfl
  | _ :: _, _ :: _, h => congrArg Nat.succ (Ps.len h.2)
  | [], _ :: _, h => h.elim
  | _ :: _, [], h => h.elim
def look (kvs : List (Str × A)) (k : Str) : Option A := (kvs.find? fun kv => decide (kv.1 = k)).map (·.2)
def put (kvs : List (Str × A)) (k : Str) (x : A) : List (Str × A) :=
  if (kvs.any fun kv => decide (kv.1 = k)) = true then kvs.map (fun kv => if kv.1 = k then (kv.1, x) else kv) else kvs ++ [(k, x)]
theorem look_nil (k : Str) : look ([] : List (Str × A)) k = none := rfl
theorem look_cons (p : Str × A) (r : List (Str × A)) (k : Str) : look (p :: r) k = if p.1 = k then some p.2 else look r k := by
  unfold look
  rw [List.find?_cons]
  by_cases h : p.1 = k
  · rw [if_pos h, decide_eq_true h]; rfl
  · rw [if_neg h, decide_eq_false h]
theorem valV_cons (p : Key × V) (r : List (Key × V)) (k : Key) : valV (p :: r) k = if p.1 = k then some p.2 else valV r k := by
  unfold valV
  rw [List.find?_cons]
  by_cases h : p.1 = k
  · rw [if_pos h, decide_eq_true h]; rfl
  · rw [if_neg h, decide_eq_false h]
theorem Ps.look {t : Ty A} {H : Hp} : ∀ {vs : List (Key × V)} {xs : List (Str × A)} (k : Str), Ps t H vs xs → (∃ v x, valV vs (Sum.inr k) = some v ∧ Rk.look xs k = some x ∧ t.rep H v x) ∨ (valV vs (Sum.inr k) = none ∧ Rk.look xs k = none)
  | [], [], k, _ => .inr ⟨rfl, rfl⟩
  | v :: vs, x :: xs, k, h => by
    obtain ⟨⟨e, r⟩, h2⟩ := h
    rw [valV_cons, look_cons]
    by_cases q : x.1 = k
    · rw [if_pos (by rw [e, q]), if_pos q]
      exact .inl ⟨_, _, rfl, rfl, r⟩
    · rw [if_neg (by rw [e]; exact fun z => q (Sum.inr.inj z)), if_neg q]
      exact Ps.look k h2
  | [], _ :: _, _, h => h.elim
  | _ :: _, [], _, h => h.elim
theorem Ps.any {t : Ty A} {H : Hp} (k : Str) : ∀ {vs : List (Key × V)} {xs : List (Str × A)}, Ps t H vs xs → (vs.any fun kv => decide (kv.1 = Sum.inr k)) = (xs.any fun kv => decide (kv.1 = k))
  | [], [], _ => rfl
  | v :: vs, x :: xs, h => by
    rw [List.any_cons, List.any_cons, Ps.any k h.2, h.1.1]
    congr 1
    exact decide_eq_decide.mpr ⟨Sum.inr.inj, fun e => by rw [e]⟩
  | [], _ :: _, h => h.elim
  | _ :: _, [], h => h.elim
theorem Ps.put {t : Ty A} {H : Hp} {v : V} {x : A} (k : Str) (r : t.rep H v x) {vs : List (Key × V)} {xs : List (Str × A)} (h : Ps t H vs xs) : Ps t H (putK vs (Sum.inr k) v) (Rk.put xs k x) := by
  have map_ : ∀ {vs : List (Key × V)} {xs : List (Str × A)}, Ps t H vs xs → Ps t H (vs.map fun kv => if kv.1 = Sum.inr k then (kv.1, v) else kv) (xs.map fun kv => if kv.1 = k then (kv.1, x) else kv) := by
    intro vs
    induction vs with
    | nil => intro xs h; cases xs with
      | nil => trivial
      | cons _ _ => exact h.elim
    | cons w vs ih => intro xs h; cases xs with
      | nil => exact h.elim
      | cons y ys =>
        refine ⟨?_, ih h.2⟩
        by_cases q : y.1 = k
        · have q' : w.1 = Sum.inr k := by rw [h.1.1, q]
          simp only [if_pos q, if_pos q']
          exact ⟨h.1.1, r⟩
        · have q' : ¬ w.1 = Sum.inr k := by rw [h.1.1]; exact fun z => q (Sum.inr.inj z)
          simp only [if_neg q, if_neg q']
          exact h.1
  have app_ : ∀ {vs : List (Key × V)} {xs : List (Str × A)}, Ps t H vs xs → Ps t H (vs ++ [(Sum.inr k, v)]) (xs ++ [(k, x)]) := by
    intro vs
    induction vs with
    | nil => intro xs h; cases xs with
      | nil => exact ⟨⟨rfl, r⟩, trivial⟩
      | cons _ _ => exact h.elim
    | cons w vs ih => intro xs h; cases xs with
      | nil => exact h.elim
      | cons y ys => exact ⟨h.1, ih h.2⟩
  unfold putK Rk.put
  rw [Ps.any k h]
  cases hb : (xs.any fun kv => decide (kv.1 = k)) with
  | true => exact map_ h
  | false => exact app_ h
end
end Rk
namespace Rk
open PySem L2
theorem flat_strs (ws : List Str) : (ws.map V.str).all flatV = true := by
  rw [List.all_map]; exact List.all_eq_true.mpr fun _ _ => rfl
theorem flat_ints (ws : List Int) : (ws.map V.int).all flatV = true := by
  rw [List.all_map]; exact List.all_eq_true.mpr fun _ _ => rfl
theorem eqV_str (a b : Str) : eqV (.str a) (.str b) = decide (a = b) := by
  show (a == b) = _
  by_cases h : a = b
  · subst h; simp
  · rw [decide_eq_false h]; exact beq_eq_false_iff_ne.mpr h
theorem eqV_int (a b : Int) : eqV (.int a) (.int b) = decide (a = b) := by
  show (a == b) = _
  by_cases h : a = b
  · subst h; simp
  · rw [decide_eq_false h]; exact beq_eq_false_iff_ne.mpr h
theorem inV_str (s : Str) (ws : List Str) : inV (.str s) (ws.map V.str) = decide (s ∈ ws) := by
  unfold inV
  rw [List.any_map, Bool.eq_iff_iff, List.any_eq_true, decide_eq_true_eq]
  constructor
  · rintro ⟨x, hx, e⟩
    have e : eqV (.str x) (.str s) = true := e
    rw [eqV_str, decide_eq_true_eq] at e
    exact e ▸ hx
  · intro h
    exact ⟨s, h, by show eqV (.str s) (.str s) = true; rw [eqV_str]; exact decide_eq_true rfl⟩
end Rk
set_option Elab.async false
set_option linter.all false
set_option maxRecDepth 100000
set_option maxHeartbeats 1000000
namespace Rk
open PySem L2
/-- the function object at an address -/
def fdOf (K : PySem.W.Frag) (a : Addr) : FuncData := match K.lookup a with
  | some ⟨_, _, .func fd, _⟩ => fd
  | _ => PySem.W.fnOf "" "" (defArgs (top 0)) [] (defScope (top 0)) .none .none .none .none none .none .none
abbrev FD (K : PySem.W.Frag) (x q : Str) (st : Stmt) (a : Addr) : Prop := FunD K x q (defArgs st) (defBody st) (defScope st) [] [] a (fdOf K a)
theorem fd_of {K : PySem.W.Frag} {x q : Str} {st : Stmt} {a : Addr} {fd : FuncData} (F : FunD K x q (defArgs st) (defBody st) (defScope st) [] [] a fd) : FD K x q st a := by
  obtain ⟨oc, od, dV, kV, doc, pm, an, cdv, ct, osl, e, lk, r⟩ := F.ex
  have h : fdOf K a = fd := by
    unfold fdOf
    rw [lk]
  unfold FD
  rw [h]
  exact F
/-- what the top has left -/
structure Tx (K : PySem.W.Frag) (mg : Str → Option Value) : Prop where
  f_is_word : FD K "is_word" "is_word" s_is_word (He.ga K "is_word")
  f_number_of : FD K "number_of" "number_of" s_number_of (He.ga K "number_of")
  f_number_text : FD K "number_text" "number_text" s_number_text (He.ga K "number_text")
  f_alike : FD K "alike" "alike" s_alike (He.ga K "alike")
  f_read_domain : FD K "read_domain" "read_domain" s_read_domain (He.ga K "read_domain")
  f_named_domains : FD K "named_domains" "named_domains" s_named_domains (He.ga K "named_domains")
  f_look_at_columns : FD K "look_at_columns" "look_at_columns" s_look_at_columns (He.ga K "look_at_columns")
  f_free_of : FD K "free_of" "free_of" s_free_of (He.ga K "free_of")
  f_look_for_rings : FD K "look_for_rings" "look_for_rings" s_look_for_rings (He.ga K "look_for_rings")
  f_table_of : FD K "table_of" "table_of" s_table_of (He.ga K "table_of")
  f_asks : FD K "asks" "asks" s_asks (He.ga K "asks")
  f_gathered : FD K "gathered" "gathered" s_gathered (He.ga K "gathered")
  f_order_of : FD K "order_of" "order_of" s_order_of (He.ga K "order_of")
  f_needs : FD K "needs" "needs" s_needs (He.ga K "needs")
  f_tidy : FD K "tidy" "tidy" s_tidy (He.ga K "tidy")
  f_holds : FD K "holds" "holds" s_holds (He.ga K "holds")
  f_both : FD K "both" "both" s_both (He.ga K "both")
  f_gaps : FD K "gaps" "gaps" s_gaps (He.ga K "gaps")
  f_without : FD K "without" "without" s_without (He.ga K "without")
  f_way_by : FD K "way_by" "way_by" s_way_by (He.ga K "way_by")
  f_look_at_names : FD K "look_at_names" "look_at_names" s_look_at_names (He.ga K "look_at_names")
  f_look_at_row : FD K "look_at_row" "look_at_row" s_look_at_row (He.ga K "look_at_row")
  f_own_rows : FD K "own_rows" "own_rows" s_own_rows (He.ga K "own_rows")
  f_fits : FD K "fits" "fits" s_fits (He.ga K "fits")
  f_mask : FD K "mask" "mask" s_mask (He.ga K "mask")
  f_judged : FD K "judged" "judged" s_judged (He.ga K "judged")
  f_fact_codes : FD K "fact_codes" "fact_codes" s_fact_codes (He.ga K "fact_codes")
  f_entry : FD K "entry" "entry" s_entry (He.ga K "entry")
  f_entries : FD K "entries" "entries" s_entries (He.ga K "entries")
  f_tables_for : FD K "tables_for" "tables_for" s_tables_for (He.ga K "tables_for")
  f_trail : FD K "trail" "trail" s_trail (He.ga K "trail")
  f_ask : FD K "ask" "ask" s_ask (He.ga K "ask")
  f_read_end : FD K "read_end" "read_end" s_read_end (He.ga K "read_end")
  f_read_stretch : FD K "read_stretch" "read_stretch" s_read_stretch (He.ga K "read_stretch")
  f_read_part : FD K "read_part" "read_part" s_read_part (He.ga K "read_part")
  f_read_cell : FD K "read_cell" "read_cell" s_read_cell (He.ga K "read_cell")
  f_show_stretch : FD K "show_stretch" "show_stretch" s_show_stretch (He.ga K "show_stretch")
  f_show_cell : FD K "show_cell" "show_cell" s_show_cell (He.ga K "show_cell")
  f_read_value : FD K "read_value" "read_value" s_read_value (He.ga K "read_value")
  f_show_value : FD K "show_value" "show_value" s_show_value (He.ga K "show_value")
  f_table_parts : FD K "table_parts" "table_parts" s_table_parts (He.ga K "table_parts")
  f_parts_of : FD K "parts_of" "parts_of" s_parts_of (He.ga K "parts_of")
  f_blocks_of : FD K "blocks_of" "blocks_of" s_blocks_of (He.ga K "blocks_of")
  f_look_at_counts : FD K "look_at_counts" "look_at_counts" s_look_at_counts (He.ga K "look_at_counts")
  f_look_at_all_names : FD K "look_at_all_names" "look_at_all_names" s_look_at_all_names (He.ga K "look_at_all_names")
  f_domains_read : FD K "domains_read" "domains_read" s_domains_read (He.ga K "domains_read")
  f_look_at_ways : FD K "look_at_ways" "look_at_ways" s_look_at_ways (He.ga K "look_at_ways")
  f_look_at_fields : FD K "look_at_fields" "look_at_fields" s_look_at_fields (He.ga K "look_at_fields")
  f_cells_read : FD K "cells_read" "cells_read" s_cells_read (He.ga K "cells_read")
  f_look_at_values : FD K "look_at_values" "look_at_values" s_look_at_values (He.ga K "look_at_values")
  f_table_read : FD K "table_read" "table_read" s_table_read (He.ga K "table_read")
  f_read_book : FD K "read_book" "read_book" s_read_book (He.ga K "read_book")
  f_head_text : FD K "head_text" "head_text" s_head_text (He.ga K "head_text")
  f_row_text : FD K "row_text" "row_text" s_row_text (He.ga K "row_text")
  f_show_book : FD K "show_book" "show_book" s_show_book (He.ga K "show_book")
  f_law_cell : FD K "_law_cell" "_law_cell" s_law_cell (He.ga K "_law_cell")
  f_law_word : FD K "_law_word" "_law_word" s_law_word (He.ga K "_law_word")
  f_law_numbers : FD K "_law_numbers" "_law_numbers" s_law_numbers (He.ga K "_law_numbers")
  f_law_fact : FD K "_law_fact" "_law_fact" s_law_fact (He.ga K "_law_fact")
  f_law_outcome : FD K "_law_outcome" "_law_outcome" s_law_outcome (He.ga K "_law_outcome")
  f_law_columns : FD K "_law_columns" "_law_columns" s_law_columns (He.ga K "_law_columns")
  f_law_way : FD K "_law_way" "_law_way" s_law_way (He.ga K "_law_way")
  f_law_row : FD K "_law_row" "_law_row" s_law_row (He.ga K "_law_row")
  f_law_model : FD K "_law_model" "_law_model" s_law_model (He.ga K "_law_model")
  f_law_piece : FD K "_law_piece" "_law_piece" s_law_piece (He.ga K "_law_piece")
  f_law_field : FD K "_law_field" "_law_field" s_law_field (He.ga K "_law_field")
  f_law_domain_text : FD K "_law_domain_text" "_law_domain_text" s_law_domain_text (He.ga K "_law_domain_text")
  f_law_names : FD K "_law_names" "_law_names" s_law_names (He.ga K "_law_names")
  f_law_table_lines : FD K "_law_table_lines" "_law_table_lines" s_law_table_lines (He.ga K "_law_table_lines")
  f_law_text : FD K "_law_text" "_law_text" s_law_text (He.ga K "_law_text")
  f_law_places : FD K "_law_places" "_law_places" s_law_places (He.ga K "_law_places")
  f_law_due : FD K "_law_due" "_law_due" s_law_due (He.ga K "_law_due")
  f_law_fitting : FD K "_law_fitting" "_law_fitting" s_law_fitting (He.ga K "_law_fitting")
  f_law_verdicts : FD K "_law_verdicts" "_law_verdicts" s_law_verdicts (He.ga K "_law_verdicts")
  f_law_value : FD K "_law_value" "_law_value" s_law_value (He.ga K "_law_value")
  f_law_whole : FD K "_law_whole" "_law_whole" s_law_whole (He.ga K "_law_whole")
  f_law_is : FD K "_law_is" "_law_is" s_law_is (He.ga K "_law_is")
  f_law : FD K "law" "law" s_law (He.ga K "law")
  f_Domain_init : FD K "__init__" "Domain.__init__" s_Domain_init (He.ma K (He.ga K "Domain") "__init__")
  f_Numbers_init : FD K "__init__" "Numbers.__init__" s_Numbers_init (He.ma K (He.ga K "Numbers") "__init__")
  f_Numbers_bears : FD K "bears" "Numbers.bears" s_Numbers_bears (He.ma K (He.ga K "Numbers") "bears")
  f_Numbers_place : FD K "place" "Numbers.place" s_Numbers_place (He.ma K (He.ga K "Numbers") "place")
  f_Numbers_written : FD K "written" "Numbers.written" s_Numbers_written (He.ma K (He.ga K "Numbers") "written")
  f_Numbers_code : FD K "code" "Domain.code" s_Numbers_code (He.ma K (He.ga K "Numbers") "code")
  f_Numbers_whole : FD K "whole" "Domain.whole" s_Numbers_whole (He.ma K (He.ga K "Numbers") "whole")
  f_Words_init : FD K "__init__" "Words.__init__" s_Words_init (He.ma K (He.ga K "Words") "__init__")
  f_Words_bears : FD K "bears" "Words.bears" s_Words_bears (He.ma K (He.ga K "Words") "bears")
  f_Words_place : FD K "place" "Words.place" s_Words_place (He.ma K (He.ga K "Words") "place")
  f_Words_told : FD K "told" "Words.told" s_Words_told (He.ma K (He.ga K "Words") "told")
  f_Words_written : FD K "written" "Words.written" s_Words_written (He.ma K (He.ga K "Words") "written")
  f_Words_code : FD K "code" "Domain.code" s_Words_code (He.ma K (He.ga K "Words") "code")
  f_Words_worth : FD K "worth" "Domain.worth" s_Words_worth (He.ma K (He.ga K "Words") "worth")
  f_Words_whole : FD K "whole" "Domain.whole" s_Words_whole (He.ma K (He.ga K "Words") "whole")
  f_Book_init : FD K "__init__" "Book.__init__" s_Book_init (He.ma K (He.ga K "Book") "__init__")
  f_Table_init : FD K "__init__" "Table.__init__" s_Table_init (He.ma K (He.ga K "Table") "__init__")
  f_Way_init : FD K "__init__" "Way.__init__" s_Way_init (He.ma K (He.ga K "Way") "__init__")
  f_First_init : FD K "__init__" "First.__init__" s_First_init (He.ma K (He.ga K "First") "__init__")
  f_First_chosen : FD K "chosen" "Way.chosen" s_First_chosen (He.ma K (He.ga K "First") "chosen")
  f_First_verdict : FD K "verdict" "Way.verdict" s_First_verdict (He.ma K (He.ga K "First") "verdict")
  f_Only_init : FD K "__init__" "Only.__init__" s_Only_init (He.ma K (He.ga K "Only") "__init__")
  f_Only_chosen : FD K "chosen" "Only.chosen" s_Only_chosen (He.ma K (He.ga K "Only") "chosen")
  f_Only_verdict : FD K "verdict" "Way.verdict" s_Only_verdict (He.ma K (He.ga K "Only") "verdict")
  f_Like_init : FD K "__init__" "Like.__init__" s_Like_init (He.ma K (He.ga K "Like") "__init__")
  f_Like_chosen : FD K "chosen" "Like.chosen" s_Like_chosen (He.ma K (He.ga K "Like") "chosen")
  f_Like_verdict : FD K "verdict" "Way.verdict" s_Like_verdict (He.ma K (He.ga K "Like") "verdict")
  f_Low_init : FD K "__init__" "Low.__init__" s_Low_init (He.ma K (He.ga K "Low") "__init__")
  f_Low_chosen : FD K "chosen" "Low.chosen" s_Low_chosen (He.ma K (He.ga K "Low") "chosen")
  f_Low_verdict : FD K "verdict" "Way.verdict" s_Low_verdict (He.ma K (He.ga K "Low") "verdict")
  f_High_init : FD K "__init__" "High.__init__" s_High_init (He.ma K (He.ga K "High") "__init__")
  f_High_chosen : FD K "chosen" "High.chosen" s_High_chosen (He.ma K (He.ga K "High") "chosen")
  f_High_verdict : FD K "verdict" "Way.verdict" s_High_verdict (He.ma K (He.ga K "High") "verdict")
  f_Sum_init : FD K "__init__" "Sum.__init__" s_Sum_init (He.ma K (He.ga K "Sum") "__init__")
  f_Sum_chosen : FD K "chosen" "Sum.chosen" s_Sum_chosen (He.ma K (He.ga K "Sum") "chosen")
  f_Sum_verdict : FD K "verdict" "Way.verdict" s_Sum_verdict (He.ma K (He.ga K "Sum") "verdict")
  g_is_word : mg "is_word" = some (.ref (He.ga K "is_word"))
  g_number_of : mg "number_of" = some (.ref (He.ga K "number_of"))
  g_number_text : mg "number_text" = some (.ref (He.ga K "number_text"))
  g_alike : mg "alike" = some (.ref (He.ga K "alike"))
  g_read_domain : mg "read_domain" = some (.ref (He.ga K "read_domain"))
  g_named_domains : mg "named_domains" = some (.ref (He.ga K "named_domains"))
  g_look_at_columns : mg "look_at_columns" = some (.ref (He.ga K "look_at_columns"))
  g_free_of : mg "free_of" = some (.ref (He.ga K "free_of"))
  g_look_for_rings : mg "look_for_rings" = some (.ref (He.ga K "look_for_rings"))
  g_table_of : mg "table_of" = some (.ref (He.ga K "table_of"))
  g_asks : mg "asks" = some (.ref (He.ga K "asks"))
  g_gathered : mg "gathered" = some (.ref (He.ga K "gathered"))
  g_order_of : mg "order_of" = some (.ref (He.ga K "order_of"))
  g_needs : mg "needs" = some (.ref (He.ga K "needs"))
  g_tidy : mg "tidy" = some (.ref (He.ga K "tidy"))
  g_holds : mg "holds" = some (.ref (He.ga K "holds"))
  g_both : mg "both" = some (.ref (He.ga K "both"))
  g_gaps : mg "gaps" = some (.ref (He.ga K "gaps"))
  g_without : mg "without" = some (.ref (He.ga K "without"))
  g_way_by : mg "way_by" = some (.ref (He.ga K "way_by"))
  g_look_at_names : mg "look_at_names" = some (.ref (He.ga K "look_at_names"))
  g_look_at_row : mg "look_at_row" = some (.ref (He.ga K "look_at_row"))
  g_own_rows : mg "own_rows" = some (.ref (He.ga K "own_rows"))
  g_fits : mg "fits" = some (.ref (He.ga K "fits"))
  g_mask : mg "mask" = some (.ref (He.ga K "mask"))
  g_judged : mg "judged" = some (.ref (He.ga K "judged"))
  g_fact_codes : mg "fact_codes" = some (.ref (He.ga K "fact_codes"))
  g_entry : mg "entry" = some (.ref (He.ga K "entry"))
  g_entries : mg "entries" = some (.ref (He.ga K "entries"))
  g_tables_for : mg "tables_for" = some (.ref (He.ga K "tables_for"))
  g_trail : mg "trail" = some (.ref (He.ga K "trail"))
  g_ask : mg "ask" = some (.ref (He.ga K "ask"))
  g_read_end : mg "read_end" = some (.ref (He.ga K "read_end"))
  g_read_stretch : mg "read_stretch" = some (.ref (He.ga K "read_stretch"))
  g_read_part : mg "read_part" = some (.ref (He.ga K "read_part"))
  g_read_cell : mg "read_cell" = some (.ref (He.ga K "read_cell"))
  g_show_stretch : mg "show_stretch" = some (.ref (He.ga K "show_stretch"))
  g_show_cell : mg "show_cell" = some (.ref (He.ga K "show_cell"))
  g_read_value : mg "read_value" = some (.ref (He.ga K "read_value"))
  g_show_value : mg "show_value" = some (.ref (He.ga K "show_value"))
  g_table_parts : mg "table_parts" = some (.ref (He.ga K "table_parts"))
  g_parts_of : mg "parts_of" = some (.ref (He.ga K "parts_of"))
  g_blocks_of : mg "blocks_of" = some (.ref (He.ga K "blocks_of"))
  g_look_at_counts : mg "look_at_counts" = some (.ref (He.ga K "look_at_counts"))
  g_look_at_all_names : mg "look_at_all_names" = some (.ref (He.ga K "look_at_all_names"))
  g_domains_read : mg "domains_read" = some (.ref (He.ga K "domains_read"))
  g_look_at_ways : mg "look_at_ways" = some (.ref (He.ga K "look_at_ways"))
  g_look_at_fields : mg "look_at_fields" = some (.ref (He.ga K "look_at_fields"))
  g_cells_read : mg "cells_read" = some (.ref (He.ga K "cells_read"))
  g_look_at_values : mg "look_at_values" = some (.ref (He.ga K "look_at_values"))
  g_table_read : mg "table_read" = some (.ref (He.ga K "table_read"))
  g_read_book : mg "read_book" = some (.ref (He.ga K "read_book"))
  g_head_text : mg "head_text" = some (.ref (He.ga K "head_text"))
  g_row_text : mg "row_text" = some (.ref (He.ga K "row_text"))
  g_show_book : mg "show_book" = some (.ref (He.ga K "show_book"))
  g_law_cell : mg "_law_cell" = some (.ref (He.ga K "_law_cell"))
  g_law_word : mg "_law_word" = some (.ref (He.ga K "_law_word"))
  g_law_numbers : mg "_law_numbers" = some (.ref (He.ga K "_law_numbers"))
  g_law_fact : mg "_law_fact" = some (.ref (He.ga K "_law_fact"))
  g_law_outcome : mg "_law_outcome" = some (.ref (He.ga K "_law_outcome"))
  g_law_columns : mg "_law_columns" = some (.ref (He.ga K "_law_columns"))
  g_law_way : mg "_law_way" = some (.ref (He.ga K "_law_way"))
  g_law_row : mg "_law_row" = some (.ref (He.ga K "_law_row"))
  g_law_model : mg "_law_model" = some (.ref (He.ga K "_law_model"))
  g_law_piece : mg "_law_piece" = some (.ref (He.ga K "_law_piece"))
  g_law_field : mg "_law_field" = some (.ref (He.ga K "_law_field"))
  g_law_domain_text : mg "_law_domain_text" = some (.ref (He.ga K "_law_domain_text"))
  g_law_names : mg "_law_names" = some (.ref (He.ga K "_law_names"))
  g_law_table_lines : mg "_law_table_lines" = some (.ref (He.ga K "_law_table_lines"))
  g_law_text : mg "_law_text" = some (.ref (He.ga K "_law_text"))
  g_law_places : mg "_law_places" = some (.ref (He.ga K "_law_places"))
  g_law_due : mg "_law_due" = some (.ref (He.ga K "_law_due"))
  g_law_fitting : mg "_law_fitting" = some (.ref (He.ga K "_law_fitting"))
  g_law_verdicts : mg "_law_verdicts" = some (.ref (He.ga K "_law_verdicts"))
  g_law_value : mg "_law_value" = some (.ref (He.ga K "_law_value"))
  g_law_whole : mg "_law_whole" = some (.ref (He.ga K "_law_whole"))
  g_law_is : mg "_law_is" = some (.ref (He.ga K "_law_is"))
  g_law : mg "law" = some (.ref (He.ga K "law"))
  g_Domain : mg "Domain" = some (.ref (He.ga K "Domain"))
  g_Numbers : mg "Numbers" = some (.ref (He.ga K "Numbers"))
  g_Words : mg "Words" = some (.ref (He.ga K "Words"))
  g_Book : mg "Book" = some (.ref (He.ga K "Book"))
  g_Table : mg "Table" = some (.ref (He.ga K "Table"))
  g_Way : mg "Way" = some (.ref (He.ga K "Way"))
  g_First : mg "First" = some (.ref (He.ga K "First"))
  g_Only : mg "Only" = some (.ref (He.ga K "Only"))
  g_Like : mg "Like" = some (.ref (He.ga K "Like"))
  g_Low : mg "Low" = some (.ref (He.ga K "Low"))
  g_High : mg "High" = some (.ref (He.ga K "High"))
  g_Sum : mg "Sum" = some (.ref (He.ga K "Sum"))
  g_BadNumber : mg "BadNumber" = some (.ref (He.ga K "BadNumber"))
  n_len : mg "len" = none
  n_all : mg "all" = none
  n_sorted : mg "sorted" = none
  n_max : mg "max" = none
  n_min : mg "min" = none
  n_isinstance : mg "isinstance" = none
  n_range : mg "range" = none
  n_zip : mg "zip" = none
  n_list : mg "list" = none
  n_dict : mg "dict" = none
  n_str : mg "str" = none
  n_int : mg "int" = none
  n_sum : mg "sum" = none
  n_reversed : mg "reversed" = none
  n_bool : mg "bool" = none
  n_tuple : mg "tuple" = none
  z_LETTERS : ∃ t, mg "LETTERS" = some (.str "abcdefghijklmnopqrstuvwxyz" t)
  z_FIGURES : ∃ t, mg "FIGURES" = some (.str "0123456789" t)
  i_MOST_FIGURES : ∃ t, mg "MOST_FIGURES" = some (.int 60 t)
  i_MOST_SIGNS : ∃ t, mg "MOST_SIGNS" = some (.int 12 t)
  i_MOST_WORDS : ∃ t, mg "MOST_WORDS" = some (.int 40 t)
  i_MOST_FACTS_books : ∃ t, mg "MOST_FACTS_books" = some (.int 20 t)
  i_MOST_TABLES_books : ∃ t, mg "MOST_TABLES_books" = some (.int 30 t)
  i_MOST_COLUMNS_tables : ∃ t, mg "MOST_COLUMNS_tables" = some (.int 4 t)
  i_MOST_ROWS_tables : ∃ t, mg "MOST_ROWS_tables" = some (.int 200 t)
  i_MOST_FACTS_reading : ∃ t, mg "MOST_FACTS_reading" = some (.int 20 t)
  i_MOST_TABLES_reading : ∃ t, mg "MOST_TABLES_reading" = some (.int 30 t)
  i_MOST_COLUMNS_reading : ∃ t, mg "MOST_COLUMNS_reading" = some (.int 4 t)
  i_MOST_ROWS_reading : ∃ t, mg "MOST_ROWS_reading" = some (.int 200 t)
  c_Numbers : Cls K (He.ga K "Numbers")
  c_Words : Cls K (He.ga K "Words")
  c_Book : Cls K (He.ga K "Book")
  c_Table : Cls K (He.ga K "Table")
  c_First : Cls K (He.ga K "First")
  c_Only : Cls K (He.ga K "Only")
  c_Like : Cls K (He.ga K "Like")
  c_Low : Cls K (He.ga K "Low")
  c_High : Cls K (He.ga K "High")
  c_Sum : Cls K (He.ga K "Sum")
  a_Numbers_low : NoAttr K (He.ga K "Numbers") "low"
  a_Numbers_high : NoAttr K (He.ga K "Numbers") "high"
  a_Words_low : NoAttr K (He.ga K "Words") "low"
  a_Words_high : NoAttr K (He.ga K "Words") "high"
  a_Words_words : NoAttr K (He.ga K "Words") "words"
  a_Book_facts : NoAttr K (He.ga K "Book") "facts"
  a_Book_tables : NoAttr K (He.ga K "Book") "tables"
  a_Table_name : NoAttr K (He.ga K "Table") "name"
  a_Table_names : NoAttr K (He.ga K "Table") "names"
  a_Table_domains : NoAttr K (He.ga K "Table") "domains"
  a_Table_outcome : NoAttr K (He.ga K "Table") "outcome"
  a_Table_way : NoAttr K (He.ga K "Table") "way"
  a_Table_rows : NoAttr K (He.ga K "Table") "rows"
  a_First_called : NoAttr K (He.ga K "First") "called"
  a_Only_called : NoAttr K (He.ga K "Only") "called"
  a_Like_called : NoAttr K (He.ga K "Like") "called"
  a_Low_called : NoAttr K (He.ga K "Low") "called"
  a_High_called : NoAttr K (He.ga K "High") "called"
  a_Sum_called : NoAttr K (He.ga K "Sum") "called"
  m_Numbers_bears : Meth K (He.ga K "Numbers") "bears" (He.ma K (He.ga K "Numbers") "bears")
  m_Numbers_place : Meth K (He.ga K "Numbers") "place" (He.ma K (He.ga K "Numbers") "place")
  m_Numbers_written : Meth K (He.ga K "Numbers") "written" (He.ma K (He.ga K "Numbers") "written")
  m_Numbers_code : Meth K (He.ga K "Numbers") "code" (He.ma K (He.ga K "Numbers") "code")
  m_Numbers_whole : Meth K (He.ga K "Numbers") "whole" (He.ma K (He.ga K "Numbers") "whole")
  m_Words_bears : Meth K (He.ga K "Words") "bears" (He.ma K (He.ga K "Words") "bears")
  m_Words_place : Meth K (He.ga K "Words") "place" (He.ma K (He.ga K "Words") "place")
  m_Words_told : Meth K (He.ga K "Words") "told" (He.ma K (He.ga K "Words") "told")
  m_Words_written : Meth K (He.ga K "Words") "written" (He.ma K (He.ga K "Words") "written")
  m_Words_code : Meth K (He.ga K "Words") "code" (He.ma K (He.ga K "Words") "code")
  m_Words_worth : Meth K (He.ga K "Words") "worth" (He.ma K (He.ga K "Words") "worth")
  m_Words_whole : Meth K (He.ga K "Words") "whole" (He.ma K (He.ga K "Words") "whole")
  m_First_chosen : Meth K (He.ga K "First") "chosen" (He.ma K (He.ga K "First") "chosen")
  m_First_verdict : Meth K (He.ga K "First") "verdict" (He.ma K (He.ga K "First") "verdict")
  m_Only_chosen : Meth K (He.ga K "Only") "chosen" (He.ma K (He.ga K "Only") "chosen")
  m_Only_verdict : Meth K (He.ga K "Only") "verdict" (He.ma K (He.ga K "Only") "verdict")
  m_Like_chosen : Meth K (He.ga K "Like") "chosen" (He.ma K (He.ga K "Like") "chosen")
  m_Like_verdict : Meth K (He.ga K "Like") "verdict" (He.ma K (He.ga K "Like") "verdict")
  m_Low_chosen : Meth K (He.ga K "Low") "chosen" (He.ma K (He.ga K "Low") "chosen")
  m_Low_verdict : Meth K (He.ga K "Low") "verdict" (He.ma K (He.ga K "Low") "verdict")
  m_High_chosen : Meth K (He.ga K "High") "chosen" (He.ma K (He.ga K "High") "chosen")
  m_High_verdict : Meth K (He.ga K "High") "verdict" (He.ma K (He.ga K "High") "verdict")
  m_Sum_chosen : Meth K (He.ga K "Sum") "chosen" (He.ma K (He.ga K "Sum") "chosen")
  m_Sum_verdict : Meth K (He.ga K "Sum") "verdict" (He.ma K (He.ga K "Sum") "verdict")
  k_Numbers : Mk K (He.ga K "Numbers") (He.ma K (He.ga K "Numbers") "__init__")
  k_Words : Mk K (He.ga K "Words") (He.ma K (He.ga K "Words") "__init__")
  k_Book : Mk K (He.ga K "Book") (He.ma K (He.ga K "Book") "__init__")
  k_Table : Mk K (He.ga K "Table") (He.ma K (He.ga K "Table") "__init__")
  k_First : Mk K (He.ga K "First") (He.ma K (He.ga K "First") "__init__")
  k_Only : Mk K (He.ga K "Only") (He.ma K (He.ga K "Only") "__init__")
  k_Like : Mk K (He.ga K "Like") (He.ma K (He.ga K "Like") "__init__")
  k_Low : Mk K (He.ga K "Low") (He.ma K (He.ga K "Low") "__init__")
  k_High : Mk K (He.ga K "High") (He.ma K (He.ga K "High") "__init__")
  k_Sum : Mk K (He.ga K "Sum") (He.ma K (He.ga K "Sum") "__init__")
  kNW : PySem.W.kitOne K (.ref (He.ga K "Numbers")) (.ref (He.ga K "Words")) = some false
  kWW : PySem.W.kitOne K (.ref (He.ga K "Words")) (.ref (He.ga K "Words")) = some true
  kNN : PySem.W.kitOne K (.ref (He.ga K "Numbers")) (.ref (He.ga K "Numbers")) = some true
  kWN : PySem.W.kitOne K (.ref (He.ga K "Words")) (.ref (He.ga K "Numbers")) = some false
  rd_Domain : PySem.W.readsIn K (He.ga K "Domain") (.type "type") = true
  ra_Domain : PySem.W.specialIn K (.ref (He.ga K "Domain")) "__getattribute__" = some (some (.builtin "type.__getattribute__"))
  rf_Domain : PySem.W.findCls K (.ref (He.ga K "Domain")) (.type "type") "__init__" = some (.val (.ref (He.ma K (He.ga K "Domain") "__init__")))
  rd_Way : PySem.W.readsIn K (He.ga K "Way") (.type "type") = true
  ra_Way : PySem.W.specialIn K (.ref (He.ga K "Way")) "__getattribute__" = some (some (.builtin "type.__getattribute__"))
  rf_Way : PySem.W.findCls K (.ref (He.ga K "Way")) (.type "type") "__init__" = some (.val (.ref (He.ma K (He.ga K "Way") "__init__")))
  o1_Numbers : PySem.W.findIn K (.ref (He.ga K "Numbers")) "__class__" = some (some (.builtin "object.__class__"))
  o2_Numbers : PySem.W.mroIn K (He.ga K "Numbers") (.type "object") = some true
  o1_Words : PySem.W.findIn K (.ref (He.ga K "Words")) "__class__" = some (some (.builtin "object.__class__"))
  o2_Words : PySem.W.mroIn K (He.ga K "Words") (.type "object") = some true
  o3 : PySem.W.specialIn K (.builtin "object.__class__") "__get__" = some (some (.builtin "getset_descriptor.__get__"))
  o4 : PySem.W.takesIn K (.builtin "object.__class__") = some true
end Rk
set_option Elab.async false
set_option linter.all false
set_option maxRecDepth 100000
set_option maxHeartbeats 0
namespace Rk
open PySem PySem.Spec PyProof.Rows L2 RkH
theorem cdef_of {K : PySem.W.Frag} {c m : Str} (h : cdef K c m = true) : PySem.W.readsIn K (He.ga K c) (.type "type") = true ∧ PySem.W.specialIn K (.ref (He.ga K c)) "__getattribute__" = some (some (.builtin "type.__getattribute__")) ∧ PySem.W.findCls K (.ref (He.ga K c)) (.type "type") m = some (.val (.ref (He.ma K (He.ga K c) m))) := by
  unfold cdef at h
  rw [Bool.and_eq_true, Bool.and_eq_true] at h
  obtain ⟨h1, h2, h3⟩ := h
  refine ⟨h1, of_decide_eq_true h2, ?_⟩
  split at h3
  · rename_i e
    rw [e, of_decide_eq_true h3]
  · cases h3
theorem ins_of {K : PySem.W.Frag} {c : Str} (h : insB K c = true) : PySem.W.findIn K (.ref (He.ga K c)) "__class__" = some (some (.builtin "object.__class__")) ∧ PySem.W.mroIn K (He.ga K c) (.type "object") = some true := by
  unfold insB at h
  rw [Bool.and_eq_true] at h
  exact ⟨of_decide_eq_true h.1, of_decide_eq_true h.2⟩
theorem get_of {K : PySem.W.Frag} (h : getB K = true) : PySem.W.specialIn K (.builtin "object.__class__") "__get__" = some (some (.builtin "getset_descriptor.__get__")) ∧ PySem.W.takesIn K (.builtin "object.__class__") = some true := by
  unfold getB at h
  rw [Bool.and_eq_true] at h
  exact ⟨of_decide_eq_true h.1, of_decide_eq_true h.2⟩
theorem tx_of {K : PySem.W.Frag} {mg : Str → Option Value} {h : Heap} (X : K.In h) (G : h.Ns mainGlobals mg) (c : Says K) : Tx K mg := by
  have x := c.ex
  unfold ex at x
  rw [Bool.and_eq_true, Bool.and_eq_true, Bool.and_eq_true, Bool.and_eq_true, Bool.and_eq_true, Bool.and_eq_true, Bool.and_eq_true, Bool.and_eq_true] at x
  obtain ⟨x0, x1, x2, x3, x4, x5, x6, x7, x8⟩ := x
  have y0 := cdef_of x4
  have y1 := cdef_of x5
  have y2 := ins_of x6
  have y3 := ins_of x7
  have y4 := get_of x8
  exact {
    f_is_word := fd_of (c.d.def_ 0 rfl).choose_spec
    f_number_of := fd_of (c.d.def_ 1 rfl).choose_spec
    f_number_text := fd_of (c.d.def_ 2 rfl).choose_spec
    f_alike := fd_of (c.d.def_ 3 rfl).choose_spec
    f_read_domain := fd_of (c.d.def_ 4 rfl).choose_spec
    f_named_domains := fd_of (c.d.def_ 5 rfl).choose_spec
    f_look_at_columns := fd_of (c.d.def_ 6 rfl).choose_spec
    f_free_of := fd_of (c.d.def_ 7 rfl).choose_spec
    f_look_for_rings := fd_of (c.d.def_ 8 rfl).choose_spec
    f_table_of := fd_of (c.d.def_ 9 rfl).choose_spec
    f_asks := fd_of (c.d.def_ 10 rfl).choose_spec
    f_gathered := fd_of (c.d.def_ 11 rfl).choose_spec
    f_order_of := fd_of (c.d.def_ 12 rfl).choose_spec
    f_needs := fd_of (c.d.def_ 13 rfl).choose_spec
    f_tidy := fd_of (c.d.def_ 14 rfl).choose_spec
    f_holds := fd_of (c.d.def_ 15 rfl).choose_spec
    f_both := fd_of (c.d.def_ 16 rfl).choose_spec
    f_gaps := fd_of (c.d.def_ 17 rfl).choose_spec
    f_without := fd_of (c.d.def_ 18 rfl).choose_spec
    f_way_by := fd_of (c.d.def_ 19 rfl).choose_spec
    f_look_at_names := fd_of (c.d.def_ 20 rfl).choose_spec
    f_look_at_row := fd_of (c.d.def_ 21 rfl).choose_spec
    f_own_rows := fd_of (c.d.def_ 22 rfl).choose_spec
    f_fits := fd_of (c.d.def_ 23 rfl).choose_spec
    f_mask := fd_of (c.d.def_ 24 rfl).choose_spec
    f_judged := fd_of (c.d.def_ 25 rfl).choose_spec
    f_fact_codes := fd_of (c.d.def_ 26 rfl).choose_spec
    f_entry := fd_of (c.d.def_ 27 rfl).choose_spec
    f_entries := fd_of (c.d.def_ 28 rfl).choose_spec
    f_tables_for := fd_of (c.d.def_ 29 rfl).choose_spec
    f_trail := fd_of (c.d.def_ 30 rfl).choose_spec
    f_ask := fd_of (c.d.def_ 31 rfl).choose_spec
    f_read_end := fd_of (c.d.def_ 32 rfl).choose_spec
    f_read_stretch := fd_of (c.d.def_ 33 rfl).choose_spec
    f_read_part := fd_of (c.d.def_ 34 rfl).choose_spec
    f_read_cell := fd_of (c.d.def_ 35 rfl).choose_spec
    f_show_stretch := fd_of (c.d.def_ 36 rfl).choose_spec
    f_show_cell := fd_of (c.d.def_ 37 rfl).choose_spec
    f_read_value := fd_of (c.d.def_ 38 rfl).choose_spec
    f_show_value := fd_of (c.d.def_ 39 rfl).choose_spec
    f_table_parts := fd_of (c.d.def_ 40 rfl).choose_spec
    f_parts_of := fd_of (c.d.def_ 41 rfl).choose_spec
    f_blocks_of := fd_of (c.d.def_ 42 rfl).choose_spec
    f_look_at_counts := fd_of (c.d.def_ 43 rfl).choose_spec
    f_look_at_all_names := fd_of (c.d.def_ 44 rfl).choose_spec
    f_domains_read := fd_of (c.d.def_ 45 rfl).choose_spec
    f_look_at_ways := fd_of (c.d.def_ 46 rfl).choose_spec
    f_look_at_fields := fd_of (c.d.def_ 47 rfl).choose_spec
    f_cells_read := fd_of (c.d.def_ 48 rfl).choose_spec
    f_look_at_values := fd_of (c.d.def_ 49 rfl).choose_spec
    f_table_read := fd_of (c.d.def_ 50 rfl).choose_spec
    f_read_book := fd_of (c.d.def_ 51 rfl).choose_spec
    f_head_text := fd_of (c.d.def_ 52 rfl).choose_spec
    f_row_text := fd_of (c.d.def_ 53 rfl).choose_spec
    f_show_book := fd_of (c.d.def_ 54 rfl).choose_spec
    f_law_cell := fd_of (c.d.def_ 55 rfl).choose_spec
    f_law_word := fd_of (c.d.def_ 56 rfl).choose_spec
    f_law_numbers := fd_of (c.d.def_ 57 rfl).choose_spec
    f_law_fact := fd_of (c.d.def_ 58 rfl).choose_spec
    f_law_outcome := fd_of (c.d.def_ 59 rfl).choose_spec
    f_law_columns := fd_of (c.d.def_ 60 rfl).choose_spec
    f_law_way := fd_of (c.d.def_ 61 rfl).choose_spec
    f_law_row := fd_of (c.d.def_ 62 rfl).choose_spec
    f_law_model := fd_of (c.d.def_ 63 rfl).choose_spec
    f_law_piece := fd_of (c.d.def_ 64 rfl).choose_spec
    f_law_field := fd_of (c.d.def_ 65 rfl).choose_spec
    f_law_domain_text := fd_of (c.d.def_ 66 rfl).choose_spec
    f_law_names := fd_of (c.d.def_ 67 rfl).choose_spec
    f_law_table_lines := fd_of (c.d.def_ 68 rfl).choose_spec
    f_law_text := fd_of (c.d.def_ 69 rfl).choose_spec
    f_law_places := fd_of (c.d.def_ 70 rfl).choose_spec
    f_law_due := fd_of (c.d.def_ 71 rfl).choose_spec
    f_law_fitting := fd_of (c.d.def_ 72 rfl).choose_spec
    f_law_verdicts := fd_of (c.d.def_ 73 rfl).choose_spec
    f_law_value := fd_of (c.d.def_ 74 rfl).choose_spec
    f_law_whole := fd_of (c.d.def_ 75 rfl).choose_spec
    f_law_is := fd_of (c.d.def_ 76 rfl).choose_spec
    f_law := fd_of (c.d.def_ 77 rfl).choose_spec
    f_Domain_init := fd_of (c.d.def_ 78 rfl).choose_spec
    f_Numbers_init := fd_of (c.d.def_ 79 rfl).choose_spec
    f_Numbers_bears := fd_of (c.d.def_ 80 rfl).choose_spec
    f_Numbers_place := fd_of (c.d.def_ 81 rfl).choose_spec
    f_Numbers_written := fd_of (c.d.def_ 82 rfl).choose_spec
    f_Numbers_code := fd_of (c.d.def_ 83 rfl).choose_spec
    f_Numbers_whole := fd_of (c.d.def_ 84 rfl).choose_spec
    f_Words_init := fd_of (c.d.def_ 85 rfl).choose_spec
    f_Words_bears := fd_of (c.d.def_ 86 rfl).choose_spec
    f_Words_place := fd_of (c.d.def_ 87 rfl).choose_spec
    f_Words_told := fd_of (c.d.def_ 88 rfl).choose_spec
    f_Words_written := fd_of (c.d.def_ 89 rfl).choose_spec
    f_Words_code := fd_of (c.d.def_ 90 rfl).choose_spec
    f_Words_worth := fd_of (c.d.def_ 91 rfl).choose_spec
    f_Words_whole := fd_of (c.d.def_ 92 rfl).choose_spec
    f_Book_init := fd_of (c.d.def_ 93 rfl).choose_spec
    f_Table_init := fd_of (c.d.def_ 94 rfl).choose_spec
    f_Way_init := fd_of (c.d.def_ 95 rfl).choose_spec
    f_First_init := fd_of (c.d.def_ 96 rfl).choose_spec
    f_First_chosen := fd_of (c.d.def_ 97 rfl).choose_spec
    f_First_verdict := fd_of (c.d.def_ 98 rfl).choose_spec
    f_Only_init := fd_of (c.d.def_ 99 rfl).choose_spec
    f_Only_chosen := fd_of (c.d.def_ 100 rfl).choose_spec
    f_Only_verdict := fd_of (c.d.def_ 101 rfl).choose_spec
    f_Like_init := fd_of (c.d.def_ 102 rfl).choose_spec
    f_Like_chosen := fd_of (c.d.def_ 103 rfl).choose_spec
    f_Like_verdict := fd_of (c.d.def_ 104 rfl).choose_spec
    f_Low_init := fd_of (c.d.def_ 105 rfl).choose_spec
    f_Low_chosen := fd_of (c.d.def_ 106 rfl).choose_spec
    f_Low_verdict := fd_of (c.d.def_ 107 rfl).choose_spec
    f_High_init := fd_of (c.d.def_ 108 rfl).choose_spec
    f_High_chosen := fd_of (c.d.def_ 109 rfl).choose_spec
    f_High_verdict := fd_of (c.d.def_ 110 rfl).choose_spec
    f_Sum_init := fd_of (c.d.def_ 111 rfl).choose_spec
    f_Sum_chosen := fd_of (c.d.def_ 112 rfl).choose_spec
    f_Sum_verdict := fd_of (c.d.def_ 113 rfl).choose_spec
    g_is_word := He.glo_ok X G (c.d.fact 0 rfl)
    g_number_of := He.glo_ok X G (c.d.fact 1 rfl)
    g_number_text := He.glo_ok X G (c.d.fact 2 rfl)
    g_alike := He.glo_ok X G (c.d.fact 3 rfl)
    g_read_domain := He.glo_ok X G (c.d.fact 4 rfl)
    g_named_domains := He.glo_ok X G (c.d.fact 5 rfl)
    g_look_at_columns := He.glo_ok X G (c.d.fact 6 rfl)
    g_free_of := He.glo_ok X G (c.d.fact 7 rfl)
    g_look_for_rings := He.glo_ok X G (c.d.fact 8 rfl)
    g_table_of := He.glo_ok X G (c.d.fact 9 rfl)
    g_asks := He.glo_ok X G (c.d.fact 10 rfl)
    g_gathered := He.glo_ok X G (c.d.fact 11 rfl)
    g_order_of := He.glo_ok X G (c.d.fact 12 rfl)
    g_needs := He.glo_ok X G (c.d.fact 13 rfl)
    g_tidy := He.glo_ok X G (c.d.fact 14 rfl)
    g_holds := He.glo_ok X G (c.d.fact 15 rfl)
    g_both := He.glo_ok X G (c.d.fact 16 rfl)
    g_gaps := He.glo_ok X G (c.d.fact 17 rfl)
    g_without := He.glo_ok X G (c.d.fact 18 rfl)
    g_way_by := He.glo_ok X G (c.d.fact 19 rfl)
    g_look_at_names := He.glo_ok X G (c.d.fact 20 rfl)
    g_look_at_row := He.glo_ok X G (c.d.fact 21 rfl)
    g_own_rows := He.glo_ok X G (c.d.fact 22 rfl)
    g_fits := He.glo_ok X G (c.d.fact 23 rfl)
    g_mask := He.glo_ok X G (c.d.fact 24 rfl)
    g_judged := He.glo_ok X G (c.d.fact 25 rfl)
    g_fact_codes := He.glo_ok X G (c.d.fact 26 rfl)
    g_entry := He.glo_ok X G (c.d.fact 27 rfl)
    g_entries := He.glo_ok X G (c.d.fact 28 rfl)
    g_tables_for := He.glo_ok X G (c.d.fact 29 rfl)
    g_trail := He.glo_ok X G (c.d.fact 30 rfl)
    g_ask := He.glo_ok X G (c.d.fact 31 rfl)
    g_read_end := He.glo_ok X G (c.d.fact 32 rfl)
    g_read_stretch := He.glo_ok X G (c.d.fact 33 rfl)
    g_read_part := He.glo_ok X G (c.d.fact 34 rfl)
    g_read_cell := He.glo_ok X G (c.d.fact 35 rfl)
    g_show_stretch := He.glo_ok X G (c.d.fact 36 rfl)
    g_show_cell := He.glo_ok X G (c.d.fact 37 rfl)
    g_read_value := He.glo_ok X G (c.d.fact 38 rfl)
    g_show_value := He.glo_ok X G (c.d.fact 39 rfl)
    g_table_parts := He.glo_ok X G (c.d.fact 40 rfl)
    g_parts_of := He.glo_ok X G (c.d.fact 41 rfl)
    g_blocks_of := He.glo_ok X G (c.d.fact 42 rfl)
    g_look_at_counts := He.glo_ok X G (c.d.fact 43 rfl)
    g_look_at_all_names := He.glo_ok X G (c.d.fact 44 rfl)
    g_domains_read := He.glo_ok X G (c.d.fact 45 rfl)
    g_look_at_ways := He.glo_ok X G (c.d.fact 46 rfl)
    g_look_at_fields := He.glo_ok X G (c.d.fact 47 rfl)
    g_cells_read := He.glo_ok X G (c.d.fact 48 rfl)
    g_look_at_values := He.glo_ok X G (c.d.fact 49 rfl)
    g_table_read := He.glo_ok X G (c.d.fact 50 rfl)
    g_read_book := He.glo_ok X G (c.d.fact 51 rfl)
    g_head_text := He.glo_ok X G (c.d.fact 52 rfl)
    g_row_text := He.glo_ok X G (c.d.fact 53 rfl)
    g_show_book := He.glo_ok X G (c.d.fact 54 rfl)
    g_law_cell := He.glo_ok X G (c.d.fact 55 rfl)
    g_law_word := He.glo_ok X G (c.d.fact 56 rfl)
    g_law_numbers := He.glo_ok X G (c.d.fact 57 rfl)
    g_law_fact := He.glo_ok X G (c.d.fact 58 rfl)
    g_law_outcome := He.glo_ok X G (c.d.fact 59 rfl)
    g_law_columns := He.glo_ok X G (c.d.fact 60 rfl)
    g_law_way := He.glo_ok X G (c.d.fact 61 rfl)
    g_law_row := He.glo_ok X G (c.d.fact 62 rfl)
    g_law_model := He.glo_ok X G (c.d.fact 63 rfl)
    g_law_piece := He.glo_ok X G (c.d.fact 64 rfl)
    g_law_field := He.glo_ok X G (c.d.fact 65 rfl)
    g_law_domain_text := He.glo_ok X G (c.d.fact 66 rfl)
    g_law_names := He.glo_ok X G (c.d.fact 67 rfl)
    g_law_table_lines := He.glo_ok X G (c.d.fact 68 rfl)
    g_law_text := He.glo_ok X G (c.d.fact 69 rfl)
    g_law_places := He.glo_ok X G (c.d.fact 70 rfl)
    g_law_due := He.glo_ok X G (c.d.fact 71 rfl)
    g_law_fitting := He.glo_ok X G (c.d.fact 72 rfl)
    g_law_verdicts := He.glo_ok X G (c.d.fact 73 rfl)
    g_law_value := He.glo_ok X G (c.d.fact 74 rfl)
    g_law_whole := He.glo_ok X G (c.d.fact 75 rfl)
    g_law_is := He.glo_ok X G (c.d.fact 76 rfl)
    g_law := He.glo_ok X G (c.d.fact 77 rfl)
    g_Domain := He.glo_ok X G (c.d.fact 78 rfl)
    g_Numbers := He.glo_ok X G (c.d.fact 79 rfl)
    g_Words := He.glo_ok X G (c.d.fact 80 rfl)
    g_Book := He.glo_ok X G (c.d.fact 81 rfl)
    g_Table := He.glo_ok X G (c.d.fact 82 rfl)
    g_Way := He.glo_ok X G (c.d.fact 83 rfl)
    g_First := He.glo_ok X G (c.d.fact 84 rfl)
    g_Only := He.glo_ok X G (c.d.fact 85 rfl)
    g_Like := He.glo_ok X G (c.d.fact 86 rfl)
    g_Low := He.glo_ok X G (c.d.fact 87 rfl)
    g_High := He.glo_ok X G (c.d.fact 88 rfl)
    g_Sum := He.glo_ok X G (c.d.fact 89 rfl)
    g_BadNumber := He.glo_ok X G (c.d.fact 90 rfl)
    n_len := He.free_ok X G (c.d.fact 91 rfl)
    n_all := He.free_ok X G (c.d.fact 92 rfl)
    n_sorted := He.free_ok X G (c.d.fact 93 rfl)
    n_max := He.free_ok X G (c.d.fact 94 rfl)
    n_min := He.free_ok X G (c.d.fact 95 rfl)
    n_isinstance := He.free_ok X G (c.d.fact 96 rfl)
    n_range := He.free_ok X G (c.d.fact 97 rfl)
    n_zip := He.free_ok X G (c.d.fact 98 rfl)
    n_list := He.free_ok X G (c.d.fact 99 rfl)
    n_dict := He.free_ok X G (c.d.fact 100 rfl)
    n_str := He.free_ok X G (c.d.fact 101 rfl)
    n_int := He.free_ok X G (c.d.fact 102 rfl)
    n_sum := He.free_ok X G (c.d.fact 103 rfl)
    n_reversed := He.free_ok X G (c.d.fact 104 rfl)
    n_bool := He.free_ok X G (c.d.fact 105 rfl)
    n_tuple := He.free_ok X G (c.d.fact 106 rfl)
    z_LETTERS := He.str_ok X G (c.d.fact 107 rfl)
    z_FIGURES := He.str_ok X G (c.d.fact 108 rfl)
    i_MOST_FIGURES := He.int_ok X G (c.d.fact 109 rfl)
    i_MOST_SIGNS := He.int_ok X G (c.d.fact 110 rfl)
    i_MOST_WORDS := He.int_ok X G (c.d.fact 111 rfl)
    i_MOST_FACTS_books := He.int_ok X G (c.d.fact 112 rfl)
    i_MOST_TABLES_books := He.int_ok X G (c.d.fact 113 rfl)
    i_MOST_COLUMNS_tables := He.int_ok X G (c.d.fact 114 rfl)
    i_MOST_ROWS_tables := He.int_ok X G (c.d.fact 115 rfl)
    i_MOST_FACTS_reading := He.int_ok X G (c.d.fact 116 rfl)
    i_MOST_TABLES_reading := He.int_ok X G (c.d.fact 117 rfl)
    i_MOST_COLUMNS_reading := He.int_ok X G (c.d.fact 118 rfl)
    i_MOST_ROWS_reading := He.int_ok X G (c.d.fact 119 rfl)
    c_Numbers := He.cls_ok (c.d.fact 120 rfl)
    c_Words := He.cls_ok (c.d.fact 121 rfl)
    c_Book := He.cls_ok (c.d.fact 122 rfl)
    c_Table := He.cls_ok (c.d.fact 123 rfl)
    c_First := He.cls_ok (c.d.fact 124 rfl)
    c_Only := He.cls_ok (c.d.fact 125 rfl)
    c_Like := He.cls_ok (c.d.fact 126 rfl)
    c_Low := He.cls_ok (c.d.fact 127 rfl)
    c_High := He.cls_ok (c.d.fact 128 rfl)
    c_Sum := He.cls_ok (c.d.fact 129 rfl)
    a_Numbers_low := He.noat_ok (c.d.fact 130 rfl)
    a_Numbers_high := He.noat_ok (c.d.fact 131 rfl)
    a_Words_low := He.noat_ok (c.d.fact 132 rfl)
    a_Words_high := He.noat_ok (c.d.fact 133 rfl)
    a_Words_words := He.noat_ok (c.d.fact 134 rfl)
    a_Book_facts := He.noat_ok (c.d.fact 135 rfl)
    a_Book_tables := He.noat_ok (c.d.fact 136 rfl)
    a_Table_name := He.noat_ok (c.d.fact 137 rfl)
    a_Table_names := He.noat_ok (c.d.fact 138 rfl)
    a_Table_domains := He.noat_ok (c.d.fact 139 rfl)
    a_Table_outcome := He.noat_ok (c.d.fact 140 rfl)
    a_Table_way := He.noat_ok (c.d.fact 141 rfl)
    a_Table_rows := He.noat_ok (c.d.fact 142 rfl)
    a_First_called := He.noat_ok (c.d.fact 143 rfl)
    a_Only_called := He.noat_ok (c.d.fact 144 rfl)
    a_Like_called := He.noat_ok (c.d.fact 145 rfl)
    a_Low_called := He.noat_ok (c.d.fact 146 rfl)
    a_High_called := He.noat_ok (c.d.fact 147 rfl)
    a_Sum_called := He.noat_ok (c.d.fact 148 rfl)
    m_Numbers_bears := He.meth_ok (c.d.fact 149 rfl)
    m_Numbers_place := He.meth_ok (c.d.fact 150 rfl)
    m_Numbers_written := He.meth_ok (c.d.fact 151 rfl)
    m_Numbers_code := He.meth_ok (c.d.fact 152 rfl)
    m_Numbers_whole := He.meth_ok (c.d.fact 153 rfl)
    m_Words_bears := He.meth_ok (c.d.fact 154 rfl)
    m_Words_place := He.meth_ok (c.d.fact 155 rfl)
    m_Words_told := He.meth_ok (c.d.fact 156 rfl)
    m_Words_written := He.meth_ok (c.d.fact 157 rfl)
    m_Words_code := He.meth_ok (c.d.fact 158 rfl)
    m_Words_worth := He.meth_ok (c.d.fact 159 rfl)
    m_Words_whole := He.meth_ok (c.d.fact 160 rfl)
    m_First_chosen := He.meth_ok (c.d.fact 161 rfl)
    m_First_verdict := He.meth_ok (c.d.fact 162 rfl)
    m_Only_chosen := He.meth_ok (c.d.fact 163 rfl)
    m_Only_verdict := He.meth_ok (c.d.fact 164 rfl)
    m_Like_chosen := He.meth_ok (c.d.fact 165 rfl)
    m_Like_verdict := He.meth_ok (c.d.fact 166 rfl)
    m_Low_chosen := He.meth_ok (c.d.fact 167 rfl)
    m_Low_verdict := He.meth_ok (c.d.fact 168 rfl)
    m_High_chosen := He.meth_ok (c.d.fact 169 rfl)
    m_High_verdict := He.meth_ok (c.d.fact 170 rfl)
    m_Sum_chosen := He.meth_ok (c.d.fact 171 rfl)
    m_Sum_verdict := He.meth_ok (c.d.fact 172 rfl)
    k_Numbers := He.mkr_ok (c.d.fact 173 rfl)
    k_Words := He.mkr_ok (c.d.fact 174 rfl)
    k_Book := He.mkr_ok (c.d.fact 175 rfl)
    k_Table := He.mkr_ok (c.d.fact 176 rfl)
    k_First := He.mkr_ok (c.d.fact 177 rfl)
    k_Only := He.mkr_ok (c.d.fact 178 rfl)
    k_Like := He.mkr_ok (c.d.fact 179 rfl)
    k_Low := He.mkr_ok (c.d.fact 180 rfl)
    k_High := He.mkr_ok (c.d.fact 181 rfl)
    k_Sum := He.mkr_ok (c.d.fact 182 rfl)
    kNW := of_decide_eq_true x0
    kWW := of_decide_eq_true x1
    kNN := of_decide_eq_true x2
    kWN := of_decide_eq_true x3
    rd_Domain := y0.1
    ra_Domain := y0.2.1
    rf_Domain := y0.2.2
    rd_Way := y1.1
    ra_Way := y1.2.1
    rf_Way := y1.2.2
    o1_Numbers := y2.1
    o2_Numbers := y2.2
    o1_Words := y3.1
    o2_Words := y3.2
    o3 := y4.1
    o4 := y4.2
  }
end Rk
set_option Elab.async false
set_option linter.all false
set_option maxRecDepth 100000
set_option maxHeartbeats 1000000
namespace Rk
open PySem PySem.Spec PyProof.Rows L2

/-! ### promises over what values stand for -/
section
variable {A B C D E F G : Type}
def Sp1 (t : Ty A) (u : Ty B) (f : A → B → Prop) : Sp := fun vs H Q _ => ∃ ls v x r, vs = [v] ∧ Live H ls ∧ t.rep (cut H ls) v x ∧ f x r ∧ ∀ H' w, Same H H' → u.rep (cut H' ls) w r → Q w H'
def Sp2 (t1 : Ty A) (t2 : Ty B) (u : Ty C) (f : A → B → C → Prop) : Sp := fun vs H Q _ => ∃ ls v1 v2 x1 x2 r, vs = [v1, v2] ∧ Live H ls ∧ t1.rep (cut H ls) v1 x1 ∧ t2.rep (cut H ls) v2 x2 ∧ f x1 x2 r ∧ ∀ H' w, Same H H' → u.rep (cut H' ls) w r → Q w H'
def Sp3 (t1 : Ty A) (t2 : Ty B) (t3 : Ty C) (u : Ty D) (f : A → B → C → D → Prop) : Sp := fun vs H Q _ => ∃ ls v1 v2 v3 x1 x2 x3 r, vs = [v1, v2, v3] ∧ Live H ls ∧ t1.rep (cut H ls) v1 x1 ∧ t2.rep (cut H ls) v2 x2 ∧ t3.rep (cut H ls) v3 x3 ∧ f x1 x2 x3 r ∧ ∀ H' w, Same H H' → u.rep (cut H' ls) w r → Q w H'
def Sp4 (t1 : Ty A) (t2 : Ty B) (t3 : Ty C) (t4 : Ty D) (u : Ty E) (f : A → B → C → D → E → Prop) : Sp := fun vs H Q _ => ∃ ls v1 v2 v3 v4 x1 x2 x3 x4 r, vs = [v1, v2, v3, v4] ∧ Live H ls ∧ t1.rep (cut H ls) v1 x1 ∧ t2.rep (cut H ls) v2 x2 ∧ t3.rep (cut H ls) v3 x3 ∧ t4.rep (cut H ls) v4 x4 ∧ f x1 x2 x3 x4 r ∧ ∀ H' w, Same H H' → u.rep (cut H' ls) w r → Q w H'
def Sp5 (t1 : Ty A) (t2 : Ty B) (t3 : Ty C) (t4 : Ty D) (t5 : Ty E) (u : Ty F) (f : A → B → C → D → E → F → Prop) : Sp := fun vs H Q _ => ∃ ls v1 v2 v3 v4 v5 x1 x2 x3 x4 x5 r, vs = [v1, v2, v3, v4, v5] ∧ Live H ls ∧ t1.rep (cut H ls) v1 x1 ∧ t2.rep (cut H ls) v2 x2 ∧ t3.rep (cut H ls) v3 x3 ∧ t4.rep (cut H ls) v4 x4 ∧ t5.rep (cut H ls) v5 x5 ∧ f x1 x2 x3 x4 x5 r ∧ ∀ H' w, Same H H' → u.rep (cut H' ls) w r → Q w H'
end
section
variable {P : Program} {w : World} {K : PySem.W.Frag} {mg : Str → Option Value} {base : Heap} {X : Cx} {x m : Str} {ps : List Str} {k j : Nat} {sp : Sp} {e o : Expr} {es : List Expr} {t : TA} {ta : TE} {p pos apos : Pos}

/-- a def of the module keeps its promise -/
structure Def (P : Program) (w : World) (K : PySem.W.Frag) (mg : Str → Option Value) (base : Heap) (x : Str) (ps : List Str) (k : Nat) (sp : Sp) : Prop where
  ok : FnOk P w K mg base CX0 k (He.ga K x) (fdOf K (He.ga K x)) ps sp
  g : mg x = some (.ref (He.ga K x))
  kp : PySem.W.keepIn K (.ref (He.ga K x)) = true
  b : Binds K (fdOf K (He.ga K x)) ps []
/-- a method of a class -/
structure Met (P : Program) (w : World) (K : PySem.W.Frag) (mg : Str → Option Value) (base : Heap) (C m : Str) (ps : List Str) (k : Nat) (sp : Sp) : Prop where
  ok : FnOk P w K mg base CX0 k (He.ma K (He.ga K C) m) (fdOf K (He.ma K (He.ga K C) m)) ps sp
  cl : Cls K (He.ga K C)
  hm : Meth K (He.ga K C) m (He.ma K (He.ga K C) m)
  b : Binds K (fdOf K (He.ma K (He.ga K C) m)) ps []
/-- a class, by its __init__ -/
structure Ctor (P : Program) (w : World) (K : PySem.W.Frag) (mg : Str → Option Value) (base : Heap) (C : Str) (ps : List Str) (k : Nat) (sp : Sp) : Prop where
  ok : FnOk P w K mg base CX0 k (He.ma K (He.ga K C) "__init__") (fdOf K (He.ma K (He.ga K C) "__init__")) ps sp
  mkk : Mk K (He.ga K C) (He.ma K (He.ga K C) "__init__")
  g : mg C = some (.ref (He.ga K C))
  b : Binds K (fdOf K (He.ma K (He.ga K C) "__init__")) ps []

/-- the body of a def -/
theorem fn_body {q : Str} {st : Stmt} {f : Addr} {N : List Str} (F : FD K x q st f) (S : FnScope N ps (defScope st)) (len : ∀ vs H Q E, sp vs H Q E → vs.length = ps.length)
    (hbody : ∀ (cdv : Value) (A : Around) (outer : List Env) (s : Shared) (H : Hp) (vs : List V) (Q : VK) (E : XK), Room k (A.deeper (envOfC q (defScope st) s.heap.objs.size f cdv)) → sp vs H Q E →
      ∃ t, PSs (cxOf CX0 P w K mg base N q (defScope st) f cdv A outer s H E).nox (defBody st) t ∧ t { nx := fun _ H' => Q .non H', rt := Q } (start N vs) H) : FnOk P w K mg base CX0 (k + 1) f (fdOf K f) ps sp :=
  FunD.ok F S len fun cdv A outer s H vs Q E hr hsp => by
    obtain ⟨t, h, q⟩ := hbody cdv A outer s H vs Q E hr hsp
    exact ⟨t, h.nox, q⟩
/-- f(e, ..) of a def of the module -/
theorem pe_cD (D : Def X.prog X.w X.K X.mg X.base x ps k sp) (hr : Room j X.A) (ha : PA X (e :: es) t) (hk : k ≤ j := by decide) (hg : Gl X x := by rfl) (hdb : (x == ("__debug__" : Str)) = false := by decide)
    (he : starEach (e :: es) X.env = (false, eval e X.env) :: starEach es X.env := by rfl) (hpl : (backTo pos (starEach es X.env)).any (·.1) = false := by rfl) : PE X (.Call (.Name x p) (e :: es) [] pos) (tCall sp [] E0 t) :=
  pe_call D.ok (hr.mono hk) hg D.g D.kp D.b .nil pass0 ha hdb he hpl
theorem pe_mkD (D : Ctor X.prog X.w X.K X.mg X.base x ps k sp) (hr : Room j X.A) (ha : PA X (e :: es) t) (hk : k + 1 ≤ j := by decide) (hg : Gl X x := by rfl) (hdb : (x == ("__debug__" : Str)) = false := by decide)
    (he : starEach (e :: es) X.env = (false, eval e X.env) :: starEach es X.env := by rfl) (hpl : (backTo pos (starEach es X.env)).any (·.1) = false := by rfl) : PE X (.Call (.Name x p) (e :: es) [] pos) (tMake (He.ga X.K x) sp [] E0 t) :=
  pe_make D.mkk D.ok (hr.mono hk) hg D.g D.b .nil pass0 ha hdb he hpl
theorem pe_mkD0 (D : Ctor X.prog X.w X.K X.mg X.base x ps k sp) (hr : Room j X.A) (hk : k + 1 ≤ j := by decide) (hg : Gl X x := by rfl) (hdb : (x == ("__debug__" : Str)) = false := by decide) :
    PE X (.Call (.Name x p) [] [] pos) (tMake (He.ga X.K x) sp [] E0 tNil) :=
  pe_make0 D.mkk D.ok (hr.mono hk) hg D.g D.b .nil pass0 hdb
/-- o.m(e, ..) of an instance of a class that the reading names -/
def tDisp (P : Program) (w : World) (K : PySem.W.Frag) (mg : Str → Option Value) (base : Heap) (m : Str) (j : Nat) (ta : TE) (t : TA) : TE := fun σ H Q => ta σ H fun x H1 => ∃ a C dx fs sp, x = .ref a ∧ H1 a = some (.ins (He.ga K C) dx fs) ∧ fs.lookup m = none ∧ (∃ ps k, k ≤ j ∧ Met P w K mg base C m ps k sp) ∧
  t σ H1 fun vs H2 => sp (x :: vs) H2 Q E0
theorem pe_disp {pl : Sem Bool} (he : PE X o ta) (hr : Room j X.A) (ha : PA X (e :: es) t) (hX : X.prog = P ∧ X.w = w ∧ X.K = K ∧ X.mg = mg ∧ X.base = base := by exact ⟨rfl, rfl, rfl, rfl, rfl⟩)
    (hst : starEach (e :: es) X.env = (false, eval e X.env) :: starEach es X.env := by rfl) (hpl : (backTo pos (starEach es X.env)).any (·.1) = false := by rfl)
    (ht : eval (.Call (.Attribute o m apos) (e :: es) [] pos) X.env = (do
      let ov ← eval o X.env
      standAt apos.atName
      let (f, first) ← holding [ov] (getMethod ov m pl)
      callWith pos f first (backTo pos (starEach (e :: es) X.env)) (backToKw pos (keywordEach [] X.env))) := by rfl) :
    PE X (.Call (.Attribute o m apos) (e :: es) [] pos) (tDisp P w K mg base m j ta t) := by
  obtain ⟨rfl, rfl, rfl, rfl, rfl⟩ := hX
  refine ⟨fun pins s σ H Q I h => ?_⟩
  refine PySem.W.methodCall_KW (pl := pl) (thn (he.run pins s σ H _ I h) fun u s1 ⟨x, H1, I1, rx, a, C, dx, fs, sp, ex, ea, l, ⟨ps, k, hk, M⟩, q⟩ => ?_) ht
  subst ex
  obtain rfl : u = Value.ref a := rx
  refine getmeth_ok I1 ea M.cl M.hm l ?_
  refine PySem.W.callWith_K (first := [.ref a]) (h₀ := X.base) I.ok.mod.kin M.hm.kp (thn (ha.run pos pins s1 σ H1 _ I1 q) fun us s2 ⟨vs, H2, I2, r, q2⟩ => ⟨I2.kIn, ?_⟩) hst hpl
  exact run_fn (us := .ref a :: us) (vs := .ref a :: vs) (dvs := []) (ds := []) M.ok (hr.mono hk) M.b .nil pass0 I2 (.cons rfl r) (by rw [List.append_nil]; exact q2)
theorem pe_disp0 {pl : Sem Bool} (he : PE X o ta) (hr : Room j X.A) (hX : X.prog = P ∧ X.w = w ∧ X.K = K ∧ X.mg = mg ∧ X.base = base := by exact ⟨rfl, rfl, rfl, rfl, rfl⟩)
    (ht : eval (.Call (.Attribute o m apos) [] [] pos) X.env = (do
      let ov ← eval o X.env
      standAt apos.atName
      let (f, first) ← holding [ov] (getMethod ov m pl)
      callWith pos f first (backTo pos (starEach [] X.env)) (backToKw pos (keywordEach [] X.env))) := by rfl) :
    PE X (.Call (.Attribute o m apos) [] [] pos) (tDisp P w K mg base m j ta tNil) := by
  obtain ⟨rfl, rfl, rfl, rfl, rfl⟩ := hX
  refine ⟨fun pins s σ H Q I h => ?_⟩
  refine PySem.W.methodCall_KW (pl := pl) (thn (he.run pins s σ H _ I h) fun u s1 ⟨x, H1, I1, rx, a, C, dx, fs, sp, ex, ea, l, ⟨ps, k, hk, M⟩, q⟩ => ?_) ht
  subst ex
  obtain rfl : u = Value.ref a := rx
  refine getmeth_ok I1 ea M.cl M.hm l ?_
  exact PySem.W.callWith_K0 (first := [.ref a]) I1.kIn M.hm.kp (run_fn (us := [.ref a]) (vs := [.ref a]) (dvs := []) (ds := []) M.ok (hr.mono hk) M.b .nil pass0 I1 (.cons rfl .nil) q)
/-- C.m(e, ..): a def read off a class -/
structure CDef (K : PySem.W.Frag) (C : Addr) (m : Str) (f : Addr) : Prop where
  rd : PySem.W.readsIn K C (.type "type") = true
  ga : PySem.W.specialIn K (.ref C) "__getattribute__" = some (some (.builtin "type.__getattribute__"))
  at_ : PySem.W.findCls K (.ref C) (.type "type") m = some (.val (.ref f))
theorem pe_cls {C f : Addr} {fd : FuncData} {pl : Sem Bool} (hm : X.mg x = some (.ref C)) (c : CDef X.K C m f) (F : FnOk X.prog X.w X.K X.mg X.base CX0 k f fd ps sp) (kp : PySem.W.keepIn X.K (.ref f) = true) (b : Binds X.K fd ps []) (hr : Room j X.A) (ha : PA X (e :: es) t) (hk : k ≤ j := by decide) (hg : Gl X x := by rfl)
    (hdb : (x == ("__debug__" : Str)) = false := by decide)
    (hst : starEach (e :: es) X.env = (false, eval e X.env) :: starEach es X.env := by rfl) (hpl : (backTo pos (starEach es X.env)).any (·.1) = false := by rfl)
    (ht : eval (.Call (.Attribute (.Name x p) m apos) (e :: es) [] pos) X.env = (do
      let ov ← eval (.Name x p) X.env
      standAt apos.atName
      let (f, first) ← holding [ov] (getMethod ov m pl)
      callWith pos f first (backTo pos (starEach (e :: es) X.env)) (backToKw pos (keywordEach [] X.env))) := by rfl) :
    PE X (.Call (.Attribute (.Name x p) m apos) (e :: es) [] pos) (tCall sp [] E0 t) := by
  refine ⟨fun pins s σ H Q I h => ?_⟩
  have hn : PE X (.Name x p) (tC (.ref C)) := pe_glob hg hm rfl hdb
  refine PySem.W.methodCall_KW (pl := pl) (thn (hn.run pins s σ H (fun v H' => v = .ref C ∧ H' = H) I ⟨rfl, rfl⟩) fun u s1 ⟨x, H1, I1, rx, ex, eh⟩ => ?_) ht
  subst ex eh
  obtain rfl : u = Value.ref C := rx
  refine PySem.W.method_cls I1.kIn c.ga (PySem.W.cls_value I1.kIn c.rd c.at_ (handed_of (v := .ref f) rfl) ?_)
  have I2 := I1.tok (s1.toks + 1)
  refine PySem.W.callWith_K (h₀ := X.base) I.ok.mod.kin kp (thn (ha.run pos pins _ σ _ _ I2 h) fun us s2 ⟨vs, H2, I3, r, q2⟩ => ⟨I3.kIn, ?_⟩) hst hpl
  exact run_fn (us := us) (vs := vs) (dvs := []) (ds := []) F (hr.mono hk) b .nil pass0 I3 r q2
theorem pe_gi {i : Int} (h : ∃ t, X.mg x = some (.int i t)) (hg : Gl X x := by rfl) (hdb : (x == ("__debug__" : Str)) = false := by decide) : PE X (.Name x pos) (tC (.int i)) := by
  obtain ⟨t, h⟩ := h
  exact pe_glob hg h ⟨t, rfl⟩ hdb
theorem pe_gs {z : Str} (h : ∃ t, X.mg x = some (.str z t)) (hg : Gl X x := by rfl) (hdb : (x == ("__debug__" : Str)) = false := by decide) : PE X (.Name x pos) (tC (.str z)) := by
  obtain ⟨t, h⟩ := h
  exact pe_glob hg h ⟨t, rfl⟩ hdb
theorem pe_gc {a : Addr} (h : X.mg x = some (.ref a)) (hg : Gl X x := by rfl) (hdb : (x == ("__debug__" : Str)) = false := by decide) : PE X (.Name x pos) (tC (.ref a)) := pe_glob hg h rfl hdb
end
/-! ### rules with the written part told (within a comprehension) -/
section
variable {X : Cx} {K : PySem.W.Frag} {ta : TE} {tb : TE} {t : TGs} {e : Expr} {es : List Expr} {f : Str} {pos : Pos}
theorem ixT (hK : X.K = K := by rfl) : IxR X (rIxT K) := by subst hK; exact ix_tup
theorem ixL (hK : X.K = K := by rfl) : IxR X (rIxL K) := by subst hK; exact ix_list
theorem pe_fldK (he : PE X e ta) (hb : attributeBase e f X.env (eval e X.env) = eval e X.env) (hK : X.K = K := by rfl) : PE X (.Attribute e f pos) (tFld K ta f) := by subst hK; exact pe_fld he hb
theorem in_seqK (hK : X.K = K := by rfl) : OpR X (compareOp .In) (rIn K false) := by subst hK; exact op_in_seq
theorem notIn_seqK (hK : X.K = K := by rfl) : OpR X (compareOp .NotIn) (rIn K true) := by subst hK; exact op_notIn_seq
def rLenQ (K : PySem.W.Frag) : List V → Hp → VK → Prop := fun xs H Q => ∃ p ys, xs = [.ref p] ∧ (SqL K H p ys ∨ SqT K H p ys) ∧ Q (.int (ys.length : Nat)) H
theorem list_ofK (hK : X.K = K := by rfl) : CallR X (.type "list") (fun xs H Q => ∃ p ys, xs = [.ref p] ∧ (SqL K H p ys ∨ SqT K H p ys) ∧ ∀ l, H l = none → Q (.ref l) (upd H l (.lst ys))) := by subst hK; exact call_list_of
theorem len_seqK (hK : X.K = K := by rfl) : CallR X (.builtin "len") (rLenQ K) := by subst hK; exact call_len_seq
end
/-! ### the lengths of argument lists -/
section
variable {A B C D E F G : Type} {vs : List V} {H : Hp} {Q : VK} {X : XK}
theorem len1 {t : Ty A} {u : Ty B} {f : A → B → Prop} (h : Sp1 t u f vs H Q X) : vs.length = 1 := by
  obtain ⟨_, _, _, _, rfl, _⟩ := h; rfl
theorem len2 {t : Ty A} {t2 : Ty B} {u : Ty C} {f : A → B → C → Prop} (h : Sp2 t t2 u f vs H Q X) : vs.length = 2 := by
  obtain ⟨_, _, _, _, _, _, rfl, _⟩ := h; rfl
theorem len3 {t : Ty A} {t2 : Ty B} {t3 : Ty C} {u : Ty D} {f : A → B → C → D → Prop} (h : Sp3 t t2 t3 u f vs H Q X) : vs.length = 3 := by
  obtain ⟨_, _, _, _, _, _, _, _, rfl, _⟩ := h; rfl
theorem len4 {t : Ty A} {t2 : Ty B} {t3 : Ty C} {t4 : Ty D} {u : Ty E} {f : A → B → C → D → E → Prop} (h : Sp4 t t2 t3 t4 u f vs H Q X) : vs.length = 4 := by
  obtain ⟨_, _, _, _, _, _, _, _, _, _, rfl, _⟩ := h; rfl
theorem len5 {t : Ty A} {t2 : Ty B} {t3 : Ty C} {t4 : Ty D} {t5 : Ty E} {u : Ty F} {f : A → B → C → D → E → F → Prop} (h : Sp5 t t2 t3 t4 t5 u f vs H Q X) : vs.length = 5 := by
  obtain ⟨_, _, _, _, _, _, _, _, _, _, _, _, rfl, _⟩ := h; rfl
end
end Rk
set_option Elab.async false
set_option linter.all false
set_option maxRecDepth 100000
set_option maxHeartbeats 1000000
namespace Rk
open PySem PySem.Spec PyProof.Rows L2
abbrev Spans : Type := List (Int × Int)
abbrev Ver : Type := Str × Int
abbrev tSpans : Ty Spans := tLst (tPair tInt tInt)
abbrev tVer : Ty Ver := tPair tStr tInt
abbrev Row : Type := List Spans × Int
abbrev tRow : Ty Row := tPair (tLst tSpans) tInt
inductive Dom where
  | num (lo hi : Int)
  | words (ws : List Str)
  deriving DecidableEq
def Dom.lo : Dom → Int
  | .num lo _ => lo
  | .words _ => 0
def Dom.hi : Dom → Int
  | .num _ hi => hi
  | .words ws => (ws.length : Int) - 1
inductive Wy where
  | first | only | like | low | high | sum
  deriving DecidableEq
def Wy.nm : Wy → Str
  | .first => "first" | .only => "only" | .like => "like" | .low => "low" | .high => "high" | .sum => "sum"
def Wy.cls : Wy → Str
  | .first => "First" | .only => "Only" | .like => "Like" | .low => "Low" | .high => "High" | .sum => "Sum"
structure Tab where
  name : Str
  names : List Str
  doms : List Dom
  out : Dom
  way : Wy
  rows : List Row
def Dom.isW : Dom → Bool
  | .num _ _ => false
  | .words _ => true
def Dom.isN : Dom → Bool
  | .num _ _ => true
  | .words _ => false
structure Bk where
  facts : List (Str × Dom)
  tabs : List Tab
inductive Prt where
  | fact (n d : Str)
  | table (n : Str) (cols : List Str) (d w : Str)
  | when (fs : List Str) (v : Str)
inductive RVal where
  | int (i : Int)
  | str (s : Str)
def repVal (v : V) : RVal → Prop
  | .int i => v = .int i
  | .str s => v = .str s
def tVal : Ty RVal := ⟨fun _ v x => repVal v x, fun _ h => h⟩
theorem sk {f g : Str} (h : (f == g) = false) (v : V) (r : List (Str × V)) : ((g, v) :: r).lookup f = r.lookup f := by
  show (match f == g with | true => some v | false => r.lookup f) = _
  rw [h]
theorem hk_ {f : Str} (v : V) (r : List (Str × V)) : ((f, v) :: r).lookup f = some v := by
  show (match f == f with | true => some v | false => r.lookup f) = _
  rw [show (f == f) = true from beq_self_eq_true f]
/-- a dict with text keys -/
def tDic {A : Type} (t : Ty A) : Ty (List (Str × A)) := ⟨fun H v kvs => ∃ a ws, v = .ref a ∧ H a = some (.dK ws) ∧ Ps t H ws kvs, fun s ⟨a, ws, e, h, r⟩ => ⟨a, ws, e, s _ _ h, r.mono s⟩⟩
theorem look_none {A : Type} {kvs : List (Str × A)} {k : Str} : look kvs k = none ↔ k ∉ kvs.map (·.1) := by
  induction kvs with
  | nil => exact ⟨fun _ => by simp, fun _ => rfl⟩
  | cons p r ih =>
    rw [look_cons, List.map_cons, List.mem_cons, not_or]
    by_cases h : p.1 = k
    · rw [if_pos h]; exact ⟨fun z => (nomatch z), fun z => absurd h.symm z.1⟩
    · rw [if_neg h, ih]; exact ⟨fun z => ⟨fun q => h q.symm, z⟩, fun z => z.2⟩
theorem put_new {A : Type} {kvs : List (Str × A)} {k : Str} {x : A} (h : k ∉ kvs.map (·.1)) : put kvs k x = kvs ++ [(k, x)] := by
  unfold put
  rw [if_neg]
  intro e
  obtain ⟨p, hp, e⟩ := List.any_eq_true.mp e
  exact h (List.mem_map.mpr ⟨p, hp, of_decide_eq_true e⟩)
theorem look_mem {A : Type} {kvs : List (Str × A)} {k : Str} {x : A} (nd : (kvs.map (·.1)).Nodup) (h : (k, x) ∈ kvs) : look kvs k = some x := by
  induction kvs with
  | nil => cases h
  | cons p r ih =>
    rw [look_cons]
    rw [List.map_cons, List.nodup_cons] at nd
    rcases List.mem_cons.mp h with e | e
    · rw [← e, if_pos rfl]
    · rw [if_neg (fun q => nd.1 (List.mem_map.mpr ⟨(k, x), e, q.symm⟩)), ih nd.2 e]
/-- fields by name -/
def fNum (lo hi : Int) : List (Str × V) := [("low", .int lo), ("high", .int hi)]
def fWords (n : Int) (l : Addr) : List (Str × V) := [("low", .int 0), ("high", .int n), ("words", .ref l)]
def fTab (n v1 v2 v3 w v4 : V) : List (Str × V) := [("name", n), ("names", v1), ("domains", v2), ("outcome", v3), ("way", w), ("rows", v4)]
def fBk (v1 v2 : V) : List (Str × V) := [("facts", v1), ("tables", v2)]
def fWay (w : Str) : List (Str × V) := [("called", .str w)]
section
variable (K : PySem.W.Frag)
def repDom (H : Hp) (v : V) : Dom → Prop
  | .num lo hi => ∃ a dx, v = .ref a ∧ H a = some (.ins (He.ga K "Numbers") dx (fNum lo hi))
  | .words ws => ∃ a dx l, v = .ref a ∧ H a = some (.ins (He.ga K "Words") dx (fWords ((ws.length : Int) - 1) l)) ∧ H l = some (.lst (ws.map V.str))
def tDom : Ty Dom := ⟨repDom K, fun {H H' v x} s h => by
  cases x with
  | num lo hi => obtain ⟨a, dx, e, h⟩ := h; exact ⟨a, dx, e, s _ _ h⟩
  | words ws => obtain ⟨a, dx, l, e, h, h2⟩ := h; exact ⟨a, dx, l, e, s _ _ h, s _ _ h2⟩⟩
def tTab : Ty Tab := ⟨fun H v t => ∃ a dx v1 v2 v3 v4, v = .ref a ∧ H a = some (.ins (He.ga K "Table") dx (fTab (.str t.name) v1 v2 v3 (.str t.way.nm) v4)) ∧ (tLst tStr).rep H v1 t.names ∧ (tLst (tDom K)).rep H v2 t.doms ∧ (tDom K).rep H v3 t.out ∧ (tLst tRow).rep H v4 t.rows,
  fun s ⟨a, dx, v1, v2, v3, v4, e, h, r1, r2, r3, r4⟩ => ⟨a, dx, v1, v2, v3, v4, e, s _ _ h, (tLst tStr).mono s r1, (tLst (tDom K)).mono s r2, (tDom K).mono s r3, (tLst tRow).mono s r4⟩⟩
def tBk : Ty Bk := ⟨fun H v b => ∃ a dx v1 v2, v = .ref a ∧ H a = some (.ins (He.ga K "Book") dx (fBk v1 v2)) ∧ (tLst (tPair tStr (tDom K))).rep H v1 b.facts ∧ (tLst (tTab K)).rep H v2 b.tabs,
  fun s ⟨a, dx, v1, v2, e, h, r1, r2⟩ => ⟨a, dx, v1, v2, e, s _ _ h, (tLst (tPair tStr (tDom K))).mono s r1, (tLst (tTab K)).mono s r2⟩⟩
def tWay : Ty Wy := ⟨fun H v y => ∃ a dx, v = .ref a ∧ H a = some (.ins (He.ga K y.cls) dx (fWay y.nm)), fun s ⟨a, dx, e, h⟩ => ⟨a, dx, e, s _ _ h⟩⟩
end
def repPrt (H : Hp) (v : V) : Prt → Prop
  | .fact n d => (tTri tStr tStr tStr).rep H v ("fact", n, d)
  | .table n cs d w => ∃ a l, v = .ref a ∧ H a = some (.tup [.str "table", .str n, .ref l, .str d, .str w]) ∧ H l = some (.lst (cs.map V.str))
  | .when fs x => ∃ a l, v = .ref a ∧ H a = some (.tup [.str "when", .ref l, .str x]) ∧ H l = some (.lst (fs.map V.str))
def tPrt : Ty Prt := ⟨repPrt, fun {H H' v x} s h => by
  cases x with
  | fact n d => exact (tTri tStr tStr tStr).mono s h
  | table n cs d w => obtain ⟨a, l, e, h, h2⟩ := h; exact ⟨a, l, e, s _ _ h, s _ _ h2⟩
  | when fs x => obtain ⟨a, l, e, h, h2⟩ := h; exact ⟨a, l, e, s _ _ h, s _ _ h2⟩⟩
theorem szl (n : Nat) (h : n ≤ 1000 := by decide) : n ≤ sizeLine := Nat.le_trans h (by decide)
theorem szb (n : Nat) (h : n ≤ 100000) : n ≤ sizeLine := Nat.le_trans h (by decide)
theorem szbl {n : Nat} (h : n < 100000) : n < sizeLine := Nat.lt_of_lt_of_le h (by decide)
/-- a domain that stands: its class, its ends -/
theorem dom_at {K : PySem.W.Frag} {mg : Str → Option Value} (T : Tx K mg) {H : Hp} {v : V} {d : Dom} (h : (tDom K).rep H v d) : ∃ a C dx fs, v = .ref a ∧ H a = some (.ins (He.ga K C) dx fs) ∧ Cls K (He.ga K C) ∧ NoAttr K (He.ga K C) "low" ∧ NoAttr K (He.ga K C) "high" ∧
    fs.lookup ("low" : Str) = some (.int d.lo) ∧ fs.lookup ("high" : Str) = some (.int d.hi) := by
  cases d with
  | num lo hi =>
    obtain ⟨a, dx, e, h⟩ := h
    exact ⟨a, "Numbers", dx, _, e, h, T.c_Numbers, T.a_Numbers_low, T.a_Numbers_high, hk_ _ _, by unfold fNum; rw [sk (by decide +kernel), hk_]; rfl⟩
  | words ws =>
    obtain ⟨a, dx, l, e, h, _⟩ := h
    exact ⟨a, "Words", dx, _, e, h, T.c_Words, T.a_Words_low, T.a_Words_high, hk_ _ _, by unfold fWords; rw [sk (by decide +kernel), hk_]; rfl⟩
/-- isinstance of a domain -/
theorem dom_isW {K : PySem.W.Frag} {mg : Str → Option Value} (T : Tx K mg) {H : Hp} {v : V} {d : Dom} (h : (tDom K).rep H v d) : ∃ t, TyX K H v t ∧ PySem.W.kitOne K t (.ref (He.ga K "Words")) = some d.isW := by
  cases d with
  | num lo hi =>
    obtain ⟨a, dx, rfl, h⟩ := h
    exact ⟨_, .base (.ins h T.c_Numbers T.o1_Numbers T.o3 T.o4 T.o2_Numbers), T.kNW⟩
  | words ws =>
    obtain ⟨a, dx, l, rfl, h, _⟩ := h
    exact ⟨_, .base (.ins h T.c_Words T.o1_Words T.o3 T.o4 T.o2_Words), T.kWW⟩
theorem dom_isN {K : PySem.W.Frag} {mg : Str → Option Value} (T : Tx K mg) {H : Hp} {v : V} {d : Dom} (h : (tDom K).rep H v d) : ∃ t, TyX K H v t ∧ PySem.W.kitOne K t (.ref (He.ga K "Numbers")) = some d.isN := by
  cases d with
  | num lo hi =>
    obtain ⟨a, dx, rfl, h⟩ := h
    exact ⟨_, .base (.ins h T.c_Numbers T.o1_Numbers T.o3 T.o4 T.o2_Numbers), T.kNN⟩
  | words ws =>
    obtain ⟨a, dx, l, rfl, h, _⟩ := h
    exact ⟨_, .base (.ins h T.c_Words T.o1_Words T.o3 T.o4 T.o2_Words), T.kWN⟩
end Rk
set_option Elab.async false
set_option linter.all false
set_option maxRecDepth 100000
set_option maxHeartbeats 1000000
namespace Rk
open PySem PySem.Spec PyProof.Rows L2
section
variable {A B : Type}
theorem filter_range_succ {n : Nat} {p : Nat → Bool} (f : Nat → B) : ((List.range (n + 1)).filter p).map f = ((List.range n).filter p).map f ++ (if p n = true then [f n] else []) := by
  rw [List.range_succ, List.filter_append, List.map_append]
  congr 1
  cases h : p n with
  | true => simp [h]
  | false => simp [h]
/-- by places, and by items -/
theorem range_filter (xs : List A) (d : A) (p : A → Bool) : ((List.range xs.length).filter (fun i => p (xs.getD i d))).map (fun i => xs.getD i d) = xs.filter p := by
  have h : (List.range xs.length).map (fun i => xs.getD i d) = xs := by
    apply List.ext_getElem
    · simp
    · intro i h1 h2
      simp [List.getD_eq_getElem?_getD, h2]
  have e := congrArg (List.filter p) h
  rw [List.filter_map] at e
  exact e
/-- [e for .. if t]: the list of what f says at the turns that p keeps -/
theorem lc_fmap {J : It} {n : Nat} {G : Hp → Prop} {Y : Nat → Hp → V → Hp → Prop} (w : Walk J n G Y) {u : Ty B} (p : Nat → Bool) (f : Nat → B) {ls : List Addr} {g : TG} {tt : TT} {te : TE} {vs : List Nat} {σ : L2.St} {H1 : Hp} {D : Addr} {Qd : Hp → Prop}
    (nD : H1 D = none) (L : Live H1 ls) (hz : n ≤ 100000) (hG : ∀ H', Same H1 H' → G H')
    (hs : ∀ (i : Nat) (x : V) (H H' : Hp) (R1 : V → Hp → Prop) (R2 : Hp → Prop), i < n → Same H1 H → Same (cut H1 ls) (cut H (D :: ls)) → Live H (D :: ls) → Y i H x H' → (p i = true → ∀ v H4, Same H H4 → u.rep (cut H4 (D :: ls)) v (f i) → R1 v H4) → (p i = false → ∀ H4, Same H H4 → R2 H4) →
      g x (wipe σ vs) H' fun σ2 H2 => wipe σ2 vs = wipe σ vs ∧ tt σ2 H2 fun b H3 => if b = true then te σ2 H3 R1 else R2 H3)
    (hd : ∀ H', Same H1 H' → (tLst u).rep (cut H' ls) (.ref D) (((List.range n).filter p).map f) → Qd H') :
    ∃ W : Nat → Nat → Hp → Prop, (∃ m, W 0 m (upd H1 D (.lst []))) ∧ ∀ i m H, W i m H →
      (J.stop i H ∧ Qd H) ∨ (J.go i H ∧ ∃ Nx : Hp → Prop, (∀ H', Nx H' → ∃ m', m' < m ∧ W (i + 1) m' H') ∧ ∀ x H', J.yld i H x H' → g x (wipe σ vs) H' fun σ2 H2 => wipe σ2 vs = wipe σ vs ∧ tt σ2 H2 fun b H3 =>
        if b = true then te σ2 H3 fun y H4 => ∃ acc, H4 D = some (.lst acc) ∧ acc.length < sizeLine ∧ Nx (upd H4 D (.lst (acc ++ [y]))) else Nx H3) := by
  refine lc_it w (fun i H => Same H1 H ∧ ∃ acc, H D = some (.lst acc) ∧ acc.length ≤ i ∧ Rs u (cut H (D :: ls)) acc (((List.range i).filter p).map f)) ⟨Same.upd nD, [], upd_same, Nat.le_refl _, trivial⟩ (fun i H _ q => hG H q.1) ?_ ?_
  · rintro i x H H' hi ⟨s1, acc, hD, hla, hr⟩ hY
    refine hs i x H H' _ _ hi s1 (s1.more1 nD) (Live.cons hD (L.to s1)) hY (fun hp v H4 s4 r4 => ?_) (fun hp H4 s4 => ?_)
    · refine ⟨acc, s4 _ _ hD, ?_, (s1.trans s4).mut nD, _, upd_same, ?_, ?_⟩
      · exact Nat.lt_of_lt_of_le (Nat.lt_of_le_of_lt hla hi) (Nat.le_trans hz (by decide))
      · rw [List.length_append]; exact Nat.succ_le_succ hla
      · rw [cut_upd List.mem_cons_self, filter_range_succ, if_pos hp]
        exact (hr.mono (Same.cut s4)).snoc r4
    · refine ⟨s1.trans s4, acc, s4 _ _ hD, Nat.le_succ_of_le hla, ?_⟩
      rw [filter_range_succ, if_neg (by rw [hp]; exact Bool.false_ne_true), List.append_nil]
      exact hr.mono (Same.cut s4)
  · rintro H ⟨s1, acc, hD, hla, hr⟩
    exact hd H s1 ⟨D, acc, rfl, at_cut (L.no nD) hD, hr.mono Same.less1⟩
/-- [e for ..]: the list ys -/
theorem lc_map {J : It} {n : Nat} {G : Hp → Prop} {Y : Nat → Hp → V → Hp → Prop} (w : Walk J n G Y) {u : Ty B} (ys : List B) {ls : List Addr} {g : TG} {te : TE} {vs : List Nat} {σ : L2.St} {H1 : Hp} {D : Addr} {Qd : Hp → Prop}
    (nD : H1 D = none) (L : Live H1 ls) (hz : n ≤ 100000) (hl : ys.length = n) (hG : ∀ H', Same H1 H' → G H')
    (hs : ∀ (i : Nat) (x : V) (y : B) (H H' : Hp) (R1 : V → Hp → Prop), ys[i]? = some y → Same H1 H → Same (cut H1 ls) (cut H (D :: ls)) → Live H (D :: ls) → Y i H x H' → (∀ v H4, Same H H4 → u.rep (cut H4 (D :: ls)) v y → R1 v H4) →
      g x (wipe σ vs) H' fun σ2 H2 => wipe σ2 vs = wipe σ vs ∧ te σ2 H2 R1)
    (hd : ∀ H', Same H1 H' → (tLst u).rep (cut H' ls) (.ref D) ys → Qd H') :
    ∃ W : Nat → Nat → Hp → Prop, (∃ m, W 0 m (upd H1 D (.lst []))) ∧ ∀ i m H, W i m H →
      (J.stop i H ∧ Qd H) ∨ (J.go i H ∧ ∃ Nx : Hp → Prop, (∀ H', Nx H' → ∃ m', m' < m ∧ W (i + 1) m' H') ∧ ∀ x H', J.yld i H x H' → g x (wipe σ vs) H' fun σ2 H2 => wipe σ2 vs = wipe σ vs ∧ tYes σ2 H2 fun b H3 =>
        if b = true then te σ2 H3 fun y H4 => ∃ acc, H4 D = some (.lst acc) ∧ acc.length < sizeLine ∧ Nx (upd H4 D (.lst (acc ++ [y]))) else Nx H3) := by
  refine lc_it w (fun i H => Same H1 H ∧ ∃ acc, H D = some (.lst acc) ∧ acc.length ≤ i ∧ Rs u (cut H (D :: ls)) acc (ys.take i)) ⟨Same.upd nD, [], upd_same, Nat.le_refl _, by rw [List.take_zero]; trivial⟩ (fun i H _ q => hG H q.1) ?_ ?_
  · rintro i x H H' hi ⟨s1, acc, hD, hla, hr⟩ hY
    have hy : ys[i]? = some ys[i] := by simp [hl, hi]
    have q := hs i x ys[i] H H' (fun y H4 => ∃ acc, H4 D = some (.lst acc) ∧ acc.length < sizeLine ∧ Same H1 (upd H4 D (.lst (acc ++ [y]))) ∧ ∃ acc', (upd H4 D (.lst (acc ++ [y]))) D = some (.lst acc') ∧ acc'.length ≤ i + 1 ∧ Rs u (cut (upd H4 D (.lst (acc ++ [y]))) (D :: ls)) acc' (ys.take (i + 1)))
      hy s1 (s1.more1 nD) (Live.cons hD (L.to s1)) hY (fun v H4 s4 r4 => ?_)
    · exact q
    · refine ⟨acc, s4 _ _ hD, ?_, (s1.trans s4).mut nD, _, upd_same, ?_, ?_⟩
      · exact Nat.lt_of_lt_of_le (Nat.lt_of_le_of_lt hla hi) (Nat.le_trans hz (by decide))
      · rw [List.length_append]; exact Nat.succ_le_succ hla
      · rw [cut_upd List.mem_cons_self, take_snoc hy]
        exact (hr.mono (Same.cut s4)).snoc r4
  · rintro H ⟨s1, acc, hD, hla, hr⟩
    rw [show ys.take n = ys by rw [← hl, List.take_length]] at hr
    exact hd H s1 ⟨D, acc, rfl, at_cut (L.no nD) hD, hr.mono Same.less1⟩
end
end Rk
set_option Elab.async false
set_option linter.all false
set_option maxRecDepth 100000
set_option maxHeartbeats 1000000
namespace Rk
open PySem L2 TL NumText
/-! ### numbers as texts -/
def numS (n : Int) : Str := Str.ofString (toString n)
def small (n : Int) : Prop := n.natAbs < 10 ^ 60
theorem tl_numS (n : Int) : tl (numS n) = if n < 0 then 45 :: numL n.natAbs else numL n.natAbs := by
  cases n with
  | ofNat k =>
    rw [if_neg (by have := Int.natCast_nonneg k; exact fun z => absurd z (Int.not_lt.mpr this))]
    exact tl_num k
  | negSucc k =>
    rw [if_pos (by omega)]
    have e : toString (Int.negSucc k) = "-" ++ toString (((k + 1 : Nat) : Nat) : Int) := rfl
    unfold numS
    rw [e, tl_ofString, String.toList_append, List.map_append]
    have e2 := tl_num (k + 1)
    rw [tl_ofString] at e2
    rw [e2]
    rfl
theorem numS_ne (n : Int) : tl (numS n) ≠ [] := by
  rw [tl_numS]
  split
  · simp
  · exact numL_ne _
theorem numS_len {n : Int} (h : small n) : (numS n).length ≤ 61 := by
  have := numL_len (k := 60) (by decide) h
  rw [len_tl, tl_numS]
  split
  · rw [List.length_cons]; omega
  · omega
theorem numS_free {n : Int} {s : Nat} (h1 : s ≠ 45) (h2 : s < 48 ∨ 57 < s) : s ∉ tl (numS n) := by
  rw [tl_numS]
  split
  · intro m
    rcases List.mem_cons.mp m with e | e
    · exact h1 e
    · exact numL_free h2 e
  · exact numL_free h2
theorem int_numS {n : Int} (h : small n) : intText? (numS n) = some n := by
  have hl := numL_len (k := 60) (by decide) h
  have h61 := numS_len h
  have et := tl_numS n
  by_cases c : n < 0
  · rw [if_pos c] at et
    rw [intText_neg (x := numS n) et (numL_digits _) (numL_ne _) (by omega), numL_val]
    congr 1; omega
  · rw [if_neg c] at et
    rw [intText_digits (x := numS n) (by rw [show (numS n).cps.toList = _ from et]; exact numL_digits _) (by rw [show (numS n).cps.toList = _ from et]; exact numL_ne _) (by omega)]
    rw [show (numS n).cps.toList = _ from et, numL_val]
    congr 1; omega
theorem numL_head : ∀ (n : Nat) (r : List Nat), numL n = 48 :: r → n = 0 := by
  intro n
  induction n using Nat.strongRecOn with
  | _ n ih =>
    intro r h
    by_cases c : n < 10
    · rw [numL_lt c] at h
      have := (List.cons.inj h).1
      omega
    · rw [numL_step (by omega)] at h
      cases e : numL (n / 10) with
      | nil => exact absurd e (numL_ne _)
      | cons a t =>
        rw [e] at h
        have ea : a = 48 := (List.cons.inj h).1
        have := ih (n / 10) (by omega) t (by rw [e, ea])
        omega
theorem numS_inj {a b : Int} (h : numS a = numS b) : a = b := by
  have e := congrArg tl h
  rw [tl_numS, tl_numS] at e
  have m45 : ∀ n : Nat, 45 ∉ numL n := fun n => numL_free (.inl (by decide))
  by_cases ca : a < 0 <;> by_cases cb : b < 0
  · rw [if_pos ca, if_pos cb] at e
    have := numL_inj (List.cons.inj e).2
    omega
  · rw [if_pos ca, if_neg cb] at e
    exact absurd (by rw [← e]; exact List.mem_cons_self) (m45 b.natAbs)
  · rw [if_neg ca, if_pos cb] at e
    exact absurd (by rw [e]; exact List.mem_cons_self) (m45 a.natAbs)
  · rw [if_neg ca, if_neg cb] at e
    have := numL_inj e
    omega
/-! ### slices of texts -/
theorem tl_cut_from (z : Str) (k : Nat) : tl (cutS z (some (k : Int)) none) = (tl z).drop k := by
  show (((tl z).drop (HT.sIx z.length 0 (some (k : Int)))).take (HT.sIx z.length z.length none - HT.sIx z.length 0 (some (k : Int)))) = _
  rw [HT.sIx_nat, HT.sIx_none, len_tl]
  by_cases h : k ≤ (tl z).length
  · rw [Nat.min_eq_left h, List.take_of_length_le (by rw [List.length_drop]; exact Nat.le_refl _)]
  · rw [Nat.min_eq_right (by omega), List.drop_of_length_le (Nat.le_refl _), List.drop_of_length_le (by omega), List.take_nil]
theorem tl_cut_to (z : Str) (k : Nat) : tl (cutS z none (some (k : Int))) = (tl z).take k := by
  show (((tl z).drop (HT.sIx z.length 0 none)).take (HT.sIx z.length z.length (some (k : Int)) - HT.sIx z.length 0 none)) = _
  rw [HT.sIx_nat, HT.sIx_none, len_tl, List.drop_zero, Nat.sub_zero]
  by_cases h : k ≤ (tl z).length
  · rw [Nat.min_eq_left h]
  · rw [Nat.min_eq_right (by omega), List.take_of_length_le (Nat.le_refl _), List.take_of_length_le (by omega)]
/-! ### words -/
def LET : Str := "abcdefghijklmnopqrstuvwxyz"
def isWord (s : Str) : Bool := if s = "not" then false else decide (1 ≤ (s.length : Int)) && decide ((s.length : Int) ≤ 12) && (tl s).all fun c => decide (c ∈ tl LET)
theorem tl_LET : tl LET = (List.range 26).map (97 + ·) := by decide +kernel
theorem isWord_len {s : Str} (h : isWord s = true) : 1 ≤ s.length ∧ s.length ≤ 12 := by
  unfold isWord at h
  split at h
  · cases h
  · simp only [Bool.and_eq_true, decide_eq_true_eq] at h
    omega
theorem isWord_free {s : Str} (h : isWord s = true) {c : Nat} (hc : c < 97 ∨ 122 < c) : c ∉ tl s := fun m => by
  unfold isWord at h
  split at h
  · cases h
  · simp only [Bool.and_eq_true, List.all_eq_true, decide_eq_true_eq] at h
    have := h.2 c m
    rw [tl_LET] at this
    obtain ⟨k, hk, e⟩ := List.mem_map.mp this
    have := List.mem_range.mp hk
    omega
theorem isWord_ne {s : Str} (h : isWord s = true) : tl s ≠ [] := fun e => by
  have := (isWord_len h).1
  rw [len_tl, e] at this
  exact absurd this (by decide)
/-! ### domains -/
def domS : Dom → Str
  | .num lo hi => numS lo ++ ".." ++ numS hi
  | .words ws => Txt.join ", " ws
structure Dom.Ok (d : Dom) : Prop where
  num : ∀ lo hi, d = .num lo hi → lo ≤ hi ∧ small lo ∧ small hi
  words : ∀ ws, d = .words ws → 1 ≤ ws.length ∧ ws.length ≤ 40 ∧ (∀ w ∈ ws, isWord w = true) ∧ ws.Nodup
theorem tl_dd : tl (".." : Str) = [46, 46] := by decide +kernel
theorem tl_cs : tl (", " : Str) = [44, 32] := by decide +kernel
theorem join_len (y : Str) : ∀ (ps : List Str), (Txt.join y ps).length ≤ (ps.map (·.length)).sum + ps.length * y.length := by
  intro ps
  rw [join_eq, len_tl, tl_join]
  induction ps with
  | nil => exact Nat.zero_le _
  | cons a ps ih =>
    cases ps with
    | nil => show (tl a).length ≤ _; rw [← len_tl]; simp
    | cons b ps =>
      show (tl a ++ (tl y ++ joinL (tl y) ((b :: ps).map tl))).length ≤ _
      rw [List.length_append, List.length_append, ← len_tl, ← len_tl]
      have e1 : ((a :: b :: ps).map (·.length)).sum = a.length + ((b :: ps).map (·.length)).sum := rfl
      have e2 : (a :: b :: ps).length * y.length = (b :: ps).length * y.length + y.length := Nat.succ_mul _ _
      rw [e1, e2]
      omega
theorem join_free {y : Str} {c : Nat} (hy : c ∉ tl y) : ∀ {ps : List Str}, (∀ p ∈ ps, c ∉ tl p) → c ∉ tl (Txt.join y ps) := by
  intro ps
  rw [join_eq, tl_join]
  induction ps with
  | nil => intro _ m; cases m
  | cons a ps ih =>
    intro h
    cases ps with
    | nil => exact h a List.mem_cons_self
    | cons b ps =>
      show c ∉ tl a ++ (tl y ++ joinL (tl y) ((b :: ps).map tl))
      intro m
      rcases List.mem_append.mp m with m | m
      · exact h a List.mem_cons_self m
      · rcases List.mem_append.mp m with m | m
        · exact hy m
        · exact ih (fun p hp => h p (List.mem_cons_of_mem _ hp)) m
theorem sum_le {l : List Nat} {k : Nat} (h : ∀ x ∈ l, x ≤ k) : l.sum ≤ l.length * k := by
  induction l with
  | nil => exact Nat.zero_le _
  | cons a l ih =>
    rw [List.sum_cons, List.length_cons, Nat.succ_mul]
    have := h a List.mem_cons_self
    have := ih fun x hx => h x (List.mem_cons_of_mem _ hx)
    omega
/-- a joined text's length -/
theorem join_le (y : Str) {ps : List Str} {k : Nat} (h : ∀ p ∈ ps, p.length ≤ k) : (ps.map (·.length)).sum + ps.length * y.length ≤ ps.length * (k + y.length) := by
  have := sum_le (l := ps.map (·.length)) (k := k) fun x hx => by
    obtain ⟨p, hp, e⟩ := List.mem_map.mp hx
    rw [← e]; exact h p hp
  rw [List.length_map] at this
  rw [Nat.mul_add]
  omega
theorem app_len (a b : Str) : (a ++ b).length = a.length + b.length := by
  rw [len_tl, tl_append, List.length_append, ← len_tl, ← len_tl]
theorem domS_len {d : Dom} (h : d.Ok) : (domS d).length ≤ 600 := by
  cases d with
  | num lo hi =>
    obtain ⟨_, h1, h2⟩ := h.num lo hi rfl
    show (numS lo ++ ".." ++ numS hi).length ≤ _
    rw [app_len, app_len]
    have := numS_len h1
    have := numS_len h2
    have : (".." : Str).length = 2 := by decide +kernel
    omega
  | words ws =>
    obtain ⟨_, h1, h2, _⟩ := h.words ws rfl
    have e := join_len ", " ws
    have e2 := join_le ", " (ps := ws) (k := 12) fun p hp => (isWord_len (h2 p hp)).2
    have : (", " : Str).length = 2 := by decide +kernel
    rw [this] at e e2
    show (Txt.join ", " ws).length ≤ _
    have : ws.length * (12 + 2) ≤ 40 * 14 := Nat.mul_le_mul_right _ h1
    omega
theorem domS_part {d : Dom} (h : d.Ok) : Txt.partition (domS d) ".." = match d with
    | .num lo hi => (numS lo, "..", numS hi)
    | .words _ => (domS d, Str.empty, Str.empty) := by
  cases d with
  | num lo hi => exact partition_app tl_dd (numS_free (by decide) (by decide))
  | words ws =>
    obtain ⟨_, _, h2, _⟩ := h.words ws rfl
    exact partition_none tl_dd (join_free (by rw [tl_cs]; decide) fun p hp => isWord_free (h2 p hp) (by decide))
theorem domS_split {ws : List Str} (h : (Dom.words ws).Ok) : Txt.split (domS (.words ws)) ", " = ws := by
  obtain ⟨h0, _, h2, _⟩ := h.words ws rfl
  exact split_join tl_cs (by decide +kernel) (fun e => by rw [e] at h0; exact absurd h0 (by decide)) fun p hp => isWord_free (h2 p hp) (by decide)
theorem dom_ext {d e : Dom} (hd : d.Ok) (he : e.Ok) (h : domS d = domS e) : d = e := by
  have p1 := domS_part hd
  have p2 := domS_part he
  rw [h] at p1
  rw [p1] at p2
  have ne : ¬ (".." : Str) = Str.empty := by decide +kernel
  cases d with
  | num lo hi => cases e with
    | num lo' hi' =>
      have p2 : (numS lo, (".." : Str), numS hi) = (numS lo', (".." : Str), numS hi') := p2
      rw [numS_inj (congrArg (fun z : Str × Str × Str => z.1) p2), numS_inj (congrArg (fun z : Str × Str × Str => z.2.2) p2)]
    | words ws => exact absurd (show (".." : Str) = Str.empty from congrArg (fun z : Str × Str × Str => z.2.1) p2) ne
  | words ws => cases e with
    | num lo' hi' => exact absurd (show (".." : Str) = Str.empty from (congrArg (fun z : Str × Str × Str => z.2.1) p2).symm) ne
    | words ws' =>
      have := domS_split hd
      rw [h, domS_split he] at this
      rw [this]
end Rk
set_option Elab.async false
set_option linter.all false
set_option maxRecDepth 100000
set_option maxHeartbeats 1000000
namespace Rk
open PySem PySem.Spec PyProof.Rows L2
/-- spans in their order, apart -/
def Tidy (sp : Spans) : Prop := sp.Pairwise (fun a b => a.2 + 1 < b.1) ∧ ∀ p ∈ sp, p.1 ≤ p.2
/-- pairs in their order, none over another -/
def Asc (sp : Spans) : Prop := sp.Pairwise (fun a b => a.2 < b.1) ∧ ∀ p ∈ sp, p.1 ≤ p.2
def heldB (sp : Spans) (n : Int) : Bool := sp.any fun p => decide (p.1 ≤ n) && decide (n ≤ p.2)
theorem Tidy.lt {sp : Spans} (h : Tidy sp) {i j : Nat} {p q : Int × Int} (hij : i < j) (hp : sp[i]? = some p) (hq : sp[j]? = some q) : p.2 + 1 < q.1 := by
  obtain ⟨hi, ei⟩ := List.getElem?_eq_some_iff.mp hp
  obtain ⟨hj, ej⟩ := List.getElem?_eq_some_iff.mp hq
  have := (List.pairwise_iff_getElem.mp h.1) i j hi hj hij
  rw [ei, ej] at this
  exact this
theorem Tidy.le {sp : Spans} (h : Tidy sp) {i : Nat} {p : Int × Int} (hp : sp[i]? = some p) : p.1 ≤ p.2 := h.2 p (List.mem_of_getElem? hp)
/-- what the search ends at -/
theorem held_of {sp : Spans} (h : Tidy sp) {n : Int} {b : Nat} (h1 : ∀ i p, i < b → sp[i]? = some p → p.2 < n) (h2 : ∀ i p, b ≤ i → sp[i]? = some p → n ≤ p.2) :
    (∀ p, sp[b]? = some p → heldB sp n = decide (p.1 ≤ n)) ∧ (sp[b]? = none → heldB sp n = false) := by
  have key : heldB sp n = true ↔ ∃ p, sp[b]? = some p ∧ p.1 ≤ n := by
    unfold heldB
    rw [List.any_eq_true]
    constructor
    · rintro ⟨p, hp, hh⟩
      rw [Bool.and_eq_true, decide_eq_true_eq, decide_eq_true_eq] at hh
      obtain ⟨i, hi⟩ := List.mem_iff_getElem?.mp hp
      by_cases c : i < b
      · have := h1 i p c hi; omega
      · by_cases e : i = b
        · exact ⟨p, e ▸ hi, hh.1⟩
        · have hb : b < sp.length := by
            have := (List.getElem?_eq_some_iff.mp hi).1; omega
          have q2 := h2 b sp[b] (Nat.le_refl _) (by simp [hb])
          have := h.lt (i := b) (j := i) (p := sp[b]) (by omega) (by simp [hb]) hi
          omega
    · rintro ⟨p, hp, hh⟩
      exact ⟨p, List.mem_of_getElem? hp, by rw [Bool.and_eq_true, decide_eq_true_eq, decide_eq_true_eq]; exact ⟨hh, h2 b p (Nat.le_refl _) hp⟩⟩
  refine ⟨fun p hp => ?_, fun hn => ?_⟩
  · rw [Bool.eq_iff_iff, key, decide_eq_true_eq]
    exact ⟨fun ⟨q, hq, hl⟩ => by rw [hp] at hq; cases hq; exact hl, fun hl => ⟨p, hp, hl⟩⟩
  · cases e : heldB sp n with
    | false => rfl
    | true => obtain ⟨p, hp, _⟩ := key.mp e; rw [hn] at hp; cases hp
def mstep (told : Spans) (p : Int × Int) : Spans := match told.getLast? with
  | some l => if p.1 ≤ l.2 + 1 then told.dropLast ++ [(l.1, if p.2 > l.2 then p.2 else l.2)] else told ++ [p]
  | none => [p]
def mergeS (ps : Spans) : Spans := ps.foldl mstep []
theorem mstep_nil (p : Int × Int) : mstep [] p = [p] := rfl
theorem mstep_snoc (t : Spans) (l p : Int × Int) : mstep (t ++ [l]) p = if p.1 ≤ l.2 + 1 then t ++ [(l.1, if p.2 > l.2 then p.2 else l.2)] else t ++ [l] ++ [p] := by
  unfold mstep
  rw [List.getLast?_concat, List.dropLast_concat]
theorem at_last {A : Type} (t : List A) (x : A) : atI (t ++ [x]) (-1) = some x := by
  unfold atI ixN
  rw [if_neg (by decide), if_pos (by simp; omega)]
  simp only [Option.bind_some, List.length_append, List.length_singleton]
  rw [show (((-1 : Int) + ((t.length + 1 : Nat) : Int)).toNat) = t.length by omega]
  simp
theorem ix_last (n : Nat) : ixN (n + 1) (-1) = some n := by
  unfold ixN
  rw [if_neg (by decide), if_pos (by omega)]
  rw [show (((-1 : Int) + ((n + 1 : Nat) : Int)).toNat) = n by omega]
/-- the pair at a place -/
def pairAt (H : Hp) (v : V) : Int × Int := match v with
  | .ref t => (match H t with
    | some (.tup [.int i, .int j]) => (i, j)
    | _ => (0, 0))
  | _ => (0, 0)
theorem pairAt_of {H : Hp} {t : Addr} {i j : Int} (h : H t = some (.tup [.int i, .int j])) : pairAt H (.ref t) = (i, j) := by
  show (match H t with
    | some (.tup [.int i, .int j]) => (i, j)
    | _ => (0, 0)) = (i, j)
  rw [h]
theorem rs_pairAt {H : Hp} : ∀ {vs : List V} {ps : Spans}, Rs (tPair tInt tInt) H vs ps → vs.map (pairAt H) = ps
  | [], [], _ => rfl
  | v :: vs, p :: ps, h => by
    obtain ⟨⟨t, u1, u2, rfl, h1, r1, r2⟩, h2⟩ := h
    obtain rfl : u1 = _ := r1
    obtain rfl : u2 = _ := r2
    rw [List.map_cons, rs_pairAt h2, pairAt_of h1]
  | [], _ :: _, h => h.elim
  | _ :: _, [], h => h.elim
theorem lex_lt {a c : Int × Int} (q : a.2 < c.1) (q2 : a.1 ≤ a.2) : SrtO.lexB a c = true ∧ SrtO.lexB c a = false := by
  constructor
  · exact SrtO.lexB_iff.mpr (.inl (by omega))
  · cases e : SrtO.lexB c a with
    | false => rfl
    | true => rcases SrtO.lexB_iff.mp e with h | h <;> omega
/-- pairs in their order are what sorting them gives -/
theorem sorted_asc {H : Hp} {ys vs : List V} {ps : Spans} (r : Rs (tPair tInt tInt) H vs ps) (ha : Asc ps) (s : SrtO.Srtd (ltP (pairAt H)) ys) (b : SrtO.Stb (ltP (pairAt H)) ys vs) : ys = vs := by
  have hps := rs_pairAt r
  have hlt : ∀ i j : Nat, ∀ x y : V, i < j → vs[i]? = some x → vs[j]? = some y → ltP (pairAt H) x y = true ∧ ltP (pairAt H) y x = false := by
    intro i j x y hij hx hy
    have hx' : ps[i]? = some (pairAt H x) := by rw [← hps, List.getElem?_map, hx]; rfl
    have hy' : ps[j]? = some (pairAt H y) := by rw [← hps, List.getElem?_map, hy]; rfl
    obtain ⟨hi, ei⟩ := List.getElem?_eq_some_iff.mp hx'
    obtain ⟨hj, ej⟩ := List.getElem?_eq_some_iff.mp hy'
    have q := (List.pairwise_iff_getElem.mp ha.1) i j hi hj hij
    have q2 := ha.2 _ (List.getElem_mem hi)
    rw [ei, ej] at q
    rw [ei] at q2
    exact lex_lt q q2
  refine List.Perm.eq_of_pairwise (le := fun x y => ltP (pairAt H) y x = false) ?_ s ?_ b.perm
  · intro x y hx hy h1 h2
    obtain ⟨i, hi⟩ := List.mem_iff_getElem?.mp (b.perm.mem_iff.mp hx)
    obtain ⟨j, hj⟩ := List.mem_iff_getElem?.mp hy
    rcases Nat.lt_trichotomy i j with c | c | c
    · have := (hlt i j x y c hi hj).1
      rw [h2] at this; cases this
    · subst c; rw [hi] at hj; exact Option.some.inj hj
    · have := (hlt j i y x c hj hi).1
      rw [h1] at this; cases this
  · rw [List.pairwise_iff_getElem]
    intro i j hi hj hij
    exact (hlt i j _ _ hij (by simp [hi]) (by simp [hj])).2
section
variable {P : Program} {w : World} {K : PySem.W.Frag} {mg : Str → Option Value} {base : Heap}
abbrev n_holds : List Str := ["spans", "number", "below", "above", "mid"]
theorem sc_holds : FnScope n_holds ["spans", "number"] (defScope s_holds) := ⟨rfl, rfl, rfl, by decide +kernel, rfl, by decide +kernel, by decide +kernel⟩
theorem ok_holds (T : Tx K mg) : Def P w K mg base "holds" ["spans", "number"] 1 (Sp2 tSpans tInt tBool fun sp n r => Tidy sp ∧ r = heldB sp n) := by
  refine ⟨?_, T.g_holds, T.f_holds.kp, T.f_holds.bindsN fun _ _ _ _ _ _ us hl => match us, hl with | [_, _], _ => rfl⟩
  refine fn_body T.f_holds sc_holds (fun _ _ _ _ h => len2 h) fun cdv A outer s H vs Q E hr h => ?_
  obtain ⟨ls, v, vn, sp, n, r, rfl, L, ⟨a, ws, rfl, ha, rs⟩, rfl, ⟨ht, rfl⟩, k⟩ := h
  have ha := cut_at ha
  have hlen := rs.len
  refine ⟨_, pss_cons (ps_set (i := 2) sc_holds.nd rfl (.inl rfl) pe_int)
  (pss_cons (ps_set (i := 3) sc_holds.nd rfl (.inl rfl) (pe_callB call_len_seq (by rfl) T.n_len PySem.boot_len (pa_cons (pv 0) pa_nil)))
  (pss_cons (ps_while PassesOwn.never (pt_cmpR op_lt (pv 2) (pv 3) (nomark _))
  (pss_cons (ps_set (i := 4) sc_holds.nd rfl (.inl rfl) (pe_op op_fdiv (pe_op op_add (pv 2) (pv 3)) pe_int))
  (pss_one (ps_if (pt_cmpR op_lt (pe_ix ix_tup (pe_ix ix_list (pv 0) (pv 4) (fun _ _ => rfl)) pe_int (fun _ _ => rfl)) (pv 1) (nomark _)) (pss_one (ps_set (i := 2) sc_holds.nd rfl (.inl rfl) (pe_op op_add (pv 4) pe_int))) (pss_one (ps_set (i := 3) sc_holds.nd rfl (.inl rfl) (pv 4)))))))
  (pss_one (ps_ret (pe_and (pe_cmpR op_lt (pv 2) (pe_callB call_len_seq (by rfl) T.n_len PySem.boot_len (pa_cons (pv 0) pa_nil)) (nomark _)) (pe_one (pe_cmpR op_le (pe_ix ix_tup (pe_ix ix_list (pv 0) (pv 2) (fun _ _ => rfl)) pe_int (fun _ _ => rfl)) (pv 1) (nomark _)))))))), ?_⟩
  refine ⟨_, rfl, a, ws, rfl, .inl (SqL.of ha), ?_⟩
  refine ⟨fun m σ H' => ∃ (lo hi : Nat) (v4 : Option V), σ = [some (.ref a), some (.int n), some (.int lo), some (.int hi), v4] ∧ H' = H ∧ m = hi - lo ∧ lo ≤ hi ∧ hi ≤ sp.length ∧ (∀ i p, i < lo → sp[i]? = some p → p.2 < n) ∧ (∀ i p, hi ≤ i → sp[i]? = some p → n ≤ p.2),
    ⟨_, 0, ws.length, none, rfl, rfl, rfl, Nat.zero_le _, by omega, fun i p c => absurd c (Nat.not_lt_zero _), fun i p c e => ?_⟩, ?_⟩
  · have := (List.getElem?_eq_some_iff.mp e).1; omega
  · rintro m σ H' ⟨lo, hi, v4, rfl, rfl, rfl, hl, hh, h1, h2⟩
    refine ⟨_, rfl, _, rfl, _, _, rfl, rfl, _, rfl, ?_⟩
    refine ite2 (fun c => ?_) (fun c => ?_)
    · have c : lo < hi := by have := ydec c; omega
      have em : ((lo : Int) + (hi : Int)) / 2 = (((lo + hi) / 2 : Nat) : Int) := by omega
      have hm : (lo + hi) / 2 < sp.length := by omega
      obtain ⟨x, hx, ⟨t, u1, u2, rfl, htup, r1, r2⟩⟩ := rs.at_ (i := (lo + hi) / 2) (x := sp[(lo + hi) / 2]) (by simp [hm])
      have htup := cut_at htup
      obtain rfl : u2 = _ := r2
      have hsp : sp[(lo + hi) / 2]? = some sp[(lo + hi) / 2] := by simp [hm]
      refine ⟨fun σ' H'' => ∃ m', m' < hi - lo ∧ ∃ (lo hi : Nat) (v4 : Option V), σ' = [some (.ref a), some (.int n), some (.int lo), some (.int hi), v4] ∧ H'' = H' ∧ m' = hi - lo ∧ lo ≤ hi ∧ hi ≤ sp.length ∧ (∀ i p, i < lo → sp[i]? = some p → p.2 < n) ∧ (∀ i p, hi ≤ i → sp[i]? = some p → n ≤ p.2), fun _ _ z => z, ?_⟩
      refine ⟨_, rfl, _, rfl, _, _, rfl, rfl, _, _, rfl, rfl, ⟨by decide, by decide⟩, ?_⟩
      dsimp only
      rw [em]
      refine ⟨_, rfl, _, rfl, a, ws, _, _, rfl, rfl, SqL.of ha, at_of rfl hx, t, _, _, _, rfl, rfl, SqT.of htup, rfl, _, rfl, _, _, rfl, rfl, _, rfl, ?_⟩
      refine ite2 (fun d => ?_) (fun d => ?_)
      · have d := of_decide_eq_true d
        refine ⟨_, rfl, _, _, rfl, rfl, ?_⟩
        refine ⟨_, ?_, (lo + hi) / 2 + 1, hi, _, rfl, rfl, rfl, by omega, by omega, fun i p ci e => ?_, h2⟩
        · omega
        · by_cases ei : i = (lo + hi) / 2
          · subst ei; rw [hsp] at e; cases e; exact d
          · have := ht.lt (i := i) (by omega) e hsp
            have := ht.le hsp
            omega
      · have d : n ≤ sp[(lo + hi) / 2].2 := by
          have := ndec d; omega
        refine ⟨_, rfl, ?_⟩
        refine ⟨_, ?_, lo, (lo + hi) / 2, _, rfl, rfl, rfl, by omega, by omega, h1, fun i p ci e => ?_⟩
        · omega
        · by_cases ei : i = (lo + hi) / 2
          · subst ei; rw [hsp] at e; cases e; exact d
          · have := ht.lt (j := i) (by omega) hsp e
            have := ht.le e
            omega
    · have c : lo = hi := by
        have := ndec c; omega
      subst c
      obtain ⟨k1, k2⟩ := held_of ht h1 h2
      refine ⟨_, rfl, _, rfl, a, ws, rfl, .inl (SqL.of ha), _, _, rfl, rfl, _, rfl, ?_⟩
      refine ite2 (fun d => ?_) (fun d => ?_)
      · have d : lo < sp.length := by have := ydec d; omega
        obtain ⟨x, hx, ⟨t, u1, u2, rfl, htup, r1, r2⟩⟩ := rs.at_ (i := lo) (x := sp[lo]) (by simp [d])
        have htup := cut_at htup
        obtain rfl : u1 = _ := r1
        refine ⟨_, rfl, _, rfl, a, ws, _, _, rfl, rfl, SqL.of ha, at_of rfl hx, t, _, _, _, rfl, rfl, SqT.of htup, rfl, _, rfl, _, _, rfl, rfl, ?_⟩
        refine k _ _ (Same.refl _) ?_
        show V.bl _ = V.bl _
        rw [k1 sp[lo] (by simp [d])]
      · have d : sp.length ≤ lo := by
          have := ndec d; omega
        refine k _ _ (Same.refl _) ?_
        show V.bl _ = V.bl _
        rw [k2 (List.getElem?_eq_none d)]
/-- the loop over the sorted pairs -/
def tidyP (H : Hp) (ls : List Addr) (a l p : Addr) (ys : List V) (ps : Spans) (i : Nat) (σ : L2.St) (H' : Hp) : Prop := ∃ v2 v3 us, σ = [some (.ref a), some (.ref l), v2, v3] ∧ Same H H' ∧ H' p = some (.lst ys) ∧ H' l = some (.lst us) ∧ Rs (tPair tInt tInt) (cut H' (l :: ls)) us ((ps.take i).foldl mstep []) ∧ us.length ≤ i
abbrev n_tidy : List Str := ["pairs", "told", "pair", "one"]
theorem sc_tidy : FnScope n_tidy ["pairs"] (defScope s_tidy) := ⟨rfl, rfl, rfl, by decide +kernel, rfl, by decide +kernel, by decide +kernel⟩
theorem ok_tidy (T : Tx K mg) : Def P w K mg base "tidy" ["pairs"] 1 (Sp1 tSpans tSpans fun ps r => Asc ps ∧ ps.length ≤ 1000 ∧ r = mergeS ps) := by
  refine ⟨?_, T.g_tidy, T.f_tidy.kp, T.f_tidy.bindsN fun _ _ _ _ _ _ us hl => match us, hl with | [_], _ => rfl⟩
  refine fn_body T.f_tidy sc_tidy (fun _ _ _ _ h => len1 h) fun cdv A outer s H vs Q E hr h => ?_
  obtain ⟨ls, v, ps, r, rfl, L, ⟨a, ws, rfl, ha, rs⟩, ⟨hA, hl, rfl⟩, k⟩ := h
  have ha := cut_at ha
  have hlen := rs.len
  refine ⟨_, pss_cons (ps_set (i := 1) sc_tidy.nd rfl (.inl rfl) (pe_lst pa_nil))
  (pss_cons (ps_for PassesOwn.never rfl (pi_list (pe_callB cr_sortedPO (by rfl) T.n_sorted (by decide +kernel) (pa_cons (pe_lc (own := [("one", 3)]) (g := gName 3) rfl sc_tidy.nd (pi_list (pv 0)) (blkOk_by (own := [("one", 3)]) (N := n_tidy) (sc := defScope s_tidy) (by decide +kernel)) (fun _ _ _ _ _ => (pg_name (i := 3) sc_tidy.nd rfl (.inl rfl))) (fun _ _ _ _ _ => (pts_one (pt_cmpR op_le (pe_ix (ixT (K := K)) (pv 3) pe_int (fun _ _ => rfl)) (pe_ix (ixT (K := K)) (pv 3) pe_int (fun _ _ => rfl)) (nomark _)))) (fun _ _ _ _ _ => (pv 3))) pa_nil))) (pg_name (i := 2) sc_tidy.nd rfl (.inl rfl))
  (pss_one (ps_if (PW.pt (pw_and (pt_cmpR op_gt (pe_callB call_len_seq (by rfl) T.n_len PySem.boot_len (pa_cons (pv 1) pa_nil)) pe_int (nomark _)) (pw_and1 (pt_cmpR op_le (pe_ix ix_tup (pv 2) pe_int (fun _ _ => rfl)) (pe_op op_add (pe_ix ix_tup (pe_ix ix_list (pv 1) (pe_un un_neg pe_int) (fun _ _ => rfl)) pe_int (fun _ _ => rfl)) pe_int) (nomark _))))) (pss_one (ps_asg (pe_tup (pa_cons (pe_ix ix_tup (pe_ix ix_list (pv 1) (pe_un un_neg pe_int) (fun _ _ => rfl)) pe_int (fun _ _ => rfl)) (pa_cons (pe_callB (call_max2 rfl) (by rfl) T.n_max (by decide +kernel) (pa_cons (pe_ix ix_tup (pe_ix ix_list (pv 1) (pe_un un_neg pe_int) (fun _ _ => rfl)) pe_int (fun _ _ => rfl)) (pa_cons (pe_ix ix_tup (pv 2) pe_int (fun _ _ => rfl)) pa_nil))) pa_nil))) (pg_sub (pv 1) (pe_un un_neg pe_int) set_list))) (pss_one (ps_expr (pe_bm PySem.F.plainAttrs_list PySem.F.slot_list_append PySem.F.type_list_append mt_append (pv 1) (pa_cons (pe_tup (pa_cons (pe_ix ix_tup (pv 2) pe_int (fun _ _ => rfl)) (pa_cons (pe_ix ix_tup (pv 2) pe_int (fun _ _ => rfl)) pa_nil))) pa_nil)))))))
  (pss_one (ps_ret (pv 1)))), ?_⟩
  refine ⟨Nat.zero_le _, fun l nl => ?_⟩
  have nal := ne_of_none ha nl
  have s0 : Same H (upd H l (.lst [])) := Same.upd nl
  -- [one for one in pairs if one[0] <= one[1]]
  refine ⟨_, rfl, a, rfl, ⟨_, SqL.of (s0 _ _ ha)⟩, fun D nD => ?_⟩
  have nlD : l ≠ D := ne_of_none upd_same nD
  have nD0 : H D = none := s0.free nD
  refine lc_list (K := K) (a := a) (xs := ws) (fun i H' => Same H H' ∧ H' l = some (.lst []) ∧ H' D = some (.lst (ws.take i))) ⟨s0.trans (Same.upd nD), by rw [upd_ne nlD]; exact upd_same, by rw [List.take_zero]; exact upd_same⟩ (fun i H' _ p => SqL.of (p.1 _ _ ha)) ?_ ?_
  · rintro i x H' hx ⟨s1, h1, h2⟩
    obtain ⟨p, hp, t, u1, u2, rfl, htup, r1, r2⟩ := rs.get hx
    have htup := s1 _ _ (cut_at htup)
    obtain rfl : u1 = _ := r1
    obtain rfl : u2 = _ := r2
    refine ⟨rfl, ?_⟩
    refine ⟨_, rfl, t, _, _, _, rfl, rfl, SqT.of htup, rfl, _, rfl, t, _, _, _, rfl, rfl, SqT.of htup, rfl, _, _, rfl, rfl, _, rfl, ?_⟩
    refine ite2 (fun c => ?_) (fun c => ?_)
    · refine ⟨_, rfl, _, h2, ?_, s1.mut nD0, by rw [upd_ne nlD]; exact h1, by rw [take_snoc hx]; exact upd_same⟩
      have := (List.getElem?_eq_some_iff.mp hx).1
      exact Nat.lt_of_le_of_lt (List.length_take_le _ _) (small1000 (by omega))
    · exact absurd (hA.2 p (List.mem_of_getElem? hp)) (ndec c)
  rintro H1 ⟨s1, h1l, h1D⟩
  rw [List.take_length] at h1D
  -- sorted
  refine ⟨D, ws, pairAt H, rfl, SqL.of h1D, fun x hx => ?_, fun ys p hs1 hs2 np => ?_⟩
  · obtain ⟨i, hi⟩ := List.mem_iff_getElem?.mp hx
    obtain ⟨q, hq, t, u1, u2, rfl, htup, r1, r2⟩ := rs.get hi
    obtain rfl : u1 = _ := r1
    obtain rfl : u2 = _ := r2
    have htup := cut_at htup
    exact ⟨t, rfl, by rw [pairAt_of htup]; exact s1 _ _ htup⟩
  have ey := sorted_asc (rs.mono cut_sub) hA hs1 hs2
  subst ey
  have np0 : H p = none := s1.free np
  have nlp : l ≠ p := ne_of_none h1l np
  have s2 : Same H (upd H1 p (.lst ys)) := s1.trans (Same.upd np)
  -- the loop
  refine ⟨p, rfl, ⟨_, SqL.of upd_same⟩, for_list (K := K) (a := p) (xs := ys) (tidyP H ls a l p ys ps)
    ⟨none, none, [], rfl, s2, upd_same, by rw [upd_ne nlp]; exact h1l, by rw [List.take_zero]; trivial, Nat.zero_le _⟩ (fun i σ H' _ ⟨_, _, _, _, _, h, _⟩ => SqL.of h) ?_ ?_⟩
  · rintro i x σ H' hx ⟨v2, v3, us, rfl, s3, h3p, h3l, hr3, hu3⟩
    obtain ⟨q, hq, t, u1, u2, rfl, htup, r1, r2⟩ := rs.get hx
    have htup := s3 _ _ (cut_at htup)
    obtain rfl : u1 = _ := r1
    obtain rfl : u2 = _ := r2
    have hi := (List.getElem?_eq_some_iff.mp hx).1
    have hus : us.length < sizeLine := small1000 (by omega)
    have npl : p ≠ l := nlp.symm
    -- the list grows by the pair
    have app : mstep ((ps.take i).foldl mstep []) q = (ps.take i).foldl mstep [] ++ [q] → ∀ T, H' T = none → (upd H' T (.tup [.int q.1, .int q.2])) l = some (.lst us) ∧ tidyP H ls a l p ys ps (i + 1) [some (.ref a), some (.ref l), some (.ref t), v3] (upd (upd H' T (.tup [.int q.1, .int q.2])) l (.lst (us ++ [.ref T]))) := by
      intro e T nT
      have nTl : T ≠ l := (ne_of_none h3l nT).symm
      have nTp : T ≠ p := (ne_of_none h3p nT).symm
      refine ⟨by rw [upd_ne nTl.symm]; exact h3l, _, _, _, rfl, (s3.trans (Same.upd nT)).mut nl, by rw [upd_ne npl, upd_ne nTp.symm]; exact h3p, upd_same, ?_, by rw [List.length_append]; exact Nat.succ_le_succ hu3⟩
      rw [cut_upd List.mem_cons_self, take_snoc hq, List.foldl_append]
      show Rs _ _ _ (mstep _ q)
      rw [e]
      refine (hr3.mono (Same.cut (Same.upd nT))).snoc ⟨T, _, _, rfl, at_cut ?_ upd_same, rfl, rfl⟩
      intro m
      rcases List.mem_cons.mp m with m | m
      · exact nTl m
      · exact L.no (s3.free nT) m
    refine ⟨_, rfl, l, us, rfl, .inl (SqL.of h3l), _, _, rfl, rfl, _, rfl, ?_⟩
    refine ite2 (fun c => ?_) (fun c => ?_)
    · have c : 0 < us.length := by have := ydec c; omega
      obtain ⟨t0, l0, etd⟩ : ∃ t0 l0, (ps.take i).foldl mstep [] = t0 ++ [l0] := by
        rcases List.eq_nil_or_concat ((ps.take i).foldl mstep []) with e | ⟨t0, l0, e⟩
        · have z : us.length = 0 := by have := hr3.len; rw [e] at this; exact this
          omega
        · exact ⟨t0, l0, by rw [e, List.concat_eq_append]⟩
      rw [etd] at hr3 app
      obtain ⟨us0, w0, rfl, hr0, g, g1, g2, rfl, hg, rg1, rg2⟩ := hr3.snoc_inv
      have hg := cut_at hg
      obtain rfl : g1 = _ := rg1
      obtain rfl : g2 = _ := rg2
      refine ⟨_, rfl, t, _, _, _, rfl, rfl, SqT.of htup, rfl, _, rfl, 1, rfl, l, _, _, _, rfl, rfl, SqL.of h3l, at_last _ _, g, _, _, _, rfl, rfl, SqT.of hg, rfl, _, _, rfl, rfl, _, _, rfl, rfl, _, rfl, ?_⟩
      refine ite2 (fun d => ?_) (fun d => ?_)
      · have d := ydec d
        refine ⟨_, rfl, 1, rfl, l, _, _, _, rfl, rfl, SqL.of h3l, at_last _ _, g, _, _, _, rfl, rfl, SqT.of hg, rfl, ?_⟩
        refine ⟨_, rfl, 1, rfl, l, _, _, _, rfl, rfl, SqL.of h3l, at_last _ _, g, _, _, _, rfl, rfl, SqT.of hg, rfl, ?_⟩
        refine ⟨_, rfl, t, _, _, _, rfl, rfl, SqT.of htup, rfl, _, _, rfl, ?_⟩
        refine ⟨szl 2, fun T nT => ?_⟩
        have nTl : T ≠ l := (ne_of_none h3l nT).symm
        have nTp : T ≠ p := (ne_of_none h3p nT).symm
        refine ⟨_, rfl, 1, rfl, l, _, _, us0.length, rfl, rfl, by rw [upd_ne nTl.symm]; exact h3l, by rw [List.length_append]; exact ix_last _, ?_⟩
        refine ⟨_, _, _, rfl, (s3.trans (Same.upd nT)).mut nl, by rw [upd_ne npl, upd_ne nTp.symm]; exact h3p, upd_same, ?_, by rw [List.length_set]; omega⟩
        rw [cut_upd List.mem_cons_self, take_snoc hq, List.foldl_append, etd]
        show Rs _ _ _ (mstep (t0 ++ [l0]) q)
        rw [mstep_snoc, if_pos d, show (us0 ++ [V.ref g]).set us0.length (V.ref T) = us0 ++ [V.ref T] by simp]
        refine (hr0.mono (Same.cut (Same.upd nT))).snoc ⟨T, _, _, rfl, at_cut ?_ upd_same, rfl, rfl⟩
        intro m
        rcases List.mem_cons.mp m with m | m
        · exact nTl m
        · exact L.no (s3.free nT) m
      · have d := ndec d
        refine ⟨_, rfl, .inl ⟨rfl, _, SqL.of h3l⟩, _, rfl, t, _, _, _, rfl, rfl, SqT.of htup, rfl, _, rfl, t, _, _, _, rfl, rfl, SqT.of htup, rfl, szl 2, fun T nT => ?_⟩
        obtain ⟨a1, a2⟩ := app (by rw [mstep_snoc, if_neg d]) T nT
        exact ⟨l, _, _, rfl, rfl, a1, hus, a2⟩
    · have c : us = [] := by
        have := ndec c
        exact List.eq_nil_of_length_eq_zero (by omega)
      subst c
      have etd : (ps.take i).foldl mstep [] = [] := List.eq_nil_of_length_eq_zero hr3.len.symm
      refine ⟨_, rfl, .inl ⟨rfl, _, SqL.of h3l⟩, _, rfl, t, _, _, _, rfl, rfl, SqT.of htup, rfl, _, rfl, t, _, _, _, rfl, rfl, SqT.of htup, rfl, szl 2, fun T nT => ?_⟩
      obtain ⟨a1, a2⟩ := app (by rw [etd]; rfl) T nT
      exact ⟨l, _, _, rfl, rfl, a1, hus, a2⟩
  · rintro σ H' ⟨v2, v3, us, rfl, s3, h3p, h3l, hr3, hu3⟩
    refine ⟨_, rfl, k _ _ s3 ⟨l, us, rfl, at_cut (L.no nl) h3l, ?_⟩⟩
    rw [hlen, List.take_length] at hr3
    exact hr3.mono Same.less1
abbrev n_both : List Str := ["ones", "others", "told", "at", "to", "low", "high"]
theorem sc_both : FnScope n_both ["ones", "others"] (defScope s_both) := ⟨rfl, rfl, rfl, by decide +kernel, rfl, by decide +kernel, by decide +kernel⟩
theorem ok_both (T : Tx K mg) : Def P w K mg base "both" ["ones", "others"] 1 (Sp2 tSpans tSpans tSpans fun sp ot r => ot = [] ∧ r = []) := by
  refine ⟨?_, T.g_both, T.f_both.kp, T.f_both.bindsN fun _ _ _ _ _ _ us hl => match us, hl with | [_, _], _ => rfl⟩
  refine fn_body T.f_both sc_both (fun _ _ _ _ h => len2 h) fun cdv A outer s H vs Q E hr h => ?_
  obtain ⟨ls, v, v2, sp, ot, r, rfl, L, ⟨a, ws, rfl, ha, rs⟩, ⟨b, us, rfl, hb, rb⟩, ⟨rfl, rfl⟩, k⟩ := h
  have ha := cut_at ha
  have hb := cut_at hb
  obtain rfl : us = [] := List.eq_nil_of_length_eq_zero rb.len
  refine ⟨_, pss_cons (ps_set (i := 2) sc_both.nd rfl (.inl rfl) (pe_lst pa_nil))
  (pss_cons (ps_set (i := 3) sc_both.nd rfl (.inl rfl) pe_int)
  (pss_cons (ps_set (i := 4) sc_both.nd rfl (.inl rfl) pe_int)
  (pss_cons (ps_while PassesOwn.never (PW.pt (pw_and (pt_cmpR op_lt (pv 3) (pe_callB call_len_seq (by rfl) T.n_len PySem.boot_len (pa_cons (pv 0) pa_nil)) (nomark _)) (pw_and1 (pt_cmpR op_lt (pv 4) (pe_callB call_len_seq (by rfl) T.n_len PySem.boot_len (pa_cons (pv 1) pa_nil)) (nomark _)))))
  (pss_cons (ps_set (i := 5) sc_both.nd rfl (.inl rfl) (pe_callB (call_max2 rfl) (by rfl) T.n_max (by decide +kernel) (pa_cons (pe_ix ix_tup (pe_ix ix_list (pv 0) (pv 3) (fun _ _ => rfl)) pe_int (fun _ _ => rfl)) (pa_cons (pe_ix ix_tup (pe_ix ix_list (pv 1) (pv 4) (fun _ _ => rfl)) pe_int (fun _ _ => rfl)) pa_nil))))
  (pss_cons (ps_set (i := 6) sc_both.nd rfl (.inl rfl) (pe_callB (call_min2 rfl) (by rfl) T.n_min (by decide +kernel) (pa_cons (pe_ix ix_tup (pe_ix ix_list (pv 0) (pv 3) (fun _ _ => rfl)) pe_int (fun _ _ => rfl)) (pa_cons (pe_ix ix_tup (pe_ix ix_list (pv 1) (pv 4) (fun _ _ => rfl)) pe_int (fun _ _ => rfl)) pa_nil))))
  (pss_cons (ps_if (pt_cmpR op_le (pv 5) (pv 6) (nomark _)) (pss_one (ps_expr (pe_bm PySem.F.plainAttrs_list PySem.F.slot_list_append PySem.F.type_list_append mt_append (pv 2) (pa_cons (pe_tup (pa_cons (pv 5) (pa_cons (pv 6) pa_nil))) pa_nil)))) pss_nil)
  (pss_one (ps_if (pt_cmpR op_lt (pe_ix ix_tup (pe_ix ix_list (pv 0) (pv 3) (fun _ _ => rfl)) pe_int (fun _ _ => rfl)) (pe_ix ix_tup (pe_ix ix_list (pv 1) (pv 4) (fun _ _ => rfl)) pe_int (fun _ _ => rfl)) (nomark _)) (pss_one (ps_aug (i := 3) sc_both.nd rfl (.inl rfl) pe_int ip_add)) (pss_one (ps_aug (i := 4) sc_both.nd rfl (.inl rfl) pe_int ip_add))))))))
  (pss_one (ps_ret (pv 2)))))), ?_⟩
  refine ⟨Nat.zero_le _, fun l nl => ?_⟩
  have s0 : Same H (upd H l (.lst [])) := Same.upd nl
  refine ⟨fun m σ H' => σ = [some (.ref a), some (.ref b), some (.ref l), some (.int 0), some (.int 0), none, none] ∧ H' = upd H l (.lst []), ⟨0, rfl, rfl⟩, ?_⟩
  rintro m σ H' ⟨rfl, rfl⟩
  refine ⟨_, rfl, _, rfl, a, ws, rfl, .inl (SqL.of (s0 _ _ ha)), _, _, rfl, rfl, _, rfl, ?_⟩
  have fin : Q (.ref l) (upd H l (.lst [])) := k _ _ s0 ⟨l, [], rfl, at_cut (L.no nl) upd_same, trivial⟩
  refine ite2 (fun c => ?_) (fun c => ?_)
  · refine ⟨_, rfl, _, rfl, b, [], rfl, .inl (SqL.of (s0 _ _ hb)), _, _, rfl, rfl, _, rfl, ?_⟩
    refine iteF ⟨_, rfl, fin⟩
  · exact iteF ⟨_, rfl, fin⟩
abbrev n_gaps : List Str := ["spans", "low", "high", "told", "at", "pair"]
theorem sc_gaps : FnScope n_gaps ["spans", "low", "high"] (defScope s_gaps) := ⟨rfl, rfl, rfl, by decide +kernel, rfl, by decide +kernel, by decide +kernel⟩
theorem ok_gaps (T : Tx K mg) : Def P w K mg base "gaps" ["spans", "low", "high"] 1 (Sp3 tSpans tInt tInt tSpans fun sp lo hi r => sp = [(lo, hi)] ∧ lo ≤ hi ∧ r = []) := by
  refine ⟨?_, T.g_gaps, T.f_gaps.kp, T.f_gaps.bindsN fun _ _ _ _ _ _ us hl => match us, hl with | [_, _, _], _ => rfl⟩
  refine fn_body T.f_gaps sc_gaps (fun _ _ _ _ h => len3 h) fun cdv A outer s H vs Q E hr h => ?_
  obtain ⟨ls, v, v2, v3, sp, lo, hi, r, rfl, L, ⟨a, ws, rfl, ha, rs⟩, rfl, rfl, ⟨rfl, hle, rfl⟩, k⟩ := h
  have ha := cut_at ha
  obtain ⟨x, rfl⟩ : ∃ x, ws = [x] := List.length_eq_one_iff.mp rs.len
  obtain ⟨⟨t, u1, u2, rfl, ht, rfl, rfl⟩, _⟩ := rs
  have ht := cut_at ht
  refine ⟨_, pss_cons (ps_set (i := 3) sc_gaps.nd rfl (.inl rfl) (pe_lst pa_nil))
  (pss_cons (ps_set (i := 4) sc_gaps.nd rfl (.inl rfl) (pv 1))
  (pss_cons (ps_for PassesOwn.never rfl (pi_list (pv 0)) (pg_name (i := 5) sc_gaps.nd rfl (.inl rfl))
  (pss_cons (ps_if (pt_cmpR op_gt (pe_ix ix_tup (pv 5) pe_int (fun _ _ => rfl)) (pv 2) (nomark _)) (pss_one ps_break) pss_nil)
  (pss_cons (ps_if (pt_cmpR op_lt (pv 4) (pe_ix ix_tup (pv 5) pe_int (fun _ _ => rfl)) (nomark _)) (pss_one (ps_expr (pe_bm PySem.F.plainAttrs_list PySem.F.slot_list_append PySem.F.type_list_append mt_append (pv 3) (pa_cons (pe_tup (pa_cons (pv 4) (pa_cons (pe_op op_sub (pe_ix ix_tup (pv 5) pe_int (fun _ _ => rfl)) pe_int) pa_nil))) pa_nil)))) pss_nil)
  (pss_one (ps_set (i := 4) sc_gaps.nd rfl (.inl rfl) (pe_callB (call_max2 rfl) (by rfl) T.n_max (by decide +kernel) (pa_cons (pv 4) (pa_cons (pe_op op_add (pe_ix ix_tup (pv 5) pe_int (fun _ _ => rfl)) pe_int) pa_nil))))))))
  (pss_cons (ps_if (pt_cmpR op_le (pv 4) (pv 2) (nomark _)) (pss_one (ps_expr (pe_bm PySem.F.plainAttrs_list PySem.F.slot_list_append PySem.F.type_list_append mt_append (pv 3) (pa_cons (pe_tup (pa_cons (pv 4) (pa_cons (pv 2) pa_nil))) pa_nil)))) pss_nil)
  (pss_one (ps_ret (pv 3)))))), ?_⟩
  refine ⟨Nat.zero_le _, fun l nl => ?_⟩
  have s0 : Same H (upd H l (.lst [])) := Same.upd nl
  have ht := s0 _ _ ht
  refine ⟨_, rfl, _, rfl, a, rfl, ⟨_, SqL.of (s0 _ _ ha)⟩, for_list (K := K) (a := a) (xs := [V.ref t]) (fun i σ H' => H' = upd H l (.lst []) ∧ ∃ v4, σ = [some (.ref a), some (.int lo), some (.int hi), some (.ref l), some (.int (if i = 0 then lo else hi + 1)), v4])
    ⟨rfl, _, rfl⟩ (fun i σ H' _ p => by rw [p.1]; exact SqL.of (s0 _ _ ha)) ?_ ?_⟩
  · rintro i x σ H' hx ⟨rfl, v4, rfl⟩
    obtain rfl : i = 0 := by
      have := (List.getElem?_eq_some_iff.mp hx).1
      simp at this; exact this
    obtain rfl : V.ref t = x := Option.some.inj hx
    refine ⟨_, rfl, t, _, _, _, rfl, rfl, SqT.of ht, rfl, _, rfl, _, _, rfl, rfl, _, rfl, ?_⟩
    refine ite2 (fun c => ?_) (fun c => ?_)
    · have := ydec c
      have : (hi : Int) < lo := this
      omega
    refine ⟨_, rfl, _, rfl, t, _, _, _, rfl, rfl, SqT.of ht, rfl, _, _, rfl, rfl, _, rfl, ?_⟩
    refine ite2 (fun c => ?_) (fun c => ?_)
    · have := ydec c
      have : lo < lo := this
      omega
    refine ⟨_, rfl, _, rfl, t, _, _, _, rfl, rfl, SqT.of ht, rfl, _, _, rfl, rfl, _, _, rfl, ?_⟩
    refine ⟨rfl, some (.ref t), ?_⟩
    show ([_, _, _, _, some (.int (if hi + 1 > (if 0 = 0 then lo else hi + 1) then hi + 1 else _)), _] : L2.St) = _
    rw [if_pos (show hi + 1 > (if 0 = 0 then lo else hi + 1) by rw [if_pos rfl]; omega)]
    rfl
  · rintro σ H' ⟨rfl, v4, rfl⟩
    refine ⟨_, rfl, _, rfl, _, _, rfl, rfl, _, rfl, ?_⟩
    refine ite2 (fun c => ?_) (fun c => ?_)
    · have := ydec c
      have : hi + 1 ≤ hi := this
      omega
    exact ⟨_, rfl, k _ _ s0 ⟨l, [], rfl, at_cut (L.no nl) upd_same, trivial⟩⟩
abbrev n_without : List Str := ["ones", "others"]
theorem sc_without : FnScope n_without ["ones", "others"] (defScope s_without) := ⟨rfl, rfl, rfl, by decide +kernel, rfl, by decide +kernel, by decide +kernel⟩
theorem ok_without (T : Tx K mg) : Def P w K mg base "without" ["ones", "others"] 2 (Sp2 tSpans tSpans tSpans fun sp ot r => ∃ lo hi, lo ≤ hi ∧ sp = [(lo, hi)] ∧ ot = [(lo, hi)] ∧ r = []) := by
  refine ⟨?_, T.g_without, T.f_without.kp, T.f_without.bindsN fun _ _ _ _ _ _ us hl => match us, hl with | [_, _], _ => rfl⟩
  refine fn_body T.f_without sc_without (fun _ _ _ _ h => len2 h) fun cdv A outer s H vs Q E hr h => ?_
  obtain ⟨ls, v, v2, sp, ot, r, rfl, L, ⟨a, ws, rfl, ha, rs⟩, r2, ⟨lo, hi, hle, rfl, rfl, rfl⟩, k⟩ := h
  have ha' := cut_at ha
  obtain ⟨x, rfl⟩ : ∃ x, ws = [x] := List.length_eq_one_iff.mp rs.len
  have rs' := rs
  obtain ⟨⟨t, u1, u2, rfl, ht, rfl, rfl⟩, _⟩ := rs
  have ht := cut_at ht
  refine ⟨_, pss_cons (ps_if (pt_cmpR op_eq (pe_callB call_len_seq (by rfl) T.n_len PySem.boot_len (pa_cons (pv 0) pa_nil)) pe_int (nomark _)) (pss_one (ps_ret (pe_lst pa_nil))) pss_nil)
  (pss_one (ps_ret (pe_cD (ok_both T) hr (pa_cons (pv 0) (pa_cons (pe_cD (ok_gaps T) hr (pa_cons (pv 1) (pa_cons (pe_ix ix_tup (pe_ix ix_list (pv 0) pe_int (fun _ _ => rfl)) pe_int (fun _ _ => rfl)) (pa_cons (pe_ix ix_tup (pe_ix ix_list (pv 0) (pe_un un_neg pe_int) (fun _ _ => rfl)) pe_int (fun _ _ => rfl)) pa_nil)))) pa_nil))))), ?_⟩
  refine ⟨_, rfl, a, _, rfl, .inl (SqL.of ha'), rfl, _, rfl, iteF ?_⟩
  refine ⟨_, rfl, _, rfl, _, rfl, a, _, _, _, rfl, rfl, SqL.of ha', rfl, t, _, _, _, rfl, rfl, SqT.of ht, rfl, _, rfl, 1, rfl, a, _, _, _, rfl, rfl, SqL.of ha', rfl, t, _, _, _, rfl, rfl, SqT.of ht, rfl, ?_⟩
  refine ⟨ls, _, _, _, _, lo, hi, [], rfl, L, r2, rfl, rfl, ⟨rfl, hle, rfl⟩, fun H1 w1 s1 r1 => ?_⟩
  have ra : (tLst (tPair tInt tInt)).rep (cut H1 ls) (.ref a) [(lo, hi)] := (tLst (tPair tInt tInt)).mono s1.cut ⟨a, [V.ref t], rfl, ha, rs'⟩
  exact ⟨ls, .ref a, w1, [(lo, hi)], [], [], rfl, L.to s1, ra, r1, ⟨rfl, rfl⟩, fun H2 w2 s2 r2 => k _ _ (s1.trans s2) r2⟩
end
end Rk
set_option Elab.async false
set_option linter.all false
set_option maxRecDepth 100000
set_option maxHeartbeats 1000000
namespace Rk
open PySem PySem.Spec PyProof.Rows L2
open TL
/-! ### fields as texts -/
inductive Pt where
  | word (w : Str) | one (n : Int) | ab (a b : Int) | upto (b : Int) | frm (a : Int)
def ptS : Pt → Str
  | .word w => w
  | .one n => numS n
  | .ab a b => numS a ++ ".." ++ numS b
  | .upto b => ".." ++ numS b
  | .frm a => numS a ++ ".."
def ptV : Dom → Pt → Int × Int
  | .words ws, .word w => ((ws.idxOf w : Nat), (ws.idxOf w : Nat))
  | .num _ _, .one n => (n, n)
  | .num _ _, .ab a b => (a, b)
  | .num lo _, .upto b => (lo, b)
  | .num _ hi, .frm a => (a, hi)
  | _, _ => (0, 0)
def PtOk : Dom → Pt → Prop
  | .words ws, .word w => w ∈ ws
  | .num lo hi, .one n => lo ≤ n ∧ n ≤ hi
  | .num lo hi, .ab a b => lo ≤ a ∧ a ≤ b ∧ b ≤ hi
  | .num lo hi, .upto b => lo ≤ b ∧ b ≤ hi
  | .num lo hi, .frm a => lo ≤ a ∧ a ≤ hi
  | _, _ => False
inductive Fl where
  | all | none | parts (ps : List Pt)
def flS : Fl → Str
  | .all => "-"
  | .none => "not -"
  | .parts ps => Txt.join ", " (ps.map ptS)
def flV (d : Dom) : Fl → Spans
  | .all => [(d.lo, d.hi)]
  | .none => []
  | .parts ps => mergeS (ps.map (ptV d))
def FlOk (d : Dom) : Fl → Prop
  | .all => True
  | .none => True
  | .parts ps => ps ≠ [] ∧ ps.length ≤ 100 ∧ (∀ p ∈ ps, PtOk d p) ∧ Asc (ps.map (ptV d))
theorem small_in {lo hi n : Int} (h1 : small lo) (h2 : small hi) (a : lo ≤ n) (b : n ≤ hi) : small n := by
  unfold small at *; omega
theorem Dom.Ok.le {d : Dom} (h : d.Ok) : d.lo ≤ d.hi := by
  cases d with
  | num lo hi => exact (h.num lo hi rfl).1
  | words ws => have := (h.words ws rfl).1; show (0 : Int) ≤ (ws.length : Int) - 1; omega
theorem empty_app (x : Str) : Str.empty ++ x = x := ext_tl (by rw [tl_append]; rfl)
theorem app_empty (x : Str) : x ++ Str.empty = x := ext_tl (by rw [tl_append]; show tl x ++ [] = _; rw [List.append_nil])
theorem dd_len : (".." : Str).length = 2 := by decide +kernel
theorem pt_len {d : Dom} (ok : d.Ok) {p : Pt} (h : PtOk d p) : (ptS p).length ≤ 124 := by
  cases d with
  | words ws =>
    cases p with
    | word w => have := (isWord_len ((ok.words ws rfl).2.2.1 w h)).2; show w.length ≤ _; omega
    | _ => exact h.elim
  | num lo hi =>
    obtain ⟨_, h1, h2⟩ := ok.num lo hi rfl
    cases p with
    | word w => exact h.elim
    | one n => have := numS_len (small_in h1 h2 h.1 h.2); show (numS n).length ≤ _; omega
    | ab a b =>
      have := numS_len (small_in h1 h2 h.1 (Int.le_trans h.2.1 h.2.2)); have := numS_len (small_in h1 h2 (Int.le_trans h.1 h.2.1) h.2.2)
      show (numS a ++ ".." ++ numS b).length ≤ _
      rw [app_len, app_len, dd_len]; omega
    | upto b => have := numS_len (small_in h1 h2 h.1 h.2); show (".." ++ numS b).length ≤ _; rw [app_len, dd_len]; omega
    | frm a => have := numS_len (small_in h1 h2 h.1 h.2); show (numS a ++ "..").length ≤ _; rw [app_len, dd_len]; omega
theorem pt_free {d : Dom} (ok : d.Ok) {p : Pt} (h : PtOk d p) {c : Nat} (h1 : c ≠ 45) (h2 : c < 46 ∨ 57 < c) (h3 : c < 97 ∨ 122 < c) : c ∉ tl (ptS p) := by
  have hn : ∀ n, c ∉ tl (numS n) := fun n => numS_free h1 (by omega)
  have hd : c ∉ tl (".." : Str) := by rw [tl_dd]; intro m; simp at m; omega
  cases d with
  | words ws =>
    cases p with
    | word w => exact isWord_free ((ok.words ws rfl).2.2.1 w h) h3
    | _ => exact h.elim
  | num lo hi =>
    cases p with
    | word w => exact h.elim
    | one n => exact hn n
    | ab a b =>
      show c ∉ tl (numS a ++ ".." ++ numS b)
      rw [tl_append, tl_append]
      simp only [List.mem_append, not_or]
      exact ⟨⟨hn a, hd⟩, hn b⟩
    | upto b =>
      show c ∉ tl (".." ++ numS b)
      rw [tl_append]
      simp only [List.mem_append, not_or]
      exact ⟨hd, hn b⟩
    | frm a =>
      show c ∉ tl (numS a ++ "..")
      rw [tl_append]
      simp only [List.mem_append, not_or]
      exact ⟨hn a, hd⟩
theorem numS_some (n : Int) : ∃ c ∈ tl (numS n), c ≠ 45 := by
  rw [tl_numS]
  obtain ⟨c, r, e⟩ := List.exists_cons_of_ne_nil (numL_ne n.natAbs)
  have hc : c ∈ numL n.natAbs := by rw [e]; exact List.mem_cons_self
  have := numL_digits _ c hc
  split
  · exact ⟨c, List.mem_cons_of_mem _ hc, by omega⟩
  · exact ⟨c, hc, by omega⟩
theorem pt_some {d : Dom} (ok : d.Ok) {p : Pt} (h : PtOk d p) : ∃ c ∈ tl (ptS p), c ≠ 45 := by
  cases d with
  | words ws =>
    cases p with
    | word w =>
      have hw := (ok.words ws rfl).2.2.1 w h
      obtain ⟨c, r, e⟩ := List.exists_cons_of_ne_nil (isWord_ne hw)
      refine ⟨c, by show c ∈ tl w; rw [e]; exact List.mem_cons_self, fun q => ?_⟩
      exact isWord_free hw (c := c) (by omega) (by rw [e]; exact List.mem_cons_self)
    | _ => exact h.elim
  | num lo hi =>
    cases p with
    | word w => exact h.elim
    | one n => exact numS_some n
    | ab a b =>
      obtain ⟨c, hc, n⟩ := numS_some b
      exact ⟨c, by show c ∈ tl (numS a ++ ".." ++ numS b); rw [tl_append]; exact List.mem_append_right _ hc, n⟩
    | upto b =>
      obtain ⟨c, hc, n⟩ := numS_some b
      exact ⟨c, by show c ∈ tl (".." ++ numS b); rw [tl_append]; exact List.mem_append_right _ hc, n⟩
    | frm a =>
      obtain ⟨c, hc, n⟩ := numS_some a
      exact ⟨c, by show c ∈ tl (numS a ++ ".."); rw [tl_append]; exact List.mem_append_left _ hc, n⟩
theorem join_cons2 (y a b : Str) (ps : List Str) : tl (Txt.join y (a :: b :: ps)) = tl a ++ (tl y ++ tl (Txt.join y (b :: ps))) := by
  rw [join_eq, join_eq, tl_join, tl_join]; rfl
theorem join_one (y a : Str) : Txt.join y [a] = a := ext_tl (by rw [join_eq, tl_join]; rfl)
theorem tl_not : tl ("not " : Str) = [110, 111, 116, 32] := by decide +kernel
theorem tl_m : tl ("-" : Str) = [45] := by decide +kernel
theorem flS_len {d : Dom} (ok : d.Ok) {f : Fl} (h : FlOk d f) : (flS f).length ≤ 12600 := by
  cases f with
  | all => decide +kernel
  | none => decide +kernel
  | parts ps =>
    obtain ⟨_, hl, hp, _⟩ := h
    have e1 := join_len ", " (ps.map ptS)
    have e2 := join_le ", " (ps := ps.map ptS) (k := 124) fun p hp' => by
      obtain ⟨q, hq, rfl⟩ := List.mem_map.mp hp'
      exact pt_len ok (hp q hq)
    rw [List.length_map, show (", " : Str).length = 2 by decide +kernel] at *
    have : ps.length * (124 + 2) ≤ 100 * 126 := Nat.mul_le_mul_right _ hl
    show (Txt.join ", " (ps.map ptS)).length ≤ _
    omega
/-- a field of parts is no «not ..» -/
theorem parts_not {d : Dom} (ok : d.Ok) {ps : List Pt} (h : FlOk d (.parts ps)) : (tl (flS (.parts ps))).take 4 ≠ [110, 111, 116, 32] := by
  obtain ⟨hne, _, hp, _⟩ := h
  obtain ⟨p, ps, rfl⟩ := List.exists_cons_of_ne_nil hne
  have f32 := pt_free ok (hp p List.mem_cons_self) (c := 32) (by decide) (by decide) (by decide)
  intro e
  show False
  have key : ∀ (l : List Nat) (r : List Nat), 32 ∉ l → (l ++ r).take 4 = [110, 111, 116, 32] → (∃ a r', r = a :: r' ∧ (a = 110 ∨ a = 111 ∨ a = 116 ∨ a = 32)) := by
    intro l r hl he
    match l, hl with
    | [], _ => cases r with
      | nil => cases he
      | cons a r' => exact ⟨a, r', rfl, .inl (List.cons.inj he).1⟩
    | [x], _ => cases r with
      | nil => simp at he
      | cons a r' => exact ⟨a, r', rfl, .inr (.inl (by simp at he; exact he.2.1))⟩
    | [x, y], _ => cases r with
      | nil => simp at he
      | cons a r' => exact ⟨a, r', rfl, .inr (.inr (.inl (by simp at he; exact he.2.2.1)))⟩
    | [x, y, z], _ => cases r with
      | nil => simp at he
      | cons a r' => exact ⟨a, r', rfl, .inr (.inr (.inr (by simp at he; exact he.2.2.2)))⟩
    | x :: y :: z :: u :: l', hl =>
      simp at he
      exact absurd (by rw [← he.2.2.2]; simp) hl
  cases ps with
  | nil =>
    have e : (tl (Txt.join ", " [ptS p])).take 4 = _ := e
    rw [join_one] at e
    obtain ⟨a, r', h1, _⟩ := key (tl (ptS p)) [] f32 (by rw [List.append_nil]; exact e)
    cases h1
  | cons q ps =>
    have e : (tl (Txt.join ", " (ptS p :: ptS q :: ps.map ptS))).take 4 = _ := e
    rw [join_cons2, tl_cs] at e
    obtain ⟨a, r', h1, h2⟩ := key _ _ f32 e
    have := (List.cons.inj h1).1
    omega
theorem parts_ne {d : Dom} (ok : d.Ok) {ps : List Pt} (h : FlOk d (.parts ps)) : flS (.parts ps) ≠ "-" := by
  obtain ⟨hne, _, hp, _⟩ := h
  obtain ⟨p, ps, rfl⟩ := List.exists_cons_of_ne_nil hne
  obtain ⟨c, hc, n⟩ := pt_some ok (hp p List.mem_cons_self)
  intro e
  have e := congrArg tl e
  rw [tl_m] at e
  have hm : c ∈ tl (flS (.parts (p :: ps))) := by
    show c ∈ tl (Txt.join ", " (ptS p :: ps.map ptS))
    cases ps with
    | nil => rw [List.map_nil, join_one]; exact hc
    | cons q ps => rw [List.map_cons, join_cons2]; exact List.mem_append_left _ hc
  rw [e] at hm
  exact n (List.mem_singleton.mp hm)
theorem parts_split {d : Dom} (ok : d.Ok) {ps : List Pt} (h : FlOk d (.parts ps)) : Txt.split (flS (.parts ps)) ", " = ps.map ptS := by
  obtain ⟨hne, _, hp, _⟩ := h
  refine split_join tl_cs (by decide +kernel) (fun e => hne (List.map_eq_nil_iff.mp e)) fun p hp' => ?_
  obtain ⟨q, hq, rfl⟩ := List.mem_map.mp hp'
  exact pt_free ok (hp q hq) (by decide) (by decide) (by decide)
/-- a part of a field of numbers, cut at its dots -/
theorem pt_part {lo hi : Int} (ok : (Dom.num lo hi).Ok) {p : Pt} (h : PtOk (.num lo hi) p) : Txt.partition (ptS p) ".." = match p with
    | .word w => (w, "", "")
    | .one n => (numS n, Str.empty, Str.empty)
    | .ab a b => (numS a, "..", numS b)
    | .upto b => (Str.empty, "..", numS b)
    | .frm a => (numS a, "..", Str.empty) := by
  have f : ∀ n, 46 ∉ tl (numS n) := fun n => numS_free (by decide) (by decide)
  cases p with
  | word w => exact h.elim
  | one n => exact partition_none tl_dd (f n)
  | ab a b => exact partition_app tl_dd (f a)
  | upto b =>
    have := partition_app (y := "..") tl_dd (a := Str.empty) (b := numS b) (by intro m; cases m)
    rw [empty_app] at this
    exact this
  | frm a =>
    have := partition_app (y := "..") tl_dd (a := numS a) (b := Str.empty) (f a)
    rw [app_empty] at this
    exact this
/-! ### what is shown -/
def showPt (d : Dom) (q : Int × Int) : Pt :=
  if q.1 = q.2 then .one q.1 else if q.1 = d.lo then .upto q.2 else if q.2 = d.hi then .frm q.1 else .ab q.1 q.2
def codesOf (q : Int × Int) : List Int := (List.range (q.2 + 1 - q.1).toNat).map fun i => q.1 + (i : Nat)
def wordAt (ws : List Str) (c : Int) : Str := ws.getD c.toNat ""
def showFl (d : Dom) (sp : Spans) : Fl :=
  if sp = [] then .none else if sp = [(d.lo, d.hi)] then .all else .parts (match d with
    | .num _ _ => sp.map (showPt d)
    | .words ws => sp.flatMap fun q => (codesOf q).map fun c => .word (wordAt ws c))
/-- spans of codes of the domain -/
def InDom (d : Dom) (sp : Spans) : Prop := ∀ q ∈ sp, d.lo ≤ q.1 ∧ q.2 ≤ d.hi
theorem Tidy.tail {q : Int × Int} {sp : Spans} (h : Tidy (q :: sp)) : Tidy sp := ⟨(List.pairwise_cons.mp h.1).2, fun p hp => h.2 p (List.mem_cons_of_mem _ hp)⟩
theorem Tidy.asc {sp : Spans} (h : Tidy sp) : Asc sp := ⟨h.1.imp fun {a b} q => by omega, h.2⟩
theorem merge_app (acc : Spans) (sp : Spans) (h : Tidy (acc ++ sp)) : sp.foldl mstep acc = acc ++ sp := by
  induction sp generalizing acc with
  | nil => rw [List.append_nil]; rfl
  | cons q sp ih =>
    rw [List.foldl_cons]
    have e : mstep acc q = acc ++ [q] := by
      rcases List.eq_nil_or_concat acc with e | ⟨t, l, e⟩
      · rw [e]; rfl
      · rw [List.concat_eq_append] at e
        rw [e, mstep_snoc, if_neg]
        rw [e, List.append_assoc] at h
        have := (List.pairwise_append.mp h.1).2.1
        have := (List.pairwise_cons.mp this).1 q List.mem_cons_self
        omega
    rw [e, ih (acc ++ [q]) (by rw [List.append_assoc]; exact h), List.append_assoc]
    rfl
/-- spans merge to themselves -/
theorem merge_tidy {sp : Spans} (h : Tidy sp) : mergeS sp = sp := merge_app [] sp h
/-- codes one by one merge to their span -/
theorem merge_codes (acc : Spans) (a : Int) : ∀ n : Nat, (∀ l, acc.getLast? = some l → l.2 + 1 < a) → ((List.range (n + 1)).map fun i => (a + (i : Nat), a + (i : Nat))).foldl mstep acc = acc ++ [(a, a + (n : Nat))] := by
  intro n h
  induction n with
  | zero =>
    show mstep acc (a + (0 : Nat), a + (0 : Nat)) = _
    rcases List.eq_nil_or_concat acc with e | ⟨t, l, e⟩
    · rw [e, mstep_nil]; simp
    · rw [List.concat_eq_append] at e
      have := h l (by rw [e, List.getLast?_concat])
      rw [e, mstep_snoc, if_neg (by simp; omega)]
      simp
  | succ n ih =>
    rw [List.range_succ, List.map_append, List.foldl_append, ih]
    show mstep (acc ++ [(a, a + (n : Nat))]) (a + ((n + 1 : Nat) : Int), a + ((n + 1 : Nat) : Int)) = _
    rw [mstep_snoc, if_pos (by simp; omega)]
    congr 2
    rw [if_pos (by simp; omega)]
theorem merge_flat (ws : List Str) (hnd : ws.Nodup) : ∀ (sp acc : Spans), Tidy (acc ++ sp) → InDom (.words ws) sp → ((sp.flatMap fun q => (codesOf q).map fun c => Pt.word (wordAt ws c)).map (ptV (.words ws))).foldl mstep acc = acc ++ sp := by
  intro sp
  induction sp with
  | nil => intro acc _ _; rw [List.append_nil]; rfl
  | cons q sp ih =>
    intro acc h hd
    have hq := hd q List.mem_cons_self
    have hq1 : (0 : Int) ≤ q.1 := hq.1
    have hq2 : q.2 ≤ (ws.length : Int) - 1 := hq.2
    have hle := h.2 q (List.mem_append_right _ List.mem_cons_self)
    rw [List.flatMap_cons, List.map_append, List.foldl_append]
    have e : ((codesOf q).map fun c => Pt.word (wordAt ws c)).map (ptV (.words ws)) = (List.range ((q.2 - q.1).toNat + 1)).map fun i => (q.1 + (i : Nat), q.1 + (i : Nat)) := by
      unfold codesOf
      rw [show (q.2 + 1 - q.1).toNat = (q.2 - q.1).toNat + 1 by omega, List.map_map, List.map_map]
      refine List.map_congr_left fun i hi => ?_
      have hi := List.mem_range.mp hi
      have hlt : (q.1 + (i : Nat)).toNat < ws.length := by omega
      show (((ws.idxOf (wordAt ws (q.1 + (i : Nat))) : Nat) : Int), ((ws.idxOf (wordAt ws (q.1 + (i : Nat))) : Nat) : Int)) = _
      have : ws.idxOf (wordAt ws (q.1 + (i : Nat))) = (q.1 + (i : Nat)).toNat := by
        unfold wordAt
        rw [List.getD_eq_getElem?_getD, List.getElem?_eq_getElem hlt, Option.getD_some]
        exact hnd.idxOf_getElem _ hlt
      rw [this]
      have e2 : (((q.1 + (i : Nat)).toNat : Nat) : Int) = q.1 + (i : Nat) := by omega
      rw [e2]
    rw [e, merge_codes acc q.1 _ (fun l hl => ?_)]
    · rw [show q.1 + (((q.2 - q.1).toNat : Nat) : Int) = q.2 by omega, ih (acc ++ [(q.1, q.2)]) (by rw [List.append_assoc]; exact h) fun p hp => hd p (List.mem_cons_of_mem _ hp), List.append_assoc]
      rfl
    · obtain ⟨t, ht⟩ := List.getLast?_eq_some_iff.mp hl
      rw [ht, List.append_assoc] at h
      exact (List.pairwise_cons.mp (List.pairwise_append.mp h.1).2.1).1 q (by simp)
end Rk
set_option Elab.async false
set_option linter.all false
set_option maxRecDepth 100000
set_option maxHeartbeats 1000000
namespace Rk
open PySem PySem.Spec PyProof.Rows L2
def minL (l : List Int) : Int := l.foldl (fun a b => if b < a then b else a) (l.headD 0)
def maxL (l : List Int) : Int := l.foldl (fun a b => if b > a then b else a) (l.headD 0)
theorem minL_spec : ∀ (l : List Int) (a : Int), (l.foldl (fun a b => if b < a then b else a) a = a ∨ l.foldl (fun a b => if b < a then b else a) a ∈ l) ∧ l.foldl (fun a b => if b < a then b else a) a ≤ a ∧ ∀ y ∈ l, l.foldl (fun a b => if b < a then b else a) a ≤ y
  | [], a => ⟨.inl rfl, Int.le_refl _, fun _ h => by cases h⟩
  | b :: l, a => by
    obtain ⟨h1, h2, h3⟩ := minL_spec l (if b < a then b else a)
    rw [List.foldl_cons]
    refine ⟨?_, ?_, fun y hy => ?_⟩
    · rcases h1 with e | e
      · rw [e]
        by_cases c : b < a
        · rw [if_pos c]; exact .inr List.mem_cons_self
        · rw [if_neg c]; exact .inl rfl
      · exact .inr (List.mem_cons_of_mem _ e)
    · refine Int.le_trans h2 ?_
      by_cases c : b < a
      · rw [if_pos c]; omega
      · rw [if_neg c]; omega
    · rcases List.mem_cons.mp hy with e | e
      · refine Int.le_trans h2 ?_
        by_cases c : b < a
        · rw [if_pos c]; omega
        · rw [if_neg c]; omega
      · exact h3 y e
theorem maxL_spec : ∀ (l : List Int) (a : Int), (l.foldl (fun a b => if b > a then b else a) a = a ∨ l.foldl (fun a b => if b > a then b else a) a ∈ l) ∧ a ≤ l.foldl (fun a b => if b > a then b else a) a ∧ ∀ y ∈ l, y ≤ l.foldl (fun a b => if b > a then b else a) a
  | [], a => ⟨.inl rfl, Int.le_refl _, fun _ h => by cases h⟩
  | b :: l, a => by
    obtain ⟨h1, h2, h3⟩ := maxL_spec l (if b > a then b else a)
    rw [List.foldl_cons]
    refine ⟨?_, ?_, fun y hy => ?_⟩
    · rcases h1 with e | e
      · rw [e]
        by_cases c : b > a
        · rw [if_pos c]; exact .inr List.mem_cons_self
        · rw [if_neg c]; exact .inl rfl
      · exact .inr (List.mem_cons_of_mem _ e)
    · refine Int.le_trans ?_ h2
      by_cases c : b > a
      · rw [if_pos c]; omega
      · rw [if_neg c]; omega
    · rcases List.mem_cons.mp hy with e | e
      · refine Int.le_trans ?_ h2
        by_cases c : b > a
        · rw [if_pos c]; omega
        · rw [if_neg c]; omega
      · exact h3 y e
theorem minL_eq {l : List Int} {m : Int} (h : m ∈ l) (g : ∀ y ∈ l, m ≤ y) : m = minL l := by
  cases l with
  | nil => cases h
  | cons a l =>
    obtain ⟨h1, h2, h3⟩ := minL_spec (a :: l) a
    have : minL (a :: l) ∈ a :: l := by
      rcases h1 with e | e
      · show List.foldl _ a (a :: l) ∈ _
        rw [e]; exact List.mem_cons_self
      · exact e
    have q1 := g _ this
    have q2 : minL (a :: l) ≤ m := h3 m h
    omega
theorem maxL_eq {l : List Int} {m : Int} (h : m ∈ l) (g : ∀ y ∈ l, y ≤ m) : m = maxL l := by
  cases l with
  | nil => cases h
  | cons a l =>
    obtain ⟨h1, h2, h3⟩ := maxL_spec (a :: l) a
    have : maxL (a :: l) ∈ a :: l := by
      rcases h1 with e | e
      · show List.foldl _ a (a :: l) ∈ _
        rw [e]; exact List.mem_cons_self
      · exact e
    have q1 := g _ this
    have q2 : m ≤ maxL (a :: l) := h3 m h
    omega
def clampF (lo hi z : Int) : Int := if (if z < lo then lo else z) > hi then hi else (if z < lo then lo else z)
/-- the verdict of a list of codes -/
def chosenF (y : Wy) (cs : List Int) (lo hi : Int) : Ver := match y with
  | .first => ("say", cs.headD 0)
  | .only => if cs.length > 1 then ("clash", 0) else ("say", cs.headD 0)
  | .like => if cs.all (fun c => decide (c = cs.headD 0)) = true then ("say", cs.headD 0) else ("clash", 0)
  | .low => ("say", minL cs)
  | .high => ("say", maxL cs)
  | .sum => ("say", clampF lo hi cs.sum)
def verdictF (y : Wy) (cs : List Int) (lo hi : Int) : Ver := if cs.length = 0 then ("none", 0) else chosenF y cs lo hi
/-- a way's __init__ -/
def spWayI (K : PySem.W.Frag) : Sp := fun vs H Q _ => ∃ x C dx w, vs = [.ref x, .str w] ∧ H x = some (.ins C dx []) ∧ Cls K C ∧ NoAttr K C "called" ∧ Q .non (upd H x (.ins C dx (fWay w)))
def spWayM (K : PySem.W.Frag) (y : Wy) : Sp := fun vs H Q _ => ∃ x dx, vs = [.ref x] ∧ H x = some (.ins (He.ga K y.cls) dx []) ∧ Q .non (upd H x (.ins (He.ga K y.cls) dx (fWay y.nm)))
theorem len_Way_init {K : PySem.W.Frag} {vs : List V} {H : Hp} {Q : VK} {X : XK} (h : spWayI K vs H Q X) : vs.length = 2 := by
  obtain ⟨_, _, _, _, rfl, _⟩ := h; rfl
theorem len_wm {K : PySem.W.Frag} {y : Wy} {vs : List V} {H : Hp} {Q : VK} {X : XK} (h : spWayM K y vs H Q X) : vs.length = 1 := by
  obtain ⟨_, _, rfl, _⟩ := h; rfl
abbrev spChosen (K : PySem.W.Frag) (y : Wy) : Sp := Sp3 (tWay K) (tLst tInt) (tDom K) tVer fun z cs d r => z = y ∧ cs ≠ [] ∧ r = chosenF y cs d.lo d.hi
abbrev spVerdict (K : PySem.W.Frag) (y : Wy) : Sp := Sp3 (tWay K) (tLst tInt) (tDom K) tVer fun z cs d r => z = y ∧ r = verdictF y cs d.lo d.hi
/-- ("say", n), a new tuple -/
theorem say_new {H : Hp} {ls : List Addr} {Q : VK} {s : Str} {n : Int} (L : Live H ls) (k : ∀ H' w, Same H H' → tVer.rep (cut H' ls) w (s, n) → Q w H') : ∀ p, H p = none → Q (.ref p) (upd H p (.tup [.str s, .int n])) := fun p np =>
  k _ _ (Same.upd np) ⟨p, _, _, rfl, at_cut (L.no np) upd_same, rfl, rfl⟩
section
variable {P : Program} {w : World} {K : PySem.W.Frag} {mg : Str → Option Value} {base : Heap}
abbrev n_Way_init : List Str := ["self", "called"]
theorem sc_Way_init : FnScope n_Way_init ["self", "called"] (defScope s_Way_init) := ⟨rfl, rfl, rfl, by decide +kernel, rfl, by decide +kernel, by decide +kernel⟩
theorem in_Way (T : Tx K mg) : FnOk P w K mg base CX0 1 (He.ma K (He.ga K "Way") "__init__") (fdOf K (He.ma K (He.ga K "Way") "__init__")) ["self", "called"] (spWayI K) ∧ Binds K (fdOf K (He.ma K (He.ga K "Way") "__init__")) ["self", "called"] [] := by
  refine ⟨?_, T.f_Way_init.bindsN fun _ _ _ _ _ _ us hl => match us, hl with | [_, _], _ => rfl⟩
  refine fn_body T.f_Way_init sc_Way_init (fun _ _ _ _ h => len_Way_init h) fun cdv A outer s H vs Q E hr h => ?_
  obtain ⟨x, C, dx, w, rfl, hx, cl, na, k⟩ := h
  refine ⟨_, pss_one (ps_fld (pv 0) (pv 1) rfl), ?_⟩
  exact ⟨_, rfl, _, rfl, x, C, dx, [], rfl, hx, cl, na, by show 0 < 1000; decide, k⟩

theorem len_First_init {K : PySem.W.Frag} {vs : List V} {H : Hp} {Q : VK} {X : XK} (h : spWayM K .first vs H Q X) : vs.length = 1 := len_wm h
abbrev n_First_init : List Str := ["self"]
theorem sc_First_init : FnScope n_First_init ["self"] (defScope s_First_init) := ⟨rfl, rfl, rfl, by decide +kernel, rfl, by decide +kernel, by decide +kernel⟩
theorem mk_First (T : Tx K mg) : Ctor P w K mg base "First" ["self"] 2 (spWayM K .first) := by
  refine ⟨?_, T.k_First, T.g_First, T.f_First_init.bindsN fun _ _ _ _ _ _ us hl => match us, hl with | [_], _ => rfl⟩
  refine fn_body T.f_First_init sc_First_init (fun _ _ _ _ h => len_First_init h) fun cdv A outer s H vs Q E hr h => ?_
  obtain ⟨x, dx, rfl, hx, k⟩ := h
  refine ⟨_, pss_one (ps_expr (pe_cls T.g_Way ⟨T.rd_Way, T.ra_Way, T.rf_Way⟩ (in_Way (P := P) (w := w) (base := base) T).1 T.f_Way_init.kp (in_Way (P := P) (w := w) (base := base) T).2 hr (pa_cons (pv 0) (pa_cons pe_str pa_nil)))), ?_⟩
  exact ⟨_, rfl, x, _, dx, _, rfl, hx, T.c_First, T.a_First_called, k⟩

theorem len_Only_init {K : PySem.W.Frag} {vs : List V} {H : Hp} {Q : VK} {X : XK} (h : spWayM K .only vs H Q X) : vs.length = 1 := len_wm h
abbrev n_Only_init : List Str := ["self"]
theorem sc_Only_init : FnScope n_Only_init ["self"] (defScope s_Only_init) := ⟨rfl, rfl, rfl, by decide +kernel, rfl, by decide +kernel, by decide +kernel⟩
theorem mk_Only (T : Tx K mg) : Ctor P w K mg base "Only" ["self"] 2 (spWayM K .only) := by
  refine ⟨?_, T.k_Only, T.g_Only, T.f_Only_init.bindsN fun _ _ _ _ _ _ us hl => match us, hl with | [_], _ => rfl⟩
  refine fn_body T.f_Only_init sc_Only_init (fun _ _ _ _ h => len_Only_init h) fun cdv A outer s H vs Q E hr h => ?_
  obtain ⟨x, dx, rfl, hx, k⟩ := h
  refine ⟨_, pss_one (ps_expr (pe_cls T.g_Way ⟨T.rd_Way, T.ra_Way, T.rf_Way⟩ (in_Way (P := P) (w := w) (base := base) T).1 T.f_Way_init.kp (in_Way (P := P) (w := w) (base := base) T).2 hr (pa_cons (pv 0) (pa_cons pe_str pa_nil)))), ?_⟩
  exact ⟨_, rfl, x, _, dx, _, rfl, hx, T.c_Only, T.a_Only_called, k⟩

theorem len_Like_init {K : PySem.W.Frag} {vs : List V} {H : Hp} {Q : VK} {X : XK} (h : spWayM K .like vs H Q X) : vs.length = 1 := len_wm h
abbrev n_Like_init : List Str := ["self"]
theorem sc_Like_init : FnScope n_Like_init ["self"] (defScope s_Like_init) := ⟨rfl, rfl, rfl, by decide +kernel, rfl, by decide +kernel, by decide +kernel⟩
theorem mk_Like (T : Tx K mg) : Ctor P w K mg base "Like" ["self"] 2 (spWayM K .like) := by
  refine ⟨?_, T.k_Like, T.g_Like, T.f_Like_init.bindsN fun _ _ _ _ _ _ us hl => match us, hl with | [_], _ => rfl⟩
  refine fn_body T.f_Like_init sc_Like_init (fun _ _ _ _ h => len_Like_init h) fun cdv A outer s H vs Q E hr h => ?_
  obtain ⟨x, dx, rfl, hx, k⟩ := h
  refine ⟨_, pss_one (ps_expr (pe_cls T.g_Way ⟨T.rd_Way, T.ra_Way, T.rf_Way⟩ (in_Way (P := P) (w := w) (base := base) T).1 T.f_Way_init.kp (in_Way (P := P) (w := w) (base := base) T).2 hr (pa_cons (pv 0) (pa_cons pe_str pa_nil)))), ?_⟩
  exact ⟨_, rfl, x, _, dx, _, rfl, hx, T.c_Like, T.a_Like_called, k⟩

theorem len_Low_init {K : PySem.W.Frag} {vs : List V} {H : Hp} {Q : VK} {X : XK} (h : spWayM K .low vs H Q X) : vs.length = 1 := len_wm h
abbrev n_Low_init : List Str := ["self"]
theorem sc_Low_init : FnScope n_Low_init ["self"] (defScope s_Low_init) := ⟨rfl, rfl, rfl, by decide +kernel, rfl, by decide +kernel, by decide +kernel⟩
theorem mk_Low (T : Tx K mg) : Ctor P w K mg base "Low" ["self"] 2 (spWayM K .low) := by
  refine ⟨?_, T.k_Low, T.g_Low, T.f_Low_init.bindsN fun _ _ _ _ _ _ us hl => match us, hl with | [_], _ => rfl⟩
  refine fn_body T.f_Low_init sc_Low_init (fun _ _ _ _ h => len_Low_init h) fun cdv A outer s H vs Q E hr h => ?_
  obtain ⟨x, dx, rfl, hx, k⟩ := h
  refine ⟨_, pss_one (ps_expr (pe_cls T.g_Way ⟨T.rd_Way, T.ra_Way, T.rf_Way⟩ (in_Way (P := P) (w := w) (base := base) T).1 T.f_Way_init.kp (in_Way (P := P) (w := w) (base := base) T).2 hr (pa_cons (pv 0) (pa_cons pe_str pa_nil)))), ?_⟩
  exact ⟨_, rfl, x, _, dx, _, rfl, hx, T.c_Low, T.a_Low_called, k⟩

theorem len_High_init {K : PySem.W.Frag} {vs : List V} {H : Hp} {Q : VK} {X : XK} (h : spWayM K .high vs H Q X) : vs.length = 1 := len_wm h
abbrev n_High_init : List Str := ["self"]
theorem sc_High_init : FnScope n_High_init ["self"] (defScope s_High_init) := ⟨rfl, rfl, rfl, by decide +kernel, rfl, by decide +kernel, by decide +kernel⟩
theorem mk_High (T : Tx K mg) : Ctor P w K mg base "High" ["self"] 2 (spWayM K .high) := by
  refine ⟨?_, T.k_High, T.g_High, T.f_High_init.bindsN fun _ _ _ _ _ _ us hl => match us, hl with | [_], _ => rfl⟩
  refine fn_body T.f_High_init sc_High_init (fun _ _ _ _ h => len_High_init h) fun cdv A outer s H vs Q E hr h => ?_
  obtain ⟨x, dx, rfl, hx, k⟩ := h
  refine ⟨_, pss_one (ps_expr (pe_cls T.g_Way ⟨T.rd_Way, T.ra_Way, T.rf_Way⟩ (in_Way (P := P) (w := w) (base := base) T).1 T.f_Way_init.kp (in_Way (P := P) (w := w) (base := base) T).2 hr (pa_cons (pv 0) (pa_cons pe_str pa_nil)))), ?_⟩
  exact ⟨_, rfl, x, _, dx, _, rfl, hx, T.c_High, T.a_High_called, k⟩

theorem len_Sum_init {K : PySem.W.Frag} {vs : List V} {H : Hp} {Q : VK} {X : XK} (h : spWayM K .sum vs H Q X) : vs.length = 1 := len_wm h
abbrev n_Sum_init : List Str := ["self"]
theorem sc_Sum_init : FnScope n_Sum_init ["self"] (defScope s_Sum_init) := ⟨rfl, rfl, rfl, by decide +kernel, rfl, by decide +kernel, by decide +kernel⟩
theorem mk_Sum (T : Tx K mg) : Ctor P w K mg base "Sum" ["self"] 2 (spWayM K .sum) := by
  refine ⟨?_, T.k_Sum, T.g_Sum, T.f_Sum_init.bindsN fun _ _ _ _ _ _ us hl => match us, hl with | [_], _ => rfl⟩
  refine fn_body T.f_Sum_init sc_Sum_init (fun _ _ _ _ h => len_Sum_init h) fun cdv A outer s H vs Q E hr h => ?_
  obtain ⟨x, dx, rfl, hx, k⟩ := h
  refine ⟨_, pss_one (ps_expr (pe_cls T.g_Way ⟨T.rd_Way, T.ra_Way, T.rf_Way⟩ (in_Way (P := P) (w := w) (base := base) T).1 T.f_Way_init.kp (in_Way (P := P) (w := w) (base := base) T).2 hr (pa_cons (pv 0) (pa_cons pe_str pa_nil)))), ?_⟩
  exact ⟨_, rfl, x, _, dx, _, rfl, hx, T.c_Sum, T.a_Sum_called, k⟩

abbrev n_First_chosen : List Str := ["self", "codes", "outcome"]
theorem sc_First_chosen : FnScope n_First_chosen ["self", "codes", "outcome"] (defScope s_First_chosen) := ⟨rfl, rfl, rfl, by decide +kernel, rfl, by decide +kernel, by decide +kernel⟩
theorem ok_First_chosen (T : Tx K mg) : Met P w K mg base "First" "chosen" ["self", "codes", "outcome"] 1 (spChosen K .first) := by
  refine ⟨?_, T.c_First, T.m_First_chosen, T.f_First_chosen.bindsN fun _ _ _ _ _ _ us hl => match us, hl with | [_, _, _], _ => rfl⟩
  refine fn_body T.f_First_chosen sc_First_chosen (fun _ _ _ _ h => len3 h) fun cdv A outer s H vs Q E hr h => ?_
  obtain ⟨ls, v, vc, vd, z, cs, d, r, rfl, L, ⟨x, dx, rfl, hx⟩, ⟨l, us, rfl, hl, rs⟩, rd, ⟨rfl, ne, rfl⟩, k⟩ := h
  have hl := cut_at hl
  obtain rfl := rs_int rs
  obtain ⟨c0, cs, rfl⟩ := List.exists_cons_of_ne_nil ne
  refine ⟨_, pss_one (ps_ret (pe_tup (pa_cons pe_str (pa_cons (pe_ix ix_list (pv 1) pe_int (fun _ _ => rfl)) pa_nil)))), ?_⟩
  exact ⟨_, rfl, l, _, _, _, rfl, rfl, SqL.of hl, at_of rfl rfl, szl 2, say_new L k⟩

abbrev n_Only_chosen : List Str := ["self", "codes", "outcome"]
theorem sc_Only_chosen : FnScope n_Only_chosen ["self", "codes", "outcome"] (defScope s_Only_chosen) := ⟨rfl, rfl, rfl, by decide +kernel, rfl, by decide +kernel, by decide +kernel⟩
theorem ok_Only_chosen (T : Tx K mg) : Met P w K mg base "Only" "chosen" ["self", "codes", "outcome"] 1 (spChosen K .only) := by
  refine ⟨?_, T.c_Only, T.m_Only_chosen, T.f_Only_chosen.bindsN fun _ _ _ _ _ _ us hl => match us, hl with | [_, _, _], _ => rfl⟩
  refine fn_body T.f_Only_chosen sc_Only_chosen (fun _ _ _ _ h => len3 h) fun cdv A outer s H vs Q E hr h => ?_
  obtain ⟨ls, v, vc, vd, z, cs, d, r, rfl, L, ⟨x, dx, rfl, hx⟩, ⟨l, us, rfl, hl, rs⟩, rd, ⟨rfl, ne, rfl⟩, k⟩ := h
  have hl := cut_at hl
  obtain rfl := rs_int rs
  obtain ⟨c0, cs, rfl⟩ := List.exists_cons_of_ne_nil ne
  refine ⟨_, pss_cons (ps_if (pt_cmpR op_gt (pe_callB call_len_seq (by rfl) T.n_len PySem.boot_len (pa_cons (pv 1) pa_nil)) pe_int (nomark _)) (pss_one (ps_ret (pe_tup (pa_cons pe_str (pa_cons pe_int pa_nil))))) pss_nil)
  (pss_one (ps_ret (pe_tup (pa_cons pe_str (pa_cons (pe_ix ix_list (pv 1) pe_int (fun _ _ => rfl)) pa_nil))))), ?_⟩
  refine ⟨_, rfl, l, _, rfl, .inl (SqL.of hl), _, _, rfl, rfl, _, rfl, ?_⟩
  refine ite2 (fun c => ?_) (fun c => ?_)
  · have c := ydec c
    refine ⟨szl 2, ?_⟩
    refine say_new L fun H' w s r => k H' w s ?_
    show tVer.rep _ _ (if _ then _ else _)
    rw [if_pos (by rw [List.length_map] at c; omega)]
    exact r
  · have c := ndec c
    refine ⟨_, rfl, l, _, _, _, rfl, rfl, SqL.of hl, at_of rfl rfl, szl 2, ?_⟩
    refine say_new L fun H' w s r => k H' w s ?_
    show tVer.rep _ _ (if _ then _ else _)
    rw [if_neg (by rw [List.length_map] at c; omega)]
    exact r

abbrev n_Like_chosen : List Str := ["self", "codes", "outcome", "code"]
theorem sc_Like_chosen : FnScope n_Like_chosen ["self", "codes", "outcome"] (defScope s_Like_chosen) := ⟨rfl, rfl, rfl, by decide +kernel, rfl, by decide +kernel, by decide +kernel⟩
theorem ok_Like_chosen (T : Tx K mg) : Met P w K mg base "Like" "chosen" ["self", "codes", "outcome"] 1 (spChosen K .like) := by
  refine ⟨?_, T.c_Like, T.m_Like_chosen, T.f_Like_chosen.bindsN fun _ _ _ _ _ _ us hl => match us, hl with | [_, _, _], _ => rfl⟩
  refine fn_body T.f_Like_chosen sc_Like_chosen (fun _ _ _ _ h => len3 h) fun cdv A outer s H vs Q E hr h => ?_
  obtain ⟨ls, v, vc, vd, z, cs, d, r, rfl, L, ⟨x, dx, rfl, hx⟩, ⟨l, us, rfl, hl, rs⟩, rd, ⟨rfl, ne, rfl⟩, k⟩ := h
  have hl := cut_at hl
  obtain rfl := rs_int rs
  obtain ⟨c0, cs, rfl⟩ := List.exists_cons_of_ne_nil ne
  refine ⟨_, pss_cons (ps_for PassesOwn.never rfl (pi_list (pv 1)) (pg_name (i := 3) sc_Like_chosen.nd rfl (.inl rfl))
  (pss_one (ps_if (pt_cmpR op_ne (pv 3) (pe_ix ix_list (pv 1) pe_int (fun _ _ => rfl)) (nomark _)) (pss_one (ps_ret (pe_tup (pa_cons pe_str (pa_cons pe_int pa_nil))))) pss_nil)))
  (pss_one (ps_ret (pe_tup (pa_cons pe_str (pa_cons (pe_ix ix_list (pv 1) pe_int (fun _ _ => rfl)) pa_nil))))), ?_⟩
  refine ⟨_, rfl, l, rfl, ⟨_, SqL.of hl⟩, for_list (K := K) (a := l) (xs := (c0 :: cs).map V.int) (fun i σ H' => H' = H ∧ (∃ v3, σ = [some (.ref x), some (.ref l), some vd, v3]) ∧ ∀ c ∈ (c0 :: cs).take i, c = c0) ⟨rfl, ⟨_, rfl⟩, fun c hc => by simp at hc⟩ (fun i σ H' _ p => by rw [p.1]; exact SqL.of hl) ?_ ?_⟩
  · rintro i y σ H' hy ⟨rfl, ⟨v3, rfl⟩, ha⟩
    rw [List.getElem?_map] at hy
    obtain ⟨c, hc, rfl⟩ := Option.map_eq_some_iff.mp hy
    refine ⟨_, rfl, _, rfl, l, _, _, _, rfl, rfl, SqL.of hl, at_of rfl rfl, rfl, _, rfl, ?_⟩
    by_cases e : c = c0
    · refine iteNS (by rw [e]) ⟨rfl, ⟨_, rfl⟩, fun z hz => ?_⟩
      rw [take_snoc hc] at hz
      rcases List.mem_append.mp hz with q | q
      · exact ha z q
      · rw [List.mem_singleton.mp q, e]
    · have e' : ¬ V.int c = V.int c0 := fun q => e (V.int.inj q)
      rw [decide_eq_false e']
      refine iteT ⟨szl 2, say_new L fun H' w s r => k H' w s ?_⟩
      show tVer.rep _ _ (if _ then _ else _)
      rw [if_neg (fun q => e (of_decide_eq_true (List.all_eq_true.mp q c (List.mem_of_getElem? hc))))]
      exact r
  · rintro σ H' ⟨rfl, ⟨v3, rfl⟩, ha⟩
    rw [List.length_map, List.take_length] at ha
    refine ⟨_, rfl, l, _, _, _, rfl, rfl, SqL.of hl, at_of rfl rfl, szl 2, say_new L fun H' w s r => k H' w s ?_⟩
    show tVer.rep _ _ (if _ then _ else _)
    rw [if_pos (show ((c0 :: cs).all fun c => decide (c = (c0 :: cs).headD 0)) = true from List.all_eq_true.mpr fun c hc => decide_eq_true (ha c hc))]
    exact r

abbrev n_Low_chosen : List Str := ["self", "codes", "outcome"]
theorem sc_Low_chosen : FnScope n_Low_chosen ["self", "codes", "outcome"] (defScope s_Low_chosen) := ⟨rfl, rfl, rfl, by decide +kernel, rfl, by decide +kernel, by decide +kernel⟩
theorem ok_Low_chosen (T : Tx K mg) : Met P w K mg base "Low" "chosen" ["self", "codes", "outcome"] 1 (spChosen K .low) := by
  refine ⟨?_, T.c_Low, T.m_Low_chosen, T.f_Low_chosen.bindsN fun _ _ _ _ _ _ us hl => match us, hl with | [_, _, _], _ => rfl⟩
  refine fn_body T.f_Low_chosen sc_Low_chosen (fun _ _ _ _ h => len3 h) fun cdv A outer s H vs Q E hr h => ?_
  obtain ⟨ls, v, vc, vd, z, cs, d, r, rfl, L, ⟨x, dx, rfl, hx⟩, ⟨l, us, rfl, hl, rs⟩, rd, ⟨rfl, ne, rfl⟩, k⟩ := h
  have hl := cut_at hl
  obtain rfl := rs_int rs
  obtain ⟨c0, cs, rfl⟩ := List.exists_cons_of_ne_nil ne
  refine ⟨_, pss_one (ps_ret (pe_tup (pa_cons pe_str (pa_cons (pe_callB (cr_min rfl) (by rfl) T.n_min (by decide +kernel) (pa_cons (pv 1) pa_nil)) pa_nil)))), ?_⟩
  refine ⟨_, rfl, l, c0 :: cs, rfl, SqL.of hl, Nat.succ_pos _, fun m hm hle => ?_⟩
  refine ⟨szl 2, say_new L ?_⟩
  rw [minL_eq hm hle]
  exact k

abbrev n_High_chosen : List Str := ["self", "codes", "outcome"]
theorem sc_High_chosen : FnScope n_High_chosen ["self", "codes", "outcome"] (defScope s_High_chosen) := ⟨rfl, rfl, rfl, by decide +kernel, rfl, by decide +kernel, by decide +kernel⟩
theorem ok_High_chosen (T : Tx K mg) : Met P w K mg base "High" "chosen" ["self", "codes", "outcome"] 1 (spChosen K .high) := by
  refine ⟨?_, T.c_High, T.m_High_chosen, T.f_High_chosen.bindsN fun _ _ _ _ _ _ us hl => match us, hl with | [_, _, _], _ => rfl⟩
  refine fn_body T.f_High_chosen sc_High_chosen (fun _ _ _ _ h => len3 h) fun cdv A outer s H vs Q E hr h => ?_
  obtain ⟨ls, v, vc, vd, z, cs, d, r, rfl, L, ⟨x, dx, rfl, hx⟩, ⟨l, us, rfl, hl, rs⟩, rd, ⟨rfl, ne, rfl⟩, k⟩ := h
  have hl := cut_at hl
  obtain rfl := rs_int rs
  obtain ⟨c0, cs, rfl⟩ := List.exists_cons_of_ne_nil ne
  refine ⟨_, pss_one (ps_ret (pe_tup (pa_cons pe_str (pa_cons (pe_callB (cr_max rfl) (by rfl) T.n_max (by decide +kernel) (pa_cons (pv 1) pa_nil)) pa_nil)))), ?_⟩
  refine ⟨_, rfl, l, c0 :: cs, rfl, SqL.of hl, Nat.succ_pos _, fun m hm hle => ?_⟩
  refine ⟨szl 2, say_new L ?_⟩
  rw [maxL_eq hm hle]
  exact k

abbrev n_Sum_chosen : List Str := ["self", "codes", "outcome", "total"]
theorem sc_Sum_chosen : FnScope n_Sum_chosen ["self", "codes", "outcome"] (defScope s_Sum_chosen) := ⟨rfl, rfl, rfl, by decide +kernel, rfl, by decide +kernel, by decide +kernel⟩
theorem ok_Sum_chosen (T : Tx K mg) : Met P w K mg base "Sum" "chosen" ["self", "codes", "outcome"] 1 (spChosen K .sum) := by
  refine ⟨?_, T.c_Sum, T.m_Sum_chosen, T.f_Sum_chosen.bindsN fun _ _ _ _ _ _ us hl => match us, hl with | [_, _, _], _ => rfl⟩
  refine fn_body T.f_Sum_chosen sc_Sum_chosen (fun _ _ _ _ h => len3 h) fun cdv A outer s H vs Q E hr h => ?_
  obtain ⟨ls, v, vc, vd, z, cs, d, r, rfl, L, ⟨x, dx, rfl, hx⟩, ⟨l, us, rfl, hl, rs⟩, rd, ⟨rfl, ne, rfl⟩, k⟩ := h
  have hl := cut_at hl
  obtain rfl := rs_int rs
  obtain ⟨c0, cs, rfl⟩ := List.exists_cons_of_ne_nil ne
  refine ⟨_, pss_cons (ps_set (i := 3) sc_Sum_chosen.nd rfl (.inl rfl) (pe_callB (cr_sum rfl) (by rfl) T.n_sum (by decide +kernel) (pa_cons (pv 1) pa_nil)))
  (pss_cons (ps_if (pt_cmpR op_lt (pv 3) (pe_fld (pv 2) rfl) (nomark _)) (pss_one (ps_set (i := 3) sc_Sum_chosen.nd rfl (.inl rfl) (pe_fld (pv 2) rfl))) pss_nil)
  (pss_cons (ps_if (pt_cmpR op_gt (pv 3) (pe_fld (pv 2) rfl) (nomark _)) (pss_one (ps_set (i := 3) sc_Sum_chosen.nd rfl (.inl rfl) (pe_fld (pv 2) rfl))) pss_nil)
  (pss_one (ps_ret (pe_tup (pa_cons pe_str (pa_cons (pv 3) pa_nil))))))), ?_⟩
  obtain ⟨a, C, dd, fs, rfl, ha, cl, n1, n2, l1, l2⟩ := dom_at T rd
  have ha := cut_at ha
  refine ⟨_, rfl, l, c0 :: cs, rfl, SqL.of hl, ?_⟩
  have k : ∀ H' w, Same H H' → tVer.rep (cut H' ls) w ("say", clampF d.lo d.hi (c0 :: cs).sum) → Q w H' := k
  refine ⟨_, rfl, _, rfl, a, _, dd, fs, _, rfl, ha, cl, n1, l1, _, _, rfl, rfl, _, rfl, ?_⟩
  unfold clampF at k
  refine ite2 (fun c => ?_) (fun c => ?_)
  · have c := ydec c
    rw [if_pos c] at k
    refine ⟨_, rfl, a, _, dd, fs, _, rfl, ha, cl, n1, l1, ?_⟩
    refine ⟨_, rfl, _, rfl, a, _, dd, fs, _, rfl, ha, cl, n2, l2, _, _, rfl, rfl, _, rfl, ?_⟩
    refine ite2 (fun e => ?_) (fun e => ?_)
    · rw [if_pos (ydec e)] at k
      exact ⟨_, rfl, a, _, dd, fs, _, rfl, ha, cl, n2, l2, _, rfl, szl 2, say_new L k⟩
    · rw [if_neg (ndec e)] at k
      exact ⟨_, rfl, szl 2, say_new L k⟩
  · have c := ndec c
    rw [if_neg c] at k
    refine ⟨_, rfl, _, rfl, a, _, dd, fs, _, rfl, ha, cl, n2, l2, _, _, rfl, rfl, _, rfl, ?_⟩
    refine ite2 (fun e => ?_) (fun e => ?_)
    · rw [if_pos (ydec e)] at k
      exact ⟨_, rfl, a, _, dd, fs, _, rfl, ha, cl, n2, l2, _, rfl, szl 2, say_new L k⟩
    · rw [if_neg (ndec e)] at k
      exact ⟨_, rfl, szl 2, say_new L k⟩

abbrev n_First_verdict : List Str := ["self", "codes", "outcome"]
theorem sc_First_verdict : FnScope n_First_verdict ["self", "codes", "outcome"] (defScope s_First_verdict) := ⟨rfl, rfl, rfl, by decide +kernel, rfl, by decide +kernel, by decide +kernel⟩
theorem ok_First_verdict (T : Tx K mg) : Met P w K mg base "First" "verdict" ["self", "codes", "outcome"] 2 (spVerdict K .first) := by
  refine ⟨?_, T.c_First, T.m_First_verdict, T.f_First_verdict.bindsN fun _ _ _ _ _ _ us hl => match us, hl with | [_, _, _], _ => rfl⟩
  refine fn_body T.f_First_verdict sc_First_verdict (fun _ _ _ _ h => len3 h) fun cdv A outer s H vs Q E hr h => ?_
  obtain ⟨ls, v, vc, vd, z, cs, d, r, rfl, L, ⟨x, dx, rfl, hx⟩, ⟨l, us, rfl, hl, rs⟩, rd, ⟨rfl, rfl⟩, k⟩ := h
  have hl' := cut_at hl
  have hx' := cut_at hx
  have ln := rs.len
  refine ⟨_, pss_cons (ps_if (pt_cmpR op_eq (pe_callB call_len_seq (by rfl) T.n_len PySem.boot_len (pa_cons (pv 1) pa_nil)) pe_int (nomark _)) (pss_one (ps_ret (pe_tup (pa_cons pe_str (pa_cons pe_int pa_nil))))) pss_nil)
  (pss_one (ps_ret (pe_disp (P := P) (w := w) (K := K) (mg := mg) (base := base) (pv 0) hr (pa_cons (pv 1) (pa_cons (pv 2) pa_nil))))), ?_⟩
  refine ⟨_, rfl, l, us, rfl, .inl (SqL.of hl'), rfl, _, rfl, ?_⟩
  refine ite2 (fun c => ?_) (fun c => ?_)
  · have c : us.length = 0 := by have := V.int.inj (ydec c); omega
    refine ⟨szl 2, say_new L fun H' w s r => k H' w s ?_⟩
    unfold verdictF
    rw [if_pos (by omega)]
    exact r
  · have c : ¬ us.length = 0 := fun e => ndec c (by rw [e]; rfl)
    refine ⟨_, rfl, x, "First", dx, _, _, rfl, hx', by unfold fWay; rw [sk (by decide +kernel)]; rfl, ⟨_, _, by decide, ok_First_chosen T⟩, _, rfl, _, rfl, ?_⟩
    refine ⟨ls, _, _, _, .first, cs, d, _, rfl, L, ⟨x, dx, rfl, hx⟩, ⟨l, us, rfl, hl, rs⟩, rd, ⟨rfl, fun e => c (by rw [ln, e]; rfl), rfl⟩, fun H' w s r => k H' w s ?_⟩
    unfold verdictF
    rw [if_neg (by omega)]
    exact r

abbrev n_Only_verdict : List Str := ["self", "codes", "outcome"]
theorem sc_Only_verdict : FnScope n_Only_verdict ["self", "codes", "outcome"] (defScope s_Only_verdict) := ⟨rfl, rfl, rfl, by decide +kernel, rfl, by decide +kernel, by decide +kernel⟩
theorem ok_Only_verdict (T : Tx K mg) : Met P w K mg base "Only" "verdict" ["self", "codes", "outcome"] 2 (spVerdict K .only) := by
  refine ⟨?_, T.c_Only, T.m_Only_verdict, T.f_Only_verdict.bindsN fun _ _ _ _ _ _ us hl => match us, hl with | [_, _, _], _ => rfl⟩
  refine fn_body T.f_Only_verdict sc_Only_verdict (fun _ _ _ _ h => len3 h) fun cdv A outer s H vs Q E hr h => ?_
  obtain ⟨ls, v, vc, vd, z, cs, d, r, rfl, L, ⟨x, dx, rfl, hx⟩, ⟨l, us, rfl, hl, rs⟩, rd, ⟨rfl, rfl⟩, k⟩ := h
  have hl' := cut_at hl
  have hx' := cut_at hx
  have ln := rs.len
  refine ⟨_, pss_cons (ps_if (pt_cmpR op_eq (pe_callB call_len_seq (by rfl) T.n_len PySem.boot_len (pa_cons (pv 1) pa_nil)) pe_int (nomark _)) (pss_one (ps_ret (pe_tup (pa_cons pe_str (pa_cons pe_int pa_nil))))) pss_nil)
  (pss_one (ps_ret (pe_disp (P := P) (w := w) (K := K) (mg := mg) (base := base) (pv 0) hr (pa_cons (pv 1) (pa_cons (pv 2) pa_nil))))), ?_⟩
  refine ⟨_, rfl, l, us, rfl, .inl (SqL.of hl'), rfl, _, rfl, ?_⟩
  refine ite2 (fun c => ?_) (fun c => ?_)
  · have c : us.length = 0 := by have := V.int.inj (ydec c); omega
    refine ⟨szl 2, say_new L fun H' w s r => k H' w s ?_⟩
    unfold verdictF
    rw [if_pos (by omega)]
    exact r
  · have c : ¬ us.length = 0 := fun e => ndec c (by rw [e]; rfl)
    refine ⟨_, rfl, x, "Only", dx, _, _, rfl, hx', by unfold fWay; rw [sk (by decide +kernel)]; rfl, ⟨_, _, by decide, ok_Only_chosen T⟩, _, rfl, _, rfl, ?_⟩
    refine ⟨ls, _, _, _, .only, cs, d, _, rfl, L, ⟨x, dx, rfl, hx⟩, ⟨l, us, rfl, hl, rs⟩, rd, ⟨rfl, fun e => c (by rw [ln, e]; rfl), rfl⟩, fun H' w s r => k H' w s ?_⟩
    unfold verdictF
    rw [if_neg (by omega)]
    exact r

abbrev n_Like_verdict : List Str := ["self", "codes", "outcome"]
theorem sc_Like_verdict : FnScope n_Like_verdict ["self", "codes", "outcome"] (defScope s_Like_verdict) := ⟨rfl, rfl, rfl, by decide +kernel, rfl, by decide +kernel, by decide +kernel⟩
theorem ok_Like_verdict (T : Tx K mg) : Met P w K mg base "Like" "verdict" ["self", "codes", "outcome"] 2 (spVerdict K .like) := by
  refine ⟨?_, T.c_Like, T.m_Like_verdict, T.f_Like_verdict.bindsN fun _ _ _ _ _ _ us hl => match us, hl with | [_, _, _], _ => rfl⟩
  refine fn_body T.f_Like_verdict sc_Like_verdict (fun _ _ _ _ h => len3 h) fun cdv A outer s H vs Q E hr h => ?_
  obtain ⟨ls, v, vc, vd, z, cs, d, r, rfl, L, ⟨x, dx, rfl, hx⟩, ⟨l, us, rfl, hl, rs⟩, rd, ⟨rfl, rfl⟩, k⟩ := h
  have hl' := cut_at hl
  have hx' := cut_at hx
  have ln := rs.len
  refine ⟨_, pss_cons (ps_if (pt_cmpR op_eq (pe_callB call_len_seq (by rfl) T.n_len PySem.boot_len (pa_cons (pv 1) pa_nil)) pe_int (nomark _)) (pss_one (ps_ret (pe_tup (pa_cons pe_str (pa_cons pe_int pa_nil))))) pss_nil)
  (pss_one (ps_ret (pe_disp (P := P) (w := w) (K := K) (mg := mg) (base := base) (pv 0) hr (pa_cons (pv 1) (pa_cons (pv 2) pa_nil))))), ?_⟩
  refine ⟨_, rfl, l, us, rfl, .inl (SqL.of hl'), rfl, _, rfl, ?_⟩
  refine ite2 (fun c => ?_) (fun c => ?_)
  · have c : us.length = 0 := by have := V.int.inj (ydec c); omega
    refine ⟨szl 2, say_new L fun H' w s r => k H' w s ?_⟩
    unfold verdictF
    rw [if_pos (by omega)]
    exact r
  · have c : ¬ us.length = 0 := fun e => ndec c (by rw [e]; rfl)
    refine ⟨_, rfl, x, "Like", dx, _, _, rfl, hx', by unfold fWay; rw [sk (by decide +kernel)]; rfl, ⟨_, _, by decide, ok_Like_chosen T⟩, _, rfl, _, rfl, ?_⟩
    refine ⟨ls, _, _, _, .like, cs, d, _, rfl, L, ⟨x, dx, rfl, hx⟩, ⟨l, us, rfl, hl, rs⟩, rd, ⟨rfl, fun e => c (by rw [ln, e]; rfl), rfl⟩, fun H' w s r => k H' w s ?_⟩
    unfold verdictF
    rw [if_neg (by omega)]
    exact r

abbrev n_Low_verdict : List Str := ["self", "codes", "outcome"]
theorem sc_Low_verdict : FnScope n_Low_verdict ["self", "codes", "outcome"] (defScope s_Low_verdict) := ⟨rfl, rfl, rfl, by decide +kernel, rfl, by decide +kernel, by decide +kernel⟩
theorem ok_Low_verdict (T : Tx K mg) : Met P w K mg base "Low" "verdict" ["self", "codes", "outcome"] 2 (spVerdict K .low) := by
  refine ⟨?_, T.c_Low, T.m_Low_verdict, T.f_Low_verdict.bindsN fun _ _ _ _ _ _ us hl => match us, hl with | [_, _, _], _ => rfl⟩
  refine fn_body T.f_Low_verdict sc_Low_verdict (fun _ _ _ _ h => len3 h) fun cdv A outer s H vs Q E hr h => ?_
  obtain ⟨ls, v, vc, vd, z, cs, d, r, rfl, L, ⟨x, dx, rfl, hx⟩, ⟨l, us, rfl, hl, rs⟩, rd, ⟨rfl, rfl⟩, k⟩ := h
  have hl' := cut_at hl
  have hx' := cut_at hx
  have ln := rs.len
  refine ⟨_, pss_cons (ps_if (pt_cmpR op_eq (pe_callB call_len_seq (by rfl) T.n_len PySem.boot_len (pa_cons (pv 1) pa_nil)) pe_int (nomark _)) (pss_one (ps_ret (pe_tup (pa_cons pe_str (pa_cons pe_int pa_nil))))) pss_nil)
  (pss_one (ps_ret (pe_disp (P := P) (w := w) (K := K) (mg := mg) (base := base) (pv 0) hr (pa_cons (pv 1) (pa_cons (pv 2) pa_nil))))), ?_⟩
  refine ⟨_, rfl, l, us, rfl, .inl (SqL.of hl'), rfl, _, rfl, ?_⟩
  refine ite2 (fun c => ?_) (fun c => ?_)
  · have c : us.length = 0 := by have := V.int.inj (ydec c); omega
    refine ⟨szl 2, say_new L fun H' w s r => k H' w s ?_⟩
    unfold verdictF
    rw [if_pos (by omega)]
    exact r
  · have c : ¬ us.length = 0 := fun e => ndec c (by rw [e]; rfl)
    refine ⟨_, rfl, x, "Low", dx, _, _, rfl, hx', by unfold fWay; rw [sk (by decide +kernel)]; rfl, ⟨_, _, by decide, ok_Low_chosen T⟩, _, rfl, _, rfl, ?_⟩
    refine ⟨ls, _, _, _, .low, cs, d, _, rfl, L, ⟨x, dx, rfl, hx⟩, ⟨l, us, rfl, hl, rs⟩, rd, ⟨rfl, fun e => c (by rw [ln, e]; rfl), rfl⟩, fun H' w s r => k H' w s ?_⟩
    unfold verdictF
    rw [if_neg (by omega)]
    exact r

abbrev n_High_verdict : List Str := ["self", "codes", "outcome"]
theorem sc_High_verdict : FnScope n_High_verdict ["self", "codes", "outcome"] (defScope s_High_verdict) := ⟨rfl, rfl, rfl, by decide +kernel, rfl, by decide +kernel, by decide +kernel⟩
theorem ok_High_verdict (T : Tx K mg) : Met P w K mg base "High" "verdict" ["self", "codes", "outcome"] 2 (spVerdict K .high) := by
  refine ⟨?_, T.c_High, T.m_High_verdict, T.f_High_verdict.bindsN fun _ _ _ _ _ _ us hl => match us, hl with | [_, _, _], _ => rfl⟩
  refine fn_body T.f_High_verdict sc_High_verdict (fun _ _ _ _ h => len3 h) fun cdv A outer s H vs Q E hr h => ?_
  obtain ⟨ls, v, vc, vd, z, cs, d, r, rfl, L, ⟨x, dx, rfl, hx⟩, ⟨l, us, rfl, hl, rs⟩, rd, ⟨rfl, rfl⟩, k⟩ := h
  have hl' := cut_at hl
  have hx' := cut_at hx
  have ln := rs.len
  refine ⟨_, pss_cons (ps_if (pt_cmpR op_eq (pe_callB call_len_seq (by rfl) T.n_len PySem.boot_len (pa_cons (pv 1) pa_nil)) pe_int (nomark _)) (pss_one (ps_ret (pe_tup (pa_cons pe_str (pa_cons pe_int pa_nil))))) pss_nil)
  (pss_one (ps_ret (pe_disp (P := P) (w := w) (K := K) (mg := mg) (base := base) (pv 0) hr (pa_cons (pv 1) (pa_cons (pv 2) pa_nil))))), ?_⟩
  refine ⟨_, rfl, l, us, rfl, .inl (SqL.of hl'), rfl, _, rfl, ?_⟩
  refine ite2 (fun c => ?_) (fun c => ?_)
  · have c : us.length = 0 := by have := V.int.inj (ydec c); omega
    refine ⟨szl 2, say_new L fun H' w s r => k H' w s ?_⟩
    unfold verdictF
    rw [if_pos (by omega)]
    exact r
  · have c : ¬ us.length = 0 := fun e => ndec c (by rw [e]; rfl)
    refine ⟨_, rfl, x, "High", dx, _, _, rfl, hx', by unfold fWay; rw [sk (by decide +kernel)]; rfl, ⟨_, _, by decide, ok_High_chosen T⟩, _, rfl, _, rfl, ?_⟩
    refine ⟨ls, _, _, _, .high, cs, d, _, rfl, L, ⟨x, dx, rfl, hx⟩, ⟨l, us, rfl, hl, rs⟩, rd, ⟨rfl, fun e => c (by rw [ln, e]; rfl), rfl⟩, fun H' w s r => k H' w s ?_⟩
    unfold verdictF
    rw [if_neg (by omega)]
    exact r

abbrev n_Sum_verdict : List Str := ["self", "codes", "outcome"]
theorem sc_Sum_verdict : FnScope n_Sum_verdict ["self", "codes", "outcome"] (defScope s_Sum_verdict) := ⟨rfl, rfl, rfl, by decide +kernel, rfl, by decide +kernel, by decide +kernel⟩
theorem ok_Sum_verdict (T : Tx K mg) : Met P w K mg base "Sum" "verdict" ["self", "codes", "outcome"] 2 (spVerdict K .sum) := by
  refine ⟨?_, T.c_Sum, T.m_Sum_verdict, T.f_Sum_verdict.bindsN fun _ _ _ _ _ _ us hl => match us, hl with | [_, _, _], _ => rfl⟩
  refine fn_body T.f_Sum_verdict sc_Sum_verdict (fun _ _ _ _ h => len3 h) fun cdv A outer s H vs Q E hr h => ?_
  obtain ⟨ls, v, vc, vd, z, cs, d, r, rfl, L, ⟨x, dx, rfl, hx⟩, ⟨l, us, rfl, hl, rs⟩, rd, ⟨rfl, rfl⟩, k⟩ := h
  have hl' := cut_at hl
  have hx' := cut_at hx
  have ln := rs.len
  refine ⟨_, pss_cons (ps_if (pt_cmpR op_eq (pe_callB call_len_seq (by rfl) T.n_len PySem.boot_len (pa_cons (pv 1) pa_nil)) pe_int (nomark _)) (pss_one (ps_ret (pe_tup (pa_cons pe_str (pa_cons pe_int pa_nil))))) pss_nil)
  (pss_one (ps_ret (pe_disp (P := P) (w := w) (K := K) (mg := mg) (base := base) (pv 0) hr (pa_cons (pv 1) (pa_cons (pv 2) pa_nil))))), ?_⟩
  refine ⟨_, rfl, l, us, rfl, .inl (SqL.of hl'), rfl, _, rfl, ?_⟩
  refine ite2 (fun c => ?_) (fun c => ?_)
  · have c : us.length = 0 := by have := V.int.inj (ydec c); omega
    refine ⟨szl 2, say_new L fun H' w s r => k H' w s ?_⟩
    unfold verdictF
    rw [if_pos (by omega)]
    exact r
  · have c : ¬ us.length = 0 := fun e => ndec c (by rw [e]; rfl)
    refine ⟨_, rfl, x, "Sum", dx, _, _, rfl, hx', by unfold fWay; rw [sk (by decide +kernel)]; rfl, ⟨_, _, by decide, ok_Sum_chosen T⟩, _, rfl, _, rfl, ?_⟩
    refine ⟨ls, _, _, _, .sum, cs, d, _, rfl, L, ⟨x, dx, rfl, hx⟩, ⟨l, us, rfl, hl, rs⟩, rd, ⟨rfl, fun e => c (by rw [ln, e]; rfl), rfl⟩, fun H' w s r => k H' w s ?_⟩
    unfold verdictF
    rw [if_neg (by omega)]
    exact r

theorem way_verdict (T : Tx K mg) (y : Wy) : Met P w K mg base y.cls "verdict" ["self", "codes", "outcome"] 2 (spVerdict K y) := by
  cases y
  · exact ok_First_verdict T
  · exact ok_Only_verdict T
  · exact ok_Like_verdict T
  · exact ok_Low_verdict T
  · exact ok_High_verdict T
  · exact ok_Sum_verdict T
abbrev n_way_by : List Str := ["name"]
theorem sc_way_by : FnScope n_way_by ["name"] (defScope s_way_by) := ⟨rfl, rfl, rfl, by decide +kernel, rfl, by decide +kernel, by decide +kernel⟩
theorem ok_way_by (T : Tx K mg) : Def P w K mg base "way_by" ["name"] 4 (Sp1 tStr (tWay K) fun s r => s = r.nm) := by
  refine ⟨?_, T.g_way_by, T.f_way_by.kp, T.f_way_by.bindsN fun _ _ _ _ _ _ us hl => match us, hl with | [_], _ => rfl⟩
  refine fn_body T.f_way_by sc_way_by (fun _ _ _ _ h => len1 h) fun cdv A outer s H vs Q E hr h => ?_
  obtain ⟨ls, v, s, y, rfl, L, rfl, rfl, k⟩ := h
  have fin : ∀ x dx, H x = none → H dx = none → dx ≠ x → Q (.ref x) (upd (upd (upd H dx (.own x)) x (.ins (He.ga K y.cls) dx [])) x (.ins (He.ga K y.cls) dx (fWay y.nm))) := by
    intro x dx nx nd ne
    have s0 : Same H (upd H dx (.own x)) := Same.upd nd
    exact k _ _ ((s0.mut nx).mut nx) ⟨x, dx, rfl, at_cut (L.no nx) upd_same⟩
  refine ⟨_, pss_cons (ps_if (pt_cmpR op_eq (pv 0) pe_str (nomark _)) (pss_one (ps_ret (pe_mkD0 (mk_First T) hr))) pss_nil)
  (pss_cons (ps_if (pt_cmpR op_eq (pv 0) pe_str (nomark _)) (pss_one (ps_ret (pe_mkD0 (mk_Only T) hr))) pss_nil)
  (pss_cons (ps_if (pt_cmpR op_eq (pv 0) pe_str (nomark _)) (pss_one (ps_ret (pe_mkD0 (mk_Like T) hr))) pss_nil)
  (pss_cons (ps_if (pt_cmpR op_eq (pv 0) pe_str (nomark _)) (pss_one (ps_ret (pe_mkD0 (mk_Low T) hr))) pss_nil)
  (pss_cons (ps_if (pt_cmpR op_eq (pv 0) pe_str (nomark _)) (pss_one (ps_ret (pe_mkD0 (mk_High T) hr))) pss_nil)
  (pss_cons (ps_if (pt_cmpR op_eq (pv 0) pe_str (nomark _)) (pss_one (ps_ret (pe_mkD0 (mk_Sum T) hr))) pss_nil)
  (pss_one ps_never)))))), ?_⟩
  cases y with
  | first =>
    refine ⟨_, rfl, rfl, _, rfl, ifY rfl ?_⟩
    exact fun x dx nx nd ne => ⟨x, dx, rfl, upd_same, rfl, fin x dx nx nd ne⟩
  | only =>
    refine ⟨_, rfl, rfl, _, rfl, ifN (strI (by decide +kernel)) ?_⟩
    refine ⟨_, rfl, rfl, _, rfl, ifY rfl ?_⟩
    exact fun x dx nx nd ne => ⟨x, dx, rfl, upd_same, rfl, fin x dx nx nd ne⟩
  | like =>
    refine ⟨_, rfl, rfl, _, rfl, ifN (strI (by decide +kernel)) ?_⟩
    refine ⟨_, rfl, rfl, _, rfl, ifN (strI (by decide +kernel)) ?_⟩
    refine ⟨_, rfl, rfl, _, rfl, ifY rfl ?_⟩
    exact fun x dx nx nd ne => ⟨x, dx, rfl, upd_same, rfl, fin x dx nx nd ne⟩
  | low =>
    refine ⟨_, rfl, rfl, _, rfl, ifN (strI (by decide +kernel)) ?_⟩
    refine ⟨_, rfl, rfl, _, rfl, ifN (strI (by decide +kernel)) ?_⟩
    refine ⟨_, rfl, rfl, _, rfl, ifN (strI (by decide +kernel)) ?_⟩
    refine ⟨_, rfl, rfl, _, rfl, ifY rfl ?_⟩
    exact fun x dx nx nd ne => ⟨x, dx, rfl, upd_same, rfl, fin x dx nx nd ne⟩
  | high =>
    refine ⟨_, rfl, rfl, _, rfl, ifN (strI (by decide +kernel)) ?_⟩
    refine ⟨_, rfl, rfl, _, rfl, ifN (strI (by decide +kernel)) ?_⟩
    refine ⟨_, rfl, rfl, _, rfl, ifN (strI (by decide +kernel)) ?_⟩
    refine ⟨_, rfl, rfl, _, rfl, ifN (strI (by decide +kernel)) ?_⟩
    refine ⟨_, rfl, rfl, _, rfl, ifY rfl ?_⟩
    exact fun x dx nx nd ne => ⟨x, dx, rfl, upd_same, rfl, fin x dx nx nd ne⟩
  | sum =>
    refine ⟨_, rfl, rfl, _, rfl, ifN (strI (by decide +kernel)) ?_⟩
    refine ⟨_, rfl, rfl, _, rfl, ifN (strI (by decide +kernel)) ?_⟩
    refine ⟨_, rfl, rfl, _, rfl, ifN (strI (by decide +kernel)) ?_⟩
    refine ⟨_, rfl, rfl, _, rfl, ifN (strI (by decide +kernel)) ?_⟩
    refine ⟨_, rfl, rfl, _, rfl, ifN (strI (by decide +kernel)) ?_⟩
    refine ⟨_, rfl, rfl, _, rfl, ifY rfl ?_⟩
    exact fun x dx nx nd ne => ⟨x, dx, rfl, upd_same, rfl, fin x dx nx nd ne⟩

end
end Rk
set_option Elab.async false
set_option linter.all false
set_option maxRecDepth 100000
set_option maxHeartbeats 1000000
namespace Rk
open PySem PySem.Spec PyProof.Rows L2
open TL
def bearsF : Dom → RVal → Bool
  | .num lo hi, .int i => decide (lo ≤ i) && decide (i ≤ hi)
  | .words ws, .str s => decide (s ∈ ws)
  | _, _ => false
def placeF : Dom → RVal → Int
  | .num _ _, .int i => i
  | .words ws, .str s => (ws.idxOf s : Nat)
  | _, _ => 0
theorem idx_at {ws : List Str} {s : Str} (h : s ∈ ws) : ws[ws.idxOf s]? = some s := by
  have := List.idxOf_lt_length_iff.mpr h
  rw [List.getElem?_eq_getElem this, List.getElem_idxOf]
theorem idx_no {ws : List Str} {s : Str} {m : Nat} (h : m < ws.idxOf s) : ws[m]? ≠ some s := by
  induction ws generalizing m with
  | nil => exact fun e => by simp at e
  | cons a ws ih =>
    rw [List.idxOf_cons] at h
    by_cases e : a = s
    · subst e
      simp at h
    · have : (a == s) = false := beq_eq_false_iff_ne.mpr e
      rw [this] at h
      cases m with
      | zero => exact fun q => e (Option.some.inj q)
      | succ m => exact ih (by simpa using h)
def ShD (d : PyData) : Prop := SeqAt.shaped d = true
theorem dp_all_strs {K : PySem.W.Frag} {H : Hp} : ∀ ws : List Str, DpAll K H (ws.map V.str) (ws.map PyData.str)
  | [] => .nil
  | w :: ws => .cons (.str w) (dp_all_strs ws)
theorem eqv_strs : ∀ a b : List Str, PyData.eqvAll (a.map PyData.str) (b.map PyData.str) = decide (a = b)
  | [], [] => rfl
  | [], _ :: _ => rfl
  | _ :: _, [] => rfl
  | x :: a, y :: b => by
    show (x == y && PyData.eqvAll (a.map PyData.str) (b.map PyData.str)) = _
    rw [eqv_strs a b]
    by_cases h : x = y
    · subst h
      by_cases h2 : a = b
      · subst h2; simp
      · rw [decide_eq_false h2, decide_eq_false (fun e => h2 (List.cons.inj e).2), Bool.and_false]
    · rw [show (x == y) = false from beq_eq_false_iff_ne.mpr h, decide_eq_false (fun e => h (List.cons.inj e).1), Bool.false_and]
theorem strOk_word {s : Str} (h : isWord s = true) : PyData.strOk s = true := by
  unfold PyData.strOk
  rw [Array.all_eq_true']
  intro c hc
  have hc' : c ∈ tl s := Array.mem_toList_iff.mpr hc
  have := mt (fun z : c < 97 ∨ 122 < c => isWord_free h z hc')
  by_cases q : c < 97 ∨ 122 < c
  · exact absurd hc' (isWord_free h q)
  · exact decide_eq_true (by omega)
theorem shaped_words {ws : List Str} (h : ∀ w ∈ ws, isWord w = true) : SeqAt.shaped (.list (ws.map PyData.str)) = true := by
  have h1 : ∀ ws : List Str, (∀ w ∈ ws, isWord w = true) → PyData.canLayAll0 (ws.map PyData.str) = true := by
    intro ws
    induction ws with
    | nil => intro _; rfl
    | cons w ws ih => intro h; exact Bool.and_eq_true_iff.mpr ⟨strOk_word (h w List.mem_cons_self), ih fun x hx => h x (List.mem_cons_of_mem _ hx)⟩
  have h2 : ∀ ws : List Str, PyData.depthAll (ws.map PyData.str) = 0 := by
    intro ws
    induction ws with
    | nil => rfl
    | cons w ws ih => show max 0 (PyData.depthAll (ws.map PyData.str)) = 0; rw [ih]; rfl
  unfold SeqAt.shaped
  refine Bool.and_eq_true_iff.mpr ⟨h1 ws h, decide_eq_true ?_⟩
  show PyData.depthAll (ws.map PyData.str) + 1 ≤ 64
  rw [h2]; decide
/-- a number's figures -/
theorem figs (n : Int) : tl (if n < 0 then cutS (numS n) (some 1) none else numS n) = numL n.natAbs := by
  by_cases c : n < 0
  · rw [if_pos c]
    have := tl_cut_from (numS n) 1
    rw [tl_numS, if_pos c] at this
    exact this
  · rw [if_neg c, tl_numS, if_neg c]
theorem minus_first (n : Int) : decide (V.str (cutS (numS n) none (some 1)) = V.str "-") = decide (n < 0) := by
  have e := tl_cut_to (numS n) 1
  have e : tl (cutS (numS n) none (some 1)) = (tl (numS n)).take 1 := e
  rw [tl_numS] at e
  by_cases c : n < 0
  · rw [if_pos c] at e
    rw [decide_eq_true c]
    refine decide_eq_true ?_
    rw [show cutS (numS n) none (some 1) = "-" from ext_tl (by rw [e, show tl ("-" : Str) = [45] by decide +kernel]; rfl)]
  · rw [if_neg c] at e
    rw [decide_eq_false c]
    refine decide_eq_false fun q => ?_
    have q := congrArg tl (V.str.inj q)
    rw [e] at q
    have t45 : tl ("-" : Str) = [45] := by decide +kernel
    rw [t45] at q
    have : 45 ∈ numL n.natAbs := List.mem_of_mem_take (i := 1) (by rw [q]; exact List.mem_cons_self)
    exact numL_free (.inl (by decide)) this
theorem tl_FIG : tl ("0123456789" : Str) = (List.range 10).map (48 + ·) := by decide +kernel
def spDomI (K : PySem.W.Frag) : Sp := fun vs H Q _ => ∃ x C dx lo hi, vs = [.ref x, .int lo, .int hi] ∧ H x = some (.ins C dx []) ∧ Cls K C ∧ NoAttr K C "low" ∧ NoAttr K C "high" ∧ Q .non (upd H x (.ins C dx (fNum lo hi)))
theorem len_Domain_init {K : PySem.W.Frag} {vs : List V} {H : Hp} {Q : VK} {X : XK} (h : spDomI K vs H Q X) : vs.length = 3 := by
  obtain ⟨_, _, _, _, _, rfl, _⟩ := h; rfl
def spNumI (K : PySem.W.Frag) : Sp := fun vs H Q _ => ∃ x dx lo hi, vs = [.ref x, .int lo, .int hi] ∧ lo ≤ hi ∧ H x = some (.ins (He.ga K "Numbers") dx []) ∧ Q .non (upd H x (.ins (He.ga K "Numbers") dx (fNum lo hi)))
theorem len_Numbers_init {K : PySem.W.Frag} {vs : List V} {H : Hp} {Q : VK} {X : XK} (h : spNumI K vs H Q X) : vs.length = 3 := by
  obtain ⟨_, _, _, _, rfl, _⟩ := h; rfl
def spWordsI (K : PySem.W.Frag) : Sp := fun vs H Q _ => ∃ x dx a ws, vs = [.ref x, .ref a] ∧ (Dom.words ws).Ok ∧ H a = some (.lst (ws.map V.str)) ∧ H x = some (.ins (He.ga K "Words") dx []) ∧
  ∀ H' l, H' l = some (.lst (ws.map V.str)) → H' x = some (.ins (He.ga K "Words") dx (fWords ((ws.length : Int) - 1) l)) → (∀ b o, H b = some o → b ≠ x → H' b = some o) → l ≠ x → H l = none → Q .non H'
theorem len_Words_init {K : PySem.W.Frag} {vs : List V} {H : Hp} {Q : VK} {X : XK} (h : spWordsI K vs H Q X) : vs.length = 2 := by
  obtain ⟨_, _, _, _, rfl, _⟩ := h; rfl
theorem put_num (lo hi : Int) : putF "high" (.int hi) (putF "low" (.int lo) []) = fNum lo hi := by
  show (if ("low" : Str) = "high" then _ else _) = _
  rw [if_neg (by decide +kernel)]; rfl
section
variable {P : Program} {w : World} {K : PySem.W.Frag} {mg : Str → Option Value} {base : Heap}
abbrev n_is_word : List Str := ["text", "sign"]
theorem sc_is_word : FnScope n_is_word ["text"] (defScope s_is_word) := ⟨rfl, rfl, rfl, by decide +kernel, rfl, by decide +kernel, by decide +kernel⟩
theorem ok_is_word (T : Tx K mg) : Def P w K mg base "is_word" ["text"] 1 (Sp1 tStr tBool fun s r => s.length ≤ 1000000 ∧ r = isWord s) := by
  refine ⟨?_, T.g_is_word, T.f_is_word.kp, T.f_is_word.bindsN fun _ _ _ _ _ _ us hl => match us, hl with | [_], _ => rfl⟩
  refine fn_body T.f_is_word sc_is_word (fun _ _ _ _ h => len1 h) fun cdv A outer s H vs Q E hr h => ?_
  obtain ⟨ls, v, s, r, rfl, L, rfl, ⟨hl, rfl⟩, k⟩ := h
  have hz : s.length ≤ sizeLine := Nat.le_trans hl (by decide)
  refine ⟨_, pss_cons (ps_if (PW.pt (pw_or (pt_cmpR op_eq (pv 0) pe_str (nomark _)) (pw_or1 (pt_not (pt_chain op_le op_le pe_int (pe_callB call_len_str (by rfl) T.n_len PySem.boot_len (pa_cons (pv 0) pa_nil)) (pe_gi T.i_MOST_SIGNS)))))) (pss_one (ps_ret pe_bl)) pss_nil)
  (pss_one (ps_ret (pe_callB (cr_all rfl) (by rfl) T.n_all (by decide +kernel) (pa_cons (pe_lc (own := [("sign", 1)]) (g := gName 1) rfl sc_is_word.nd (pi_str (pv 0)) (blkOk_by (own := [("sign", 1)]) (N := n_is_word) (sc := defScope s_is_word) (by decide +kernel)) (fun _ _ _ _ _ => (pg_name (i := 1) sc_is_word.nd rfl (.inl rfl))) (fun _ _ _ _ _ => pts_nil) (fun _ _ _ _ _ => (pe_cmpR op_in_sign (pv 1) (pe_gs T.z_LETTERS) (by rfl)))) pa_nil)))), ?_⟩
  refine ⟨_, rfl, rfl, _, rfl, ?_⟩
  refine ite2 (fun c => ?_) (fun c => ?_)
  · have c := V.str.inj (ydec c)
    refine iteT (k _ _ (Same.refl _) ?_)
    show V.bl false = V.bl (isWord s)
    unfold isWord
    rw [if_pos c]
  · have c : ¬ s = "not" := fun e => ndec c (by rw [e])
    refine ⟨_, rfl, _, rfl, hz, _, _, rfl, rfl, _, rfl, ?_⟩
    have hw : isWord s = (decide (1 ≤ (s.length : Int)) && decide ((s.length : Int) ≤ 12) && (tl s).all fun c => decide (c ∈ tl LET)) := by unfold isWord; rw [if_neg c]
    refine ite2 (fun c1 => ?_) (fun c1 => ?_)
    · refine ⟨_, _, rfl, rfl, _, rfl, ?_⟩
      by_cases c2 : (s.length : Int) ≤ 12
      · rw [decide_eq_true c2]
        refine iteF ?_
        refine ⟨_, rfl, s, rfl, fun D nD => ?_⟩
        refine lc_map walk_str (u := tBool) (ls := ls) ((tl s).map fun c => decide (c ∈ tl LET)) nD L (by have := ydec c1; show s.length ≤ 100000; omega) (by rw [List.length_map]; simp) (fun _ _ => trivial) ?_ ?_
        · rintro i x y H0 H1 R hy s1 s2 L2 ⟨rfl, c, hc, rfl⟩ hR
          rw [List.getElem?_map] at hy
          obtain ⟨c', hc', rfl⟩ := Option.map_eq_some_iff.mp hy
          have e : c' = c := by
            have : (tl s)[i]? = some c := by simpa using hc
            rw [this] at hc'; exact (Option.some.inj hc').symm
          subst e
          exact ⟨rfl, _, rfl, c', _, rfl, rfl, hR _ _ (Same.refl _) rfl⟩
        · rintro H1 s1 ⟨a, acc, ea, hacc, hr⟩
          cases ea
          obtain rfl := rs_bool hr
          refine ⟨_, _, rfl, SqL.of (cut_at hacc), k _ _ s1 ?_⟩
          show V.bl _ = V.bl _
          rw [hw, c1, decide_eq_true c2, Bool.true_and, List.all_map]
          rfl
      · rw [decide_eq_false c2]
        refine iteT (k _ _ (Same.refl _) ?_)
        show V.bl false = V.bl (isWord s)
        rw [hw, decide_eq_false c2, Bool.and_false, Bool.false_and]
    · refine ⟨_, rfl, ?_⟩
      refine iteT (k _ _ (Same.refl _) ?_)
      show V.bl false = V.bl (isWord s)
      rw [hw, decide_eq_false (ndec c1), Bool.false_and, Bool.false_and]
abbrev n_number_of : List Str := ["text", "figures", "sign"]
theorem sc_number_of : FnScope n_number_of ["text"] (defScope s_number_of) := ⟨rfl, rfl, rfl, by decide +kernel, rfl, by decide +kernel, by decide +kernel⟩
theorem ok_number_of (T : Tx K mg) : Def P w K mg base "number_of" ["text"] 1 (Sp1 tStr tInt fun s n => s = numS n ∧ small n) := by
  refine ⟨?_, T.g_number_of, T.f_number_of.kp, T.f_number_of.bindsN fun _ _ _ _ _ _ us hl => match us, hl with | [_], _ => rfl⟩
  refine fn_body T.f_number_of sc_number_of (fun _ _ _ _ h => len1 h) fun cdv A outer s H vs Q E hr h => ?_
  obtain ⟨ls, v, s, n, rfl, L, rfl, ⟨rfl, hs⟩, k⟩ := h
  have h61 := numS_len hs
  have h60 := numL_len (k := 60) (by decide) hs
  have hz : (numS n).length ≤ sizeLine := Nat.le_trans h61 (by decide)
  have zero : ∀ r, numL n.natAbs = 48 :: r → numS n = "0" := fun r e => by
    have := numL_head _ _ e
    have : n = 0 := by omega
    subst this
    exact ext_tl (by decide +kernel)
  refine ⟨_, pss_cons (ps_set (i := 1) sc_number_of.nd rfl (.inl rfl) (pv 0))
  (Evl.pss_cut (ps_if (pt_cmpR op_eq (pe_slice sl_str (pv 0) po_none (po_some pe_int)) pe_str (nomark _)) (pss_one (ps_set (i := 1) sc_number_of.nd rfl (.inl rfl) (pe_slice sl_str (pv 0) (po_some pe_int) po_none))) pss_nil)
  (pss_cons (ps_if (pt_not (pt_chain op_le op_le pe_int (pe_callB call_len_str (by rfl) T.n_len PySem.boot_len (pa_cons (pv 1) pa_nil)) (pe_gi T.i_MOST_FIGURES))) (pss_one ps_never) pss_nil)
  (pss_cons (ps_for PassesOwn.never rfl (pi_str (pv 1)) (pg_name (i := 2) sc_number_of.nd rfl (.inl rfl))
  (pss_one (ps_if (pt_cmpR op_notIn_sign (pv 2) (pe_gs T.z_FIGURES) (by rfl)) (pss_one ps_never) pss_nil)))
  (pss_cons (ps_if (PW.pt (pw_and (pt_cmpR op_eq (pe_ix ix_str (pv 1) pe_int (fun _ _ => rfl)) pe_str (nomark _)) (pw_and1 (pt_cmpR op_ne (pv 0) pe_str (nomark _))))) (pss_one ps_never) pss_nil)
  (pss_one (ps_ret (pe_callTy call_int_str (by rfl) T.n_int (by decide +kernel) (pa_cons (pv 0) pa_nil)))))))), ?_⟩
  refine ⟨_, rfl, fun σ H' => H' = H ∧ ∃ z, σ = [some (.str (numS n)), some (.str z), none] ∧ tl z = numL n.natAbs, ?_, ?_⟩
  · refine ⟨_, rfl, 1, rfl, _, rfl, hz, rfl, _, rfl, ?_⟩
    show if decide (V.str (cutS (numS n) none (some 1)) = V.str "-") = true then _ else _
    rw [minus_first]
    have e := figs n
    refine ite2 (fun c => ?_) (fun c => ?_)
    · rw [if_pos (ydec c)] at e
      exact ⟨_, rfl, 1, rfl, _, rfl, hz, rfl, _, rfl, e⟩
    · rw [if_neg (ndec c)] at e
      exact ⟨rfl, _, rfl, e⟩
  rintro σ H' ⟨rfl, z, rfl, ez⟩
  have hl : z.length = (numL n.natAbs).length := by rw [len_tl, ez]
  have hl0 : 0 < (numL n.natAbs).length := List.length_pos_iff.mpr (numL_ne _)
  refine ⟨_, rfl, _, rfl, szl z.length (by omega), _, _, rfl, rfl, _, rfl, ?_⟩
  rw [decide_eq_true (show (1 : Int) ≤ (z.length : Int) by omega)]
  refine iteT ⟨_, _, rfl, rfl, _, rfl, ?_⟩
  rw [decide_eq_true (show (z.length : Int) ≤ 60 by omega)]
  refine iteF ?_
  refine ⟨_, rfl, z, rfl, for_it walk_str (fun i σ H'' => H'' = H' ∧ ∃ v2, σ = [some (.str (numS n)), some (.str z), v2]) ⟨rfl, _, rfl⟩ (fun _ _ _ _ _ => trivial) ?_ ?_⟩
  · rintro i x σ H0 H1 hi ⟨rfl, v2, rfl⟩ ⟨rfl, c, hc, rfl⟩
    have hm : c ∈ tl z := List.mem_of_getElem? (i := i) (by simpa using hc)
    rw [ez] at hm
    have hd := numL_digits _ c hm
    refine ⟨_, rfl, c, _, rfl, rfl, _, rfl, ?_⟩
    have hF : c ∈ tl ("0123456789" : Str) := by
      rw [tl_FIG]
      exact List.mem_map.mpr ⟨c - 48, List.mem_range.mpr (by omega), by omega⟩
    rw [decide_eq_true hF]
    exact iteF ⟨rfl, _, rfl⟩
  · rintro σ H1 ⟨rfl, v2, rfl⟩
    obtain ⟨c0, r0, e0⟩ := List.exists_cons_of_ne_nil (numL_ne n.natAbs)
    refine ⟨_, rfl, z, 0, c0, rfl, rfl, szl z.length (by omega), (show atI z.cps.toList 0 = some c0 from atI_nat (xs := z.cps.toList) (j := 0) (v := c0) (by rw [show z.cps.toList = _ from ez, e0]; rfl)), rfl, _, rfl, ?_⟩
    refine ite2 (fun c => ?_) (fun c => ?_)
    · have c := congrArg tl (V.str.inj (ydec c))
      have t48 : tl ("0" : Str) = [48] := by decide +kernel
      rw [t48] at c
      have c : c0 = 48 := (List.cons.inj (show [c0] = [48] from c)).1
      have z0 := zero r0 (by rw [e0, c])
      refine ⟨_, rfl, rfl, _, rfl, ?_⟩
      refine iteNS (by rw [z0]) ?_
      exact ⟨_, rfl, _, n, rfl, int_numS hs, by omega, k _ _ (Same.refl _) rfl⟩
    · exact ⟨_, rfl, _, n, rfl, int_numS hs, by omega, k _ _ (Same.refl _) rfl⟩
abbrev n_number_text : List Str := ["number"]
theorem sc_number_text : FnScope n_number_text ["number"] (defScope s_number_text) := ⟨rfl, rfl, rfl, by decide +kernel, rfl, by decide +kernel, by decide +kernel⟩
theorem ok_number_text (T : Tx K mg) : Def P w K mg base "number_text" ["number"] 1 (Sp1 tInt tStr fun n s => small n ∧ s = numS n) := by
  refine ⟨?_, T.g_number_text, T.f_number_text.kp, T.f_number_text.bindsN fun _ _ _ _ _ _ us hl => match us, hl with | [_], _ => rfl⟩
  refine fn_body T.f_number_text sc_number_text (fun _ _ _ _ h => len1 h) fun cdv A outer s H vs Q E hr h => ?_
  obtain ⟨ls, v, n, s, rfl, L, rfl, ⟨hs, rfl⟩, k⟩ := h
  refine ⟨_, pss_one (ps_ret (pe_callTy call_str_int (by rfl) T.n_str (by decide +kernel) (pa_cons (pv 0) pa_nil))), ?_⟩
  refine ⟨_, rfl, _, rfl, ?_, k _ _ (Same.refl _) rfl⟩
  have : n.natAbs < 2 ^ 200 := Nat.lt_of_lt_of_le hs (by decide)
  by_cases c : n.natAbs = 0
  · rw [c]; decide
  · exact Nat.lt_of_lt_of_le ((Nat.log2_lt c).mpr this) (by decide)
abbrev n_Domain_init : List Str := ["self", "low", "high"]
theorem sc_Domain_init : FnScope n_Domain_init ["self", "low", "high"] (defScope s_Domain_init) := ⟨rfl, rfl, rfl, by decide +kernel, rfl, by decide +kernel, by decide +kernel⟩
theorem in_Domain (T : Tx K mg) : FnOk P w K mg base CX0 1 (He.ma K (He.ga K "Domain") "__init__") (fdOf K (He.ma K (He.ga K "Domain") "__init__")) ["self", "low", "high"] (spDomI K) ∧ Binds K (fdOf K (He.ma K (He.ga K "Domain") "__init__")) ["self", "low", "high"] [] := by
  refine ⟨?_, T.f_Domain_init.bindsN fun _ _ _ _ _ _ us hl => match us, hl with | [_, _, _], _ => rfl⟩
  refine fn_body T.f_Domain_init sc_Domain_init (fun _ _ _ _ h => len_Domain_init h) fun cdv A outer s H vs Q E hr h => ?_
  obtain ⟨x, C, dx, lo, hi, rfl, hx, cl, n1, n2, k⟩ := h
  refine ⟨_, pss_cons (ps_fld (pv 0) (pv 1) rfl)
  (pss_one (ps_fld (pv 0) (pv 2) rfl)), ?_⟩
  refine ⟨_, rfl, _, rfl, x, C, dx, [], rfl, hx, cl, n1, by show 0 < 1000; decide, ?_⟩
  refine ⟨_, rfl, _, rfl, x, C, dx, _, rfl, upd_same, cl, n2, by show 1 < 1000; decide, ?_⟩
  rw [upd_upd, put_num]
  exact k
abbrev n_Numbers_init : List Str := ["self", "low", "high"]
theorem sc_Numbers_init : FnScope n_Numbers_init ["self", "low", "high"] (defScope s_Numbers_init) := ⟨rfl, rfl, rfl, by decide +kernel, rfl, by decide +kernel, by decide +kernel⟩
theorem mk_Numbers (T : Tx K mg) : Ctor P w K mg base "Numbers" ["self", "low", "high"] 2 (spNumI K) := by
  refine ⟨?_, T.k_Numbers, T.g_Numbers, T.f_Numbers_init.bindsN fun _ _ _ _ _ _ us hl => match us, hl with | [_, _, _], _ => rfl⟩
  refine fn_body T.f_Numbers_init sc_Numbers_init (fun _ _ _ _ h => len_Numbers_init h) fun cdv A outer s H vs Q E hr h => ?_
  obtain ⟨x, dx, lo, hi, rfl, hle, hx, k⟩ := h
  refine ⟨_, pss_cons (ps_if (pt_cmpR op_gt (pv 1) (pv 2) (nomark _)) (pss_one ps_never) pss_nil)
  (pss_one (ps_expr (pe_cls T.g_Domain ⟨T.rd_Domain, T.ra_Domain, T.rf_Domain⟩ (in_Domain (P := P) (w := w) (base := base) T).1 T.f_Domain_init.kp (in_Domain (P := P) (w := w) (base := base) T).2 hr (pa_cons (pv 0) (pa_cons (pv 1) (pa_cons (pv 2) pa_nil)))))), ?_⟩
  refine ⟨_, rfl, _, rfl, _, _, rfl, rfl, _, rfl, ifN (by omega) ?_⟩
  exact ⟨_, rfl, _, rfl, _, rfl, x, _, dx, lo, hi, rfl, hx, T.c_Numbers, T.a_Numbers_low, T.a_Numbers_high, k⟩
abbrev n_Words_init : List Str := ["self", "words", "k"]
theorem sc_Words_init : FnScope n_Words_init ["self", "words"] (defScope s_Words_init) := ⟨rfl, rfl, rfl, by decide +kernel, rfl, by decide +kernel, by decide +kernel⟩
theorem mk_Words (T : Tx K mg) : Ctor P w K mg base "Words" ["self", "words"] 2 (spWordsI K) := by
  refine ⟨?_, T.k_Words, T.g_Words, T.f_Words_init.bindsN fun _ _ _ _ _ _ us hl => match us, hl with | [_, _], _ => rfl⟩
  refine fn_body T.f_Words_init sc_Words_init (fun _ _ _ _ h => len_Words_init h) fun cdv A outer s H vs Q E hr h => ?_
  obtain ⟨x, dx, a, ws, rfl, hok, ha, hx, k⟩ := h
  obtain ⟨h1, h40, hw, hnd⟩ := hok.words ws rfl
  have hlen : (ws.map V.str).length = ws.length := List.length_map _
  have nax : a ≠ x := ne_of ha hx (fun q => nomatch q)
  refine ⟨_, pss_cons (ps_if (pt_not (pt_chain op_le op_le pe_int (pe_callB call_len_seq (by rfl) T.n_len PySem.boot_len (pa_cons (pv 1) pa_nil)) (pe_gi T.i_MOST_WORDS))) (pss_one ps_never) pss_nil)
  (pss_cons (ps_for PassesOwn.never rfl (pi_range1 (by rfl) T.n_range (pa_cons (pe_callB call_len_seq (by rfl) T.n_len PySem.boot_len (pa_cons (pv 1) pa_nil)) pa_nil)) (pg_name (i := 2) sc_Words_init.nd rfl (.inl rfl))
  (pss_one (ps_if (PW.pt (pw_or (pt_not (pt_val (pe_cD (ok_is_word T) hr (pa_cons (pe_ix ix_list (pv 1) (pv 2) (fun _ _ => rfl)) pa_nil)))) (pw_or1 (pt_cmpR op_in_seq (pe_ix ix_list (pv 1) (pv 2) (fun _ _ => rfl)) (pe_slice sl_list (pv 1) po_none (po_some (pv 2))) (by rfl))))) (pss_one ps_never) pss_nil)))
  (pss_cons (ps_expr (pe_cls T.g_Domain ⟨T.rd_Domain, T.ra_Domain, T.rf_Domain⟩ (in_Domain (P := P) (w := w) (base := base) T).1 T.f_Domain_init.kp (in_Domain (P := P) (w := w) (base := base) T).2 hr (pa_cons (pv 0) (pa_cons pe_int (pa_cons (pe_op op_sub (pe_callB call_len_seq (by rfl) T.n_len PySem.boot_len (pa_cons (pv 1) pa_nil)) pe_int) pa_nil)))))
  (pss_one (ps_fld (pv 0) (pe_callTy call_list_of (by rfl) T.n_list (by decide +kernel) (pa_cons (pv 1) pa_nil)) rfl)))), ?_⟩
  refine ⟨_, rfl, a, _, rfl, .inl (SqL.of ha), _, _, rfl, rfl, _, rfl, ?_⟩
  rw [hlen, decide_eq_true (show (1 : Int) ≤ (ws.length : Int) by omega)]
  refine iteT ⟨_, _, rfl, rfl, _, rfl, ?_⟩
  rw [decide_eq_true (show (ws.length : Int) ≤ 40 by omega)]
  refine iteF ?_
  refine ⟨_, rfl, a, _, rfl, .inl (SqL.of ha), _, rfl, by omega, by omega, ?_⟩
  refine for_range (lo := 0) (fun i σ H' => Same H H' ∧ ∃ v2, σ = [some (.ref x), some (.ref a), v2]) ⟨Same.refl _, _, rfl⟩ ?_ ?_
  · rintro i σ H' hi ⟨s1, v2, rfl⟩
    have hi : i < ws.length := by rw [hlen] at hi; omega
    have hat : atI (ws.map V.str) (0 + (i : Int)) = some (.str ws[i]) := at_of (j := i) (by omega) (by simp [hi])
    refine ⟨_, rfl, _, rfl, a, _, _, _, rfl, rfl, SqL.of (s1 _ _ ha), hat, ?_⟩
    have hwi := hw ws[i] (List.getElem_mem hi)
    refine ⟨[], _, ws[i], true, rfl, Live.nil, rfl, ⟨by have := isWord_len hwi; omega, hwi.symm⟩, fun H1 w1 s2 r1 => ?_⟩
    obtain rfl : w1 = .bl true := r1
    refine ⟨_, rfl, iteF ?_⟩
    have ha1 := (s1.trans s2) _ _ ha
    refine ⟨_, rfl, _, rfl, a, _, _, _, rfl, rfl, SqL.of ha1, hat, ?_⟩
    refine ⟨_, rfl, _, rfl, _, rfl, a, _, rfl, SqL.of ha1, fun p np => ?_⟩
    have hcut : cutV (ws.map V.str) none (some (0 + (i : Int))) = (ws.take i).map V.str := by
      unfold cutV
      rw [show (0 : Int) + (i : Int) = ((i : Nat) : Int) by omega, HT.sIx_none, HT.sIx_nat, List.drop_zero, Nat.sub_zero, hlen, Nat.min_eq_left (Nat.le_of_lt hi), List.map_take]
    refine ⟨p, _, rfl, .inl (SqL.of upd_same), rfl, by rw [hcut]; exact flat_strs _, _, rfl, ?_⟩
    rw [hcut]
    show if (if false = true then _ else inV (.str ws[i]) ((ws.take i).map V.str)) = true then _ else _
    rw [if_neg Bool.false_ne_true, inV_str, decide_eq_false (fun m => ?_)]
    · exact iteF ⟨s1.trans (s2.trans (Same.upd np)), _, rfl⟩
    · obtain ⟨j, hj⟩ := List.mem_iff_getElem?.mp m
      rw [List.getElem?_take] at hj
      by_cases q : j < i
      · rw [if_pos q] at hj
        have hjl : j < ws.length := by omega
        rw [List.getElem?_eq_getElem hjl] at hj
        have : j = i := (List.getElem_inj hnd).mp (Option.some.inj hj)
        omega
      · rw [if_neg q] at hj; cases hj
  · rintro σ H' ⟨s1, v2, rfl⟩
    refine ⟨_, rfl, _, rfl, a, _, rfl, .inl (SqL.of (s1 _ _ ha)), _, _, rfl, rfl, ?_⟩
    refine ⟨x, _, dx, _, _, rfl, s1 _ _ hx, T.c_Words, T.a_Words_low, T.a_Words_high, ?_⟩
    refine ⟨_, rfl, a, _, rfl, .inl (SqL.of (by rw [upd_ne nax]; exact s1 _ _ ha)), fun l nl => ?_⟩
    have nlx : l ≠ x := fun e => by rw [e, upd_same] at nl; cases nl
    have nl' : H' l = none := by rw [upd_ne nlx] at nl; exact nl
    refine ⟨_, rfl, x, _, dx, _, rfl, by rw [upd_ne nlx.symm]; exact upd_same, T.c_Words, T.a_Words_words, by show 2 < 1000; decide, ?_⟩
    rw [hlen]
    refine k _ l (by rw [upd_ne nlx, upd_same]) (by rw [upd_same]; rfl) (fun b o hb nb => ?_) nlx (s1.free nl')
    rw [upd_ne nb, upd_ne (fun e => by rw [e, s1.free nl'] at hb; cases hb), upd_ne nb]
    exact s1 _ _ hb
abbrev n_Numbers_bears : List Str := ["self", "value"]
theorem sc_Numbers_bears : FnScope n_Numbers_bears ["self", "value"] (defScope s_Numbers_bears) := ⟨rfl, rfl, rfl, by decide +kernel, rfl, by decide +kernel, by decide +kernel⟩
theorem ok_Numbers_bears (T : Tx K mg) : Met P w K mg base "Numbers" "bears" ["self", "value"] 1 (Sp2 (tDom K) tVal tBool fun d x r => (∃ lo hi, d = .num lo hi) ∧ r = bearsF d x) := by
  refine ⟨?_, T.c_Numbers, T.m_Numbers_bears, T.f_Numbers_bears.bindsN fun _ _ _ _ _ _ us hl => match us, hl with | [_, _], _ => rfl⟩
  refine fn_body T.f_Numbers_bears sc_Numbers_bears (fun _ _ _ _ h => len2 h) fun cdv A outer s H vs Q E hr h => ?_
  obtain ⟨ls, v, vx, d, x, r, rfl, L, rd, rx, ⟨⟨lo, hi, rfl⟩, rfl⟩, k⟩ := h
  obtain ⟨a, dx, rfl, ha⟩ := rd
  have ha := cut_at ha
  refine ⟨_, pss_cons (ps_if (PW.pt (pw_or (pt_val (pe_callB call_isi (by rfl) T.n_isinstance (by decide +kernel) (pa_cons (pv 1) (pa_cons (pe_bltn (v := .ty "bool") (by rfl) T.n_bool (by decide +kernel) rfl) pa_nil)))) (pw_or1 (pt_not (pt_val (pe_callB call_isi (by rfl) T.n_isinstance (by decide +kernel) (pa_cons (pv 1) (pa_cons (pe_bltn (v := .ty "int") (by rfl) T.n_int (by decide +kernel) rfl) pa_nil)))))))) (pss_one (ps_ret pe_bl)) pss_nil)
  (pss_one (ps_ret (pe_chain op_le op_le (pe_fld (pv 0) rfl) (pv 1) (pe_fld (pv 0) rfl)))), ?_⟩
  cases x with
  | str s =>
    obtain rfl : vx = .str s := rx
    refine ⟨_, rfl, _, _, _, _, _, rfl, .ty _, .base (.str s), kit_ty (a := "str") (b := "bool") (r := false) (by decide +kernel), _, rfl, iteF ?_⟩
    refine ⟨_, rfl, _, _, _, _, _, rfl, .ty _, .base (.str s), kit_ty (a := "str") (b := "int") (r := false) (by decide +kernel), _, rfl, ?_⟩
    exact iteT (k _ _ (Same.refl _) rfl)
  | int i =>
    obtain rfl : vx = .int i := rx
    refine ⟨_, rfl, _, _, _, _, _, rfl, .ty _, .base (.int i), kit_ty (a := "int") (b := "bool") (r := false) (by decide +kernel), _, rfl, iteF ?_⟩
    refine ⟨_, rfl, _, _, _, _, _, rfl, .ty _, .base (.int i), kit_ty (a := "int") (b := "int") (r := true) (by decide +kernel), _, rfl, iteF ?_⟩
    refine ⟨_, rfl, a, _, dx, _, _, rfl, ha, T.c_Numbers, T.a_Numbers_low, hk_ _ _, _, rfl, _, _, rfl, rfl, _, rfl, ?_⟩
    have k : ∀ H' w, Same H H' → w = V.bl (decide (lo ≤ i) && decide (i ≤ hi)) → Q w H' := fun H' w s e => k H' w s e
    refine ite2 (fun c => ?_) (fun c => ?_)
    · refine ⟨_, rfl, a, _, dx, _, _, rfl, ha, T.c_Numbers, T.a_Numbers_high, by unfold fNum; rw [sk (by decide +kernel), hk_], _, _, rfl, rfl, k _ _ (Same.refl _) ?_⟩
      rw [c, Bool.true_and]
    · refine k _ _ (Same.refl _) ?_
      rw [decide_eq_false (ndec c), Bool.false_and]
abbrev n_Words_bears : List Str := ["self", "value"]
theorem sc_Words_bears : FnScope n_Words_bears ["self", "value"] (defScope s_Words_bears) := ⟨rfl, rfl, rfl, by decide +kernel, rfl, by decide +kernel, by decide +kernel⟩
theorem ok_Words_bears (T : Tx K mg) : Met P w K mg base "Words" "bears" ["self", "value"] 1 (Sp2 (tDom K) tVal tBool fun d x r => (∃ ws, d = .words ws) ∧ r = bearsF d x) := by
  refine ⟨?_, T.c_Words, T.m_Words_bears, T.f_Words_bears.bindsN fun _ _ _ _ _ _ us hl => match us, hl with | [_, _], _ => rfl⟩
  refine fn_body T.f_Words_bears sc_Words_bears (fun _ _ _ _ h => len2 h) fun cdv A outer s H vs Q E hr h => ?_
  obtain ⟨ls, v, vx, d, x, r, rfl, L, rd, rx, ⟨⟨ws, rfl⟩, rfl⟩, k⟩ := h
  obtain ⟨a, dx, l, rfl, ha, hl⟩ := rd
  have ha := cut_at ha
  have hl := cut_at hl
  refine ⟨_, pss_one (ps_ret (pe_and (pe_callB call_isi (by rfl) T.n_isinstance (by decide +kernel) (pa_cons (pv 1) (pa_cons (pe_bltn (v := .ty "str") (by rfl) T.n_str (by decide +kernel) rfl) pa_nil))) (pe_one (pe_cmpR op_in_seq (pv 1) (pe_fld (pv 0) rfl) (by rfl))))), ?_⟩
  cases x with
  | int i =>
    obtain rfl : vx = .int i := rx
    refine ⟨_, rfl, _, _, _, _, _, rfl, .ty _, .base (.int i), kit_ty (a := "int") (b := "str") (r := false) (by decide +kernel), _, rfl, ?_⟩
    exact iteF (k _ _ (Same.refl _) rfl)
  | str s =>
    obtain rfl : vx = .str s := rx
    refine ⟨_, rfl, _, _, _, _, _, rfl, .ty _, .base (.str s), kit_ty (a := "str") (b := "str") (r := true) (by decide +kernel), _, rfl, ?_⟩
    refine iteT ⟨_, rfl, _, rfl, a, _, dx, _, _, rfl, ha, T.c_Words, T.a_Words_words, by unfold fWords; rw [sk (by decide +kernel), sk (by decide +kernel), hk_], l, _, rfl, .inl (SqL.of hl), rfl, flat_strs _, k _ _ (Same.refl _) ?_⟩
    show V.bl (if false = true then _ else inV _ _) = V.bl (decide (s ∈ ws))
    rw [if_neg Bool.false_ne_true, inV_str]
abbrev n_Numbers_place : List Str := ["self", "value"]
theorem sc_Numbers_place : FnScope n_Numbers_place ["self", "value"] (defScope s_Numbers_place) := ⟨rfl, rfl, rfl, by decide +kernel, rfl, by decide +kernel, by decide +kernel⟩
theorem ok_Numbers_place (T : Tx K mg) : Met P w K mg base "Numbers" "place" ["self", "value"] 1 (Sp2 (tDom K) tVal tInt fun d x r => (∃ lo hi, d = .num lo hi) ∧ bearsF d x = true ∧ r = placeF d x) := by
  refine ⟨?_, T.c_Numbers, T.m_Numbers_place, T.f_Numbers_place.bindsN fun _ _ _ _ _ _ us hl => match us, hl with | [_, _], _ => rfl⟩
  refine fn_body T.f_Numbers_place sc_Numbers_place (fun _ _ _ _ h => len2 h) fun cdv A outer s H vs Q E hr h => ?_
  obtain ⟨ls, v, vx, d, x, r, rfl, L, rd, rx, ⟨⟨lo, hi, rfl⟩, hb, rfl⟩, k⟩ := h
  refine ⟨_, pss_one (ps_ret (pv 1)), ?_⟩
  cases x with
  | str s => cases hb
  | int i => exact ⟨_, rfl, k _ _ (Same.refl _) rx⟩
abbrev n_Words_place : List Str := ["self", "value"]
theorem sc_Words_place : FnScope n_Words_place ["self", "value"] (defScope s_Words_place) := ⟨rfl, rfl, rfl, by decide +kernel, rfl, by decide +kernel, by decide +kernel⟩
theorem ok_Words_place (T : Tx K mg) : Met P w K mg base "Words" "place" ["self", "value"] 1 (Sp2 (tDom K) tVal tInt fun d x r => (∃ ws, d = .words ws) ∧ bearsF d x = true ∧ r = placeF d x) := by
  refine ⟨?_, T.c_Words, T.m_Words_place, T.f_Words_place.bindsN fun _ _ _ _ _ _ us hl => match us, hl with | [_, _], _ => rfl⟩
  refine fn_body T.f_Words_place sc_Words_place (fun _ _ _ _ h => len2 h) fun cdv A outer s H vs Q E hr h => ?_
  obtain ⟨ls, v, vx, d, x, r, rfl, L, rd, rx, ⟨⟨ws, rfl⟩, hb, rfl⟩, k⟩ := h
  obtain ⟨a, dx, l, rfl, ha, hl⟩ := rd
  have ha := cut_at ha
  have hl := cut_at hl
  refine ⟨_, pss_one (ps_ret (pe_bm PySem.F.plainAttrs_list PySem.F.slot_list_index PySem.F.type_list_index mt_index (pe_fld (pv 0) rfl) (pa_cons (pv 1) pa_nil))), ?_⟩
  cases x with
  | int i => cases hb
  | str s =>
    obtain rfl : vx = .str s := rx
    have hm : s ∈ ws := of_decide_eq_true hb
    refine ⟨_, rfl, a, _, dx, _, .ref l, rfl, ha, T.c_Words, T.a_Words_words, by unfold fWords; rw [sk (by decide +kernel), sk (by decide +kernel), hk_], .inl ⟨rfl, _, SqL.of hl⟩, _, rfl, l, _, _, ws.idxOf s, .str s, rfl, rfl, SqL.of hl, rfl, flat_strs _, ?_, by rw [eqV_str]; exact decide_eq_true rfl, fun m z hm' hz => ?_, k _ _ (Same.refl _) rfl⟩
    · rw [List.getElem?_map, idx_at hm]; rfl
    · rw [List.getElem?_map] at hz
      obtain ⟨y, hy, rfl⟩ := Option.map_eq_some_iff.mp hz
      rw [eqV_str]
      exact decide_eq_false fun e => idx_no hm' (e ▸ hy)
abbrev n_Words_told : List Str := ["self", "code"]
theorem sc_Words_told : FnScope n_Words_told ["self", "code"] (defScope s_Words_told) := ⟨rfl, rfl, rfl, by decide +kernel, rfl, by decide +kernel, by decide +kernel⟩
theorem ok_Words_told (T : Tx K mg) : Met P w K mg base "Words" "told" ["self", "code"] 1 (Sp2 (tDom K) tInt tStr fun d c r => ∃ ws, d = .words ws ∧ 0 ≤ c ∧ ws[c.toNat]? = some r) := by
  refine ⟨?_, T.c_Words, T.m_Words_told, T.f_Words_told.bindsN fun _ _ _ _ _ _ us hl => match us, hl with | [_, _], _ => rfl⟩
  refine fn_body T.f_Words_told sc_Words_told (fun _ _ _ _ h => len2 h) fun cdv A outer s H vs Q E hr h => ?_
  obtain ⟨ls, v, vx, d, c, r, rfl, L, rd, rfl, ⟨ws, rfl, h0, hr1⟩, k⟩ := h
  obtain ⟨a, dx, l, rfl, ha, hl⟩ := rd
  have ha := cut_at ha
  have hl := cut_at hl
  refine ⟨_, pss_one (ps_ret (pe_ix ix_list (pe_fld (pv 0) rfl) (pv 1) (fun _ _ => rfl))), ?_⟩
  exact ⟨_, rfl, a, _, dx, _, _, rfl, ha, T.c_Words, T.a_Words_words, by unfold fWords; rw [sk (by decide +kernel), sk (by decide +kernel), hk_], _, rfl, l, _, _, _, rfl, rfl, SqL.of hl, at_of (j := c.toNat) (by omega) (by rw [List.getElem?_map, hr1]; rfl), k _ _ (Same.refl _) rfl⟩
abbrev n_Numbers_code : List Str := ["self", "value"]
theorem sc_Numbers_code : FnScope n_Numbers_code ["self", "value"] (defScope s_Numbers_code) := ⟨rfl, rfl, rfl, by decide +kernel, rfl, by decide +kernel, by decide +kernel⟩
theorem ok_Numbers_code (T : Tx K mg) : Met P w K mg base "Numbers" "code" ["self", "value"] 2 (Sp2 (tDom K) tVal tInt fun d x r => (∃ lo hi, d = .num lo hi) ∧ bearsF d x = true ∧ r = placeF d x) := by
  refine ⟨?_, T.c_Numbers, T.m_Numbers_code, T.f_Numbers_code.bindsN fun _ _ _ _ _ _ us hl => match us, hl with | [_, _], _ => rfl⟩
  refine fn_body T.f_Numbers_code sc_Numbers_code (fun _ _ _ _ h => len2 h) fun cdv A outer s H vs Q E hr h => ?_
  obtain ⟨ls, v, vx, d, x, r, rfl, L, rd, rx, ⟨hd, hb, rfl⟩, k⟩ := h
  obtain ⟨lo, hi, rfl⟩ := hd
  have rd' := rd
  obtain ⟨a, dx, rfl, ha⟩ := rd
  have ha := cut_at ha
  refine ⟨_, pss_cons (ps_if (pt_not (pt_val (pe_disp (P := P) (w := w) (K := K) (mg := mg) (base := base) (pv 0) hr (pa_cons (pv 1) pa_nil)))) (pss_one ps_never) pss_nil)
  (pss_one (ps_ret (pe_disp (P := P) (w := w) (K := K) (mg := mg) (base := base) (pv 0) hr (pa_cons (pv 1) pa_nil)))), ?_⟩
  refine ⟨_, rfl, a, "Numbers", dx, _, _, rfl, ha, by unfold fNum; rw [sk (by decide +kernel), sk (by decide +kernel)]; rfl, ⟨_, _, by decide, ok_Numbers_bears T⟩, _, rfl, ?_⟩
  refine ⟨ls, _, _, _, x, true, rfl, L, rd', rx, ⟨⟨lo, hi, rfl⟩, hb.symm⟩, fun H1 w1 s1 r1 => ?_⟩
  obtain rfl : w1 = .bl true := r1
  refine ⟨_, rfl, iteF ?_⟩
  refine ⟨_, rfl, a, "Numbers", dx, _, _, rfl, s1 _ _ ha, by unfold fNum; rw [sk (by decide +kernel), sk (by decide +kernel)]; rfl, ⟨_, _, by decide, ok_Numbers_place T⟩, _, rfl, ?_⟩
  exact ⟨ls, _, _, _, x, _, rfl, L.to s1, (tDom K).mono s1.cut rd', tVal.mono s1.cut rx, ⟨⟨lo, hi, rfl⟩, hb, rfl⟩, fun H2 w2 s2 r2 => k _ _ (s1.trans s2) r2⟩
abbrev n_Words_code : List Str := ["self", "value"]
theorem sc_Words_code : FnScope n_Words_code ["self", "value"] (defScope s_Words_code) := ⟨rfl, rfl, rfl, by decide +kernel, rfl, by decide +kernel, by decide +kernel⟩
theorem ok_Words_code (T : Tx K mg) : Met P w K mg base "Words" "code" ["self", "value"] 2 (Sp2 (tDom K) tVal tInt fun d x r => (∃ ws, d = .words ws) ∧ bearsF d x = true ∧ r = placeF d x) := by
  refine ⟨?_, T.c_Words, T.m_Words_code, T.f_Words_code.bindsN fun _ _ _ _ _ _ us hl => match us, hl with | [_, _], _ => rfl⟩
  refine fn_body T.f_Words_code sc_Words_code (fun _ _ _ _ h => len2 h) fun cdv A outer s H vs Q E hr h => ?_
  obtain ⟨ls, v, vx, d, x, r, rfl, L, rd, rx, ⟨hd, hb, rfl⟩, k⟩ := h
  obtain ⟨ws, rfl⟩ := hd
  have rd' := rd
  obtain ⟨a, dx, l, rfl, ha, hl⟩ := rd
  have ha := cut_at ha
  refine ⟨_, pss_cons (ps_if (pt_not (pt_val (pe_disp (P := P) (w := w) (K := K) (mg := mg) (base := base) (pv 0) hr (pa_cons (pv 1) pa_nil)))) (pss_one ps_never) pss_nil)
  (pss_one (ps_ret (pe_disp (P := P) (w := w) (K := K) (mg := mg) (base := base) (pv 0) hr (pa_cons (pv 1) pa_nil)))), ?_⟩
  refine ⟨_, rfl, a, "Words", dx, _, _, rfl, ha, by unfold fWords; rw [sk (by decide +kernel), sk (by decide +kernel), sk (by decide +kernel)]; rfl, ⟨_, _, by decide, ok_Words_bears T⟩, _, rfl, ?_⟩
  refine ⟨ls, _, _, _, x, true, rfl, L, rd', rx, ⟨⟨ws, rfl⟩, hb.symm⟩, fun H1 w1 s1 r1 => ?_⟩
  obtain rfl : w1 = .bl true := r1
  refine ⟨_, rfl, iteF ?_⟩
  refine ⟨_, rfl, a, "Words", dx, _, _, rfl, s1 _ _ ha, by unfold fWords; rw [sk (by decide +kernel), sk (by decide +kernel), sk (by decide +kernel)]; rfl, ⟨_, _, by decide, ok_Words_place T⟩, _, rfl, ?_⟩
  exact ⟨ls, _, _, _, x, _, rfl, L.to s1, (tDom K).mono s1.cut rd', tVal.mono s1.cut rx, ⟨⟨ws, rfl⟩, hb, rfl⟩, fun H2 w2 s2 r2 => k _ _ (s1.trans s2) r2⟩
abbrev n_Words_worth : List Str := ["self", "code"]
theorem sc_Words_worth : FnScope n_Words_worth ["self", "code"] (defScope s_Words_worth) := ⟨rfl, rfl, rfl, by decide +kernel, rfl, by decide +kernel, by decide +kernel⟩
theorem ok_Words_worth (T : Tx K mg) : Met P w K mg base "Words" "worth" ["self", "code"] 2 (Sp2 (tDom K) tInt tStr fun d c r => ∃ ws, d = .words ws ∧ 0 ≤ c ∧ ws[c.toNat]? = some r) := by
  refine ⟨?_, T.c_Words, T.m_Words_worth, T.f_Words_worth.bindsN fun _ _ _ _ _ _ us hl => match us, hl with | [_, _], _ => rfl⟩
  refine fn_body T.f_Words_worth sc_Words_worth (fun _ _ _ _ h => len2 h) fun cdv A outer s H vs Q E hr h => ?_
  obtain ⟨ls, v, vx, d, c, r, rfl, L, rd, rfl, ⟨ws, rfl, h0, hr1⟩, k⟩ := h
  have rd' := rd
  obtain ⟨a, dx, l, rfl, ha, hl⟩ := rd
  have ha := cut_at ha
  have hc := (List.getElem?_eq_some_iff.mp hr1).1
  refine ⟨_, pss_cons (ps_if (pt_not (pt_chain op_le op_le (pe_fld (pv 0) rfl) (pv 1) (pe_fld (pv 0) rfl))) (pss_one ps_never) pss_nil)
  (pss_one (ps_ret (pe_disp (P := P) (w := w) (K := K) (mg := mg) (base := base) (pv 0) hr (pa_cons (pv 1) pa_nil)))), ?_⟩
  refine ⟨_, rfl, a, _, dx, _, _, rfl, ha, T.c_Words, T.a_Words_low, hk_ _ _, _, rfl, _, _, rfl, rfl, _, rfl, ?_⟩
  rw [decide_eq_true h0]
  refine iteT ⟨_, rfl, a, _, dx, _, _, rfl, ha, T.c_Words, T.a_Words_high, by unfold fWords; rw [sk (by decide +kernel), hk_], _, _, rfl, rfl, _, rfl, ?_⟩
  rw [decide_eq_true (show c ≤ (ws.length : Int) - 1 by omega)]
  refine iteF ?_
  refine ⟨_, rfl, a, "Words", dx, _, _, rfl, ha, by unfold fWords; rw [sk (by decide +kernel), sk (by decide +kernel), sk (by decide +kernel)]; rfl, ⟨_, _, by decide, ok_Words_told T⟩, _, rfl, ?_⟩
  exact ⟨ls, _, _, _, c, _, rfl, L, rd', rfl, ⟨ws, rfl, h0, hr1⟩, fun H2 w2 s2 r2 => k _ _ s2 r2⟩
abbrev n_Numbers_whole : List Str := ["self"]
theorem sc_Numbers_whole : FnScope n_Numbers_whole ["self"] (defScope s_Numbers_whole) := ⟨rfl, rfl, rfl, by decide +kernel, rfl, by decide +kernel, by decide +kernel⟩
theorem ok_Numbers_whole (T : Tx K mg) : Met P w K mg base "Numbers" "whole" ["self"] 1 (Sp1 (tDom K) tSpans fun d r => r = [(d.lo, d.hi)]) := by
  refine ⟨?_, T.c_Numbers, T.m_Numbers_whole, T.f_Numbers_whole.bindsN fun _ _ _ _ _ _ us hl => match us, hl with | [_], _ => rfl⟩
  refine fn_body T.f_Numbers_whole sc_Numbers_whole (fun _ _ _ _ h => len1 h) fun cdv A outer s H vs Q E hr h => ?_
  obtain ⟨ls, v, d, r, rfl, L, rd, rfl, k⟩ := h
  obtain ⟨a, C, dx, fs, rfl, ha, cl, n1, n2, l1, l2⟩ := dom_at T rd
  have ha := cut_at ha
  refine ⟨_, pss_one (ps_ret (pe_lst (pa_cons (pe_tup (pa_cons (pe_fld (pv 0) rfl) (pa_cons (pe_fld (pv 0) rfl) pa_nil))) pa_nil))), ?_⟩
  refine ⟨_, rfl, a, _, dx, _, _, rfl, ha, cl, n1, l1, _, rfl, a, _, dx, _, _, rfl, ha, cl, n2, l2, szl 2, fun t nt => ⟨szl 1, fun p np => ?_⟩⟩
  have ntp : t ≠ p := ne_of_none upd_same np
  have s1 : Same H (upd H t (.tup [.int d.lo, .int d.hi])) := Same.upd nt
  have np0 : H p = none := s1.free np
  exact k _ _ (s1.trans (Same.upd np)) ⟨p, _, rfl, at_cut (L.no np0) upd_same, ⟨t, _, _, rfl, at_cut (L.no nt) (by rw [upd_ne ntp]; exact upd_same), rfl, rfl⟩, trivial⟩
abbrev n_Words_whole : List Str := ["self"]
theorem sc_Words_whole : FnScope n_Words_whole ["self"] (defScope s_Words_whole) := ⟨rfl, rfl, rfl, by decide +kernel, rfl, by decide +kernel, by decide +kernel⟩
theorem ok_Words_whole (T : Tx K mg) : Met P w K mg base "Words" "whole" ["self"] 1 (Sp1 (tDom K) tSpans fun d r => r = [(d.lo, d.hi)]) := by
  refine ⟨?_, T.c_Words, T.m_Words_whole, T.f_Words_whole.bindsN fun _ _ _ _ _ _ us hl => match us, hl with | [_], _ => rfl⟩
  refine fn_body T.f_Words_whole sc_Words_whole (fun _ _ _ _ h => len1 h) fun cdv A outer s H vs Q E hr h => ?_
  obtain ⟨ls, v, d, r, rfl, L, rd, rfl, k⟩ := h
  obtain ⟨a, C, dx, fs, rfl, ha, cl, n1, n2, l1, l2⟩ := dom_at T rd
  have ha := cut_at ha
  refine ⟨_, pss_one (ps_ret (pe_lst (pa_cons (pe_tup (pa_cons (pe_fld (pv 0) rfl) (pa_cons (pe_fld (pv 0) rfl) pa_nil))) pa_nil))), ?_⟩
  refine ⟨_, rfl, a, _, dx, _, _, rfl, ha, cl, n1, l1, _, rfl, a, _, dx, _, _, rfl, ha, cl, n2, l2, szl 2, fun t nt => ⟨szl 1, fun p np => ?_⟩⟩
  have ntp : t ≠ p := ne_of_none upd_same np
  have s1 : Same H (upd H t (.tup [.int d.lo, .int d.hi])) := Same.upd nt
  have np0 : H p = none := s1.free np
  exact k _ _ (s1.trans (Same.upd np)) ⟨p, _, rfl, at_cut (L.no np0) upd_same, ⟨t, _, _, rfl, at_cut (L.no nt) (by rw [upd_ne ntp]; exact upd_same), rfl, rfl⟩, trivial⟩
theorem dom_whole (T : Tx K mg) {H : Hp} {v : V} {d : Dom} (h : (tDom K).rep H v d) : ∃ a C dx fs, v = .ref a ∧ H a = some (.ins (He.ga K C) dx fs) ∧ fs.lookup ("whole" : Str) = none ∧ Met P w K mg base C "whole" ["self"] 1 (Sp1 (tDom K) tSpans fun d r => r = [(d.lo, d.hi)]) := by
  cases d with
  | num lo hi =>
    obtain ⟨a, dx, e, h⟩ := h
    exact ⟨a, "Numbers", dx, _, e, h, by unfold fNum; rw [sk (by decide +kernel), sk (by decide +kernel)]; rfl, ok_Numbers_whole T⟩
  | words ws =>
    obtain ⟨a, dx, l, e, h, _⟩ := h
    exact ⟨a, "Words", dx, _, e, h, by unfold fWords; rw [sk (by decide +kernel), sk (by decide +kernel), sk (by decide +kernel)]; rfl, ok_Words_whole T⟩
theorem dom_code (T : Tx K mg) {H : Hp} {v : V} {d : Dom} (h : (tDom K).rep H v d) : ∃ a C dx fs, v = .ref a ∧ H a = some (.ins (He.ga K C) dx fs) ∧ fs.lookup ("code" : Str) = none ∧ Met P w K mg base C "code" ["self", "value"] 2 (Sp2 (tDom K) tVal tInt fun e x r => e = d ∧ bearsF d x = true ∧ r = placeF d x) := by
  cases d with
  | num lo hi =>
    obtain ⟨a, dx, e, h⟩ := h
    have M := ok_Numbers_code (P := P) (w := w) (base := base) T
    exact ⟨a, "Numbers", dx, _, e, h, by unfold fNum; rw [sk (by decide +kernel), sk (by decide +kernel)]; rfl, M.ok.imp fun vs H Q E ⟨ls, v1, v2, x1, x2, r, h1, h2, h3, h4, ⟨h5, h6, h7⟩, h8⟩ => ⟨ls, v1, v2, x1, x2, r, h1, h2, h3, h4, ⟨⟨_, _, h5⟩, h5 ▸ h6, h5 ▸ h7⟩, h8⟩, M.cl, M.hm, M.b⟩
  | words ws =>
    obtain ⟨a, dx, l, e, h, _⟩ := h
    have M := ok_Words_code (P := P) (w := w) (base := base) T
    exact ⟨a, "Words", dx, _, e, h, by unfold fWords; rw [sk (by decide +kernel), sk (by decide +kernel), sk (by decide +kernel)]; rfl, M.ok.imp fun vs H Q E ⟨ls, v1, v2, x1, x2, r, h1, h2, h3, h4, ⟨h5, h6, h7⟩, h8⟩ => ⟨ls, v1, v2, x1, x2, r, h1, h2, h3, h4, ⟨⟨_, h5⟩, h5 ▸ h6, h5 ▸ h7⟩, h8⟩, M.cl, M.hm, M.b⟩
theorem dom_bears (T : Tx K mg) {H : Hp} {v : V} {d : Dom} (h : (tDom K).rep H v d) : ∃ a C dx fs, v = .ref a ∧ H a = some (.ins (He.ga K C) dx fs) ∧ fs.lookup ("bears" : Str) = none ∧ Met P w K mg base C "bears" ["self", "value"] 1 (Sp2 (tDom K) tVal tBool fun e x r => e = d ∧ r = bearsF d x) := by
  cases d with
  | num lo hi =>
    obtain ⟨a, dx, e, h⟩ := h
    have M := ok_Numbers_bears (P := P) (w := w) (base := base) T
    exact ⟨a, "Numbers", dx, _, e, h, by unfold fNum; rw [sk (by decide +kernel), sk (by decide +kernel)]; rfl, M.ok.imp fun vs H Q E ⟨ls, v1, v2, x1, x2, r, h1, h2, h3, h4, ⟨h5, h7⟩, h8⟩ => ⟨ls, v1, v2, x1, x2, r, h1, h2, h3, h4, ⟨⟨_, _, h5⟩, h5 ▸ h7⟩, h8⟩, M.cl, M.hm, M.b⟩
  | words ws =>
    obtain ⟨a, dx, l, e, h, _⟩ := h
    have M := ok_Words_bears (P := P) (w := w) (base := base) T
    exact ⟨a, "Words", dx, _, e, h, by unfold fWords; rw [sk (by decide +kernel), sk (by decide +kernel), sk (by decide +kernel)]; rfl, M.ok.imp fun vs H Q E ⟨ls, v1, v2, x1, x2, r, h1, h2, h3, h4, ⟨h5, h7⟩, h8⟩ => ⟨ls, v1, v2, x1, x2, r, h1, h2, h3, h4, ⟨⟨_, h5⟩, h5 ▸ h7⟩, h8⟩, M.cl, M.hm, M.b⟩
abbrev n_Numbers_written : List Str := ["self"]
theorem sc_Numbers_written : FnScope n_Numbers_written ["self"] (defScope s_Numbers_written) := ⟨rfl, rfl, rfl, by decide +kernel, rfl, by decide +kernel, by decide +kernel⟩
theorem ok_Numbers_written (T : Tx K mg) : Met P w K mg base "Numbers" "written" ["self"] 2 (Sp1 (tDom K) tStr fun d r => d.Ok ∧ (∃ lo hi, d = .num lo hi) ∧ r = domS d) := by
  refine ⟨?_, T.c_Numbers, T.m_Numbers_written, T.f_Numbers_written.bindsN fun _ _ _ _ _ _ us hl => match us, hl with | [_], _ => rfl⟩
  refine fn_body T.f_Numbers_written sc_Numbers_written (fun _ _ _ _ h => len1 h) fun cdv A outer s H vs Q E hr h => ?_
  obtain ⟨ls, v, d, r, rfl, L, rd, ⟨ok, ⟨lo, hi, rfl⟩, rfl⟩, k⟩ := h
  obtain ⟨a, dx, rfl, ha⟩ := rd
  have ha := cut_at ha
  obtain ⟨_, h1, h2⟩ := ok.num lo hi rfl
  have l1 := numS_len h1
  have l2 := numS_len h2
  have l3 : (".." : Str).length = 2 := by decide +kernel
  refine ⟨_, pss_one (ps_ret (pe_op op_add_str (pe_op op_add_str (pe_cD (ok_number_text T) hr (pa_cons (pe_fld (pv 0) rfl) pa_nil)) pe_str) (pe_cD (ok_number_text T) hr (pa_cons (pe_fld (pv 0) rfl) pa_nil)))), ?_⟩
  refine ⟨_, rfl, a, _, dx, _, _, rfl, ha, T.c_Numbers, T.a_Numbers_low, hk_ _ _, ?_⟩
  refine ⟨[], _, lo, _, rfl, Live.nil, rfl, ⟨h1, rfl⟩, fun H1 w1 s1 r1 => ?_⟩
  obtain rfl : w1 = .str (numS lo) := r1
  refine ⟨_, _, rfl, rfl, szl _ (by omega), ?_⟩
  refine ⟨_, rfl, a, _, dx, _, _, rfl, s1 _ _ ha, T.c_Numbers, T.a_Numbers_high, by unfold fNum; rw [sk (by decide +kernel), hk_], ?_⟩
  refine ⟨[], _, hi, _, rfl, Live.nil, rfl, ⟨h2, rfl⟩, fun H2 w2 s2 r2 => ?_⟩
  obtain rfl : w2 = .str (numS hi) := r2
  exact ⟨_, _, rfl, rfl, szl _ (by rw [app_len]; omega), k _ _ (s1.trans s2) rfl⟩
abbrev n_Words_written : List Str := ["self"]
theorem sc_Words_written : FnScope n_Words_written ["self"] (defScope s_Words_written) := ⟨rfl, rfl, rfl, by decide +kernel, rfl, by decide +kernel, by decide +kernel⟩
theorem ok_Words_written (T : Tx K mg) : Met P w K mg base "Words" "written" ["self"] 1 (Sp1 (tDom K) tStr fun d r => d.Ok ∧ (∃ ws, d = .words ws) ∧ r = domS d) := by
  refine ⟨?_, T.c_Words, T.m_Words_written, T.f_Words_written.bindsN fun _ _ _ _ _ _ us hl => match us, hl with | [_], _ => rfl⟩
  refine fn_body T.f_Words_written sc_Words_written (fun _ _ _ _ h => len1 h) fun cdv A outer s H vs Q E hr h => ?_
  obtain ⟨ls, v, d, r, rfl, L, rd, ⟨ok, ⟨ws, rfl⟩, rfl⟩, k⟩ := h
  obtain ⟨a, dx, l, rfl, ha, hl⟩ := rd
  have ha := cut_at ha
  have hl := cut_at hl
  obtain ⟨_, h40, hw, _⟩ := ok.words ws rfl
  refine ⟨_, pss_one (ps_ret (pe_join pe_str (pe_fld (pv 0) rfl))), ?_⟩
  refine ⟨⟨_, rfl⟩, _, rfl, a, _, dx, _, .ref l, rfl, ha, T.c_Words, T.a_Words_words, by unfold fWords; rw [sk (by decide +kernel), sk (by decide +kernel), hk_], _, l, ws, rfl, rfl, .inl (SqL.of hl), ?_, k _ _ (Same.refl _) rfl⟩
  have := join_le ", " (ps := ws) (k := 12) fun p hp => (isWord_len (hw p hp)).2
  have : ws.length * (12 + (", " : Str).length) ≤ 40 * 14 := Nat.mul_le_mul h40 (by decide +kernel)
  omega
theorem dom_written (T : Tx K mg) {H : Hp} {v : V} {d : Dom} (h : (tDom K).rep H v d) : ∃ a C dx fs, v = .ref a ∧ H a = some (.ins (He.ga K C) dx fs) ∧ fs.lookup ("written" : Str) = none ∧ Met P w K mg base C "written" ["self"] 2 (Sp1 (tDom K) tStr fun e r => e = d ∧ d.Ok ∧ r = domS d) := by
  cases d with
  | num lo hi =>
    obtain ⟨a, dx, e, h⟩ := h
    have M := ok_Numbers_written (P := P) (w := w) (base := base) T
    exact ⟨a, "Numbers", dx, _, e, h, by unfold fNum; rw [sk (by decide +kernel), sk (by decide +kernel)]; rfl, M.ok.imp fun vs H Q E ⟨ls, v1, x1, r, h1, h2, h3, ⟨h5, h6, h7⟩, h8⟩ => ⟨ls, v1, x1, r, h1, h2, h3, ⟨h5 ▸ h6, ⟨_, _, h5⟩, h5 ▸ h7⟩, h8⟩, M.cl, M.hm, M.b⟩
  | words ws =>
    obtain ⟨a, dx, l, e, h, _⟩ := h
    have M := ok_Words_written (P := P) (w := w) (base := base) T
    exact ⟨a, "Words", dx, _, e, h, by unfold fWords; rw [sk (by decide +kernel), sk (by decide +kernel), sk (by decide +kernel)]; rfl, (M.ok.mono (by decide)).imp fun vs H Q E ⟨ls, v1, x1, r, h1, h2, h3, ⟨h5, h6, h7⟩, h8⟩ => ⟨ls, v1, x1, r, h1, h2, h3, ⟨h5 ▸ h6, ⟨_, h5⟩, h5 ▸ h7⟩, h8⟩, M.cl, M.hm, M.b⟩
abbrev n_alike : List Str := ["one", "other"]
theorem sc_alike : FnScope n_alike ["one", "other"] (defScope s_alike) := ⟨rfl, rfl, rfl, by decide +kernel, rfl, by decide +kernel, by decide +kernel⟩
theorem ok_alike (T : Tx K mg) : Def P w K mg base "alike" ["one", "other"] 1 (Sp2 (tDom K) (tDom K) tBool fun d e r => d = e ∧ d.Ok ∧ r = true) := by
  refine ⟨?_, T.g_alike, T.f_alike.kp, T.f_alike.bindsN fun _ _ _ _ _ _ us hl => match us, hl with | [_, _], _ => rfl⟩
  refine fn_body T.f_alike sc_alike (fun _ _ _ _ h => len2 h) fun cdv A outer s H vs Q E hr h => ?_
  obtain ⟨ls, v, v2, d, e, r, rfl, L, rd, re, ⟨rfl, ok, rfl⟩, k⟩ := h
  obtain ⟨t1, ty1, k1⟩ := dom_isW T rd
  obtain ⟨t2, ty2, k2⟩ := dom_isW T re
  obtain ⟨t3, ty3, k3⟩ := dom_isN T re
  have mono : ∀ {v t}, TyX K (cut H ls) v t → True := fun _ => trivial
  refine ⟨_, pss_cons (ps_if (pt_val (pe_callB call_isi (by rfl) T.n_isinstance (by decide +kernel) (pa_cons (pv 0) (pa_cons (pe_gc T.g_Words) pa_nil)))) (pss_one (ps_ret (pe_and (pe_callB call_isi (by rfl) T.n_isinstance (by decide +kernel) (pa_cons (pv 1) (pa_cons (pe_gc T.g_Words) pa_nil))) (pe_one (pe_cmpR (op_eqD hr.units) (pe_fld (pv 0) rfl) (pe_fld (pv 1) rfl) (nomark _)))))) pss_nil)
  (pss_one (ps_ret (pe_and (pe_callB call_isi (by rfl) T.n_isinstance (by decide +kernel) (pa_cons (pv 1) (pa_cons (pe_gc T.g_Numbers) pa_nil))) (pe_and (pe_cmpR op_eq (pe_fld (pv 0) rfl) (pe_fld (pv 1) rfl) (nomark _)) (pe_one (pe_cmpR op_eq (pe_fld (pv 0) rfl) (pe_fld (pv 1) rfl) (nomark _))))))), ?_⟩
  cases d with
  | num lo hi =>
    obtain ⟨a, dx, rfl, ha⟩ := rd
    obtain ⟨b, dy, rfl, hb⟩ := re
    have ha := cut_at ha
    have hb := cut_at hb
    refine ⟨_, rfl, _, _, _, _, _, rfl, .own _, .base (.ins ha T.c_Numbers T.o1_Numbers T.o3 T.o4 T.o2_Numbers), T.kNW, _, rfl, iteF ?_⟩
    refine ⟨_, rfl, _, _, _, _, _, rfl, .own _, .base (.ins hb T.c_Numbers T.o1_Numbers T.o3 T.o4 T.o2_Numbers), T.kNN, _, rfl, iteT ?_⟩
    refine ⟨_, rfl, a, _, dx, _, _, rfl, ha, T.c_Numbers, T.a_Numbers_low, hk_ _ _, _, rfl, b, _, dy, _, _, rfl, hb, T.c_Numbers, T.a_Numbers_low, hk_ _ _, rfl, _, rfl, ?_⟩
    rw [decide_eq_true rfl]
    refine iteT ⟨_, rfl, a, _, dx, _, _, rfl, ha, T.c_Numbers, T.a_Numbers_high, by unfold fNum; rw [sk (by decide +kernel), hk_], _, rfl, b, _, dy, _, _, rfl, hb, T.c_Numbers, T.a_Numbers_high, by unfold fNum; rw [sk (by decide +kernel), hk_], rfl, ?_⟩
    exact k _ _ (Same.refl _) (by rw [decide_eq_true rfl]; rfl)
  | words ws =>
    obtain ⟨a, dx, l, rfl, ha, hl⟩ := rd
    obtain ⟨b, dy, m, rfl, hb, hm⟩ := re
    have ha := cut_at ha
    have hb := cut_at hb
    have hl := cut_at hl
    have hm := cut_at hm
    obtain ⟨_, _, hw, _⟩ := ok.words ws rfl
    refine ⟨_, rfl, _, _, _, _, _, rfl, .own _, .base (.ins ha T.c_Words T.o1_Words T.o3 T.o4 T.o2_Words), T.kWW, _, rfl, iteT ?_⟩
    refine ⟨_, rfl, _, _, _, _, _, rfl, .own _, .base (.ins hb T.c_Words T.o1_Words T.o3 T.o4 T.o2_Words), T.kWW, _, rfl, iteT ?_⟩
    have lw : ∀ n l, (fWords n l).lookup ("words" : Str) = some (.ref l) := fun n l => by unfold fWords; rw [sk (by decide +kernel), sk (by decide +kernel), hk_]
    refine ⟨_, rfl, a, _, dx, _, _, rfl, ha, T.c_Words, T.a_Words_words, lw _ _, _, rfl, b, _, dy, _, _, rfl, hb, T.c_Words, T.a_Words_words, lw _ _, _, _, .lst (SqL.of hl) (dp_all_strs ws), .lst (SqL.of hm) (dp_all_strs ws), shaped_words hw, shaped_words hw, k _ _ (Same.refl _) ?_⟩
    show V.bl (PyData.eqvAll _ _) = V.bl true
    rw [eqv_strs, decide_eq_true rfl]
abbrev n_read_domain : List Str := ["text", "ends", "low", "high"]
theorem sc_read_domain : FnScope n_read_domain ["text"] (defScope s_read_domain) := ⟨rfl, rfl, rfl, by decide +kernel, rfl, by decide +kernel, by decide +kernel⟩
theorem ok_read_domain (T : Tx K mg) : Def P w K mg base "read_domain" ["text"] 4 (Sp1 tStr (tDom K) fun s d => d.Ok ∧ s = domS d) := by
  refine ⟨?_, T.g_read_domain, T.f_read_domain.kp, T.f_read_domain.bindsN fun _ _ _ _ _ _ us hl => match us, hl with | [_], _ => rfl⟩
  refine fn_body T.f_read_domain sc_read_domain (fun _ _ _ _ h => len1 h) fun cdv A outer s H vs Q E hr h => ?_
  obtain ⟨ls, v, s, d, rfl, L, rfl, ⟨ok, rfl⟩, k⟩ := h
  have hl := domS_len ok
  have hp := domS_part ok
  refine ⟨_, pss_cons (ps_set (i := 1) sc_read_domain.nd rfl (.inl rfl) (pe_partition (pv 0) pe_str))
  (pss_cons (ps_if (pt_cmpR op_eq (pe_ix ix_tup (pv 1) pe_int (fun _ _ => rfl)) pe_str (nomark _)) (pss_one (ps_ret (pe_mkD (mk_Words T) hr (pa_cons (pe_split (pv 0) pe_str) pa_nil)))) pss_nil)
  (pss_cons (ps_try_never (fun _ _ z => z) (pss_cons (ps_set (i := 2) sc_read_domain.nd rfl (.inl rfl) (pe_cD (ok_number_of T) hr (pa_cons (pe_ix ix_tup (pv 1) pe_int (fun _ _ => rfl)) pa_nil)))
  (pss_one (ps_set (i := 3) sc_read_domain.nd rfl (.inl rfl) (pe_cD (ok_number_of T) hr (pa_cons (pe_ix ix_tup (pv 1) pe_int (fun _ _ => rfl)) pa_nil))))) pss_nil)
  (pss_one (ps_ret (pe_mkD (mk_Numbers T) hr (pa_cons (pv 2) (pa_cons (pv 3) pa_nil))))))), ?_⟩
  refine ⟨_, rfl, ⟨_, rfl⟩, _, _, rfl, rfl, by decide +kernel, szl (domS d).length (by omega), fun p np => ?_⟩
  rw [hp]
  cases d with
  | words ws =>
    have s1 : Same H _ := Same.upd (o := .tup [.str (domS (.words ws)), .str Str.empty, .str Str.empty]) np
    refine ⟨_, rfl, p, _, 1, _, rfl, rfl, SqT.of upd_same, at_of (j := 1) rfl rfl, rfl, _, rfl, ?_⟩
    refine ifY (show V.str Str.empty = V.str "" by decide +kernel) ?_
    refine ⟨_, rfl, ⟨_, rfl⟩, _, _, rfl, rfl, by decide +kernel, szl ((domS (.words ws)).length + 2) (by omega), ?_⟩
    rw [domS_split ok]
    intro q nq x dx nx nd ne
    have s2 := s1.trans (Same.upd (o := .lst (ws.map V.str)) nq)
    have s3 := (s2.trans (Same.upd (o := .own x) nd)).mut (o := .ins (He.ga K "Words") dx []) (s2.free nx)
    have nqx : q ≠ x := ne_of_none upd_same nx
    have nqd : q ≠ dx := ne_of_none upd_same nd
    refine ⟨x, dx, q, ws, rfl, ok, by rw [upd_ne nqx, upd_ne nqd]; exact upd_same, upd_same, fun H' l hl' hx' hk nl nlo => ⟨rfl, ?_⟩⟩
    have s4 : Same H H' := fun b o hb => hk b o (s3 b o hb) (fun e => by rw [e, s2.free nx] at hb; cases hb)
    have nx0 := s2.free nx
    have nl0 := s3.free nlo
    exact k _ _ s4 ⟨x, dx, l, rfl, at_cut (L.no nx0) hx', at_cut (L.no nl0) hl'⟩
  | num lo hi =>
    obtain ⟨hle, h1, h2⟩ := ok.num lo hi rfl
    have s1 : Same H _ := Same.upd (o := .tup [.str (numS lo), .str "..", .str (numS hi)]) np
    refine ⟨_, rfl, p, _, 1, _, rfl, rfl, SqT.of upd_same, at_of (j := 1) rfl rfl, rfl, _, rfl, ?_⟩
    refine ifN (strI (show ¬ (".." : Str) = "" by decide +kernel)) ?_
    refine ⟨_, rfl, p, _, 0, _, rfl, rfl, SqT.of upd_same, at_of (j := 0) rfl rfl, ?_⟩
    refine ⟨[], _, _, lo, rfl, Live.nil, rfl, ⟨rfl, h1⟩, fun H1 w1 s2 r1 => ?_⟩
    obtain rfl : w1 = .int lo := r1
    refine ⟨_, rfl, p, _, 2, _, rfl, rfl, SqT.of (s2 _ _ upd_same), at_of (j := 2) rfl rfl, ?_⟩
    refine ⟨[], _, _, hi, rfl, Live.nil, rfl, ⟨rfl, h2⟩, fun H2 w2 s3 r2 => ?_⟩
    obtain rfl : w2 = .int hi := r2
    refine ⟨_, rfl, _, rfl, fun x dx nx nd ne => ?_⟩
    have s4 := (s1.trans s2).trans s3
    refine ⟨x, dx, lo, hi, rfl, hle, upd_same, rfl, ?_⟩
    have nx0 := s4.free nx
    exact k _ _ (((s4.trans (Same.upd (o := .own x) nd)).mut nx0).mut nx0) ⟨x, dx, rfl, at_cut (L.no nx0) upd_same⟩
end
end Rk
set_option Elab.async false
set_option linter.all false
set_option maxRecDepth 100000
set_option maxHeartbeats 1000000
namespace Rk
open PySem PySem.Spec PyProof.Rows L2
open TL
def valS : Dom → Int → Str
  | .num _ _, c => numS c
  | .words ws, c => wordAt ws c
theorem wordAt_mem {ws : List Str} {c : Int} (h : 0 ≤ c) (h2 : c ≤ (ws.length : Int) - 1) : ws[c.toNat]? = some (wordAt ws c) := by
  unfold wordAt
  have : c.toNat < ws.length := by omega
  rw [List.getD_eq_getElem?_getD, List.getElem?_eq_getElem this, Option.getD_some]
theorem valS_bears {d : Dom} {c : Int} (h : d.lo ≤ c) (h2 : c ≤ d.hi) : ∀ ws, d = .words ws → bearsF d (.str (valS d c)) = true := by
  rintro ws rfl
  exact decide_eq_true (List.mem_of_getElem? (wordAt_mem h h2))
theorem valS_place {d : Dom} (ok : d.Ok) {c : Int} (h : d.lo ≤ c) (h2 : c ≤ d.hi) : ∀ ws, d = .words ws → placeF d (.str (valS d c)) = c := by
  rintro ws rfl
  have hnd := (ok.words ws rfl).2.2.2
  have e := wordAt_mem h h2
  obtain ⟨hl, e⟩ := List.getElem?_eq_some_iff.mp e
  show ((ws.idxOf (wordAt ws c) : Nat) : Int) = c
  rw [← e, hnd.idxOf_getElem _ hl]
  have : 0 ≤ c := h
  omega
def spanD (sp : Spans) : PyData := .list (sp.map fun p => .tuple [.int p.1, .int p.2])
theorem dp_spans {K : PySem.W.Frag} {H : Hp} {v : V} {sp : Spans} (h : tSpans.rep H v sp) : Dp K H v (spanD sp) := by
  obtain ⟨a, vs, rfl, ha, rs⟩ := h
  refine .lst (SqL.of ha) ?_
  clear ha
  induction vs generalizing sp with
  | nil => cases sp with
    | nil => exact .nil
    | cons _ _ => exact rs.elim
  | cons v vs ih => cases sp with
    | nil => exact rs.elim
    | cons p sp =>
      obtain ⟨⟨t, u1, u2, rfl, ht, rfl, rfl⟩, rs⟩ := rs
      exact .cons (.tup (SqT.of ht) (.cons (.int _) (.cons (.int _) .nil))) (ih rs)
theorem shaped_spans (sp : Spans) : SeqAt.shaped (spanD sp) = true := by
  have h1 : ∀ sp : Spans, PyData.canLayAll0 (sp.map fun p => PyData.tuple [.int p.1, .int p.2]) = true := by
    intro sp
    induction sp with
    | nil => rfl
    | cons p sp ih => exact ih
  have h2 : ∀ sp : Spans, PyData.depthAll (sp.map fun p => PyData.tuple [.int p.1, .int p.2]) ≤ 1 := by
    intro sp
    induction sp with
    | nil => exact Nat.zero_le _
    | cons p sp ih =>
      show max 1 (PyData.depthAll (sp.map fun p => PyData.tuple [.int p.1, .int p.2])) ≤ 1
      omega
  unfold SeqAt.shaped
  refine Bool.and_eq_true_iff.mpr ⟨h1 sp, decide_eq_true ?_⟩
  show PyData.depthAll (sp.map fun p => PyData.tuple [.int p.1, .int p.2]) + 1 ≤ 64
  have := h2 sp
  omega
theorem eqv_spans : ∀ a b : Spans, PyData.eqv (spanD a) (spanD b) = decide (a = b)
  | [], [] => rfl
  | [], _ :: _ => rfl
  | _ :: _, [] => rfl
  | x :: a, y :: b => by
    have ih := eqv_spans a b
    show ((x.1 == y.1 && (x.2 == y.2 && true)) && PyData.eqv (spanD a) (spanD b)) = _
    rw [ih, Bool.and_true]
    obtain ⟨x1, x2⟩ := x
    obtain ⟨y1, y2⟩ := y
    by_cases h1 : x1 = y1
    · by_cases h2 : x2 = y2
      · subst h1 h2
        by_cases h3 : a = b
        · subst h3; simp
        · rw [decide_eq_false h3, decide_eq_false (fun e => h3 (List.cons.inj e).2), Bool.and_false]
      · rw [show (x2 == y2) = false from beq_eq_false_iff_ne.mpr h2, Bool.and_false, Bool.false_and]
        exact (decide_eq_false fun e => h2 (congrArg Prod.snd (List.cons.inj e).1)).symm
    · rw [show (x1 == y1) = false from beq_eq_false_iff_ne.mpr h1, Bool.false_and, Bool.false_and]
      exact (decide_eq_false fun e => h1 (congrArg Prod.fst (List.cons.inj e).1)).symm
theorem wlk {lo hi : Int} (n : V) : (fNum lo hi).lookup ("words" : Str) = none := by unfold fNum; rw [sk (by decide +kernel), sk (by decide +kernel)]; rfl
section
variable {P : Program} {w : World} {K : PySem.W.Frag} {mg : Str → Option Value} {base : Heap}
abbrev n_read_end : List Str := ["domain", "text", "number"]
theorem sc_read_end : FnScope n_read_end ["domain", "text"] (defScope s_read_end) := ⟨rfl, rfl, rfl, by decide +kernel, rfl, by decide +kernel, by decide +kernel⟩
theorem ok_read_end (T : Tx K mg) : Def P w K mg base "read_end" ["domain", "text"] 3 (Sp2 (tDom K) tStr tInt fun d s n => ∃ lo hi, d = .num lo hi ∧ d.Ok ∧ s = numS n ∧ lo ≤ n ∧ n ≤ hi) := by
  refine ⟨?_, T.g_read_end, T.f_read_end.kp, T.f_read_end.bindsN fun _ _ _ _ _ _ us hl => match us, hl with | [_, _], _ => rfl⟩
  refine fn_body T.f_read_end sc_read_end (fun _ _ _ _ h => len2 h) fun cdv A outer s H vs Q E hr h => ?_
  obtain ⟨ls, v, vs, d, s, n, rfl, L, rd, rfl, ⟨lo, hi, rfl, ok, rfl, h1, h2⟩, k⟩ := h
  obtain ⟨_, s1, s2⟩ := ok.num lo hi rfl
  have sn := small_in s1 s2 h1 h2
  refine ⟨_, pss_cons (ps_try_never (fun _ _ z => z) (pss_one (ps_set (i := 2) sc_read_end.nd rfl (.inl rfl) (pe_cD (ok_number_of T) hr (pa_cons (pv 1) pa_nil)))) pss_nil)
  (pss_cons (ps_if (pt_not (pt_val (pe_disp (P := P) (w := w) (K := K) (mg := mg) (base := base) (pv 0) hr (pa_cons (pv 2) pa_nil)))) (pss_one ps_never) pss_nil)
  (pss_one (ps_ret (pv 2)))), ?_⟩
  refine ⟨_, rfl, ?_⟩
  refine ⟨[], _, _, n, rfl, Live.nil, rfl, ⟨rfl, sn⟩, fun H1 w1 e1 r1 => ?_⟩
  obtain rfl : w1 = .int n := r1
  obtain ⟨a, C, dx, fs, rfl, ha, nm, M⟩ := dom_bears (P := P) (w := w) (base := base) T ((tDom K).mono (e1.trans (Same.refl _)) ((tDom K).mono cut_sub rd))
  refine ⟨_, rfl, a, C, dx, fs, _, rfl, ha, nm, ⟨_, _, by decide, M⟩, _, rfl, ?_⟩
  refine ⟨[], _, _, _, .int n, true, rfl, Live.nil, by rw [cut_nil]; exact (tDom K).mono e1 ((tDom K).mono cut_sub rd), rfl, ⟨rfl, ?_⟩, fun H2 w2 e2 r2 => ?_⟩
  · show true = (decide (lo ≤ n) && decide (n ≤ hi))
    rw [decide_eq_true h1, decide_eq_true h2]; rfl
  obtain rfl : w2 = .bl true := r2
  refine ⟨_, rfl, iteF ⟨_, rfl, k _ _ (e1.trans e2) rfl⟩⟩
abbrev n_read_stretch : List Str := ["domain", "text", "ends", "number", "low", "high"]
theorem sc_read_stretch : FnScope n_read_stretch ["domain", "text"] (defScope s_read_stretch) := ⟨rfl, rfl, rfl, by decide +kernel, rfl, by decide +kernel, by decide +kernel⟩
theorem ok_read_stretch (T : Tx K mg) : Def P w K mg base "read_stretch" ["domain", "text"] 4 (Sp2 (tDom K) tStr (tPair tInt tInt) fun d s r => ∃ lo hi p, d = .num lo hi ∧ d.Ok ∧ PtOk d p ∧ s = ptS p ∧ r = ptV d p) := by
  refine ⟨?_, T.g_read_stretch, T.f_read_stretch.kp, T.f_read_stretch.bindsN fun _ _ _ _ _ _ us hl => match us, hl with | [_, _], _ => rfl⟩
  refine fn_body T.f_read_stretch sc_read_stretch (fun _ _ _ _ h => len2 h) fun cdv A outer s H vs Q E hr h => ?_
  obtain ⟨ls, v, vs, d, s, r, rfl, L, rd, rfl, ⟨lo, hi, p, rfl, ok, hp, rfl, rfl⟩, k⟩ := h
  have hl := pt_len ok hp
  have e := pt_part ok hp
  have hle := (ok.num lo hi rfl).1
  have pair : ∀ (H1 : Hp) (a b : Int), Same H H1 → (a, b) = ptV (.num lo hi) p → ∀ T, H1 T = none → Q (.ref T) (upd H1 T (.tup [.int a, .int b])) := fun H1 a b s1 e T nT => by
    refine k _ _ (s1.trans (Same.upd nT)) ?_
    rw [← e]
    exact ⟨T, _, _, rfl, at_cut (L.no (s1.free nT)) upd_same, rfl, rfl⟩
  obtain ⟨ad, dx, rfl, had⟩ := id rd
  have had := cut_at had
  have lh : (fNum lo hi).lookup ("high" : Str) = some (.int hi) := by unfold fNum; rw [sk (by decide +kernel), hk_]
  have ne : ∀ n, ¬ numS n = "" := fun n q => numS_ne n (by rw [q]; rfl)
  have ee : (Str.empty : Str) = "" := by decide +kernel
  have ed : ¬ (".." : Str) = "" := by decide +kernel
  refine ⟨_, pss_cons (ps_set (i := 2) sc_read_stretch.nd rfl (.inl rfl) (pe_partition (pv 1) pe_str))
  (pss_cons (ps_if (pt_cmpR op_eq (pe_ix ix_tup (pv 2) pe_int (fun _ _ => rfl)) pe_str (nomark _)) (pss_cons (ps_set (i := 3) sc_read_stretch.nd rfl (.inl rfl) (pe_cD (ok_read_end T) hr (pa_cons (pv 0) (pa_cons (pv 1) pa_nil))))
  (pss_one (ps_ret (pe_tup (pa_cons (pv 3) (pa_cons (pv 3) pa_nil)))))) pss_nil)
  (pss_cons (ps_if (PW.pt (pw_and (pt_cmpR op_eq (pe_ix ix_tup (pv 2) pe_int (fun _ _ => rfl)) pe_str (nomark _)) (pw_and1 (pt_cmpR op_eq (pe_ix ix_tup (pv 2) pe_int (fun _ _ => rfl)) pe_str (nomark _))))) (pss_one ps_never) pss_nil)
  (pss_cons (ps_set (i := 4) sc_read_stretch.nd rfl (.inl rfl) (pe_fld (pv 0) rfl))
  (pss_cons (ps_set (i := 5) sc_read_stretch.nd rfl (.inl rfl) (pe_fld (pv 0) rfl))
  (pss_cons (ps_if (pt_cmpR op_ne (pe_ix ix_tup (pv 2) pe_int (fun _ _ => rfl)) pe_str (nomark _)) (pss_one (ps_set (i := 4) sc_read_stretch.nd rfl (.inl rfl) (pe_cD (ok_read_end T) hr (pa_cons (pv 0) (pa_cons (pe_ix ix_tup (pv 2) pe_int (fun _ _ => rfl)) pa_nil))))) pss_nil)
  (pss_cons (ps_if (pt_cmpR op_ne (pe_ix ix_tup (pv 2) pe_int (fun _ _ => rfl)) pe_str (nomark _)) (pss_one (ps_set (i := 5) sc_read_stretch.nd rfl (.inl rfl) (pe_cD (ok_read_end T) hr (pa_cons (pv 0) (pa_cons (pe_ix ix_tup (pv 2) pe_int (fun _ _ => rfl)) pa_nil))))) pss_nil)
  (pss_cons (ps_if (pt_cmpR op_gt (pv 4) (pv 5) (nomark _)) (pss_one ps_never) pss_nil)
  (pss_one (ps_ret (pe_tup (pa_cons (pv 4) (pa_cons (pv 5) pa_nil)))))))))))), ?_⟩
  refine ⟨_, rfl, ⟨_, rfl⟩, _, _, rfl, rfl, by decide +kernel, szl (ptS p).length (by omega), fun t nt => ?_⟩
  rw [e]
  cases p with
  | word w => exact hp.elim
  | one n =>
    have s1 : Same H _ := Same.upd (o := .tup [.str (numS n), .str Str.empty, .str Str.empty]) nt
    refine ⟨_, rfl, t, _, 1, _, rfl, rfl, SqT.of upd_same, at_of (j := 1) rfl rfl, rfl, _, rfl, ?_⟩
    refine ifY (by rw [ee]) ?_
    refine ⟨_, rfl, _, rfl, ls, _, _, _, _, n, rfl, L.to s1, (tDom K).mono s1.cut rd, rfl, ⟨lo, hi, rfl, ok, rfl, hp.1, hp.2⟩, fun H2 w2 s2 r2 => ?_⟩
    obtain rfl : w2 = .int n := r2
    exact ⟨_, rfl, _, rfl, szl 2, pair _ _ _ (s1.trans s2) rfl⟩
  | ab a b =>
    have s1 : Same H _ := Same.upd (o := .tup [.str (numS a), .str "..", .str (numS b)]) nt
    refine ⟨_, rfl, t, _, 1, _, rfl, rfl, SqT.of upd_same, at_of (j := 1) rfl rfl, rfl, _, rfl, ?_⟩
    refine ifN (strI ed) ?_
    refine ⟨_, rfl, t, _, 0, _, rfl, rfl, SqT.of upd_same, at_of (j := 0) rfl rfl, rfl, _, rfl, ?_⟩
    refine ifN (strI (ne a)) ?_
    refine iteF ?_
    refine ⟨_, rfl, ad, _, dx, _, _, rfl, s1 _ _ had, T.c_Numbers, T.a_Numbers_low, hk_ _ _, ?_⟩
    refine ⟨_, rfl, ad, _, dx, _, _, rfl, s1 _ _ had, T.c_Numbers, T.a_Numbers_high, lh, ?_⟩
    refine ⟨_, rfl, t, _, 0, _, rfl, rfl, SqT.of upd_same, at_of (j := 0) rfl rfl, rfl, _, rfl, ?_⟩
    refine iteNT (strI (ne a)) ?_
    refine ⟨_, rfl, _, rfl, t, _, 0, _, rfl, rfl, SqT.of upd_same, at_of (j := 0) rfl rfl, ls, _, _, _, _, a, rfl, L.to s1, (tDom K).mono s1.cut rd, rfl, ⟨lo, hi, rfl, ok, rfl, hp.1, Int.le_trans hp.2.1 hp.2.2⟩, fun H2 w2 s2 r2 => ?_⟩
    obtain rfl : w2 = .int a := r2
    have s3 := s1.trans s2
    refine ⟨_, rfl, t, _, 2, _, rfl, rfl, SqT.of (s2 _ _ upd_same), at_of (j := 2) rfl rfl, rfl, _, rfl, ?_⟩
    refine iteNT (strI (ne b)) ?_
    refine ⟨_, rfl, _, rfl, t, _, 2, _, rfl, rfl, SqT.of (s2 _ _ upd_same), at_of (j := 2) rfl rfl, ls, _, _, _, _, b, rfl, L.to s3, (tDom K).mono s3.cut rd, rfl, ⟨lo, hi, rfl, ok, rfl, Int.le_trans hp.1 hp.2.1, hp.2.2⟩, fun H3 w3 s4 r3 => ?_⟩
    obtain rfl : w3 = .int b := r3
    refine ⟨_, rfl, _, rfl, _, _, rfl, rfl, _, rfl, ifN (by have := hp.2.1; omega) ?_⟩
    exact ⟨_, rfl, _, rfl, szl 2, pair _ _ _ (s3.trans s4) rfl⟩
  | upto b =>
    have s1 : Same H _ := Same.upd (o := .tup [.str Str.empty, .str "..", .str (numS b)]) nt
    refine ⟨_, rfl, t, _, 1, _, rfl, rfl, SqT.of upd_same, at_of (j := 1) rfl rfl, rfl, _, rfl, ?_⟩
    refine ifN (strI ed) ?_
    refine ⟨_, rfl, t, _, 0, _, rfl, rfl, SqT.of upd_same, at_of (j := 0) rfl rfl, rfl, _, rfl, ?_⟩
    refine ifY (by rw [ee]) ?_
    refine ⟨_, rfl, t, _, 2, _, rfl, rfl, SqT.of upd_same, at_of (j := 2) rfl rfl, rfl, _, rfl, ?_⟩
    refine ifN (strI (ne b)) ?_
    refine ⟨_, rfl, ad, _, dx, _, _, rfl, s1 _ _ had, T.c_Numbers, T.a_Numbers_low, hk_ _ _, ?_⟩
    refine ⟨_, rfl, ad, _, dx, _, _, rfl, s1 _ _ had, T.c_Numbers, T.a_Numbers_high, lh, ?_⟩
    refine ⟨_, rfl, t, _, 0, _, rfl, rfl, SqT.of upd_same, at_of (j := 0) rfl rfl, rfl, _, rfl, ?_⟩
    refine iteNS (by rw [ee]) ?_
    refine ⟨_, rfl, t, _, 2, _, rfl, rfl, SqT.of upd_same, at_of (j := 2) rfl rfl, rfl, _, rfl, ?_⟩
    refine iteNT (strI (ne b)) ?_
    refine ⟨_, rfl, _, rfl, t, _, 2, _, rfl, rfl, SqT.of upd_same, at_of (j := 2) rfl rfl, ls, _, _, _, _, b, rfl, L.to s1, (tDom K).mono s1.cut rd, rfl, ⟨lo, hi, rfl, ok, rfl, hp.1, hp.2⟩, fun H3 w3 s4 r3 => ?_⟩
    obtain rfl : w3 = .int b := r3
    refine ⟨_, rfl, _, rfl, _, _, rfl, rfl, _, rfl, ifN (by have := hp.1; omega) ?_⟩
    exact ⟨_, rfl, _, rfl, szl 2, pair _ _ _ (s1.trans s4) rfl⟩
  | frm a =>
    have s1 : Same H _ := Same.upd (o := .tup [.str (numS a), .str "..", .str Str.empty]) nt
    refine ⟨_, rfl, t, _, 1, _, rfl, rfl, SqT.of upd_same, at_of (j := 1) rfl rfl, rfl, _, rfl, ?_⟩
    refine ifN (strI ed) ?_
    refine ⟨_, rfl, t, _, 0, _, rfl, rfl, SqT.of upd_same, at_of (j := 0) rfl rfl, rfl, _, rfl, ?_⟩
    refine ifN (strI (ne a)) ?_
    refine iteF ?_
    refine ⟨_, rfl, ad, _, dx, _, _, rfl, s1 _ _ had, T.c_Numbers, T.a_Numbers_low, hk_ _ _, ?_⟩
    refine ⟨_, rfl, ad, _, dx, _, _, rfl, s1 _ _ had, T.c_Numbers, T.a_Numbers_high, lh, ?_⟩
    refine ⟨_, rfl, t, _, 0, _, rfl, rfl, SqT.of upd_same, at_of (j := 0) rfl rfl, rfl, _, rfl, ?_⟩
    refine iteNT (strI (ne a)) ?_
    refine ⟨_, rfl, _, rfl, t, _, 0, _, rfl, rfl, SqT.of upd_same, at_of (j := 0) rfl rfl, ls, _, _, _, _, a, rfl, L.to s1, (tDom K).mono s1.cut rd, rfl, ⟨lo, hi, rfl, ok, rfl, hp.1, hp.2⟩, fun H2 w2 s2 r2 => ?_⟩
    obtain rfl : w2 = .int a := r2
    refine ⟨_, rfl, t, _, 2, _, rfl, rfl, SqT.of (s2 _ _ upd_same), at_of (j := 2) rfl rfl, rfl, _, rfl, ?_⟩
    refine iteNS (by rw [ee]) ?_
    refine ⟨_, rfl, _, rfl, _, _, rfl, rfl, _, rfl, ifN (by have := hp.2; omega) ?_⟩
    exact ⟨_, rfl, _, rfl, szl 2, pair _ _ _ (s1.trans s2) rfl⟩
abbrev n_read_part : List Str := ["domain", "text", "at"]
theorem sc_read_part : FnScope n_read_part ["domain", "text"] (defScope s_read_part) := ⟨rfl, rfl, rfl, by decide +kernel, rfl, by decide +kernel, by decide +kernel⟩
theorem ok_read_part (T : Tx K mg) : Def P w K mg base "read_part" ["domain", "text"] 5 (Sp2 (tDom K) tStr (tPair tInt tInt) fun d s r => ∃ p, d.Ok ∧ PtOk d p ∧ s = ptS p ∧ r = ptV d p) := by
  refine ⟨?_, T.g_read_part, T.f_read_part.kp, T.f_read_part.bindsN fun _ _ _ _ _ _ us hl => match us, hl with | [_, _], _ => rfl⟩
  refine fn_body T.f_read_part sc_read_part (fun _ _ _ _ h => len2 h) fun cdv A outer s H vs Q E hr h => ?_
  obtain ⟨ls, v, vs, d, s, r, rfl, L, rd, rfl, ⟨p, ok, hp, rfl, rfl⟩, k⟩ := h
  have rdH := (tDom K).mono cut_sub rd
  obtain ⟨t1, ty1, k1⟩ := dom_isW T rdH
  refine ⟨_, pss_cons (ps_if (pt_not (pt_val (pe_callB call_isi (by rfl) T.n_isinstance (by decide +kernel) (pa_cons (pv 0) (pa_cons (pe_gc T.g_Words) pa_nil))))) (pss_one (ps_ret (pe_cD (ok_read_stretch T) hr (pa_cons (pv 0) (pa_cons (pv 1) pa_nil))))) pss_nil)
  (pss_cons (ps_if (pt_not (pt_val (pe_disp (P := P) (w := w) (K := K) (mg := mg) (base := base) (pv 0) hr (pa_cons (pv 1) pa_nil)))) (pss_one ps_never) pss_nil)
  (pss_cons (ps_set (i := 2) sc_read_part.nd rfl (.inl rfl) (pe_disp (P := P) (w := w) (K := K) (mg := mg) (base := base) (pv 0) hr (pa_cons (pv 1) pa_nil)))
  (pss_one (ps_ret (pe_tup (pa_cons (pv 2) (pa_cons (pv 2) pa_nil))))))), ?_⟩
  refine ⟨_, rfl, _, _, _, _, _, rfl, .own _, ty1, k1, _, rfl, ?_⟩
  cases d with
  | num lo hi =>
    refine iteT ?_
    exact ⟨_, rfl, _, rfl, ls, _, _, _, _, _, rfl, L, rd, rfl, ⟨lo, hi, p, rfl, ok, hp, rfl, rfl⟩, k⟩
  | words ws =>
    refine iteF ?_
    cases p with
    | word w =>
      have hm : w ∈ ws := hp
      obtain ⟨a, C, dx, fs, rfl, ha, nm, M⟩ := dom_bears (P := P) (w := _) (base := base) T rdH
      refine ⟨_, rfl, a, C, dx, fs, _, rfl, ha, nm, ⟨_, _, by decide, M⟩, _, rfl, ?_⟩
      refine ⟨ls, _, _, _, .str w, true, rfl, L, rd, rfl, ⟨rfl, (decide_eq_true hm).symm⟩, fun H1 w1 s1 r1 => ?_⟩
      obtain rfl : w1 = .bl true := r1
      refine ⟨_, rfl, iteF ?_⟩
      obtain ⟨a', C', dx', fs', e', ha', nm', M'⟩ := dom_code (P := P) (w := _) (base := base) T ((tDom K).mono s1 rdH)
      cases e'
      refine ⟨_, rfl, _, C', dx', fs', _, rfl, ha', nm', ⟨_, _, by decide, M'⟩, _, rfl, ?_⟩
      refine ⟨ls, _, _, _, .str w, _, rfl, L.to s1, (tDom K).mono s1.cut rd, rfl, ⟨rfl, decide_eq_true hm, rfl⟩, fun H2 w2 s2 r2 => ?_⟩
      obtain rfl : w2 = _ := r2
      refine ⟨_, rfl, _, rfl, szl 2, fun t nt => k _ _ ((s1.trans s2).trans (Same.upd nt)) ⟨t, _, _, rfl, at_cut (L.no ((s1.trans s2).free nt)) upd_same, rfl, rfl⟩⟩
    | _ => exact hp.elim
end
end Rk
set_option Elab.async false
set_option linter.all false
set_option maxRecDepth 100000
set_option maxHeartbeats 1000000
namespace Rk
open PySem PySem.Spec PyProof.Rows L2
open TL
theorem word_shown {ws : List Str} : ∀ (q : Int × Int), True := fun _ => trivial
theorem showPt_len {lo hi : Int} (ok : (Dom.num lo hi).Ok) {q : Int × Int} (h1 : lo ≤ q.1) (h2 : q.1 ≤ q.2) (h3 : q.2 ≤ hi) : PtOk (.num lo hi) (showPt (.num lo hi) q) ∧ ptV (.num lo hi) (showPt (.num lo hi) q) = q := by
  unfold showPt
  split
  · rename_i e
    exact ⟨⟨h1, by omega⟩, by show (q.1, q.1) = q; rw [show (q.1, q.1) = (q.1, q.2) by rw [← e]]⟩
  · split
    · rename_i e
      have e : q.1 = lo := e
      exact ⟨⟨by omega, h3⟩, by show (lo, q.2) = q; rw [← e]⟩
    · split
      · rename_i e
        have e : q.2 = hi := e
        exact ⟨⟨h1, by omega⟩, by show (q.1, hi) = q; rw [← e]⟩
      · exact ⟨⟨h1, h2, h3⟩, rfl⟩
section
variable {P : Program} {w : World} {K : PySem.W.Frag} {mg : Str → Option Value} {base : Heap}
abbrev n_read_cell : List Str := ["domain", "text", "turned", "rest", "found", "part"]
theorem sc_read_cell : FnScope n_read_cell ["domain", "text"] (defScope s_read_cell) := ⟨rfl, rfl, rfl, by decide +kernel, rfl, by decide +kernel, by decide +kernel⟩
theorem ok_read_cell (T : Tx K mg) : Def P w K mg base "read_cell" ["domain", "text"] 6 (Sp2 (tDom K) tStr tSpans fun d s r => ∃ f, d.Ok ∧ FlOk d f ∧ s = flS f ∧ r = flV d f) := by
  refine ⟨?_, T.g_read_cell, T.f_read_cell.kp, T.f_read_cell.bindsN fun _ _ _ _ _ _ us hl => match us, hl with | [_, _], _ => rfl⟩
  refine fn_body T.f_read_cell sc_read_cell (fun _ _ _ _ h => len2 h) fun cdv A outer s H vs Q E hr h => ?_
  obtain ⟨ls, v, vs, d, s, r, rfl, L, rd, rfl, ⟨f, ok, hf, rfl, rfl⟩, k⟩ := h
  have hl := flS_len ok hf
  have hz : (flS f).length ≤ sizeLine := Nat.le_trans hl (by decide)
  have e4 : decide (V.str (cutS (flS f) none (some 4)) = V.str "not ") = decide ((tl (flS f)).take 4 = [110, 111, 116, 32]) := by
    refine decide_eq_decide.mpr ⟨fun q => ?_, fun q => ?_⟩
    · have := congrArg tl (V.str.inj q)
      rw [tl_not] at this
      rw [← this]
      exact (tl_cut_to (flS f) 4).symm
    · have := tl_cut_to (flS f) 4
      rw [show cutS (flS f) none (some 4) = "not " from ext_tl (by rw [tl_not, ← q]; exact this)]
  refine ⟨_, pss_cons (ps_set (i := 2) sc_read_cell.nd rfl (.inl rfl) (pe_cmpR op_eq (pe_slice sl_str (pv 1) po_none (po_some pe_int)) pe_str (nomark _)))
  (pss_cons (ps_set (i := 3) sc_read_cell.nd rfl (.inl rfl) (pv 1))
  (pss_cons (ps_if (pt_val (pv 2)) (pss_one (ps_set (i := 3) sc_read_cell.nd rfl (.inl rfl) (pe_slice sl_str (pv 1) (po_some pe_int) po_none))) pss_nil)
  (pss_cons (ps_set (i := 4) sc_read_cell.nd rfl (.inl rfl) (pe_disp0 (P := P) (w := w) (K := K) (mg := mg) (base := base) (pv 0) hr))
  (pss_cons (ps_if (pt_cmpR op_ne (pv 3) pe_str (nomark _)) (pss_one (ps_set (i := 4) sc_read_cell.nd rfl (.inl rfl) (pe_cD (ok_tidy T) hr (pa_cons (pe_lc (own := [("part", 5)]) (g := gName 5) rfl sc_read_cell.nd (pi_list (pe_split (pv 3) pe_str)) (blkOk_by (own := [("part", 5)]) (N := n_read_cell) (sc := defScope s_read_cell) (by decide +kernel)) (fun _ _ _ _ _ => (pg_name (i := 5) sc_read_cell.nd rfl (.inl rfl))) (fun _ _ _ _ _ => pts_nil) (fun _ _ _ _ _ => (pe_cD (ok_read_part T) hr (pa_cons (pv 0) (pa_cons (pv 5) pa_nil))))) pa_nil)))) pss_nil)
  (pss_cons (ps_if (pt_val (pv 2)) (pss_one (ps_ret (pe_cD (ok_without T) hr (pa_cons (pe_disp0 (P := P) (w := w) (K := K) (mg := mg) (base := base) (pv 0) hr) (pa_cons (pv 4) pa_nil))))) pss_nil)
  (pss_one (ps_ret (pv 4)))))))), ?_⟩
  refine ⟨_, rfl, 4, rfl, _, rfl, hz, rfl, ?_⟩
  refine ⟨_, rfl, ?_⟩
  have whole : ∀ (H1 : Hp) (s1 : Same H H1), ∃ a C dx fs, v = .ref a ∧ H1 a = some (.ins (He.ga K C) dx fs) ∧ fs.lookup ("whole" : Str) = none ∧ Met P w K mg base C "whole" ["self"] 1 (Sp1 (tDom K) tSpans fun d r => r = [(d.lo, d.hi)]) := fun H1 s1 => dom_whole T ((tDom K).mono s1 ((tDom K).mono cut_sub rd))
  cases f with
  | all =>
    refine ⟨_, rfl, _, rfl, ?_⟩
    rw [show decide (V.str (cutS (flS .all) none (some 4)) = V.str "not ") = false from e4.trans (by decide +kernel)]
    refine iteF ?_
    obtain ⟨a, C, dx, fs, ev, ha, nm, M⟩ := whole H (Same.refl _)
    refine ⟨_, rfl, a, C, dx, fs, _, ev, ha, nm, ⟨_, _, by decide, M⟩, ?_⟩
    refine ⟨ls, _, _, _, rfl, L, rd, rfl, fun H1 w1 s1 r1 => ?_⟩
    refine ⟨_, rfl, rfl, _, rfl, iteNS (by rfl) ?_⟩
    refine ⟨_, rfl, _, rfl, iteF ?_⟩
    exact ⟨_, rfl, k _ _ s1 r1⟩
  | none =>
    refine ⟨_, rfl, _, rfl, ?_⟩
    rw [show decide (V.str (cutS (flS .none) none (some 4)) = V.str "not ") = true from e4.trans (by decide +kernel)]
    refine iteT ?_
    refine ⟨_, rfl, 4, rfl, _, rfl, hz, ?_⟩
    have ec : cutS (flS .none) (some 4) none = "-" := ext_tl ((tl_cut_from (flS .none) 4).trans (by decide +kernel))
    rw [ec]
    obtain ⟨a, C, dx, fs, ev, ha, nm, M⟩ := whole H (Same.refl _)
    refine ⟨_, rfl, a, C, dx, fs, _, ev, ha, nm, ⟨_, _, by decide, M⟩, ?_⟩
    refine ⟨ls, _, _, _, rfl, L, rd, rfl, fun H1 w1 s1 r1 => ?_⟩
    refine ⟨_, rfl, rfl, _, rfl, iteNS (by rfl) ?_⟩
    refine ⟨_, rfl, _, rfl, iteT ?_⟩
    obtain ⟨a, C, dx, fs, ev, ha, nm, M⟩ := whole H1 s1
    refine ⟨_, rfl, a, C, dx, fs, _, ev, ha, nm, ⟨_, _, by decide, M⟩, ?_⟩
    refine ⟨ls, _, _, _, rfl, L.to s1, (tDom K).mono s1.cut rd, rfl, fun H2 w2 s2 r2 => ?_⟩
    refine ⟨_, rfl, ls, _, _, _, _, _, rfl, L.to (s1.trans s2), r2, tSpans.mono s2.cut r1, ⟨_, _, ok.le, rfl, rfl, rfl⟩, fun H3 w3 s3 r3 => k _ _ ((s1.trans s2).trans s3) r3⟩
  | parts ps =>
    refine ⟨_, rfl, _, rfl, ?_⟩
    rw [show decide (V.str (cutS (flS (.parts ps)) none (some 4)) = V.str "not ") = false from e4.trans (decide_eq_false (parts_not ok hf))]
    refine iteF ?_
    obtain ⟨a, C, dx, fs, ev, ha, nm, M⟩ := whole H (Same.refl _)
    refine ⟨_, rfl, a, C, dx, fs, _, ev, ha, nm, ⟨_, _, by decide, M⟩, ?_⟩
    refine ⟨ls, _, _, _, rfl, L, rd, rfl, fun H1 w1 s1 r1 => ?_⟩
    refine ⟨_, rfl, rfl, _, rfl, iteNT (strI (parts_ne ok hf)) ?_⟩
    refine ⟨_, rfl, ⟨_, rfl⟩, _, _, rfl, rfl, by decide +kernel, Nat.le_trans (by omega : _ ≤ 12602) (by decide), fun p np => ?_⟩
    rw [parts_split ok hf]
    obtain ⟨hne, h100, hp, hA⟩ := hf
    have s2 : Same H1 _ := Same.upd (o := .lst ((ps.map ptS).map V.str)) np
    have s12 := s1.trans s2
    refine ⟨p, rfl, ⟨_, SqL.of upd_same⟩, fun D nD => ?_⟩
    refine lc_map (walk_list (K := K) (xs := (ps.map ptS).map V.str)) (u := tPair tInt tInt) (ls := ls) (ps.map (ptV d)) nD (L.to s12) (by simp; omega) (by simp) (fun H' s' => SqL.of (s' _ _ upd_same)) ?_ ?_
    · rintro i x y H2 H3 R hy s3 sc L2 ⟨rfl, hx⟩ hR
      rw [List.getElem?_map] at hy hx
      obtain ⟨q, hq, rfl⟩ := Option.map_eq_some_iff.mp hy
      rw [List.getElem?_map, hq] at hx
      cases hx
      exact ⟨rfl, _, rfl, _, rfl, D :: ls, _, _, _, _, _, rfl, L2, (tDom K).mono sc ((tDom K).mono s12.cut rd), rfl, ⟨q, ok, hp q (List.mem_of_getElem? hq), rfl, rfl⟩, fun H4 w4 s4 r4 => hR _ _ s4 r4⟩
    · intro H2 s3 r3
      refine ⟨ls, _, _, _, rfl, L.to (s12.trans s3), r3, ⟨hA, by simp; omega, rfl⟩, fun H4 w4 s4 r4 => ?_⟩
      refine ⟨_, rfl, _, rfl, iteF ?_⟩
      exact ⟨_, rfl, k _ _ ((s12.trans s3).trans s4) r4⟩
abbrev n_show_stretch : List Str := ["domain", "low", "high"]
theorem sc_show_stretch : FnScope n_show_stretch ["domain", "low", "high"] (defScope s_show_stretch) := ⟨rfl, rfl, rfl, by decide +kernel, rfl, by decide +kernel, by decide +kernel⟩
theorem ok_show_stretch (T : Tx K mg) : Def P w K mg base "show_stretch" ["domain", "low", "high"] 2 (Sp3 (tDom K) tInt tInt tStr fun d a b r => ∃ lo hi, d = .num lo hi ∧ d.Ok ∧ lo ≤ a ∧ a ≤ b ∧ b ≤ hi ∧ r = ptS (showPt d (a, b))) := by
  refine ⟨?_, T.g_show_stretch, T.f_show_stretch.kp, T.f_show_stretch.bindsN fun _ _ _ _ _ _ us hl => match us, hl with | [_, _, _], _ => rfl⟩
  refine fn_body T.f_show_stretch sc_show_stretch (fun _ _ _ _ h => len3 h) fun cdv A outer s H vs Q E hr h => ?_
  obtain ⟨ls, v, va, vb, d, a, b, r, rfl, L, rd, rfl, rfl, ⟨lo, hi, rfl, ok, h1, h2, h3, rfl⟩, k⟩ := h
  obtain ⟨_, s1, s2⟩ := ok.num lo hi rfl
  have sa := small_in s1 s2 h1 (Int.le_trans h2 h3)
  have sb := small_in s1 s2 (Int.le_trans h1 h2) h3
  have la := numS_len sa
  have lb := numS_len sb
  obtain ⟨ad, dx, rfl, had⟩ := id rd
  have had := cut_at had
  have lh : (fNum lo hi).lookup ("high" : Str) = some (.int hi) := by unfold fNum; rw [sk (by decide +kernel), hk_]
  have k : ∀ H' w, Same H H' → w = V.str (ptS (showPt (.num lo hi) (a, b))) → Q w H' := fun H' w s e => k H' w s e
  unfold showPt at k
  refine ⟨_, pss_cons (ps_if (pt_cmpR op_eq (pv 1) (pv 2) (nomark _)) (pss_one (ps_ret (pe_cD (ok_number_text T) hr (pa_cons (pv 1) pa_nil)))) pss_nil)
  (pss_cons (ps_if (pt_cmpR op_eq (pv 1) (pe_fld (pv 0) rfl) (nomark _)) (pss_one (ps_ret (pe_op op_add_str pe_str (pe_cD (ok_number_text T) hr (pa_cons (pv 2) pa_nil))))) pss_nil)
  (pss_cons (ps_if (pt_cmpR op_eq (pv 2) (pe_fld (pv 0) rfl) (nomark _)) (pss_one (ps_ret (pe_op op_add_str (pe_cD (ok_number_text T) hr (pa_cons (pv 1) pa_nil)) pe_str))) pss_nil)
  (pss_one (ps_ret (pe_op op_add_str (pe_op op_add_str (pe_cD (ok_number_text T) hr (pa_cons (pv 1) pa_nil)) pe_str) (pe_cD (ok_number_text T) hr (pa_cons (pv 2) pa_nil))))))), ?_⟩
  refine ⟨_, rfl, _, rfl, rfl, _, rfl, ?_⟩
  refine ite2 (fun c => ?_) (fun c => ?_)
  · have c := V.int.inj (ydec c)
    rw [if_pos c] at k
    exact ⟨_, rfl, [], _, a, _, rfl, Live.nil, rfl, ⟨sa, rfl⟩, fun H1 w1 e1 r1 => k _ _ e1 r1⟩
  have c : ¬ a = b := fun e => ndec c (by rw [e])
  rw [if_neg c] at k
  refine ⟨_, rfl, _, rfl, ad, _, dx, _, _, rfl, had, T.c_Numbers, T.a_Numbers_low, hk_ _ _, rfl, _, rfl, ?_⟩
  refine ite2 (fun c => ?_) (fun c => ?_)
  · have c := V.int.inj (ydec c)
    rw [if_pos (show (a, b).1 = (Dom.num lo hi).lo from c)] at k
    refine ⟨_, rfl, [], _, b, _, rfl, Live.nil, rfl, ⟨sb, rfl⟩, fun H1 w1 e1 r1 => ?_⟩
    obtain rfl : w1 = .str (numS b) := r1
    exact ⟨_, _, rfl, rfl, szl _ (by rw [dd_len]; omega), k _ _ e1 rfl⟩
  have c : ¬ a = lo := fun e => ndec c (by rw [e])
  rw [if_neg (show ¬ (a, b).1 = (Dom.num lo hi).lo from c)] at k
  refine ⟨_, rfl, _, rfl, ad, _, dx, _, _, rfl, had, T.c_Numbers, T.a_Numbers_high, lh, rfl, _, rfl, ?_⟩
  refine ite2 (fun c => ?_) (fun c => ?_)
  · have c := V.int.inj (ydec c)
    rw [if_pos (show (a, b).2 = (Dom.num lo hi).hi from c)] at k
    refine ⟨_, rfl, [], _, a, _, rfl, Live.nil, rfl, ⟨sa, rfl⟩, fun H1 w1 e1 r1 => ?_⟩
    obtain rfl : w1 = .str (numS a) := r1
    exact ⟨_, _, rfl, rfl, szl _ (by rw [dd_len]; omega), k _ _ e1 rfl⟩
  have c : ¬ b = hi := fun e => ndec c (by rw [e])
  rw [if_neg (show ¬ (a, b).2 = (Dom.num lo hi).hi from c)] at k
  refine ⟨_, rfl, [], _, a, _, rfl, Live.nil, rfl, ⟨sa, rfl⟩, fun H1 w1 e1 r1 => ?_⟩
  obtain rfl : w1 = .str (numS a) := r1
  refine ⟨_, _, rfl, rfl, szl _ (by rw [dd_len]; omega), ?_⟩
  refine ⟨_, rfl, [], _, b, _, rfl, Live.nil, rfl, ⟨sb, rfl⟩, fun H2 w2 e2 r2 => ?_⟩
  obtain rfl : w2 = .str (numS b) := r2
  exact ⟨_, _, rfl, rfl, szl _ (by rw [app_len, dd_len]; omega), k _ _ (e1.trans e2) rfl⟩
abbrev n_read_value : List Str := ["domain", "text"]
theorem sc_read_value : FnScope n_read_value ["domain", "text"] (defScope s_read_value) := ⟨rfl, rfl, rfl, by decide +kernel, rfl, by decide +kernel, by decide +kernel⟩
theorem ok_read_value (T : Tx K mg) : Def P w K mg base "read_value" ["domain", "text"] 3 (Sp2 (tDom K) tStr tInt fun d s c => d.Ok ∧ d.lo ≤ c ∧ c ≤ d.hi ∧ s = valS d c) := by
  refine ⟨?_, T.g_read_value, T.f_read_value.kp, T.f_read_value.bindsN fun _ _ _ _ _ _ us hl => match us, hl with | [_, _], _ => rfl⟩
  refine fn_body T.f_read_value sc_read_value (fun _ _ _ _ h => len2 h) fun cdv A outer s H vs Q E hr h => ?_
  obtain ⟨ls, v, vs, d, s, c, rfl, L, rd, rfl, ⟨ok, h1, h2, rfl⟩, k⟩ := h
  have rdH := (tDom K).mono cut_sub rd
  obtain ⟨t1, ty1, k1⟩ := dom_isW T rdH
  refine ⟨_, pss_cons (ps_if (pt_val (pe_callB call_isi (by rfl) T.n_isinstance (by decide +kernel) (pa_cons (pv 0) (pa_cons (pe_gc T.g_Words) pa_nil)))) (pss_one (ps_ret (pe_disp (P := P) (w := w) (K := K) (mg := mg) (base := base) (pv 0) hr (pa_cons (pv 1) pa_nil)))) pss_nil)
  (pss_one (ps_ret (pe_disp (P := P) (w := w) (K := K) (mg := mg) (base := base) (pv 0) hr (pa_cons (pe_cD (ok_number_of T) hr (pa_cons (pv 1) pa_nil)) pa_nil)))), ?_⟩
  refine ⟨_, rfl, _, _, _, _, _, rfl, .own _, ty1, k1, _, rfl, ?_⟩
  obtain ⟨a, C, dx, fs, ev, ha, nm, M⟩ := dom_code (P := P) (w := w) (base := base) T rdH
  cases d with
  | words ws =>
    refine iteT ?_
    refine ⟨_, rfl, a, C, dx, fs, _, ev, ha, nm, ⟨_, _, by decide, M⟩, _, rfl, ?_⟩
    exact ⟨ls, _, _, _, .str _, _, rfl, L, rd, rfl, ⟨rfl, valS_bears h1 h2 ws rfl, (valS_place ok h1 h2 ws rfl).symm⟩, k⟩
  | num lo hi =>
    refine iteF ?_
    obtain ⟨_, s1, s2⟩ := ok.num lo hi rfl
    refine ⟨_, rfl, a, C, dx, fs, _, ev, ha, nm, ⟨_, _, by decide, M⟩, _, rfl, ?_⟩
    refine ⟨[], _, _, c, rfl, Live.nil, rfl, ⟨rfl, small_in s1 s2 h1 h2⟩, fun H1 w1 e1 r1 => ?_⟩
    obtain rfl : w1 = .int c := r1
    refine ⟨ls, _, _, _, .int c, c, rfl, L.to e1, (tDom K).mono e1.cut rd, rfl, ⟨rfl, ?_, rfl⟩, fun H2 w2 e2 r2 => k _ _ (e1.trans e2) r2⟩
    show (decide (lo ≤ c) && decide (c ≤ hi)) = true
    rw [decide_eq_true (show lo ≤ c from h1), decide_eq_true (show c ≤ hi from h2)]; rfl
abbrev n_show_value : List Str := ["domain", "code"]
theorem sc_show_value : FnScope n_show_value ["domain", "code"] (defScope s_show_value) := ⟨rfl, rfl, rfl, by decide +kernel, rfl, by decide +kernel, by decide +kernel⟩
theorem ok_show_value (T : Tx K mg) : Def P w K mg base "show_value" ["domain", "code"] 3 (Sp2 (tDom K) tInt tStr fun d c s => d.Ok ∧ d.lo ≤ c ∧ c ≤ d.hi ∧ s = valS d c) := by
  refine ⟨?_, T.g_show_value, T.f_show_value.kp, T.f_show_value.bindsN fun _ _ _ _ _ _ us hl => match us, hl with | [_, _], _ => rfl⟩
  refine fn_body T.f_show_value sc_show_value (fun _ _ _ _ h => len2 h) fun cdv A outer s H vs Q E hr h => ?_
  obtain ⟨ls, v, vs, d, c, s, rfl, L, rd, rfl, ⟨ok, h1, h2, rfl⟩, k⟩ := h
  have rdH := (tDom K).mono cut_sub rd
  obtain ⟨t1, ty1, k1⟩ := dom_isW T rdH
  refine ⟨_, pss_cons (ps_if (pt_val (pe_callB call_isi (by rfl) T.n_isinstance (by decide +kernel) (pa_cons (pv 0) (pa_cons (pe_gc T.g_Words) pa_nil)))) (pss_one (ps_ret (pe_disp (P := P) (w := w) (K := K) (mg := mg) (base := base) (pv 0) hr (pa_cons (pv 1) pa_nil)))) pss_nil)
  (pss_one (ps_ret (pe_cD (ok_number_text T) hr (pa_cons (pv 1) pa_nil)))), ?_⟩
  refine ⟨_, rfl, _, _, _, _, _, rfl, .own _, ty1, k1, _, rfl, ?_⟩
  cases d with
  | words ws =>
    refine iteT ?_
    obtain ⟨a, dx, l, rfl, ha, hl⟩ := id rdH
    refine ⟨_, rfl, a, "Words", dx, _, _, rfl, ha, by unfold fWords; rw [sk (by decide +kernel), sk (by decide +kernel), sk (by decide +kernel)]; rfl, ⟨_, _, by decide, ok_Words_worth T⟩, _, rfl, ?_⟩
    exact ⟨ls, _, _, _, _, _, rfl, L, rd, rfl, ⟨ws, rfl, h1, wordAt_mem h1 h2⟩, k⟩
  | num lo hi =>
    refine iteF ?_
    obtain ⟨_, s1, s2⟩ := ok.num lo hi rfl
    exact ⟨_, rfl, [], _, c, _, rfl, Live.nil, rfl, ⟨small_in s1 s2 h1 h2, rfl⟩, fun H1 w1 e1 r1 => k _ _ e1 r1⟩
end
end Rk
set_option Elab.async false
set_option linter.all false
set_option maxRecDepth 100000
set_option maxHeartbeats 1000000
namespace Rk
open PySem PySem.Spec PyProof.Rows L2
open TL
/-- the texts of a span's parts -/
def txOf (d : Dom) (q : Int × Int) : List Str := match d with
  | .num _ _ => [ptS (showPt d q)]
  | .words ws => (codesOf q).map (wordAt ws)
theorem tx_num (lo hi : Int) (sp : Spans) : (sp.map (showPt (.num lo hi))).map ptS = sp.flatMap (txOf (.num lo hi)) := by
  induction sp with
  | nil => rfl
  | cons q sp ih => rw [List.map_cons, List.map_cons, ih, List.flatMap_cons]; rfl
theorem tx_words (ws : List Str) (sp : Spans) : (sp.flatMap fun q => (codesOf q).map fun c => Pt.word (wordAt ws c)).map ptS = sp.flatMap (txOf (.words ws)) := by
  induction sp with
  | nil => rfl
  | cons q sp ih =>
    rw [List.flatMap_cons, List.map_append, ih, List.flatMap_cons, List.map_map]
    rfl
theorem codes_len (q : Int × Int) : (codesOf q).length = (q.2 + 1 - q.1).toNat := by unfold codesOf; rw [List.length_map, List.length_range]
theorem tx_len {d : Dom} (ok : d.Ok) {q : Int × Int} (h1 : d.lo ≤ q.1) (h3 : q.2 ≤ d.hi) : (txOf d q).length ≤ 40 := by
  cases d with
  | num lo hi => show 1 ≤ 40; decide
  | words ws =>
    have := (ok.words ws rfl).2.1
    show ((codesOf q).map _).length ≤ 40
    rw [List.length_map, codes_len]
    have : (0 : Int) ≤ q.1 := h1
    have : q.2 ≤ (ws.length : Int) - 1 := h3
    omega
theorem tx_strs {d : Dom} (ok : d.Ok) {q : Int × Int} (h1 : d.lo ≤ q.1) (h2 : q.1 ≤ q.2) (h3 : q.2 ≤ d.hi) : ∀ s ∈ txOf d q, s.length ≤ 124 := by
  cases d with
  | num lo hi =>
    intro s hs
    rw [show s = _ from List.mem_singleton.mp hs]
    exact pt_len ok (showPt_len ok h1 h2 h3).1
  | words ws =>
    intro s hs
    obtain ⟨c, hc, rfl⟩ := List.mem_map.mp (show s ∈ (codesOf q).map (wordAt ws) from hs)
    unfold codesOf at hc
    obtain ⟨i, hi, rfl⟩ := List.mem_map.mp hc
    have hi := List.mem_range.mp hi
    have a1 : (0 : Int) ≤ q.1 := h1
    have a2 : q.2 ≤ (ws.length : Int) - 1 := h3
    have hm := List.mem_of_getElem? (wordAt_mem (ws := ws) (c := q.1 + (i : Nat)) (by omega) (by omega))
    have := (isWord_len ((ok.words ws rfl).2.2.1 _ hm)).2
    omega
def showP (H : Hp) (ls : List Addr) (d : Dom) (v : V) (a l : Addr) (sp : Spans) (i : Nat) (σ : L2.St) (H' : Hp) : Prop := ∃ v3 v4 v5, σ = [some v, some (.ref a), some (.ref l), v3, v4, v5] ∧ Same H H' ∧ H' l = some (.lst (((sp.take i).flatMap (txOf d)).map V.str)) ∧ ((sp.take i).flatMap (txOf d)).length ≤ 40 * i
section
variable {P : Program} {w : World} {K : PySem.W.Frag} {mg : Str → Option Value} {base : Heap}
abbrev n_show_cell : List Str := ["domain", "spans", "parts", "low", "high", "code"]
theorem sc_show_cell : FnScope n_show_cell ["domain", "spans"] (defScope s_show_cell) := ⟨rfl, rfl, rfl, by decide +kernel, rfl, by decide +kernel, by decide +kernel⟩
theorem ok_show_cell (T : Tx K mg) : Def P w K mg base "show_cell" ["domain", "spans"] 3 (Sp2 (tDom K) tSpans tStr fun d sp r => d.Ok ∧ Tidy sp ∧ InDom d sp ∧ sp.length ≤ 100 ∧ r = flS (showFl d sp)) := by
  refine ⟨?_, T.g_show_cell, T.f_show_cell.kp, T.f_show_cell.bindsN fun _ _ _ _ _ _ us hl => match us, hl with | [_, _], _ => rfl⟩
  refine fn_body T.f_show_cell sc_show_cell (fun _ _ _ _ h => len2 h) fun cdv A outer s H vs Q E hr h => ?_
  obtain ⟨ls, v, vs, d, sp, r, rfl, L, rd, rsp, ⟨ok, ht, hd, h100, rfl⟩, k⟩ := h
  have rdH := (tDom K).mono cut_sub rd
  have rspH := tSpans.mono cut_sub rsp
  obtain ⟨a, ws, rfl, ha, rs⟩ := rspH
  have hlen := rs.len
  have k : ∀ H' w, Same H H' → w = V.str (flS (showFl d sp)) → Q w H' := fun H' w s e => k H' w s e
  unfold showFl at k
  refine ⟨_, pss_cons (ps_if (pt_cmpR op_eq (pe_callB call_len_seq (by rfl) T.n_len PySem.boot_len (pa_cons (pv 1) pa_nil)) pe_int (nomark _)) (pss_one (ps_ret pe_str)) pss_nil)
  (pss_cons (ps_if (pt_cmpR (op_eqD hr.units) (pv 1) (pe_disp0 (P := P) (w := w) (K := K) (mg := mg) (base := base) (pv 0) hr) (nomark _)) (pss_one (ps_ret pe_str)) pss_nil)
  (pss_cons (ps_set (i := 2) sc_show_cell.nd rfl (.inl rfl) (pe_lst pa_nil))
  (pss_cons (ps_for PassesOwn.never rfl (pi_list (pv 1)) (pg_tup (by rfl) (pgs_cons (pg_name (i := 3) sc_show_cell.nd rfl (.inl rfl)) (pgs_cons (pg_name (i := 4) sc_show_cell.nd rfl (.inl rfl)) pgs_nil)))
  (pss_one (ps_if (pt_val (pe_callB call_isi (by rfl) T.n_isinstance (by decide +kernel) (pa_cons (pv 0) (pa_cons (pe_gc T.g_Words) pa_nil)))) (pss_one (ps_expr (pe_bm PySem.F.plainAttrs_list PySem.F.slot_list_extend PySem.F.type_list_extend mt_extend (pv 2) (pa_cons (pe_lc (own := [("code", 5)]) (g := gName 5) rfl sc_show_cell.nd (pi_range2 (by rfl) T.n_range (pa_cons (pv 3) (pa_cons (pe_op op_add (pv 4) pe_int) pa_nil))) (blkOk_by (own := [("code", 5)]) (N := n_show_cell) (sc := defScope s_show_cell) (by decide +kernel)) (fun _ _ _ _ _ => (pg_name (i := 5) sc_show_cell.nd rfl (.inl rfl))) (fun _ _ _ _ _ => pts_nil) (fun _ _ _ _ _ => (pe_disp (P := P) (w := w) (K := K) (mg := mg) (base := base) (pv 0) hr (pa_cons (pv 5) pa_nil)))) pa_nil)))) (pss_one (ps_expr (pe_bm PySem.F.plainAttrs_list PySem.F.slot_list_append PySem.F.type_list_append mt_append (pv 2) (pa_cons (pe_cD (ok_show_stretch T) hr (pa_cons (pv 0) (pa_cons (pv 3) (pa_cons (pv 4) pa_nil)))) pa_nil)))))))
  (pss_one (ps_ret (pe_join pe_str (pv 2))))))), ?_⟩
  refine ⟨_, rfl, a, _, rfl, .inl (SqL.of ha), rfl, _, rfl, ?_⟩
  refine ite2 (fun c => ?_) (fun c => ?_)
  · have c : ws.length = 0 := by have := V.int.inj (ydec c); omega
    rw [if_pos (List.eq_nil_of_length_eq_zero (by omega))] at k
    exact k _ _ (Same.refl _) rfl
  have c : ¬ sp = [] := fun e => ndec c (by rw [hlen, e]; rfl)
  rw [if_neg c] at k
  obtain ⟨ad, C, dx, fs, ev, had, nm, M⟩ := dom_whole (P := P) (w := w) (base := base) T rdH
  refine ⟨_, rfl, _, rfl, ad, C, dx, fs, _, ev, had, nm, ⟨_, _, by decide, M⟩, ?_⟩
  refine ⟨ls, _, _, _, rfl, L, rd, rfl, fun H1 w1 s1 r1 => ?_⟩
  refine ⟨_, _, dp_spans (tSpans.mono s1 ⟨a, ws, rfl, ha, rs⟩), dp_spans (tSpans.mono cut_sub r1), shaped_spans _, shaped_spans _, _, rfl, ?_⟩
  rw [eqv_spans]
  refine ite2 (fun c2 => ?_) (fun c2 => ?_)
  · rw [if_pos (ydec c2)] at k
    exact k _ _ s1 rfl
  rw [if_neg (ndec c2)] at k
  refine ⟨Nat.zero_le _, fun l nl => ?_⟩
  have s2 : Same H (upd H1 l (.lst [])) := s1.trans (Same.upd nl)
  have nl0 : H l = none := s1.free nl
  refine ⟨_, rfl, a, rfl, ⟨_, SqL.of (s2 _ _ ha)⟩, for_list (K := K) (a := a) (xs := ws) (showP H ls d v a l sp) ⟨none, none, none, rfl, s2, by rw [List.take_zero]; exact upd_same, by rw [List.take_zero]; exact Nat.le_refl _⟩ (fun i σ H' _ ⟨_, _, _, _, s, _⟩ => SqL.of (s _ _ ha)) ?_ ?_⟩
  · rintro i x σ H' hx ⟨v3, v4, v5, rfl, s3, hl, hb⟩
    obtain ⟨q, hq, t, u1, u2, rfl, htup, r1, r2⟩ := rs.get hx
    have htup := s3 _ _ htup
    obtain rfl : u1 = _ := r1
    obtain rfl : u2 = _ := r2
    have hi := (List.getElem?_eq_some_iff.mp hx).1
    have hqm := List.mem_of_getElem? hq
    have q1 := (hd q hqm).1
    have q2 := ht.2 q hqm
    have q3 := (hd q hqm).2
    have tl40 := tx_len ok q1 q3
    have eT : (sp.take (i + 1)).flatMap (txOf d) = (sp.take i).flatMap (txOf d) ++ txOf d q := by rw [take_snoc hq, List.flatMap_append, List.flatMap_cons, List.flatMap_nil, List.append_nil]
    have fin : ∀ H4, Same H' H4 → showP H ls d v a l sp (i + 1) [some v, some (.ref a), some (.ref l), some (.int q.1), some (.int q.2), v5] (upd H4 l (.lst (((sp.take i).flatMap (txOf d)).map V.str ++ (txOf d q).map V.str))) := fun H4 s4 =>
      ⟨_, _, _, rfl, (s3.trans s4).mut nl0, by rw [eT, List.map_append]; exact upd_same, by rw [eT, List.length_append]; omega⟩
    refine ⟨t, _, rfl, SqT.of htup, rfl, _, _, rfl, _, _, rfl, rfl, ?_⟩
    obtain ⟨t1, ty1, k1⟩ := dom_isW T ((tDom K).mono s3 rdH)
    refine ⟨_, rfl, _, _, _, _, _, rfl, .own _, ty1, k1, _, rfl, ?_⟩
    cases d with
    | words wd =>
      have a1 : (0 : Int) ≤ q.1 := q1
      have a2 : q.2 ≤ (wd.length : Int) - 1 := q3
      have a3 := (ok.words wd rfl).2.1
      refine iteT ?_
      refine ⟨_, rfl, .inl ⟨rfl, _, SqL.of hl⟩, ?_⟩
      refine ⟨_, rfl, _, rfl, _, _, rfl, rfl, _, _, rfl, ⟨by omega, by omega, by omega, by omega⟩, fun D nD => ?_⟩
      refine lc_map (walk_range (lo := q.1)) (u := tStr) (ls := l :: ls) (txOf (.words wd) q) nD (Live.cons hl (L.to s3)) (by omega) (by show ((codesOf q).map _).length = _; rw [List.length_map, codes_len]) (fun _ _ => trivial) ?_ ?_
      · rintro j y z H2 H3 R hy s4 sc L2 ⟨rfl, rfl⟩ hR
        obtain ⟨ad, dx, m, rfl, had, hm⟩ := id ((tDom K).mono (s3.trans s4) rdH)
        have hy : ((codesOf q).map (wordAt wd))[j]? = some z := hy
        unfold codesOf at hy
        rw [List.getElem?_map, List.getElem?_map] at hy
        obtain ⟨c', hc', rfl⟩ := Option.map_eq_some_iff.mp hy
        obtain ⟨j', hj', rfl⟩ := Option.map_eq_some_iff.mp hc'
        have := (List.getElem?_eq_some_iff.mp hj')
        obtain ⟨hj1, hj2⟩ := this
        rw [List.getElem_range] at hj2
        subst hj2
        rw [List.length_range] at hj1
        refine ⟨rfl, _, rfl, ad, "Words", dx, _, _, rfl, had, by unfold fWords; rw [sk (by decide +kernel), sk (by decide +kernel), sk (by decide +kernel)]; rfl, ⟨_, _, by decide, ok_Words_worth T⟩, _, rfl, ?_⟩
        refine ⟨[], _, _, _, _, _, rfl, Live.nil, by rw [cut_nil]; exact (tDom K).mono (s3.trans s4) rdH, rfl, ⟨wd, rfl, by omega, wordAt_mem (by omega) (by omega)⟩, fun H4 w4 s5 r5 => hR _ _ s5 r5⟩
      · rintro H2 s4 ⟨b, us, e, hb2, rb⟩
        cases e
        obtain rfl := rs_str rb
        refine ⟨l, D, _, _, rfl, rfl, s4 _ _ hl, cut_at hb2, szb _ ?_, fin H2 s4⟩
        rw [List.length_map, List.length_map]
        omega
    | num lo hi =>
      refine iteF ?_
      refine ⟨_, rfl, .inl ⟨rfl, _, SqL.of hl⟩, _, rfl, _, rfl, _, rfl, ?_⟩
      refine ⟨l :: ls, _, _, _, _, q.1, q.2, _, rfl, Live.cons hl (L.to s3), (tDom K).mono (s3.more1 nl0) rd, rfl, rfl, ⟨lo, hi, rfl, ok, q1, q2, q3, rfl⟩, fun H2 w2 s4 r4 => ?_⟩
      obtain rfl : w2 = .str _ := r4
      refine ⟨l, _, _, rfl, rfl, s4 _ _ hl, ?_, fin H2 s4⟩
      rw [List.length_map]
      exact szbl (by omega)
  · rintro σ H' ⟨v3, v4, v5, rfl, s3, hl, hb⟩
    rw [hlen, List.take_length] at hl hb
    refine ⟨⟨_, rfl⟩, _, rfl, _, l, _, rfl, rfl, .inl (SqL.of hl), ?_, k _ _ s3 ?_⟩
    · have e2 := join_le ", " (ps := sp.flatMap (txOf d)) (k := 124) fun p hp => by
        obtain ⟨q, hq, hp⟩ := List.mem_flatMap.mp hp
        exact tx_strs ok (hd q hq).1 (ht.2 q hq) (hd q hq).2 p hp
      have : (sp.flatMap (txOf d)).length * (124 + (", " : Str).length) ≤ 4000 * 126 := Nat.mul_le_mul (by omega) (by decide +kernel)
      omega
    · cases d with
      | num lo hi => show _ = V.str (Txt.join ", " ((sp.map (showPt (.num lo hi))).map ptS)); rw [tx_num]
      | words wd => show _ = V.str (Txt.join ", " ((sp.flatMap fun q => (codesOf q).map fun c => Pt.word (wordAt wd c)).map ptS)); rw [tx_words]
end
end Rk
set_option Elab.async false
set_option linter.all false
set_option maxRecDepth 100000
set_option maxHeartbeats 1000000
namespace Rk
open PySem PySem.Spec PyProof.Rows L2
open TL
section
variable (n v1 v2 v3 w v4 : V)
theorem ft_name : (fTab n v1 v2 v3 w v4).lookup ("name" : Str) = some n := hk_ _ _
theorem ft_names : (fTab n v1 v2 v3 w v4).lookup ("names" : Str) = some v1 := by unfold fTab; rw [sk (by decide +kernel), hk_]
theorem ft_doms : (fTab n v1 v2 v3 w v4).lookup ("domains" : Str) = some v2 := by unfold fTab; rw [sk (by decide +kernel), sk (by decide +kernel), hk_]
theorem ft_out : (fTab n v1 v2 v3 w v4).lookup ("outcome" : Str) = some v3 := by unfold fTab; rw [sk (by decide +kernel), sk (by decide +kernel), sk (by decide +kernel), hk_]
theorem ft_way : (fTab n v1 v2 v3 w v4).lookup ("way" : Str) = some w := by unfold fTab; rw [sk (by decide +kernel), sk (by decide +kernel), sk (by decide +kernel), sk (by decide +kernel), hk_]
theorem ft_rows : (fTab n v1 v2 v3 w v4).lookup ("rows" : Str) = some v4 := by unfold fTab; rw [sk (by decide +kernel), sk (by decide +kernel), sk (by decide +kernel), sk (by decide +kernel), sk (by decide +kernel), hk_]
theorem putF_new {f : Str} {x : V} : ∀ {l : List (Str × V)}, (l.all fun p => !decide (p.1 = f)) = true → putF f x l = l ++ [(f, x)]
  | [], _ => rfl
  | (g, y) :: r, h => by
    rw [List.all_cons, Bool.and_eq_true] at h
    have ne : ¬ g = f := fun e => by
      have h1 : (!decide (g = f)) = true := h.1
      rw [decide_eq_true e] at h1; cases h1
    show (if g = f then (g, x) :: r else (g, y) :: putF f x r) = _
    rw [if_neg ne, putF_new h.2]
    rfl
theorem put_tab : putF "rows" v4 (putF "way" w (putF "outcome" v3 (putF "domains" v2 (putF "names" v1 (putF "name" n []))))) = fTab n v1 v2 v3 w v4 := by
  rw [putF_new (f := "name") (l := []) rfl, putF_new (f := "names") (by kernel_rfl), putF_new (f := "domains") (by kernel_rfl), putF_new (f := "outcome") (by kernel_rfl), putF_new (f := "way") (by kernel_rfl), putF_new (f := "rows") (by kernel_rfl)]
  rfl
end
theorem putF_len (f : Str) (x : V) : ∀ l : List (Str × V), (putF f x l).length ≤ l.length + 1
  | [] => Nat.le_refl _
  | (g, y) :: r => by
    show (if g = f then (g, x) :: r else (g, y) :: putF f x r).length ≤ _
    have := putF_len f x r
    split
    · exact Nat.le_succ _
    · exact Nat.succ_le_succ this
/-- a row that the table takes -/
structure RowOk (ds : List Dom) (out : Dom) (r : Row) : Prop where
  len : r.1.length = ds.length
  cells : ∀ (i : Nat) sp d, r.1[i]? = some sp → ds[i]? = some d → Tidy sp ∧ InDom d sp ∧ sp.length ≤ 100
  code : out.lo ≤ r.2 ∧ r.2 ≤ out.hi
structure TabOk (t : Tab) : Prop where
  word : isWord t.name = true
  words : ∀ c ∈ t.names, isWord c = true
  nd : (t.name :: t.names).Nodup
  cols : 1 ≤ t.names.length ∧ t.names.length ≤ 4
  dlen : t.doms.length = t.names.length
  doms : ∀ d ∈ t.doms, d.Ok
  out : t.out.Ok
  way : t.way = .sum → ∃ lo hi, t.out = .num lo hi
  most : t.rows.length ≤ 200
  rows : ∀ r ∈ t.rows, RowOk t.doms t.out r
/-- masks -/
def maskL : List Bool → Int
  | [] => 0
  | b :: r => (if b = true then 1 else 0) + 2 * maskL r
theorem maskL_nn : ∀ l, 0 ≤ maskL l
  | [] => Int.le_refl _
  | b :: r => by
    have := maskL_nn r
    show 0 ≤ (if b = true then (1 : Int) else 0) + 2 * maskL r
    split <;> omega
theorem maskL_lt : ∀ l : List Bool, maskL l < 2 ^ l.length
  | [] => by decide
  | b :: r => by
    have := maskL_lt r
    show (if b = true then (1 : Int) else 0) + 2 * maskL r < 2 ^ (r.length + 1)
    rw [Int.pow_succ]
    split <;> omega
theorem maskL_snoc (b : Bool) : ∀ l : List Bool, maskL (l ++ [b]) = maskL l + (if b = true then 2 ^ l.length else 0)
  | [] => by show (if b = true then (1 : Int) else 0) + 2 * 0 = 0 + (if b = true then 1 else 0); omega
  | c :: r => by
    have := maskL_snoc b r
    show (if c = true then (1 : Int) else 0) + 2 * maskL (r ++ [b]) = (if c = true then (1 : Int) else 0) + 2 * maskL r + (if b = true then 2 ^ (r.length + 1) else 0)
    rw [this, Int.pow_succ]
    split <;> split <;> omega
theorem maskL_bit : ∀ (l : List Bool) (k : Nat) (b : Bool), l[k]? = some b → maskL l / 2 ^ k % 2 = if b = true then 1 else 0
  | [], k, b, h => by simp at h
  | c :: r, 0, b, h => by
    have e : c = b := Option.some.inj h
    subst e
    show ((if c = true then (1 : Int) else 0) + 2 * maskL r) / 1 % 2 = _
    split <;> omega
  | c :: r, k + 1, b, h => by
    have := maskL_bit r k b h
    rw [← this]
    show ((if c = true then (1 : Int) else 0) + 2 * maskL r) / 2 ^ (k + 1) % 2 = _
    rw [Int.pow_succ, Int.mul_comm (2 ^ k) 2, ← Int.ediv_ediv_of_nonneg (by decide : (0 : Int) ≤ 2)]
    congr 2
    split <;> omega
def fitsF (cells : List Spans) (cs : List Int) : Bool := (cells.zip cs).all fun p => heldB p.1 p.2
def picked (rows : List Row) (fs : List Bool) : List Int := ((rows.zip fs).filter (·.2)).map (·.1.2)
theorem pick_snoc {rows : List Row} {fs : List Bool} {i : Nat} {r : Row} {b : Bool} (h1 : rows[i]? = some r) (h2 : fs[i]? = some b) : picked (rows.take (i + 1)) (fs.take (i + 1)) = picked (rows.take i) (fs.take i) ++ (if b = true then [r.2] else []) := by
  unfold picked
  have l1 := (List.getElem?_eq_some_iff.mp h1).1
  have l2 := (List.getElem?_eq_some_iff.mp h2).1
  rw [take_snoc h1, take_snoc h2, List.zip_append (by rw [List.length_take, List.length_take]; omega), List.filter_append, List.map_append]
  congr 1
  cases b <;> rfl
section
variable {P : Program} {w : World} {K : PySem.W.Frag} {mg : Str → Option Value} {base : Heap}
abbrev n_look_at_names : List Str := ["name", "names", "seen", "word"]
theorem sc_look_at_names : FnScope n_look_at_names ["name", "names"] (defScope s_look_at_names) := ⟨rfl, rfl, rfl, by decide +kernel, rfl, by decide +kernel, by decide +kernel⟩
theorem ok_look_at_names (T : Tx K mg) : Def P w K mg base "look_at_names" ["name", "names"] 2 (Sp2 tStr (tLst tStr) tNon fun n ns r => isWord n = true ∧ (∀ c ∈ ns, isWord c = true) ∧ (n :: ns).Nodup ∧ ns.length ≤ 100) := by
  refine ⟨?_, T.g_look_at_names, T.f_look_at_names.kp, T.f_look_at_names.bindsN fun _ _ _ _ _ _ us hl => match us, hl with | [_, _], _ => rfl⟩
  refine fn_body T.f_look_at_names sc_look_at_names (fun _ _ _ _ h => len2 h) fun cdv A outer s H vs Q E hr h => ?_
  obtain ⟨ls, v, vs, n, ns, r, rfl, L, rfl, ⟨a, us, rfl, ha, rs⟩, ⟨hn, hns, hnd, h100⟩, k⟩ := h
  have ha := cut_at ha
  obtain rfl := rs_str rs
  refine ⟨_, pss_cons (ps_set (i := 2) sc_look_at_names.nd rfl (.inl rfl) (pe_lst (pa_cons (pv 0) pa_nil)))
  (pss_cons (ps_if (pt_not (pt_val (pe_cD (ok_is_word T) hr (pa_cons (pv 0) pa_nil)))) (pss_one ps_never) pss_nil)
  (pss_one (ps_for PassesOwn.never rfl (pi_list (pv 1)) (pg_name (i := 3) sc_look_at_names.nd rfl (.inl rfl))
  (pss_cons (ps_if (PW.pt (pw_or (pt_not (pt_val (pe_cD (ok_is_word T) hr (pa_cons (pv 3) pa_nil)))) (pw_or1 (pt_cmpR op_in_seq (pv 3) (pv 2) (by rfl))))) (pss_one ps_never) pss_nil)
  (pss_one (ps_expr (pe_bm PySem.F.plainAttrs_list PySem.F.slot_list_append PySem.F.type_list_append mt_append (pv 2) (pa_cons (pv 3) pa_nil)))))))), ?_⟩
  refine ⟨_, rfl, szl 1, fun l nl => ?_⟩
  have s1 : Same H (upd H l (.lst [.str n])) := Same.upd nl
  have wl : ∀ s, isWord s = true → s.length ≤ 1000000 := fun s h => by have := isWord_len h; omega
  refine ⟨_, rfl, [], _, n, true, rfl, Live.nil, rfl, ⟨wl _ hn, hn.symm⟩, fun H1 w1 s2 r1 => ?_⟩
  obtain rfl : w1 = .bl true := r1
  refine ⟨_, rfl, iteF ?_⟩
  refine ⟨_, rfl, a, rfl, ⟨_, SqL.of (s2 _ _ (s1 _ _ ha))⟩, for_list (K := K) (a := a) (xs := ns.map V.str) (fun i σ H' => (∃ v3, σ = [some (.str n), some (.ref a), some (.ref l), v3]) ∧ Same H H' ∧ H' l = some (.lst ((n :: ns.take i).map V.str))) ⟨⟨_, rfl⟩, s1.trans s2, by rw [List.take_zero]; exact s2 _ _ upd_same⟩ (fun i σ H' _ p => SqL.of (p.2.1 _ _ ha)) ?_ ?_⟩
  · rintro i x σ H' hx ⟨⟨v3, rfl⟩, s3, hl⟩
    rw [List.getElem?_map] at hx
    obtain ⟨c, hc, rfl⟩ := Option.map_eq_some_iff.mp hx
    have hi := (List.getElem?_eq_some_iff.mp hc).1
    have hw := hns c (List.mem_of_getElem? hc)
    refine ⟨_, rfl, [], _, c, true, rfl, Live.nil, rfl, ⟨wl _ hw, hw.symm⟩, fun H2 w2 s4 r2 => ?_⟩
    obtain rfl : w2 = .bl true := r2
    refine ⟨_, rfl, iteF ?_⟩
    refine ⟨_, rfl, _, rfl, l, _, rfl, .inl (SqL.of (s4 _ _ hl)), rfl, flat_strs _, _, rfl, ?_⟩
    show if (if false = true then _ else inV (.str c) ((n :: ns.take i).map V.str)) = true then _ else _
    rw [if_neg Bool.false_ne_true, inV_str, decide_eq_false (fun m => ?_)]
    · refine iteF ⟨_, rfl, .inl ⟨rfl, _, SqL.of (s4 _ _ hl)⟩, _, rfl, l, _, _, rfl, rfl, s4 _ _ hl, ?_, ⟨_, rfl⟩, (s3.trans s4).mut nl, ?_⟩
      · rw [List.length_map, List.length_cons, List.length_take]; exact small1000 (by omega)
      · rw [take_snoc hc]
        show upd H2 l _ l = some (.lst ((n :: (ns.take i ++ [c])).map V.str))
        rw [upd_same, ← List.cons_append, List.map_append]
        rfl
    · rcases List.mem_cons.mp m with e | m
      · exact (List.nodup_cons.mp hnd).1 (e ▸ List.mem_of_getElem? hc)
      · obtain ⟨j, hj⟩ := List.mem_iff_getElem?.mp m
        rw [List.getElem?_take] at hj
        by_cases q : j < i
        · rw [if_pos q] at hj
          have hjl : j < ns.length := by omega
          rw [List.getElem?_eq_getElem hjl, ← hc, List.getElem?_eq_getElem hi] at hj
          have : j = i := (List.getElem_inj (List.nodup_cons.mp hnd).2).mp (Option.some.inj hj)
          omega
        · rw [if_neg q] at hj; cases hj
  · rintro σ H' ⟨⟨v3, rfl⟩, s3, hl⟩
    exact k _ _ s3 rfl
abbrev n_look_at_row : List Str := ["domains", "outcome", "row", "cells", "spans", "domain", "low", "high"]
theorem sc_look_at_row : FnScope n_look_at_row ["domains", "outcome", "row"] (defScope s_look_at_row) := ⟨rfl, rfl, rfl, by decide +kernel, rfl, by decide +kernel, by decide +kernel⟩
theorem ok_look_at_row (T : Tx K mg) : Def P w K mg base "look_at_row" ["domains", "outcome", "row"] 1 (Sp3 (tLst (tDom K)) (tDom K) tRow tNon fun ds out row r => RowOk ds out row ∧ ds.length ≤ 100) := by
  refine ⟨?_, T.g_look_at_row, T.f_look_at_row.kp, T.f_look_at_row.bindsN fun _ _ _ _ _ _ us hl => match us, hl with | [_, _, _], _ => rfl⟩
  refine fn_body T.f_look_at_row sc_look_at_row (fun _ _ _ _ h => len3 h) fun cdv A outer s H vs Q E hr h => ?_
  obtain ⟨ls, v, vo, vr, ds, out, row, r, rfl, L, rds, rout, rrow, ⟨ok, h100⟩, k⟩ := h
  obtain ⟨ad, ws, rfl, had, rs⟩ := (tLst (tDom K)).mono cut_sub rds
  have rout := (tDom K).mono cut_sub rout
  obtain ⟨tr, u1, u2, rfl, htr, ⟨ac, us, rfl, hac, rc⟩, rcode⟩ := tRow.mono cut_sub rrow
  obtain rfl : u2 = .int row.2 := rcode
  have l1 := rs.len
  have l2 := rc.len
  have l3 := ok.len
  refine ⟨_, pss_cons (ps_set (i := 3) sc_look_at_row.nd rfl (.inl rfl) (pe_ix ix_tup (pv 2) pe_int (fun _ _ => rfl)))
  (pss_cons (ps_if (pt_cmpR op_ne (pe_callB call_len_seq (by rfl) T.n_len PySem.boot_len (pa_cons (pv 3) pa_nil)) (pe_callB call_len_seq (by rfl) T.n_len PySem.boot_len (pa_cons (pv 0) pa_nil)) (nomark _)) (pss_one ps_never) pss_nil)
  (pss_cons (ps_for PassesOwn.never rfl (pi_zip (by rfl) T.n_zip (pa_cons (pv 3) (pa_cons (pv 0) pa_nil))) (pg_tup (by rfl) (pgs_cons (pg_name (i := 4) sc_look_at_row.nd rfl (.inl rfl)) (pgs_cons (pg_name (i := 5) sc_look_at_row.nd rfl (.inl rfl)) pgs_nil)))
  (pss_one (ps_for PassesOwn.never rfl (pi_list (pv 4)) (pg_tup (by rfl) (pgs_cons (pg_name (i := 6) sc_look_at_row.nd rfl (.inl rfl)) (pgs_cons (pg_name (i := 7) sc_look_at_row.nd rfl (.inl rfl)) pgs_nil)))
  (pss_one (ps_if (PW.pt (pw_or (pt_cmpR op_lt (pv 6) (pe_fld (pv 5) rfl) (nomark _)) (pw_or1 (pt_cmpR op_gt (pv 7) (pe_fld (pv 5) rfl) (nomark _))))) (pss_one ps_never) pss_nil)))))
  (pss_one (ps_if (PW.pt (pw_or (pt_cmpR op_lt (pe_ix ix_tup (pv 2) pe_int (fun _ _ => rfl)) (pe_fld (pv 1) rfl) (nomark _)) (pw_or1 (pt_cmpR op_gt (pe_ix ix_tup (pv 2) pe_int (fun _ _ => rfl)) (pe_fld (pv 1) rfl) (nomark _))))) (pss_one ps_never) pss_nil)))), ?_⟩
  refine ⟨_, rfl, tr, _, 0, _, rfl, rfl, SqT.of htr, at_of (j := 0) rfl rfl, ?_⟩
  refine ⟨_, rfl, ac, _, rfl, .inl (SqL.of hac), _, rfl, ad, _, rfl, .inl (SqL.of had), rfl, _, rfl, iteNS (by rw [show us.length = ws.length by omega]) ?_⟩
  refine ⟨_, rfl, _, rfl, ac, ad, us, ws, rfl, SqL.of hac, SqL.of had, for_it (walk_zip (K := K) (a := ac) (b := ad) (xs := us) (ys := ws) rfl) (fun i σ H' => Same H H' ∧ ∃ a b c d, σ = [some (.ref ad), some vo, some (.ref tr), some (.ref ac), a, b, c, d]) ⟨Same.refl _, _, _, _, _, rfl⟩ (fun i σ H' _ p => ⟨SqL.of (p.1 _ _ hac), SqL.of (p.1 _ _ had)⟩) ?_ ?_⟩
  · rintro i x σ H1 H2 hi ⟨s1, v4, v5, v6, v7, rfl⟩ ⟨t, y1, y2, rfl, nt, rfl, hy1, hy2⟩
    obtain ⟨sp, hsp, b, ws2, rfl, hb, rsp⟩ := rc.get hy1
    obtain ⟨d, hd, rd⟩ := rs.get hy2
    obtain ⟨ht, hin, hl⟩ := ok.cells i sp d hsp hd
    have s2 := s1.trans (Same.upd (o := .tup [.ref b, y2]) nt)
    refine ⟨t, _, rfl, SqT.of upd_same, rfl, _, _, rfl, _, _, rfl, rfl, ?_⟩
    refine ⟨_, rfl, b, rfl, ⟨_, SqL.of (s2 _ _ hb)⟩, for_list (K := K) (a := b) (xs := ws2) (fun i σ H' => Same H H' ∧ ∃ c d, σ = [some (.ref ad), some vo, some (.ref tr), some (.ref ac), some (.ref b), some y2, c, d]) ⟨s2, _, _, rfl⟩ (fun i σ H' _ p => SqL.of (p.1 _ _ hb)) ?_ ?_⟩
    · rintro j z σ H3 hz ⟨s3, c6, c7, rfl⟩
      obtain ⟨q, hq, t2, q1, q2, rfl, ht2, e1, e2⟩ := rsp.get hz
      obtain rfl : q1 = _ := e1
      obtain rfl : q2 = _ := e2
      have hqm := List.mem_of_getElem? hq
      refine ⟨t2, _, rfl, SqT.of (s3 _ _ ht2), rfl, _, _, rfl, _, _, rfl, rfl, ?_⟩
      obtain ⟨a2, C, dx, fs, rfl, ha2, cl, n1, n2, k1, k2⟩ := dom_at T ((tDom K).mono s3 rd)
      refine ⟨_, rfl, _, rfl, a2, _, dx, fs, _, rfl, ha2, cl, n1, k1, _, _, rfl, rfl, _, rfl, ?_⟩
      have := hin q hqm
      rw [decide_eq_false (show ¬ q.1 < d.lo by omega)]
      refine iteF ⟨_, rfl, _, rfl, a2, _, dx, fs, _, rfl, ha2, cl, n2, k2, _, _, rfl, rfl, _, rfl, ?_⟩
      rw [decide_eq_false (show ¬ d.hi < q.2 by omega)]
      exact iteF ⟨s3, _, _, rfl⟩
    · rintro σ H3 ⟨s3, c6, c7, rfl⟩
      exact ⟨s3, _, _, _, _, rfl⟩
  · rintro σ H1 ⟨s1, v4, v5, v6, v7, rfl⟩
    obtain ⟨a2, C, dx, fs, rfl, ha2, cl, n1, n2, k1, k2⟩ := dom_at T ((tDom K).mono s1 rout)
    refine ⟨_, rfl, tr, _, 1, _, rfl, rfl, SqT.of (s1 _ _ htr), at_of (j := 1) rfl rfl, _, rfl, a2, _, dx, fs, _, rfl, ha2, cl, n1, k1, _, _, rfl, rfl, _, rfl, ?_⟩
    have := ok.code
    rw [decide_eq_false (show ¬ row.2 < out.lo by omega)]
    refine iteF ⟨_, rfl, tr, _, 1, _, rfl, rfl, SqT.of (s1 _ _ htr), at_of (j := 1) rfl rfl, _, rfl, a2, _, dx, fs, _, rfl, ha2, cl, n2, k2, _, _, rfl, rfl, _, rfl, ?_⟩
    rw [decide_eq_false (show ¬ out.hi < row.2 by omega)]
    exact iteF (k _ _ s1 rfl)
abbrev n_own_rows : List Str := ["rows", "told", "cells", "code", "spans"]
theorem sc_own_rows : FnScope n_own_rows ["rows"] (defScope s_own_rows) := ⟨rfl, rfl, rfl, by decide +kernel, rfl, by decide +kernel, by decide +kernel⟩
theorem ok_own_rows (T : Tx K mg) : Def P w K mg base "own_rows" ["rows"] 1 (Sp1 (tLst tRow) (tLst tRow) fun rows r => r = rows ∧ rows.length ≤ 1000 ∧ ∀ x ∈ rows, x.1.length ≤ 1000) := by
  refine ⟨?_, T.g_own_rows, T.f_own_rows.kp, T.f_own_rows.bindsN fun _ _ _ _ _ _ us hl => match us, hl with | [_], _ => rfl⟩
  refine fn_body T.f_own_rows sc_own_rows (fun _ _ _ _ h => len1 h) fun cdv A outer s H vs Q E hr h => ?_
  obtain ⟨ls, v, rows, r, rfl, L, ⟨a, ws, rfl, ha, rs⟩, ⟨rfl, h1000, hc⟩, k⟩ := h
  have ha := cut_at ha
  have hlen := rs.len
  refine ⟨_, pss_cons (ps_set (i := 1) sc_own_rows.nd rfl (.inl rfl) (pe_lst pa_nil))
  (pss_cons (ps_for PassesOwn.never rfl (pi_list (pv 0)) (pg_tup (by rfl) (pgs_cons (pg_name (i := 2) sc_own_rows.nd rfl (.inl rfl)) (pgs_cons (pg_name (i := 3) sc_own_rows.nd rfl (.inl rfl)) pgs_nil)))
  (pss_one (ps_expr (pe_bm PySem.F.plainAttrs_list PySem.F.slot_list_append PySem.F.type_list_append mt_append (pv 1) (pa_cons (pe_tup (pa_cons (pe_lc (own := [("spans", 4)]) (g := gName 4) rfl sc_own_rows.nd (pi_list (pv 2)) (blkOk_by (own := [("spans", 4)]) (N := n_own_rows) (sc := defScope s_own_rows) (by decide +kernel)) (fun _ _ _ _ _ => (pg_name (i := 4) sc_own_rows.nd rfl (.inl rfl))) (fun _ _ _ _ _ => pts_nil) (fun _ _ _ _ _ => (pe_callTy (list_ofK (K := K)) (by rfl) T.n_list (by decide +kernel) (pa_cons (pv 4) pa_nil)))) (pa_cons (pv 3) pa_nil))) pa_nil)))))
  (pss_one (ps_ret (pv 1)))), ?_⟩
  refine ⟨Nat.zero_le _, fun l nl => ?_⟩
  have s0 : Same H (upd H l (.lst [])) := Same.upd nl
  refine ⟨_, rfl, a, rfl, ⟨_, SqL.of (s0 _ _ ha)⟩, for_list (K := K) (a := a) (xs := ws) (fun i σ H' => (∃ c d e, σ = [some (.ref a), some (.ref l), c, d, e]) ∧ Same H H' ∧ ∃ us, H' l = some (.lst us) ∧ us.length ≤ i ∧ Rs tRow (cut H' (l :: ls)) us (r.take i)) ⟨⟨_, _, _, rfl⟩, s0, [], upd_same, Nat.le_refl _, by rw [List.take_zero]; trivial⟩ (fun i σ H' _ p => SqL.of (p.2.1 _ _ ha)) ?_ ?_⟩
  · rintro i x σ H1 hx ⟨⟨c2, c3, c4, rfl⟩, s1, us, hl, hu, hr⟩
    obtain ⟨row, hrow, tr, u1, u2, rfl, htr, ⟨ac, cs, rfl, hac, rc⟩, rcode⟩ := rs.get hx
    obtain rfl : u2 = .int row.2 := rcode
    have htr := cut_at htr
    have hac := cut_at hac
    have hi := (List.getElem?_eq_some_iff.mp hx).1
    have hcl := hc row (List.mem_of_getElem? hrow)
    have lcs := rc.len
    refine ⟨tr, _, rfl, SqT.of (s1 _ _ htr), rfl, _, _, rfl, _, _, rfl, rfl, ?_⟩
    refine ⟨_, rfl, .inl ⟨rfl, _, SqL.of hl⟩, ?_⟩
    refine ⟨_, rfl, ac, rfl, ⟨_, SqL.of (s1 _ _ hac)⟩, fun D nD => ?_⟩
    refine lc_map (walk_list (K := K) (a := ac) (xs := cs)) (u := tSpans) (ls := l :: ls) row.1 nD (Live.cons hl (L.to s1)) (by omega) (by omega) (fun H' s' => SqL.of (s' _ _ (s1 _ _ hac))) ?_ ?_
    · rintro j y sp H2 H3 R hsp s2 sc L2 ⟨rfl, hy⟩ hR
      obtain ⟨sp', hsp', b, zs, rfl, hb, rz⟩ := rc.get hy
      rw [hsp] at hsp'
      cases hsp'
      refine ⟨rfl, _, rfl, b, _, rfl, .inl (SqL.of (s2 _ _ (s1 _ _ (cut_at hb)))), fun p np => hR _ _ (Same.upd np) ⟨p, _, rfl, at_cut (L2.no np) upd_same, ?_⟩⟩
      exact rz.mono ((s1.more1 nl).trans (sc.trans (Same.cut (Same.upd np))))
    · intro H2 s2 rD
      refine ⟨_, rfl, szl 2, fun t nt => ⟨l, _, _, rfl, rfl, (Same.upd nt) _ _ (s2 _ _ hl), small1000 (by omega), ⟨_, _, _, rfl⟩, ((s1.trans s2).trans (Same.upd nt)).mut nl, _, upd_same, by rw [List.length_append]; exact Nat.succ_le_succ hu, ?_⟩⟩
      rw [cut_upd List.mem_cons_self, take_snoc hrow]
      have s3 := s2.trans (Same.upd (o := .tup [.ref D, .int row.2]) nt)
      exact (hr.mono (Same.cut s3)).snoc ⟨t, _, _, rfl, at_cut ((Live.cons (s2 _ _ hl) (L.to (s1.trans s2))).no nt) upd_same, (tLst tSpans).mono (Same.cut (Same.upd nt)) rD, rfl⟩
  · rintro σ H1 ⟨⟨c2, c3, c4, rfl⟩, s1, us, hl, hu, hr⟩
    rw [hlen, List.take_length] at hr
    exact ⟨_, rfl, k _ _ s1 ⟨l, us, rfl, at_cut (L.no nl) hl, hr.mono Same.less1⟩⟩
end
end Rk
set_option Elab.async false
set_option linter.all false
set_option maxRecDepth 100000
set_option maxHeartbeats 1000000
namespace Rk
open PySem PySem.Spec PyProof.Rows L2
open TL
def spTabI (K : PySem.W.Frag) : Sp := fun vs H Q _ => ∃ ls x dx v2 v3 v4 v6 t, vs = [.ref x, .str t.name, v2, v3, v4, .str t.way.nm, v6] ∧ Live H ls ∧ x ∈ ls ∧ TabOk t ∧ H x = some (.ins (He.ga K "Table") dx []) ∧
  (tLst tStr).rep (cut H ls) v2 t.names ∧ (tLst (tDom K)).rep (cut H ls) v3 t.doms ∧ (tDom K).rep (cut H ls) v4 t.out ∧ (tLst tRow).rep (cut H ls) v6 t.rows ∧
  ∀ H' w2 w3 w4 w6, (∀ b o, H b = some o → b ≠ x → H' b = some o) → H' x = some (.ins (He.ga K "Table") dx (fTab (.str t.name) w2 w3 w4 (.str t.way.nm) w6)) →
    (tLst tStr).rep (cut H' ls) w2 t.names → (tLst (tDom K)).rep (cut H' ls) w3 t.doms → (tDom K).rep (cut H' ls) w4 t.out → (tLst tRow).rep (cut H' ls) w6 t.rows → Q .non H'
theorem len_Table_init {K : PySem.W.Frag} {vs : List V} {H : Hp} {Q : VK} {X : XK} (h : spTabI K vs H Q X) : vs.length = 7 := by
  obtain ⟨_, _, _, _, _, _, _, _, rfl, _⟩ := h; rfl
/-- what stands but for one that is being written -/
def But (x : Addr) (H H' : Hp) : Prop := ∀ b o, H b = some o → b ≠ x → H' b = some o
theorem But.of {x : Addr} {H H' : Hp} (s : Same H H') : But x H H' := fun b o e _ => s b o e
theorem But.trans {x : Addr} {H H1 H2 : Hp} (a : But x H H1) (b : But x H1 H2) : But x H H2 := fun c o e n => b c o (a c o e n) n
theorem But.upd {x : Addr} {H : Hp} {o : HO} : But x H (upd H x o) := fun b u e n => by rw [upd_ne n]; exact e
theorem But.cut {x : Addr} {H H' : Hp} {ls : List Addr} (s : But x H H') (m : x ∈ ls) : Same (cut H ls) (cut H' ls) := fun b o e => by
  obtain ⟨n, e⟩ := cut_iff.mp e
  exact at_cut n (s b o e (fun q => n (q ▸ m)))
theorem But.live {x : Addr} {H H' : Hp} {ls : List Addr} (s : But x H H') (L : Live H ls) (hx : H' x ≠ none) : Live H' ls := fun b m e => by
  by_cases q : b = x
  · exact hx (q ▸ e)
  · cases h : H b with
    | none => exact L b m h
    | some o => rw [s b o h q] at e; cases e
/-- an instance at x is being filled: its fields are fs -/
structure Fill (ls : List Addr) (x C dx : Addr) (H0 H : Hp) (fs : List (Str × V)) : Prop where
  but : But x H0 H
  at_ : H x = some (.ins C dx fs)
  live : Live H ls
theorem Fill.store {ls : List Addr} {x C dx : Addr} {H0 H : Hp} {fs : List (Str × V)} (F : Fill ls x C dx H0 H fs) (fs' : List (Str × V)) : Fill ls x C dx H0 (upd H x (.ins C dx fs')) fs' :=
  ⟨F.but.trans But.upd, upd_same, But.upd.live F.live (by rw [upd_same]; exact fun q => nomatch q)⟩
theorem Fill.new {ls : List Addr} {x C dx p : Addr} {H0 H : Hp} {o : HO} {fs : List (Str × V)} (F : Fill ls x C dx H0 H fs) (n : H p = none) : Fill ls x C dx H0 (upd H p o) fs :=
  ⟨F.but.trans (But.of (Same.upd n)), Same.upd n _ _ F.at_, F.live.to (Same.upd n)⟩
theorem Fill.same {ls : List Addr} {x C dx : Addr} {H0 H H1 : Hp} {fs : List (Str × V)} (F : Fill ls x C dx H0 H fs) (s : Same H H1) : Fill ls x C dx H0 H1 fs :=
  ⟨F.but.trans (But.of s), s _ _ F.at_, F.live.to s⟩
section
variable {P : Program} {w : World} {K : PySem.W.Frag} {mg : Str → Option Value} {base : Heap}
/-- list(xs), what it stands for -/
theorem list_copy {A : Type} {t : Ty A} {H H1 : Hp} {ls : List Addr} {v : V} {xs : List A} (r : (tLst t).rep (cut H ls) v xs) : ∃ a vs, v = .ref a ∧ H a = some (.lst vs) ∧ a ∉ ls ∧ ∀ H2, Same (cut H ls) (cut H2 ls) → ∀ p, p ∉ ls → H2 p = none → (tLst t).rep (cut (upd H2 p (.lst vs)) ls) (.ref p) xs := by
  obtain ⟨a, vs, e, h, rs⟩ := r
  exact ⟨a, vs, e, cut_at h, (cut_iff.mp h).1, fun H2 s p np n2 => ⟨p, vs, rfl, at_cut np upd_same, rs.mono (s.trans (Same.cut (Same.upd n2)))⟩⟩
abbrev n_Table_init : List Str := ["self", "name", "names", "domains", "outcome", "way", "rows", "row"]
theorem sc_Table_init : FnScope n_Table_init ["self", "name", "names", "domains", "outcome", "way", "rows"] (defScope s_Table_init) := ⟨rfl, rfl, rfl, by decide +kernel, rfl, by decide +kernel, by decide +kernel⟩
theorem mk_Table (T : Tx K mg) : Ctor P w K mg base "Table" ["self", "name", "names", "domains", "outcome", "way", "rows"] 5 (spTabI K) := by
  refine ⟨?_, T.k_Table, T.g_Table, T.f_Table_init.bindsN fun _ _ _ _ _ _ us hl => match us, hl with | [_, _, _, _, _, _, _], _ => rfl⟩
  refine fn_body T.f_Table_init sc_Table_init (fun _ _ _ _ h => len_Table_init h) fun cdv A outer s H vs Q E hr h => ?_
  obtain ⟨ls, x, dx, v2, v3, v4, v6, t, rfl, L, mx, ok, hx, r2, r3, r4, r6, k⟩ := h
  have hw : isWord t.name = true := ok.word
  obtain ⟨c1, c4⟩ := ok.cols
  have hd := ok.dlen
  have hm := ok.most
  refine ⟨_, pss_cons (ps_expr (pe_cD (ok_look_at_names T) hr (pa_cons (pv 1) (pa_cons (pv 2) pa_nil))))
  (pss_cons (ps_if (PW.pt (pw_or (pt_cmpR op_eq (pe_callB call_len_seq (by rfl) T.n_len PySem.boot_len (pa_cons (pv 2) pa_nil)) pe_int (nomark _)) (pw_or (pt_cmpR op_gt (pe_callB call_len_seq (by rfl) T.n_len PySem.boot_len (pa_cons (pv 2) pa_nil)) (pe_gi T.i_MOST_COLUMNS_tables) (nomark _)) (pw_or1 (pt_cmpR op_gt (pe_callB call_len_seq (by rfl) T.n_len PySem.boot_len (pa_cons (pv 6) pa_nil)) (pe_gi T.i_MOST_ROWS_tables) (nomark _)))))) (pss_one ps_never) pss_nil)
  (pss_cons (ps_expr (pe_cD (ok_way_by T) hr (pa_cons (pv 5) pa_nil)))
  (pss_cons (ps_if (PW.pt (pw_and (pt_cmpR op_eq (pv 5) pe_str (nomark _)) (pw_and1 (pt_val (pe_callB call_isi (by rfl) T.n_isinstance (by decide +kernel) (pa_cons (pv 4) (pa_cons (pe_gc T.g_Words) pa_nil))))))) (pss_one ps_never) pss_nil)
  (pss_cons (ps_for PassesOwn.never rfl (pi_list (pv 6)) (pg_name (i := 7) sc_Table_init.nd rfl (.inl rfl))
  (pss_one (ps_expr (pe_cD (ok_look_at_row T) hr (pa_cons (pv 3) (pa_cons (pv 4) (pa_cons (pv 7) pa_nil)))))))
  (pss_cons (ps_fld (pv 0) (pv 1) rfl)
  (pss_cons (ps_fld (pv 0) (pe_callTy call_list_of (by rfl) T.n_list (by decide +kernel) (pa_cons (pv 2) pa_nil)) rfl)
  (pss_cons (ps_fld (pv 0) (pe_callTy call_list_of (by rfl) T.n_list (by decide +kernel) (pa_cons (pv 3) pa_nil)) rfl)
  (pss_cons (ps_fld (pv 0) (pv 4) rfl)
  (pss_cons (ps_fld (pv 0) (pv 5) rfl)
  (pss_one (ps_fld (pv 0) (pe_cD (ok_own_rows T) hr (pa_cons (pv 6) pa_nil)) rfl))))))))))), ?_⟩
  refine ⟨_, rfl, _, rfl, ls, _, _, _, _, (), rfl, L, rfl, r2, ⟨ok.word, ok.words, ok.nd, by omega⟩, fun H1 w1 s1 _ => ?_⟩
  obtain ⟨a2, us2, e2, ha2, n2, cp2⟩ := list_copy (H1 := H) r2
  obtain ⟨a3, us3, e3, ha3, n3, cp3⟩ := list_copy (H1 := H) r3
  obtain ⟨a6, us6, e6, ha6, rs6⟩ := id r6
  have l2 : us2.length = t.names.length := by
    obtain ⟨b, us, e, hb, rs⟩ := r2
    rw [e2] at e; cases e
    have := cut_at hb
    rw [ha2] at this; cases this
    exact rs.len
  have l6 := rs6.len
  have ha6 := cut_at ha6
  subst e2 e3 e6
  refine ⟨_, rfl, a2, _, rfl, .inl (SqL.of (s1 _ _ ha2)), rfl, _, rfl, ?_⟩
  rw [decide_eq_false (show ¬ V.int (us2.length : Nat) = V.int 0 from fun e => by have := V.int.inj e; omega)]
  refine iteF ⟨_, rfl, a2, _, rfl, .inl (SqL.of (s1 _ _ ha2)), _, _, rfl, rfl, _, rfl, ?_⟩
  rw [decide_eq_false (show ¬ (4 : Int) < (us2.length : Nat) by omega)]
  refine iteF ⟨_, rfl, a6, _, rfl, .inl (SqL.of (s1 _ _ ha6)), _, _, rfl, rfl, _, rfl, ?_⟩
  rw [decide_eq_false (show ¬ (200 : Int) < (us6.length : Nat) by omega)]
  refine iteF ?_
  refine ⟨_, rfl, [], _, _, t.way, rfl, Live.nil, rfl, rfl, fun H2 w2 s2 _ => ?_⟩
  have s12 := s1.trans s2
  -- way == "sum" and isinstance(outcome, Words)
  refine ⟨_, rfl, rfl, _, rfl, ?_⟩
  obtain ⟨tt, ty, kk⟩ := dom_isW T ((tDom K).mono s12 ((tDom K).mono cut_sub r4))
  suffices main : ∀ H3, Same H H3 → _ by
    refine ite2 (fun c => ?_) (fun c => ?_)
    · have c := V.str.inj (ydec c)
      have hs : t.way = .sum := by
        cases hy : t.way with
        | sum => rfl
        | _ => rw [hy] at c; exact absurd c (by decide +kernel)
      obtain ⟨lo, hi, eo⟩ := ok.way hs
      have kk' : PySem.W.kitOne K tt (.ref (He.ga K "Words")) = some false := by rw [eo] at kk; exact kk
      refine ⟨_, rfl, _, _, _, _, _, rfl, .own _, ty, kk', _, rfl, ?_⟩
      exact iteF (main H2 s12)
    · exact iteF (main H2 s12)
  intro H3 s3
  refine ⟨_, rfl, a6, rfl, ⟨_, SqL.of (s3 _ _ ha6)⟩, for_list (K := K) (a := a6) (xs := us6) (fun i σ H' => (∃ c, σ = [some (.ref x), some (.str t.name), some (.ref a2), some (.ref a3), some v4, some (.str t.way.nm), some (.ref a6), c]) ∧ Same H H') ⟨⟨_, rfl⟩, s3⟩ (fun i σ H' _ p => SqL.of (p.2 _ _ ha6)) ?_ ?_⟩
  · rintro i y σ H4 hy ⟨⟨c, rfl⟩, s4⟩
    obtain ⟨row, hrow, rr⟩ := rs6.get hy
    exact ⟨_, rfl, _, rfl, _, rfl, ls, _, _, _, _, _, _, (), rfl, L.to s4, (tLst (tDom K)).mono s4.cut r3, (tDom K).mono s4.cut r4, tRow.mono s4.cut rr, ⟨ok.rows row (List.mem_of_getElem? hrow), by omega⟩, fun H5 w5 s5 _ => ⟨⟨_, rfl⟩, s4.trans s5⟩⟩
  rintro σ H4 ⟨⟨c, rfl⟩, s4⟩
  -- the fields
  have clT := T.c_Table
  have hl : ∀ (f g h i j : Str) (a b c d e : V), (putF f a (putF g b (putF h c (putF i d (putF j e []))))).length < 1000 := fun f g h i j a b c d e => by
    have q1 := putF_len j e []; have q2 := putF_len i d (putF j e []); have q3 := putF_len h c (putF i d (putF j e [])); have q4 := putF_len g b (putF h c (putF i d (putF j e []))); have q5 := putF_len f a (putF g b (putF h c (putF i d (putF j e []))))
    have : ([] : List (Str × V)).length = 0 := rfl
    omega
  have F4 : Fill ls x _ dx H H4 [] := ⟨But.of s4, s4 _ _ hx, L.to s4⟩
  refine ⟨_, rfl, _, rfl, x, _, dx, _, rfl, F4.at_, clT, T.a_Table_name, by show 0 < 1000; decide, ?_⟩
  have F5 := F4.store (putF "name" (.str t.name) [])
  refine ⟨_, rfl, a2, _, rfl, .inl (SqL.of (F5.but _ _ ha2 (fun e => n2 (e ▸ mx)))), fun p2 np2 => ?_⟩
  have q2 := cp2 _ (F5.but.cut mx) p2 (F5.live.no np2) np2
  have F6 := F5.new (o := .lst us2) np2
  refine ⟨_, rfl, x, _, dx, _, rfl, F6.at_, clT, T.a_Table_names, Nat.lt_of_le_of_lt (putF_len _ _ _) (by decide), ?_⟩
  have F7 := F6.store (putF "names" (.ref p2) (putF "name" (.str t.name) []))
  have q2 := (tLst tStr).mono ((But.upd (o := .ins (He.ga K "Table") dx (putF "names" (.ref p2) (putF "name" (.str t.name) [])))).cut mx) q2
  refine ⟨_, rfl, a3, _, rfl, .inl (SqL.of (F7.but _ _ ha3 (fun e => n3 (e ▸ mx)))), fun p3 np3 => ?_⟩
  have q3 := cp3 _ (F7.but.cut mx) p3 (F7.live.no np3) np3
  have F8 := F7.new (o := .lst us3) np3
  have q2 := (tLst tStr).mono (Same.cut (Same.upd (o := .lst us3) np3)) q2
  refine ⟨_, rfl, x, _, dx, _, rfl, F8.at_, clT, T.a_Table_domains, Nat.lt_of_le_of_lt (Nat.le_trans (putF_len _ _ _) (Nat.succ_le_succ (putF_len _ _ _))) (by decide), ?_⟩
  have F9 := F8.store (putF "domains" (.ref p3) (putF "names" (.ref p2) (putF "name" (.str t.name) [])))
  have up9 := (But.upd (H := upd (upd (upd (upd H4 x (.ins (He.ga K "Table") dx (putF "name" (.str t.name) []))) p2 (.lst us2)) x (.ins (He.ga K "Table") dx (putF "names" (.ref p2) (putF "name" (.str t.name) [])))) p3 (.lst us3)) (o := .ins (He.ga K "Table") dx (putF "domains" (.ref p3) (putF "names" (.ref p2) (putF "name" (.str t.name) []))))).cut mx
  have q2 := (tLst tStr).mono up9 q2
  have q3 := (tLst (tDom K)).mono up9 q3
  generalize upd (upd (upd (upd (upd H4 x (.ins (He.ga K "Table") dx (putF "name" (.str t.name) []))) p2 (.lst us2)) x (.ins (He.ga K "Table") dx (putF "names" (.ref p2) (putF "name" (.str t.name) [])))) p3 (.lst us3)) x (.ins (He.ga K "Table") dx (putF "domains" (.ref p3) (putF "names" (.ref p2) (putF "name" (.str t.name) [])))) = H9 at *
  generalize hf9 : putF "domains" (.ref p3) (putF "names" (.ref p2) (putF "name" (.str t.name) [])) = f9 at *
  have l9 : f9.length ≤ 3 := by rw [← hf9]; exact Nat.le_trans (putF_len _ _ _) (Nat.succ_le_succ (Nat.le_trans (putF_len _ _ _) (Nat.succ_le_succ (putF_len _ _ _))))
  refine ⟨_, rfl, _, rfl, x, _, dx, _, rfl, F9.at_, clT, T.a_Table_outcome, Nat.lt_of_le_of_lt l9 (by decide), ?_⟩
  have F10 := F9.store (putF "outcome" v4 f9)
  have l10 := putF_len "outcome" v4 f9
  refine ⟨_, rfl, _, rfl, x, _, dx, _, rfl, F10.at_, clT, T.a_Table_way, by omega, ?_⟩
  have F11 := F10.store (putF "way" (.str t.way.nm) (putF "outcome" v4 f9))
  have l11 := putF_len "way" (.str t.way.nm) (putF "outcome" v4 f9)
  refine ⟨_, rfl, ls, _, _, _, rfl, F11.live, (tLst tRow).mono (F11.but.cut mx) r6, ⟨rfl, by omega, fun r hr => by have := (ok.rows r hr).len; omega⟩, fun H12 w12 s12 r12 => ?_⟩
  have F12 := F11.same s12
  refine ⟨_, rfl, x, _, dx, _, rfl, F12.at_, clT, T.a_Table_rows, by omega, ?_⟩
  have F13 := F12.store (putF "rows" w12 (putF "way" (.str t.way.nm) (putF "outcome" v4 f9)))
  have c13 := (But.upd (H := H12) (o := .ins (He.ga K "Table") dx (putF "rows" w12 (putF "way" (.str t.way.nm) (putF "outcome" v4 f9))))).cut mx
  have c911 := ((But.upd (x := x) (H := H9) (o := .ins (He.ga K "Table") dx (putF "outcome" v4 f9))).trans But.upd).cut (ls := ls) (H' := upd (upd H9 x (.ins (He.ga K "Table") dx (putF "outcome" v4 f9))) x (.ins (He.ga K "Table") dx (putF "way" (.str t.way.nm) (putF "outcome" v4 f9)))) mx
  have c9 := (c911.trans s12.cut).trans c13
  refine k _ (.ref p2) (.ref p3) v4 w12 F13.but ?_ ((tLst tStr).mono c9 q2) ((tLst (tDom K)).mono c9 q3) ((tDom K).mono (F13.but.cut mx) r4) ((tLst tRow).mono c13 r12)
  rw [F13.at_, ← hf9, put_tab]
end
end Rk
set_option Elab.async false
set_option linter.all false
set_option maxRecDepth 100000
set_option maxHeartbeats 1000000
namespace Rk
open PySem PySem.Spec PyProof.Rows L2
open TL
theorem fits_snoc {cells : List Spans} {cs : List Int} {i : Nat} {sp : Spans} {c : Int} (h1 : cells[i]? = some sp) (h2 : cs[i]? = some c) : fitsF (cells.take (i + 1)) (cs.take (i + 1)) = (fitsF (cells.take i) (cs.take i) && heldB sp c) := by
  unfold fitsF
  have l1 := (List.getElem?_eq_some_iff.mp h1).1
  have l2 := (List.getElem?_eq_some_iff.mp h2).1
  rw [take_snoc h1, take_snoc h2, List.zip_append (by rw [List.length_take, List.length_take]; omega), List.all_append]
  simp
theorem fits_no {cells : List Spans} {cs : List Int} {i : Nat} {sp : Spans} {c : Int} (h1 : cells[i]? = some sp) (h2 : cs[i]? = some c) (h : heldB sp c = false) : fitsF cells cs = false := by
  cases e : fitsF cells cs with
  | false => rfl
  | true =>
    have := List.all_eq_true.mp e (sp, c) (List.mem_of_getElem? (i := i) (by rw [List.getElem?_zip_eq_some]; exact ⟨h1, h2⟩))
    rw [h] at this; cases this
def fsOf (t : Tab) (cs : List Int) : List Bool := t.rows.map fun r => fitsF r.1 cs
section
variable {P : Program} {w : World} {K : PySem.W.Frag} {mg : Str → Option Value} {base : Heap}
abbrev n_fits : List Str := ["table", "k", "codes", "spans", "code"]
theorem sc_fits : FnScope n_fits ["table", "k", "codes"] (defScope s_fits) := ⟨rfl, rfl, rfl, by decide +kernel, rfl, by decide +kernel, by decide +kernel⟩
theorem ok_fits (T : Tx K mg) : Def P w K mg base "fits" ["table", "k", "codes"] 2 (Sp3 (tTab K) tInt (tLst tInt) tBool fun t k cs r => ∃ row, 0 ≤ k ∧ t.rows[k.toNat]? = some row ∧ row.1.length = cs.length ∧ (∀ sp ∈ row.1, Tidy sp) ∧ r = fitsF row.1 cs) := by
  refine ⟨?_, T.g_fits, T.f_fits.kp, T.f_fits.bindsN fun _ _ _ _ _ _ us hl => match us, hl with | [_, _, _], _ => rfl⟩
  refine fn_body T.f_fits sc_fits (fun _ _ _ _ h => len3 h) fun cdv A outer s H vs Q E hr h => ?_
  obtain ⟨ls, v, vk, vc, t, kk, cs, r, rfl, L, ⟨at_, dx, v1, v2, v3, v4, rfl, hat, r1, r2, r3, ⟨ar, us, rfl, har, rr⟩⟩, rfl, ⟨ac, ucs, rfl, hac, rc⟩, ⟨row, h0, hrow, hlen, htidy, rfl⟩, k⟩ := h
  have hat := cut_at hat
  have har := cut_at har
  have hac := cut_at hac
  obtain ⟨x, hx, tr, y1, y2, rfl, htr, ⟨acell, cells, rfl, hcell, rcell⟩, _⟩ := rr.at_ hrow
  have htr := cut_at htr
  have hcell := cut_at hcell
  have l1 := rcell.len
  have l2 := rc.len
  obtain rfl := rs_int rc
  refine ⟨_, pss_cons (ps_for PassesOwn.never rfl (pi_zip (by rfl) T.n_zip (pa_cons (pe_ix ix_tup (pe_ix ix_list (pe_fld (pv 0) rfl) (pv 1) (fun _ _ => rfl)) pe_int (fun _ _ => rfl)) (pa_cons (pv 2) pa_nil))) (pg_tup (by rfl) (pgs_cons (pg_name (i := 3) sc_fits.nd rfl (.inl rfl)) (pgs_cons (pg_name (i := 4) sc_fits.nd rfl (.inl rfl)) pgs_nil)))
  (pss_one (ps_if (pt_not (pt_val (pe_cD (ok_holds T) hr (pa_cons (pv 3) (pa_cons (pv 4) pa_nil))))) (pss_one (ps_ret pe_bl)) pss_nil)))
  (pss_one (ps_ret pe_bl)), ?_⟩
  refine ⟨_, rfl, at_, _, dx, _, .ref ar, rfl, hat, T.c_Table, T.a_Table_rows, ft_rows _ _ _ _ _ _, _, rfl, ar, us, kk, _, rfl, rfl, SqL.of har, at_of (j := kk.toNat) (by omega) hx, ?_⟩
  refine ⟨tr, _, 0, _, rfl, rfl, SqT.of htr, at_of (j := 0) rfl rfl, _, rfl, acell, ac, cells, cs.map V.int, rfl, SqL.of hcell, SqL.of hac, ?_⟩
  refine for_it (walk_zip (K := K) (a := acell) (b := ac) (xs := cells) (ys := cs.map V.int) rfl) (fun i σ H' => (∃ c d, σ = [some (.ref at_), some (.int kk), some (.ref ac), c, d]) ∧ Same H H' ∧ fitsF (row.1.take i) (cs.take i) = true) ⟨⟨_, _, rfl⟩, Same.refl _, by rw [List.take_zero, List.take_zero]; rfl⟩ (fun i σ H' _ p => ⟨SqL.of (p.2.1 _ _ hcell), SqL.of (p.2.1 _ _ hac)⟩) ?_ ?_
  · rintro i x σ H1 H2 hi ⟨⟨c3, c4, rfl⟩, s1, hf⟩ ⟨tt, z1, z2, rfl, nt, rfl, hz1, hz2⟩
    obtain ⟨sp, hsp, rsp⟩ := rcell.get hz1
    have hz2 : (cs.map V.int)[i]? = some z2 := hz2
    rw [List.getElem?_map] at hz2
    obtain ⟨c, hc, rfl⟩ := Option.map_eq_some_iff.mp hz2
    have s2 := s1.trans (Same.upd (o := .tup [z1, .int c]) nt)
    refine ⟨tt, _, rfl, SqT.of upd_same, rfl, _, _, rfl, _, _, rfl, rfl, ?_⟩
    refine ⟨_, rfl, _, rfl, ls, _, _, sp, c, _, rfl, L.to s2, tSpans.mono s2.cut rsp, rfl, ⟨htidy sp (List.mem_of_getElem? hsp), rfl⟩, fun H3 w3 s3 r3 => ?_⟩
    obtain rfl : w3 = .bl (heldB sp c) := r3
    refine ⟨_, rfl, ?_⟩
    cases e : heldB sp c with
    | true => exact iteF ⟨⟨_, _, rfl⟩, s2.trans s3, by rw [fits_snoc hsp hc, hf, e]; rfl⟩
    | false => exact iteT (k _ _ (s2.trans s3) (by rw [fits_no hsp hc e]; rfl))
  · rintro σ H1 ⟨⟨c3, c4, rfl⟩, s1, hf⟩
    rw [List.length_map, Nat.min_eq_left (by omega), List.take_of_length_le (by omega), List.take_of_length_le (by omega)] at hf
    exact k _ _ s1 (by rw [hf]; rfl)
abbrev n_mask : List Str := ["table", "codes", "told", "k"]
theorem sc_mask : FnScope n_mask ["table", "codes"] (defScope s_mask) := ⟨rfl, rfl, rfl, by decide +kernel, rfl, by decide +kernel, by decide +kernel⟩
theorem ok_mask (T : Tx K mg) : Def P w K mg base "mask" ["table", "codes"] 3 (Sp2 (tTab K) (tLst tInt) tInt fun t cs r => TabOk t ∧ cs.length = t.names.length ∧ r = maskL (fsOf t cs)) := by
  refine ⟨?_, T.g_mask, T.f_mask.kp, T.f_mask.bindsN fun _ _ _ _ _ _ us hl => match us, hl with | [_, _], _ => rfl⟩
  refine fn_body T.f_mask sc_mask (fun _ _ _ _ h => len2 h) fun cdv A outer s H vs Q E hr h => ?_
  obtain ⟨ls, v, vc, t, cs, r, rfl, L, rt, rcs, ⟨ok, hlen, rfl⟩, k⟩ := h
  obtain ⟨at_, dx, v1, v2, v3, v4, rfl, hat, r1, r2, r3, ⟨ar, us, rfl, har, rr⟩⟩ := id rt
  have hat := cut_at hat
  have har := cut_at har
  have l1 := rr.len
  have l2 := ok.most
  refine ⟨_, pss_cons (ps_set (i := 2) sc_mask.nd rfl (.inl rfl) pe_int)
  (pss_cons (ps_for PassesOwn.never rfl (pi_range1 (by rfl) T.n_range (pa_cons (pe_callB call_len_seq (by rfl) T.n_len PySem.boot_len (pa_cons (pe_fld (pv 0) rfl) pa_nil)) pa_nil)) (pg_name (i := 3) sc_mask.nd rfl (.inl rfl))
  (pss_one (ps_if (pt_val (pe_cD (ok_fits T) hr (pa_cons (pv 0) (pa_cons (pv 3) (pa_cons (pv 1) pa_nil))))) (pss_one (ps_set (i := 2) sc_mask.nd rfl (.inl rfl) (pe_op op_or (pv 2) (pe_op op_shl pe_int (pv 3))))) pss_nil)))
  (pss_one (ps_ret (pv 2)))), ?_⟩
  refine ⟨_, rfl, at_, _, dx, _, .ref ar, rfl, hat, T.c_Table, T.a_Table_rows, ft_rows _ _ _ _ _ _, ar, us, rfl, .inl (SqL.of har), _, rfl, by omega, by omega, ?_⟩
  refine for_range (lo := 0) (fun i σ H' => (∃ c, σ = [some (.ref at_), some vc, some (.int (maskL ((fsOf t cs).take i))), c]) ∧ Same H H') ⟨⟨_, rfl⟩, Same.refl _⟩ ?_ ?_
  · rintro i σ H1 hi ⟨⟨c, rfl⟩, s1⟩
    have hi : i < t.rows.length := by omega
    have hrow : t.rows[i]? = some t.rows[i] := by simp [hi]
    have rok := ok.rows _ (List.getElem_mem hi)
    have hf : (fsOf t cs)[i]? = some (fitsF t.rows[i].1 cs) := by unfold fsOf; rw [List.getElem?_map, hrow]; rfl
    have hfl : (fsOf t cs).length = t.rows.length := List.length_map _
    have htk : ((fsOf t cs).take i).length = i := by rw [List.length_take]; omega
    refine ⟨_, rfl, _, rfl, _, rfl, ls, _, _, _, t, 0 + (i : Nat), cs, _, rfl, L.to s1, (tTab K).mono s1.cut rt, rfl, (tLst tInt).mono s1.cut rcs, ⟨_, by omega, by rw [show ((0 : Int) + (i : Nat)).toNat = i by omega]; exact hrow, by rw [rok.len, ok.dlen, hlen], fun sp hsp => ?_, rfl⟩, fun H2 w2 s2 e2 => ?_⟩
    · obtain ⟨j, hj⟩ := List.mem_iff_getElem?.mp hsp
      have hj1 := (List.getElem?_eq_some_iff.mp hj).1
      exact (rok.cells j sp (t.doms[j]'(by rw [← rok.len]; exact hj1)) hj (by simp [← rok.len, hj1])).1
    obtain rfl : w2 = .bl (fitsF t.rows[i].1 cs) := e2
    have eb : maskL ((fsOf t cs).take (i + 1)) = maskL ((fsOf t cs).take i) + (if fitsF t.rows[i].1 cs = true then 2 ^ i else 0) := by
      rw [take_snoc hf, maskL_snoc, htk]
    refine ⟨_, rfl, ?_⟩
    cases e : fitsF t.rows[i].1 cs with
    | true =>
      rw [e, if_pos rfl] at eb
      have eo : Builtin.bitOr (maskL ((fsOf t cs).take i)) (1 * 2 ^ ((0 : Int) + (i : Nat)).toNat) = maskL ((fsOf t cs).take (i + 1)) := by
        rw [show ((0 : Int) + (i : Nat)).toNat = i by omega, Bits.bitOr_join (maskL_nn _) (by have := maskL_lt ((fsOf t cs).take i); rw [htk] at this; exact this) (by decide), Int.one_mul, eb]
      refine iteT ⟨_, rfl, _, rfl, _, _, rfl, rfl, ⟨by omega, by omega, by decide⟩, _, _, rfl, rfl, ⟨some (.int (0 + (i : Nat))), ?_⟩, s1.trans s2⟩
      show ([_, _, some (V.int (Builtin.bitOr _ _)), _] : L2.St) = _
      rw [eo]
    | false =>
      rw [e, if_neg Bool.false_ne_true, Int.add_zero] at eb
      refine iteF ⟨⟨some (.int (0 + (i : Nat))), ?_⟩, s1.trans s2⟩
      rw [eb]
      rfl
  · rintro σ H1 ⟨⟨c, rfl⟩, s1⟩
    refine ⟨_, rfl, k _ _ s1 ?_⟩
    show V.int (maskL (List.take _ _)) = _
    rw [List.take_of_length_le (by unfold fsOf; rw [List.length_map]; omega)]
abbrev n_judged : List Str := ["table", "rows", "codes", "k"]
theorem sc_judged : FnScope n_judged ["table", "rows"] (defScope s_judged) := ⟨rfl, rfl, rfl, by decide +kernel, rfl, by decide +kernel, by decide +kernel⟩
theorem ok_judged (T : Tx K mg) : Def P w K mg base "judged" ["table", "rows"] 5 (Sp2 (tTab K) tInt tVer fun t m r => TabOk t ∧ ∃ fs : List Bool, fs.length = t.rows.length ∧ m = maskL fs ∧ r = verdictF t.way (picked t.rows fs) t.out.lo t.out.hi) := by
  refine ⟨?_, T.g_judged, T.f_judged.kp, T.f_judged.bindsN fun _ _ _ _ _ _ us hl => match us, hl with | [_, _], _ => rfl⟩
  refine fn_body T.f_judged sc_judged (fun _ _ _ _ h => len2 h) fun cdv A outer s H vs Q E hr h => ?_
  obtain ⟨ls, v, vm, t, m, r, rfl, L, ⟨at_, dx, v1, v2, v3, v4, rfl, hat, r1, r2, r3, ⟨ar, us, rfl, har, rr⟩⟩, rfl, ⟨ok, fs, hfl, rfl, rfl⟩, k⟩ := h
  have hat := cut_at hat
  have har := cut_at har
  have l1 := rr.len
  have l2 := ok.most
  refine ⟨_, pss_cons (ps_set (i := 2) sc_judged.nd rfl (.inl rfl) (pe_lst pa_nil))
  (pss_cons (ps_for PassesOwn.never rfl (pi_range1 (by rfl) T.n_range (pa_cons (pe_callB call_len_seq (by rfl) T.n_len PySem.boot_len (pa_cons (pe_fld (pv 0) rfl) pa_nil)) pa_nil)) (pg_name (i := 3) sc_judged.nd rfl (.inl rfl))
  (pss_one (ps_if (pt_cmpR op_eq (pe_op op_and (pe_op op_shr (pv 1) (pv 3)) pe_int) pe_int (nomark _)) (pss_one (ps_expr (pe_bm PySem.F.plainAttrs_list PySem.F.slot_list_append PySem.F.type_list_append mt_append (pv 2) (pa_cons (pe_ix ix_tup (pe_ix ix_list (pe_fld (pv 0) rfl) (pv 3) (fun _ _ => rfl)) pe_int (fun _ _ => rfl)) pa_nil)))) pss_nil)))
  (pss_one (ps_ret (pe_disp (P := P) (w := w) (K := K) (mg := mg) (base := base) (pe_cD (ok_way_by T) hr (pa_cons (pe_fld (pv 0) rfl) pa_nil)) hr (pa_cons (pv 2) (pa_cons (pe_fld (pv 0) rfl) pa_nil)))))), ?_⟩
  refine ⟨Nat.zero_le _, fun l nl => ?_⟩
  have s0 : Same H (upd H l (.lst [])) := Same.upd nl
  refine ⟨_, rfl, at_, _, dx, _, .ref ar, rfl, s0 _ _ hat, T.c_Table, T.a_Table_rows, ft_rows _ _ _ _ _ _, ar, us, rfl, .inl (SqL.of (s0 _ _ har)), _, rfl, by omega, by omega, ?_⟩
  refine for_range (lo := 0) (fun i σ H' => (∃ c, σ = [some (.ref at_), some (.int (maskL fs)), some (.ref l), c]) ∧ Same H H' ∧ ∃ acc : List Int, acc = picked (t.rows.take i) (fs.take i) ∧ acc.length ≤ i ∧ H' l = some (.lst (acc.map V.int))) ⟨⟨_, rfl⟩, s0, [], by rw [List.take_zero, List.take_zero]; rfl, Nat.le_refl _, upd_same⟩ ?_ ?_
  · rintro i σ H1 hi ⟨⟨c, rfl⟩, s1, acc, eacc, hacc, hl⟩
    have hi : i < t.rows.length := by omega
    have hrow : t.rows[i]? = some t.rows[i] := by simp [hi]
    have hfi : fs[i]? = some (fs[i]'(by omega)) := by simp [hfl, hi]
    have hb := maskL_bit fs i _ hfi
    generalize fs[i]'(by omega) = b at *
    have hn : 0 ≤ maskL fs / 2 ^ i := Int.ediv_nonneg (maskL_nn fs) (Int.pow_nonneg (by decide))
    have eb : Builtin.bitAnd (maskL fs / 2 ^ ((0 : Int) + (i : Nat)).toNat) 1 = if b = true then 1 else 0 := by
      have := Bits.bitAnd_mask 1 hn
      rw [show ((0 : Int) + (i : Nat)).toNat = i by omega]
      rw [← hb]
      exact this
    have ps := pick_snoc hrow hfi
    refine ⟨_, rfl, _, rfl, _, _, rfl, rfl, by omega, _, _, rfl, rfl, rfl, _, rfl, ?_⟩
    show if decide (V.int (Builtin.bitAnd _ _) = V.int 1) = true then _ else _
    rw [eb]
    cases b with
    | false =>
      refine ifN (by decide) ⟨⟨_, rfl⟩, s1, acc, ?_, by omega, hl⟩
      rw [ps, if_neg Bool.false_ne_true, List.append_nil]; exact eacc
    | true =>
      refine ifY (by rfl) ?_
      obtain ⟨x, hx, tr, y1, y2, rfl, htr, _, rcode⟩ := rr.at_ hrow
      obtain rfl : y2 = .int t.rows[i].2 := rcode
      have htr := cut_at htr
      refine ⟨_, rfl, .inl ⟨rfl, _, SqL.of hl⟩, ?_⟩
      refine ⟨_, rfl, at_, _, dx, _, .ref ar, rfl, s1 _ _ hat, T.c_Table, T.a_Table_rows, ft_rows _ _ _ _ _ _, _, rfl, ar, us, _, _, rfl, rfl, SqL.of (s1 _ _ har), at_of (j := i) (by omega) hx, tr, _, 1, _, rfl, rfl, SqT.of (s1 _ _ htr), at_of (j := 1) rfl rfl, ?_⟩
      refine ⟨l, _, _, rfl, rfl, hl, by rw [List.length_map]; exact small1000 (by omega), ⟨_, rfl⟩, s1.mut nl, acc ++ [t.rows[i].2], by rw [ps, if_pos rfl, eacc], by rw [List.length_append]; exact Nat.succ_le_succ hacc, by rw [upd_same, List.map_append]; rfl⟩
  · rintro σ H1 ⟨⟨c, rfl⟩, s1, acc, eacc, hacc, hl⟩
    have hn : ((us.length : Nat) : Int).toNat = t.rows.length := by omega
    rw [hn] at eacc hacc
    rw [List.take_length, List.take_of_length_le (by omega)] at eacc
    refine ⟨_, rfl, at_, _, dx, _, _, rfl, s1 _ _ hat, T.c_Table, T.a_Table_way, ft_way _ _ _ _ _ _, ?_⟩
    refine ⟨l :: ls, _, _, t.way, rfl, Live.cons hl (L.to s1), rfl, rfl, fun H2 w2 s2 r2 => ?_⟩
    obtain ⟨aw, dw, rfl, haw⟩ := id r2
    have s12 := s1.trans s2
    refine ⟨aw, _, dw, _, _, rfl, cut_at haw, by unfold fWay; rw [sk (by decide +kernel)]; rfl, ⟨_, _, by decide, way_verdict T t.way⟩, _, rfl, _, rfl, at_, _, dx, _, _, rfl, s12 _ _ hat, T.c_Table, T.a_Table_outcome, ft_out _ _ _ _ _ _, ?_⟩
    have rl : (tLst tInt).rep (cut H2 ls) (.ref l) acc := ⟨l, _, rfl, at_cut (L.no nl) (s2 _ _ hl), int_rs⟩
    exact ⟨ls, _, _, _, t.way, acc, t.out, _, rfl, L.to s12, (tWay K).mono Same.less1 r2, rl, (tDom K).mono s12.cut r3, ⟨rfl, by rw [eacc]⟩, fun H3 w3 s3 r3 => k _ _ (s12.trans s3) r3⟩
end
end Rk
set_option Elab.async false
set_option linter.all false
set_option maxRecDepth 100000
set_option maxHeartbeats 1000000
namespace Rk
open PySem PySem.Spec PyProof.Rows L2
open TL
def namesOf (fs : List (Str × Dom)) (ts : List Tab) : List (Str × Dom) := fs ++ ts.map fun t => (t.name, t.out)
theorem names_keys (fs : List (Str × Dom)) (ts : List Tab) : (namesOf fs ts).map (·.1) = fs.map (·.1) ++ ts.map (·.name) := by
  unfold namesOf; rw [List.map_append, List.map_map]; rfl
/-- columns are known, with their domains -/
def ColsOk (ts : List Tab) (ds : List (Str × Dom)) : Prop := ∀ t ∈ ts, ∀ (i : Nat) c d, t.names[i]? = some c → t.doms[i]? = some d → look ds c = some d
def freeF (t : Tab) (ns st : List Str) : Bool := t.names.all fun c => !(decide (c ∈ ns) && !decide (c ∈ st))
def Ranked (rank : Str → Nat) (ts : List Tab) : Prop := ∀ t ∈ ts, ∀ c ∈ t.names, c ∈ ts.map (·.name) → rank c < rank t.name
/-- nothing is free any more: all are settled -/
theorem all_settled {rank : Str → Nat} {ts : List Tab} {st : List Str} (hr : Ranked rank ts) (h : ∀ t ∈ ts, t.name ∈ st ∨ freeF t (ts.map (·.name)) st = false) : ∀ t ∈ ts, t.name ∈ st := by
  have key : ∀ n, ∀ t ∈ ts, rank t.name = n → t.name ∈ st := by
    intro n
    induction n using Nat.strongRecOn with
    | _ n ih =>
      intro t ht e
      rcases h t ht with q | q
      · exact q
      · exfalso
        have : ¬ freeF t (ts.map (·.name)) st = true := by rw [q]; exact Bool.false_ne_true
        apply this
        refine List.all_eq_true.mpr fun c hc => ?_
        by_cases m : c ∈ ts.map (·.name)
        · obtain ⟨t', ht', e'⟩ := List.mem_map.mp m
          have := hr t ht c hc m
          have := ih (rank c) (by omega) t' ht' (by rw [e'])
          rw [e'] at this
          rw [decide_eq_true this]; simp
        · rw [decide_eq_false m]; rfl
  exact fun t ht => key _ t ht rfl
section
variable {P : Program} {w : World} {K : PySem.W.Frag} {mg : Str → Option Value} {base : Heap}
abbrev n_named_domains : List Str := ["facts", "tables", "told", "name", "domain", "table"]
theorem sc_named_domains : FnScope n_named_domains ["facts", "tables"] (defScope s_named_domains) := ⟨rfl, rfl, rfl, by decide +kernel, rfl, by decide +kernel, by decide +kernel⟩
theorem ok_named_domains (T : Tx K mg) : Def P w K mg base "named_domains" ["facts", "tables"] 2 (Sp2 (tLst (tPair tStr (tDom K))) (tLst (tTab K)) (tDic (tDom K)) fun fs ts r => (∀ p ∈ fs, isWord p.1 = true) ∧ ((namesOf fs ts).map (·.1)).Nodup ∧ fs.length ≤ 1000 ∧ ts.length ≤ 1000 ∧ r = namesOf fs ts) := by
  refine ⟨?_, T.g_named_domains, T.f_named_domains.kp, T.f_named_domains.bindsN fun _ _ _ _ _ _ us hl => match us, hl with | [_, _], _ => rfl⟩
  refine fn_body T.f_named_domains sc_named_domains (fun _ _ _ _ h => len2 h) fun cdv A outer s H vs Q E hr h => ?_
  obtain ⟨ls, vf, vt, fs, ts, r, rfl, L, ⟨af, us, rfl, haf, rf⟩, ⟨at_, ut, rfl, hat, rt⟩, ⟨hw, hnd, l1, l2, rfl⟩, k⟩ := h
  have haf := cut_at haf
  have hat := cut_at hat
  have e1 := rf.len
  have e2 := rt.len
  refine ⟨_, pss_cons (ps_set (i := 2) sc_named_domains.nd rfl (.inl rfl) pe_dnewK)
  (pss_cons (ps_for PassesOwn.never rfl (pi_list (pv 0)) (pg_tup (by rfl) (pgs_cons (pg_name (i := 3) sc_named_domains.nd rfl (.inl rfl)) (pgs_cons (pg_name (i := 4) sc_named_domains.nd rfl (.inl rfl)) pgs_nil)))
  (pss_cons (ps_if (PW.pt (pw_or (pt_not (pt_val (pe_cD (ok_is_word T) hr (pa_cons (pv 3) pa_nil)))) (pw_or1 (pt_cmp (pc_din (hu_of hr) (pv 3) (pv 2)))))) (pss_one ps_never) pss_nil)
  (pss_one (ps_dput (hu_of hr) (pv 2) (pv 3) (pv 4) rfl))))
  (pss_cons (ps_for PassesOwn.never rfl (pi_list (pv 1)) (pg_name (i := 5) sc_named_domains.nd rfl (.inl rfl))
  (pss_cons (ps_if (pt_cmp (pc_din (hu_of hr) (pe_fld (pv 5) rfl) (pv 2))) (pss_one ps_never) pss_nil)
  (pss_one (ps_dput (hu_of hr) (pv 2) (pe_fld (pv 5) rfl) (pe_fld (pv 5) rfl) rfl))))
  (pss_one (ps_ret (pv 2))))), ?_⟩
  intro d nd
  have s0 : Same H (upd H d (.dK [])) := Same.upd nd
  refine ⟨_, rfl, af, rfl, ⟨_, SqL.of (s0 _ _ haf)⟩, for_list (K := K) (a := af) (xs := us) (fun i σ H' => (∃ a b, σ = [some (.ref af), some (.ref at_), some (.ref d), a, b, none]) ∧ Same H H' ∧ ∃ ws, H' d = some (.dK ws) ∧ ws.length ≤ i ∧ Ps (tDom K) (cut H' (d :: ls)) ws (fs.take i)) ⟨⟨_, _, rfl⟩, s0, [], upd_same, Nat.le_refl _, by rw [List.take_zero]; trivial⟩ (fun i σ H' _ p => SqL.of (p.2.1 _ _ haf)) ?_ ?_⟩
  · rintro i x σ H1 hx ⟨⟨a, b, rfl⟩, s1, ws, hd, hws, hps⟩
    obtain ⟨p, hp, t, y1, y2, rfl, ht, rfl, r2⟩ := rf.get hx
    have ht := cut_at ht
    have hi := (List.getElem?_eq_some_iff.mp hx).1
    have hpw := hw p (List.mem_of_getElem? hp)
    refine ⟨t, _, rfl, SqT.of (s1 _ _ ht), rfl, _, _, rfl, _, _, rfl, rfl, ?_⟩
    refine ⟨_, rfl, [], _, p.1, true, rfl, Live.nil, rfl, ⟨by have := isWord_len hpw; omega, hpw.symm⟩, fun H2 w2 s2 e => ?_⟩
    obtain rfl : w2 = .bl true := e
    refine ⟨_, rfl, iteF ?_⟩
    have hnew : p.1 ∉ (fs.take i).map (·.1) := by
      intro m
      rw [names_keys] at hnd
      have hnd1 := (List.nodup_append.mp hnd).1
      rw [List.map_take] at m
      obtain ⟨j, hj⟩ := List.mem_iff_getElem?.mp m
      rw [List.getElem?_take] at hj
      by_cases q : j < i
      · rw [if_pos q] at hj
        have hi' : i < (fs.map (·.1)).length := by rw [List.length_map]; omega
        have hjl : j < (fs.map (·.1)).length := by omega
        have e3 : (fs.map (·.1))[i]? = some p.1 := by rw [List.getElem?_map, hp]; rfl
        rw [← e3, List.getElem?_eq_getElem hjl, List.getElem?_eq_getElem hi'] at hj
        have : j = i := (List.getElem_inj hnd1).mp (Option.some.inj hj)
        omega
      · rw [if_neg q] at hj; cases hj
    have hps2 := hps.mono (Same.cut s2)
    have hv : valV ws (Sum.inr p.1) = none := by
      rcases hps2.look p.1 with ⟨v, z, h1, h2, _⟩ | ⟨h1, _⟩
      · rw [look_none.mpr hnew] at h2; cases h2
      · exact h1
    refine ⟨_, rfl, _, rfl, d, _, rfl, DGet.k (k := Sum.inr p.1) (s2 _ _ hd), _, rfl, ?_⟩
    rw [hv]
    refine iteF ⟨_, rfl, _, rfl, _, rfl, d, _, rfl, DPut.k (k := Sum.inr p.1) (s2 _ _ hd) (small1000 (by omega)), ⟨_, _, rfl⟩, (s1.trans s2).mut nd, _, upd_same, ?_, ?_⟩
    · have := Ps.len (Ps.put p.1 ((tDom K).mono ((s1.trans s2).more1 nd) r2) hps2)
      rw [put_new hnew] at this
      rw [this, List.length_append, List.length_take]
      show min i fs.length + 1 ≤ i + 1
      omega
    · rw [cut_upd List.mem_cons_self, take_snoc hp, show (fs.take i ++ [p]) = put (fs.take i) p.1 p.2 from (put_new hnew).symm]
      exact Ps.put p.1 ((tDom K).mono ((s1.trans s2).more1 nd) r2) hps2
  rintro σ H1 ⟨⟨a, b, rfl⟩, s1, ws, hd, hws, hps⟩
  rw [e1, List.take_length] at hps
  rw [e1] at hws
  refine ⟨_, rfl, at_, rfl, ⟨_, SqL.of (s1 _ _ hat)⟩, for_list (K := K) (a := at_) (xs := ut) (fun i σ H' => (∃ c, σ = [some (.ref af), some (.ref at_), some (.ref d), a, b, c]) ∧ Same H H' ∧ ∃ ws, H' d = some (.dK ws) ∧ Ps (tDom K) (cut H' (d :: ls)) ws (fs ++ (ts.take i).map fun t => (t.name, t.out))) ⟨⟨_, rfl⟩, s1, ws, hd, by rw [List.take_zero, List.map_nil, List.append_nil]; exact hps⟩ (fun i σ H' _ p => SqL.of (p.2.1 _ _ hat)) ?_ ?_⟩
  · rintro i x σ H2 hx ⟨⟨c, rfl⟩, s2, ws2, hd2, hps2⟩
    obtain ⟨t, ht, ax, dx, v1, v2, v3, v4, rfl, hax, r1, r2, r3, r4⟩ := rt.get hx
    have hax := s2 _ _ (cut_at hax)
    have hi := (List.getElem?_eq_some_iff.mp hx).1
    have hnew : t.name ∉ (fs ++ (ts.take i).map fun t => (t.name, t.out)).map (·.1) := by
      intro m
      rw [List.map_append, List.map_map] at m
      have hnd := hnd
      rw [names_keys] at hnd
      rcases List.mem_append.mp m with m | m
      · exact (List.nodup_append.mp hnd).2.2 t.name m t.name (List.mem_map.mpr ⟨t, List.mem_of_getElem? ht, rfl⟩) rfl
      · have hnd2 := (List.nodup_append.mp hnd).2.1
        have m : t.name ∈ (ts.take i).map (·.name) := m
        rw [List.map_take] at m
        obtain ⟨j, hj⟩ := List.mem_iff_getElem?.mp m
        rw [List.getElem?_take] at hj
        by_cases q : j < i
        · rw [if_pos q] at hj
          have hi' : i < (ts.map (·.name)).length := by rw [List.length_map]; omega
          have hjl : j < (ts.map (·.name)).length := by omega
          have e3 : (ts.map (·.name))[i]? = some t.name := by rw [List.getElem?_map, ht]; rfl
          rw [← e3, List.getElem?_eq_getElem hjl, List.getElem?_eq_getElem hi'] at hj
          have : j = i := (List.getElem_inj hnd2).mp (Option.some.inj hj)
          omega
        · rw [if_neg q] at hj; cases hj
    have hv : valV ws2 (Sum.inr t.name) = none := by
      rcases hps2.look t.name with ⟨v, z, h1, h2, _⟩ | ⟨h1, _⟩
      · rw [look_none.mpr hnew] at h2; cases h2
      · exact h1
    have hlen := hps2.len
    rw [List.length_append, List.length_map, List.length_take] at hlen
    refine ⟨_, rfl, ax, _, dx, _, _, rfl, hax, T.c_Table, T.a_Table_name, ft_name _ _ _ _ _ _, _, rfl, d, _, rfl, DGet.k (k := Sum.inr t.name) hd2, _, rfl, ?_⟩
    rw [hv]
    refine iteF ⟨_, rfl, ax, _, dx, _, _, rfl, hax, T.c_Table, T.a_Table_outcome, ft_out _ _ _ _ _ _, _, rfl, _, rfl, ax, _, dx, _, _, rfl, hax, T.c_Table, T.a_Table_name, ft_name _ _ _ _ _ _, d, _, rfl, DPut.k (k := Sum.inr t.name) hd2 (szbl (by omega)), ⟨_, rfl⟩, s2.mut nd, _, upd_same, ?_⟩
    rw [cut_upd List.mem_cons_self, take_snoc ht, List.map_append, ← List.append_assoc]
    have := Ps.put t.name ((tDom K).mono (s2.more1 nd) r3) hps2
    rw [put_new hnew] at this
    exact this
  · rintro σ H2 ⟨⟨c, rfl⟩, s2, ws2, hd2, hps2⟩
    rw [e2, List.take_length] at hps2
    exact ⟨_, rfl, k _ _ s2 ⟨d, ws2, rfl, at_cut (L.no nd) hd2, hps2.mono Same.less1⟩⟩
abbrev n_look_at_columns : List Str := ["tables", "domains", "table", "name", "domain"]
theorem sc_look_at_columns : FnScope n_look_at_columns ["tables", "domains"] (defScope s_look_at_columns) := ⟨rfl, rfl, rfl, by decide +kernel, rfl, by decide +kernel, by decide +kernel⟩
theorem ok_look_at_columns (T : Tx K mg) : Def P w K mg base "look_at_columns" ["tables", "domains"] 2 (Sp2 (tLst (tTab K)) (tDic (tDom K)) tNon fun ts ds r => (∀ t ∈ ts, TabOk t) ∧ ColsOk ts ds) := by
  refine ⟨?_, T.g_look_at_columns, T.f_look_at_columns.kp, T.f_look_at_columns.bindsN fun _ _ _ _ _ _ us hl => match us, hl with | [_, _], _ => rfl⟩
  refine fn_body T.f_look_at_columns sc_look_at_columns (fun _ _ _ _ h => len2 h) fun cdv A outer s H vs Q E hr h => ?_
  obtain ⟨ls, vt, vd, ts, ds, r, rfl, L, ⟨at_, ut, rfl, hat, rt⟩, ⟨ad, ws, rfl, had, hps⟩, ⟨hok, hcols⟩, k⟩ := h
  have hat := cut_at hat
  have had := cut_at had
  have e2 := rt.len
  refine ⟨_, pss_cons (ps_for PassesOwn.never rfl (pi_list (pv 0)) (pg_name (i := 2) sc_look_at_columns.nd rfl (.inl rfl))
  (pss_one (ps_for PassesOwn.never rfl (pi_list (pe_fld (pv 2) rfl)) (pg_name (i := 3) sc_look_at_columns.nd rfl (.inl rfl))
  (pss_one (ps_if (pt_cmp (pc_dnotin (hu_of hr) (pv 3) (pv 1))) (pss_one ps_never) pss_nil)))))
  (pss_one (ps_for PassesOwn.never rfl (pi_list (pv 0)) (pg_name (i := 2) sc_look_at_columns.nd rfl (.inl rfl))
  (pss_one (ps_for PassesOwn.never rfl (pi_zip (by rfl) T.n_zip (pa_cons (pe_fld (pv 2) rfl) (pa_cons (pe_fld (pv 2) rfl) pa_nil))) (pg_tup (by rfl) (pgs_cons (pg_name (i := 3) sc_look_at_columns.nd rfl (.inl rfl)) (pgs_cons (pg_name (i := 4) sc_look_at_columns.nd rfl (.inl rfl)) pgs_nil)))
  (pss_one (ps_if (pt_not (pt_val (pe_cD (ok_alike T) hr (pa_cons (pv 4) (pa_cons (pe_dget (hu_of hr) (pv 1) (pv 3) (fun _ _ => rfl)) pa_nil))))) (pss_one ps_never) pss_nil)))))), ?_⟩
  refine ⟨_, rfl, at_, rfl, ⟨_, SqL.of hat⟩, for_list (K := K) (a := at_) (xs := ut) (fun i σ H' => (∃ a b, σ = [some (.ref at_), some (.ref ad), a, b, none]) ∧ Same H H') ⟨⟨_, _, rfl⟩, Same.refl _⟩ (fun i σ H' _ p => SqL.of (p.2 _ _ hat)) ?_ ?_⟩
  · rintro i x σ H1 hx ⟨⟨a, b, rfl⟩, s1⟩
    obtain ⟨t, ht, ax, dx, v1, v2, v3, v4, rfl, hax, ⟨an, un, rfl, han, rn⟩, r2, r3, r4⟩ := rt.get hx
    have hax := cut_at hax
    have han := cut_at han
    obtain rfl := rs_str rn
    have tok := hok t (List.mem_of_getElem? ht)
    refine ⟨_, rfl, ax, _, dx, _, .ref an, rfl, s1 _ _ hax, T.c_Table, T.a_Table_names, ft_names _ _ _ _ _ _, an, rfl, ⟨_, SqL.of (s1 _ _ han)⟩, for_list (K := K) (a := an) (xs := t.names.map V.str) (fun i σ H' => (∃ b, σ = [some (.ref at_), some (.ref ad), some (.ref ax), b, none]) ∧ Same H H') ⟨⟨_, rfl⟩, s1⟩ (fun i σ H' _ p => SqL.of (p.2 _ _ han)) ?_ ?_⟩
    · rintro j y σ H2 hy ⟨⟨b, rfl⟩, s2⟩
      rw [List.getElem?_map] at hy
      obtain ⟨c, hc, rfl⟩ := Option.map_eq_some_iff.mp hy
      have hj := (List.getElem?_eq_some_iff.mp hc).1
      have hl := hcols t (List.mem_of_getElem? ht) j c (t.doms[j]'(by rw [tok.dlen]; exact hj)) hc (by simp [tok.dlen, hj])
      refine ⟨_, rfl, _, rfl, ad, _, rfl, DGet.k (k := Sum.inr c) (s2 _ _ had), _, rfl, ?_⟩
      rcases hps.look c with ⟨v, z, h1, h2, _⟩ | ⟨h1, h2⟩
      · rw [h1]; exact iteF ⟨⟨_, rfl⟩, s2⟩
      · rw [hl] at h2; cases h2
    · rintro σ H2 ⟨⟨b, rfl⟩, s2⟩
      exact ⟨⟨_, _, rfl⟩, s2⟩
  rintro σ H1 ⟨⟨a, b, rfl⟩, s1⟩
  refine ⟨_, rfl, at_, rfl, ⟨_, SqL.of (s1 _ _ hat)⟩, for_list (K := K) (a := at_) (xs := ut) (fun i σ H' => (∃ a b c, σ = [some (.ref at_), some (.ref ad), a, b, c]) ∧ Same H H') ⟨⟨_, _, _, rfl⟩, s1⟩ (fun i σ H' _ p => SqL.of (p.2 _ _ hat)) ?_ ?_⟩
  · rintro i x σ H2 hx ⟨⟨a, b, c, rfl⟩, s2⟩
    obtain ⟨t, ht, ax, dx, v1, v2, v3, v4, rfl, hax, ⟨an, un, rfl, han, rn⟩, ⟨ao, uo, rfl, hao, ro⟩, r3, r4⟩ := rt.get hx
    have hax := cut_at hax
    have han := cut_at han
    have hao := cut_at hao
    obtain rfl := rs_str rn
    have tok := hok t (List.mem_of_getElem? ht)
    refine ⟨_, rfl, ax, _, dx, _, .ref an, rfl, s2 _ _ hax, T.c_Table, T.a_Table_names, ft_names _ _ _ _ _ _, _, rfl, ax, _, dx, _, .ref ao, rfl, s2 _ _ hax, T.c_Table, T.a_Table_domains, ft_doms _ _ _ _ _ _, an, ao, _, uo, rfl, SqL.of (s2 _ _ han), SqL.of (s2 _ _ hao), ?_⟩
    refine for_it (walk_zip (K := K) (a := an) (b := ao) (xs := t.names.map V.str) (ys := uo) rfl) (fun i σ H' => (∃ b c, σ = [some (.ref at_), some (.ref ad), some (.ref ax), b, c]) ∧ Same H H') ⟨⟨_, _, rfl⟩, s2⟩ (fun i σ H' _ p => ⟨SqL.of (p.2 _ _ han), SqL.of (p.2 _ _ hao)⟩) ?_ ?_
    · rintro j y σ H3 H4 hj ⟨⟨b, c, rfl⟩, s3⟩ ⟨tt, z1, z2, rfl, nt, rfl, hz1, hz2⟩
      have hz1 : (t.names.map V.str)[j]? = some z1 := hz1
      rw [List.getElem?_map] at hz1
      obtain ⟨c, hc, rfl⟩ := Option.map_eq_some_iff.mp hz1
      obtain ⟨d, hd, rd⟩ := ro.get hz2
      have hl := hcols t (List.mem_of_getElem? ht) j c d hc hd
      have s4 := s3.trans (Same.upd (o := .tup [.str c, z2]) nt)
      refine ⟨tt, _, rfl, SqT.of upd_same, rfl, _, _, rfl, _, _, rfl, rfl, ?_⟩
      rcases hps.look c with ⟨v, z, h1, h2, rz⟩ | ⟨h1, h2⟩
      · rw [hl] at h2
        cases h2
        refine ⟨_, rfl, _, rfl, _, rfl, ad, v, rfl, by rw [← h1]; exact DGet.k (k := Sum.inr c) (s4 _ _ had), ?_⟩
        refine ⟨ls, _, _, d, d, true, rfl, L.to s4, (tDom K).mono s4.cut rd, (tDom K).mono s4.cut rz, ⟨rfl, tok.doms d (List.mem_of_getElem? hd), rfl⟩, fun H5 w5 s5 e => ?_⟩
        obtain rfl : w5 = .bl true := e
        exact ⟨_, rfl, iteF ⟨⟨_, _, rfl⟩, s4.trans s5⟩⟩
      · rw [hl] at h2; cases h2
    · rintro σ H3 ⟨⟨b, c, rfl⟩, s3⟩
      exact ⟨⟨_, _, _, rfl⟩, s3⟩
  · rintro σ H2 ⟨⟨a, b, c, rfl⟩, s2⟩
    exact k _ _ s2 rfl
abbrev n_free_of : List Str := ["table", "names", "settled", "name"]
theorem sc_free_of : FnScope n_free_of ["table", "names", "settled"] (defScope s_free_of) := ⟨rfl, rfl, rfl, by decide +kernel, rfl, by decide +kernel, by decide +kernel⟩
theorem ok_free_of (T : Tx K mg) : Def P w K mg base "free_of" ["table", "names", "settled"] 1 (Sp3 (tTab K) (tLst tStr) (tLst tStr) tBool fun t ns st r => r = freeF t ns st) := by
  refine ⟨?_, T.g_free_of, T.f_free_of.kp, T.f_free_of.bindsN fun _ _ _ _ _ _ us hl => match us, hl with | [_, _, _], _ => rfl⟩
  refine fn_body T.f_free_of sc_free_of (fun _ _ _ _ h => len3 h) fun cdv A outer s H vs Q E hr h => ?_
  obtain ⟨ls, vt, vn, vs, t, ns, st, r, rfl, L, ⟨ax, dx, v1, v2, v3, v4, rfl, hax, ⟨an, un, rfl, han, rn⟩, r2, r3, r4⟩, ⟨ai, ui, rfl, hai, ri⟩, ⟨as, us, rfl, has, rs⟩, rfl, k⟩ := h
  have hax := cut_at hax
  have han := cut_at han
  have hai := cut_at hai
  have has := cut_at has
  obtain rfl := rs_str rn
  obtain rfl := rs_str ri
  obtain rfl := rs_str rs
  refine ⟨_, pss_cons (ps_for PassesOwn.never rfl (pi_list (pe_fld (pv 0) rfl)) (pg_name (i := 3) sc_free_of.nd rfl (.inl rfl))
  (pss_one (ps_if (PW.pt (pw_and (pt_cmpR op_in_seq (pv 3) (pv 1) (by rfl)) (pw_and1 (pt_cmpR op_notIn_seq (pv 3) (pv 2) (by rfl))))) (pss_one (ps_ret pe_bl)) pss_nil)))
  (pss_one (ps_ret pe_bl)), ?_⟩
  refine ⟨_, rfl, ax, _, dx, _, .ref an, rfl, hax, T.c_Table, T.a_Table_names, ft_names _ _ _ _ _ _, an, rfl, ⟨_, SqL.of han⟩, for_list (K := K) (a := an) (xs := t.names.map V.str) (fun i σ H' => (∃ b, σ = [some (.ref ax), some (.ref ai), some (.ref as), b]) ∧ H' = H ∧ ∀ c ∈ t.names.take i, (!(decide (c ∈ ns) && !decide (c ∈ st))) = true) ⟨⟨_, rfl⟩, rfl, fun c hc => by simp at hc⟩ (fun i σ H' _ p => by rw [p.2.1]; exact SqL.of han) ?_ ?_⟩
  · rintro i y σ H1 hy ⟨⟨b, rfl⟩, rfl, hall⟩
    rw [List.getElem?_map] at hy
    obtain ⟨c, hc, rfl⟩ := Option.map_eq_some_iff.mp hy
    have next : (!(decide (c ∈ ns) && !decide (c ∈ st))) = true → ∀ c ∈ t.names.take (i + 1), (!(decide (c ∈ ns) && !decide (c ∈ st))) = true := fun h z hz => by
      rw [take_snoc hc] at hz
      rcases List.mem_append.mp hz with q | q
      · exact hall z q
      · rw [List.mem_singleton.mp q]; exact h
    refine ⟨_, rfl, _, rfl, ai, _, rfl, .inl (SqL.of hai), rfl, flat_strs _, _, rfl, ?_⟩
    show if (if false = true then _ else inV (.str c) (ns.map V.str)) = true then _ else _
    rw [if_neg Bool.false_ne_true, inV_str]
    refine ite2 (fun d => ?_) (fun d => ?_)
    · refine ⟨_, rfl, _, rfl, as, _, rfl, .inl (SqL.of has), rfl, flat_strs _, _, rfl, ?_⟩
      show if (if true = true then !inV (.str c) (st.map V.str) else _) = true then _ else _
      rw [if_pos rfl, inV_str]
      cases e : decide (c ∈ st) with
      | true => exact iteF ⟨⟨_, rfl⟩, rfl, next (by rw [d, e]; rfl)⟩
      | false =>
        refine iteT (k _ _ (Same.refl _) ?_)
        show V.bl false = V.bl (freeF t ns st)
        congr 1
        cases q : freeF t ns st with
        | false => rfl
        | true =>
          have := List.all_eq_true.mp q c (List.mem_of_getElem? hc)
          rw [d, e] at this
          cases this
    · have d : decide (c ∈ ns) = false := by cases q : decide (c ∈ ns) with | false => rfl | true => exact absurd q d
      exact iteF ⟨⟨_, rfl⟩, rfl, next (by rw [d]; rfl)⟩
  · rintro σ H1 ⟨⟨b, rfl⟩, rfl, hall⟩
    rw [List.length_map, List.take_length] at hall
    refine k _ _ (Same.refl _) ?_
    show V.bl true = V.bl (freeF t ns st)
    congr 1
    exact (List.all_eq_true.mpr hall).symm
end
end Rk
set_option Elab.async false
set_option linter.all false
set_option maxRecDepth 100000
set_option maxHeartbeats 1000000
namespace Rk
open PySem PySem.Spec PyProof.Rows L2
open TL
theorem fb_facts (v1 v2 : V) : (fBk v1 v2).lookup ("facts" : Str) = some v1 := hk_ _ _
theorem fb_tabs (v1 v2 : V) : (fBk v1 v2).lookup ("tables" : Str) = some v2 := by unfold fBk; rw [sk (by decide +kernel), hk_]
structure BkOk (b : Bk) : Prop where
  facts : ∀ p ∈ b.facts, isWord p.1 = true ∧ p.2.Ok
  nd : ((namesOf b.facts b.tabs).map (·.1)).Nodup
  most : b.facts.length ≤ 20 ∧ b.tabs.length ≤ 30
  tabs : ∀ t ∈ b.tabs, TabOk t
  cols : ColsOk b.tabs (namesOf b.facts b.tabs)
  rank : ∃ rank : Str → Nat, Ranked rank b.tabs ∧ ∀ n, rank n ≤ 2
def findTab (b : Bk) (n : Str) : Option Tab := b.tabs.find? fun t => decide (t.name = n)
def tabNames (b : Bk) : List Str := b.tabs.map (·.name)
def asksF (b : Bk) (t : Tab) : List Str := t.names.filter fun c => decide (c ∈ tabNames b)
def askedF (b : Bk) (n : Str) : List Str := match findTab b n with
  | some t => asksF b t
  | none => []
def gathF (b : Bk) : Nat → Str → List Str → List Str
  | 0, _, told => told
  | f + 1, n, told => if n ∈ told then told else (askedF b n).foldl (fun acc a => gathF b f a acc) told ++ [n]
def orderF (b : Bk) (n : Str) : List Str := gathF b 3 n []
def colsF (b : Bk) (ord : List Str) : List Str := ord.flatMap fun n => match findTab b n with
  | some t => t.names
  | none => []
def needsF (b : Bk) (n : Str) : List Str := (b.facts.filter fun p => decide (p.1 ∈ colsF b (orderF b n))).map (·.1)
theorem findTab_some {b : Bk} {n : Str} {t : Tab} (h : findTab b n = some t) : t ∈ b.tabs ∧ t.name = n := ⟨List.mem_of_find?_eq_some h, of_decide_eq_true (List.find?_some (p := fun t : Tab => decide (t.name = n)) h)⟩
theorem findTab_of {b : Bk} {n : Str} (h : n ∈ tabNames b) : ∃ t, findTab b n = some t := by
  obtain ⟨t, ht, e⟩ := List.mem_map.mp h
  cases q : findTab b n with
  | some t => exact ⟨t, rfl⟩
  | none => exact absurd (decide_eq_true e) (List.find?_eq_none.mp q t ht)
theorem asked_mem {b : Bk} {n c : Str} (h : c ∈ askedF b n) : c ∈ tabNames b := by
  unfold askedF at h
  split at h
  · exact of_decide_eq_true (List.mem_filter.mp h).2
  · cases h
theorem asked_rank {b : Bk} {rank : Str → Nat} (hr : Ranked rank b.tabs) {n c : Str} (h : c ∈ askedF b n) : rank c < rank n := by
  unfold askedF at h
  split at h
  · rename_i t ht
    obtain ⟨h1, h2⟩ := findTab_some ht
    have := hr t h1 c (List.mem_filter.mp h).1 (of_decide_eq_true (List.mem_filter.mp h).2)
    rw [h2] at this
    exact this
  · cases h
theorem gath_len {b : Bk} (hb : ∀ t ∈ b.tabs, TabOk t) : ∀ (f : Nat) (n : Str) (told : List Str), (gathF b f n told).length ≤ told.length + 5 ^ f
  | 0, _, told => Nat.le_succ _
  | f + 1, n, told => by
    unfold gathF
    split
    · exact Nat.le_add_right _ _
    · have key : ∀ (l : List Str) (acc : List Str), (l.foldl (fun acc a => gathF b f a acc) acc).length ≤ acc.length + l.length * 5 ^ f := by
        intro l
        induction l with
        | nil => intro acc; simp
        | cons a l ih =>
          intro acc
          rw [List.foldl_cons]
          have h1 := ih (gathF b f a acc)
          have h2 := gath_len hb f a acc
          rw [List.length_cons, Nat.succ_mul]
          omega
      have h4 : (askedF b n).length ≤ 4 := by
        unfold askedF
        split
        · rename_i t ht
          exact Nat.le_trans (List.length_filter_le _ _) (hb t (findTab_some ht).1).cols.2
        · exact Nat.zero_le _
      rw [List.length_append, List.length_singleton]
      have := key (askedF b n) told
      have h5 : (askedF b n).length * 5 ^ f ≤ 4 * 5 ^ f := Nat.mul_le_mul_right _ h4
      have h6 : 0 < 5 ^ f := Nat.pow_pos (by decide)
      rw [Nat.pow_succ]
      omega
theorem gath_sub {b : Bk} : ∀ (f : Nat) (n : Str) (told : List Str), n ∈ tabNames b → (∀ c ∈ told, c ∈ tabNames b) → ∀ c ∈ gathF b f n told, c ∈ tabNames b
  | 0, _, told, _, h => h
  | f + 1, n, told, hn, h => by
    unfold gathF
    split
    · exact h
    · have key : ∀ (l : List Str) (acc : List Str), (∀ c ∈ l, c ∈ tabNames b) → (∀ c ∈ acc, c ∈ tabNames b) → ∀ c ∈ l.foldl (fun acc a => gathF b f a acc) acc, c ∈ tabNames b := by
        intro l
        induction l with
        | nil => intro acc _ h; exact h
        | cons a l ih => intro acc hl h; exact ih _ (fun c hc => hl c (List.mem_cons_of_mem _ hc)) (gath_sub f a acc (hl a List.mem_cons_self) h)
      intro c hc
      rcases List.mem_append.mp hc with m | m
      · exact key _ _ (fun c hc => asked_mem hc) h c m
      · rw [List.mem_singleton.mp m]; exact hn
def spBkI (K : PySem.W.Frag) : Sp := fun vs H Q _ => ∃ ls x dx v1 v2 b, vs = [.ref x, v1, v2] ∧ Live H ls ∧ x ∈ ls ∧ BkOk b ∧ H x = some (.ins (He.ga K "Book") dx []) ∧
  (tLst (tPair tStr (tDom K))).rep (cut H ls) v1 b.facts ∧ (tLst (tTab K)).rep (cut H ls) v2 b.tabs ∧
  ∀ H' w1 w2, (∀ b o, H b = some o → b ≠ x → H' b = some o) → H' x = some (.ins (He.ga K "Book") dx (fBk w1 w2)) → (tLst (tPair tStr (tDom K))).rep (cut H' ls) w1 b.facts → (tLst (tTab K)).rep (cut H' ls) w2 b.tabs → Q .non H'
theorem len_Book_init {K : PySem.W.Frag} {vs : List V} {H : Hp} {Q : VK} {X : XK} (h : spBkI K vs H Q X) : vs.length = 3 := by
  obtain ⟨_, _, _, _, _, _, rfl, _⟩ := h; rfl
section
variable {P : Program} {w : World} {K : PySem.W.Frag} {mg : Str → Option Value} {base : Heap}
/-- the loop over the tables: what is settled, whether some came in -/
def ringP (H : Hp) (at_ an al : Addr) (ts : List Tab) (st : List Str) (i : Nat) (σ : L2.St) (H' : Hp) : Prop := ∃ (new : List Str) (c : Option V), σ = [some (.ref at_), some (.ref an), some (.ref al), some (.bl (!new.isEmpty)), c] ∧ Same H H' ∧
  H' an = some (.lst ((ts.map (·.name)).map V.str)) ∧ H' al = some (.lst ((st ++ new).map V.str)) ∧ (st ++ new).Nodup ∧ (∀ n ∈ st ++ new, n ∈ ts.map (·.name)) ∧ (new = [] → ∀ t ∈ ts.take i, t.name ∈ st ∨ freeF t (ts.map (·.name)) st = false)
theorem nodup_le {l m : List Str} (hl : l.Nodup) (h : ∀ x ∈ l, x ∈ m) : l.length ≤ m.length := by
  induction l generalizing m with
  | nil => exact Nat.zero_le _
  | cons a l ih =>
    obtain ⟨h1, h2⟩ := List.nodup_cons.mp hl
    have ha := h a List.mem_cons_self
    have := ih (m := m.erase a) h2 fun x hx => (List.mem_erase_of_ne (fun e => h1 (by rw [← e]; exact hx))).mpr (h x (List.mem_cons_of_mem _ hx))
    rw [List.length_erase_of_mem ha] at this
    have := List.length_pos_of_mem ha
    rw [List.length_cons]
    omega
def ringW (H : Hp) (at_ an al : Addr) (ts : List Tab) (m : Nat) (σ : L2.St) (H' : Hp) : Prop := ∃ (st : List Str) (ag : Bool) (c : Option V), σ = [some (.ref at_), some (.ref an), some (.ref al), some (.bl ag), c] ∧ Same H H' ∧ H' an = some (.lst ((ts.map (·.name)).map V.str)) ∧ H' al = some (.lst (st.map V.str)) ∧ st.Nodup ∧ (∀ n ∈ st, n ∈ ts.map (·.name)) ∧
      (ag = false → ∀ t ∈ ts, t.name ∈ st) ∧ m = 2 * (ts.length - st.length) + (if ag = true then 1 else 0)
abbrev n_look_for_rings : List Str := ["tables", "names", "settled", "again", "table"]
theorem sc_look_for_rings : FnScope n_look_for_rings ["tables"] (defScope s_look_for_rings) := ⟨rfl, rfl, rfl, by decide +kernel, rfl, by decide +kernel, by decide +kernel⟩
theorem ok_look_for_rings (T : Tx K mg) : Def P w K mg base "look_for_rings" ["tables"] 2 (Sp1 (tLst (tTab K)) tNon fun ts r => ts.length ≤ 100 ∧ (∃ rank, Ranked rank ts) ∧ (ts.map (·.name)).Nodup) := by
  refine ⟨?_, T.g_look_for_rings, T.f_look_for_rings.kp, T.f_look_for_rings.bindsN fun _ _ _ _ _ _ us hl => match us, hl with | [_], _ => rfl⟩
  refine fn_body T.f_look_for_rings sc_look_for_rings (fun _ _ _ _ h => len1 h) fun cdv A outer s H vs Q E hr h => ?_
  obtain ⟨ls, vt, ts, r, rfl, L, rts, ⟨h100, ⟨rank, hrank⟩, hnd⟩, k⟩ := h
  obtain ⟨at_, ut, rfl, hat, rt⟩ := id rts
  have hat := cut_at hat
  have e2 := rt.len
  refine ⟨_, pss_cons (ps_setLc (i := 1) (own := [("table", 4)]) (g := gName 4) rfl sc_look_for_rings.nd rfl rfl (sw_true rfl rfl rfl (by decide +kernel)) (pi_list (pv 0)) (blkOk_by (own := [("table", 4)]) (N := n_look_for_rings) (sc := defScope s_look_for_rings) (by decide +kernel)) (fun _ _ _ _ _ => (pg_name (i := 4) sc_look_for_rings.nd rfl (.inl rfl))) (fun _ _ _ _ _ => pts_nil) (fun _ _ _ _ _ => (pe_fldK (K := K) (pv 4) rfl)))
  (pss_cons (ps_set (i := 2) sc_look_for_rings.nd rfl (.inl rfl) (pe_lst pa_nil))
  (pss_cons (ps_set (i := 3) sc_look_for_rings.nd rfl (.inl rfl) pe_bl)
  (pss_cons (ps_while PassesOwn.never (pt_val (pv 3))
  (pss_cons (ps_set (i := 3) sc_look_for_rings.nd rfl (.inl rfl) pe_bl)
  (pss_one (ps_for PassesOwn.never rfl (pi_list (pv 0)) (pg_name (i := 4) sc_look_for_rings.nd rfl (.inl rfl))
  (pss_one (ps_if (PW.pt (pw_and (pt_cmpR op_notIn_seq (pe_fld (pv 4) rfl) (pv 2) (by rfl)) (pw_and1 (pt_val (pe_cD (ok_free_of T) hr (pa_cons (pv 4) (pa_cons (pv 1) (pa_cons (pv 2) pa_nil)))))))) (pss_cons (ps_expr (pe_bm PySem.F.plainAttrs_list PySem.F.slot_list_append PySem.F.type_list_append mt_append (pv 2) (pa_cons (pe_fld (pv 4) rfl) pa_nil)))
  (pss_one (ps_set (i := 3) sc_look_for_rings.nd rfl (.inl rfl) pe_bl))) pss_nil))))))
  (pss_one (ps_if (pt_cmpR op_lt (pe_callB call_len_seq (by rfl) T.n_len PySem.boot_len (pa_cons (pv 2) pa_nil)) (pe_callB call_len_seq (by rfl) T.n_len PySem.boot_len (pa_cons (pv 0) pa_nil)) (nomark _)) (pss_one ps_never) pss_nil))))), ?_⟩
  refine ⟨_, rfl, at_, rfl, ⟨_, SqL.of hat⟩, fun an nn => ?_⟩
  refine lc_map (walk_list (K := K) (a := at_) (xs := ut)) (u := tStr) (ls := ls) (ts.map (·.name)) nn L (by omega) (by rw [List.length_map, e2]) (fun H' s' => SqL.of (s' _ _ hat)) ?_ ?_
  · rintro i x y H1 H2 R hy s1 sc L2 ⟨rfl, hx⟩ hR
    obtain ⟨t, ht, ax, dx, v1, v2, v3, v4, rfl, hax, _⟩ := rt.get hx
    rw [List.getElem?_map, ht] at hy
    cases hy
    exact ⟨rfl, _, rfl, ax, _, dx, _, _, rfl, s1 _ _ (cut_at hax), T.c_Table, T.a_Table_name, ft_name _ _ _ _ _ _, hR _ _ (Same.refl _) rfl⟩
  rintro H1 s1 ⟨b, us, e, hb, rs⟩
  cases e
  obtain rfl := rs_str rs
  have han := cut_at hb
  refine ⟨Nat.zero_le _, fun al nl => ?_⟩
  have s2 : Same H (upd H1 al (.lst [])) := s1.trans (Same.upd nl)
  have nal : an ≠ al := ne_of_none han nl
  have nl0 := s1.free nl
  refine ⟨ringW H at_ an al ts,
    ⟨_, [], true, none, rfl, s2, by rw [upd_ne nal]; exact han, upd_same, List.nodup_nil, (fun n hn => absurd hn (by simp)), (fun q => absurd q (by decide)), rfl⟩, ?_⟩
  rintro m σ H2 ⟨st, ag, c, rfl, s3, h2n, h2l, hst, hsub, hend, rfl⟩
  refine ⟨_, rfl, _, rfl, ?_⟩
  cases ag with
  | false =>
    refine iteF ?_
    refine ⟨_, rfl, al, _, rfl, .inl (SqL.of h2l), _, rfl, at_, _, rfl, .inl (SqL.of (s3 _ _ hat)), _, _, rfl, rfl, _, rfl, ?_⟩
    have : ts.length ≤ st.length := by
      have := nodup_le hnd (m := st) fun n hn => by
        obtain ⟨t, ht, e⟩ := List.mem_map.mp hn
        rw [← e]; exact hend rfl t ht
      rwa [List.length_map] at this
    rw [decide_eq_false (by rw [List.length_map]; omega)]
    exact iteF (k _ _ s3 rfl)
  | true =>
    refine iteT ⟨fun σ' H' => ∃ m', m' < 2 * (ts.length - st.length) + 1 ∧ ringW H at_ an al ts m' σ' H', fun _ _ z => z, ?_⟩
    refine ⟨_, rfl, at_, rfl, ⟨_, SqL.of (s3 _ _ hat)⟩, for_list (K := K) (a := at_) (xs := ut) (ringP H at_ an al ts st) ⟨[], _, rfl, s3, h2n, by rw [List.append_nil]; exact h2l, by rw [List.append_nil]; exact hst, by rw [List.append_nil]; exact hsub, fun _ t ht => by simp at ht⟩ (fun i σ H' _ ⟨_, _, _, s, _⟩ => SqL.of (s _ _ hat)) ?_ ?_⟩
    · rintro i x σ H3 hx ⟨new, c, rfl, s4, h3n, h3l, hnd3, hsub3, hfr⟩
      obtain ⟨t, ht, rx⟩ := rt.get hx
      obtain ⟨ax, dx, v1, v2, v3, v4, rfl, hax, _⟩ := id rx
      have hax := s4 _ _ (cut_at hax)
      have htm := List.mem_of_getElem? ht
      have hle : (st ++ new).length ≤ ts.length := by
        have := nodup_le hnd3 hsub3
        rwa [List.length_map] at this
      refine ⟨_, rfl, ax, _, dx, _, _, rfl, hax, T.c_Table, T.a_Table_name, ft_name _ _ _ _ _ _, _, rfl, al, _, rfl, .inl (SqL.of h3l), rfl, flat_strs _, _, rfl, ?_⟩
      show if (if true = true then !inV (.str t.name) ((st ++ new).map V.str) else _) = true then _ else _
      rw [if_pos rfl, inV_str]
      by_cases q : t.name ∈ st ++ new
      · rw [decide_eq_true q]
        refine iteF (iteF ⟨new, _, rfl, s4, h3n, h3l, hnd3, hsub3, fun e z hz => ?_⟩)
        rw [take_snoc ht] at hz
        rcases List.mem_append.mp hz with y | y
        · exact hfr e z y
        · rw [List.mem_singleton.mp y]
          rw [e, List.append_nil] at q
          exact .inl q
      · rw [decide_eq_false q]
        refine iteT ?_
        have rn : (tLst tStr).rep (cut H3 []) (.ref an) (ts.map (·.name)) := by rw [cut_nil]; exact ⟨an, _, rfl, h3n, str_rs⟩
        have rl : (tLst tStr).rep (cut H3 []) (.ref al) (st ++ new) := by rw [cut_nil]; exact ⟨al, _, rfl, h3l, str_rs⟩
        have rx3 : (tTab K).rep (cut H3 []) (.ref ax) t := by rw [cut_nil]; exact (tTab K).mono s4 ((tTab K).mono cut_sub rx)
        refine ⟨_, rfl, _, rfl, _, rfl, [], _, _, _, t, _, _, _, rfl, Live.nil, rx3, rn, rl, rfl, fun H4 w4 s5 e => ?_⟩
        obtain rfl : w4 = .bl _ := e
        refine ⟨_, rfl, ?_⟩
        have s45 := s4.trans s5
        cases ef : freeF t (ts.map (·.name)) (st ++ new) with
        | false =>
          refine iteF ⟨new, _, rfl, s45, s5 _ _ h3n, s5 _ _ h3l, hnd3, hsub3, fun e z hz => ?_⟩
          rw [take_snoc ht] at hz
          rcases List.mem_append.mp hz with y | y
          · exact hfr e z y
          · rw [List.mem_singleton.mp y]
            rw [e, List.append_nil] at ef
            exact .inr ef
        | true =>
          refine iteT ⟨_, rfl, .inl ⟨rfl, _, SqL.of (s5 _ _ h3l)⟩, _, rfl, ax, _, dx, _, _, rfl, s5 _ _ hax, T.c_Table, T.a_Table_name, ft_name _ _ _ _ _ _, al, _, _, rfl, rfl, s5 _ _ h3l, by rw [List.length_map]; exact small1000 (by omega), ?_⟩
          refine ⟨new ++ [t.name], some (.ref ax), ?_, s45.mut nl0, by rw [upd_ne nal]; exact s5 _ _ h3n, by rw [upd_same, ← List.append_assoc, List.map_append (l₂ := [t.name])]; rfl, ?_, ?_, fun e => by simp at e⟩
          · rw [show (new ++ [t.name]).isEmpty = false by simp]; rfl
          · rw [← List.append_assoc]
            exact List.nodup_append.mpr ⟨hnd3, by simp, fun a ha b hb e => by rw [List.mem_singleton.mp hb] at e; exact q (e ▸ ha)⟩
          · intro n hn
            rw [← List.append_assoc] at hn
            rcases List.mem_append.mp hn with y | y
            · exact hsub3 n y
            · rw [List.mem_singleton.mp y]; exact List.mem_map.mpr ⟨t, htm, rfl⟩
    · rintro σ H3 ⟨new, c, rfl, s4, h3n, h3l, hnd3, hsub3, hfr⟩
      rw [e2, List.take_length] at hfr
      have hle : (st ++ new).length ≤ ts.length := by
        have := nodup_le hnd3 hsub3
        rwa [List.length_map] at this
      rw [List.length_append] at hle
      cases new with
      | nil =>
        refine ⟨_, ?_, st, false, c, rfl, s4, h3n, by rw [List.append_nil] at h3l; exact h3l, hst, hsub, fun _ => all_settled hrank (hfr rfl), rfl⟩
        rw [if_neg Bool.false_ne_true]; omega
      | cons a new =>
        refine ⟨_, ?_, st ++ a :: new, true, c, rfl, s4, h3n, h3l, hnd3, hsub3, (fun q => absurd q (by decide)), rfl⟩
        rw [if_pos rfl, List.length_append, List.length_cons]
        rw [List.length_cons] at hle
        omega
end
end Rk
set_option Elab.async false
set_option linter.all false
set_option maxRecDepth 100000
set_option maxHeartbeats 1000000
namespace Rk
open PySem PySem.Spec PyProof.Rows L2
open TL
section
variable {P : Program} {w : World} {K : PySem.W.Frag} {mg : Str → Option Value} {base : Heap}
abbrev n_Book_init : List Str := ["self", "facts", "tables"]
theorem sc_Book_init : FnScope n_Book_init ["self", "facts", "tables"] (defScope s_Book_init) := ⟨rfl, rfl, rfl, by decide +kernel, rfl, by decide +kernel, by decide +kernel⟩
theorem mk_Book (T : Tx K mg) : Ctor P w K mg base "Book" ["self", "facts", "tables"] 4 (spBkI K) := by
  refine ⟨?_, T.k_Book, T.g_Book, T.f_Book_init.bindsN fun _ _ _ _ _ _ us hl => match us, hl with | [_, _, _], _ => rfl⟩
  refine fn_body T.f_Book_init sc_Book_init (fun _ _ _ _ h => len_Book_init h) fun cdv A outer s H vs Q E hr h => ?_
  obtain ⟨ls, x, dx, v1, v2, b, rfl, L, mx, ok, hx, r1, r2, k⟩ := h
  obtain ⟨m1, m2⟩ := ok.most
  obtain ⟨a1, us1, e1, ha1, n1, cp1⟩ := list_copy (H1 := H) r1
  obtain ⟨a2, us2, e2, ha2, n2, cp2⟩ := list_copy (H1 := H) r2
  have l1 : us1.length = b.facts.length := by
    obtain ⟨c, us, e, hc, rs⟩ := r1
    rw [e1] at e; cases e
    have := cut_at hc
    rw [ha1] at this; cases this
    exact rs.len
  have l2 : us2.length = b.tabs.length := by
    obtain ⟨c, us, e, hc, rs⟩ := r2
    rw [e2] at e; cases e
    have := cut_at hc
    rw [ha2] at this; cases this
    exact rs.len
  subst e1 e2
  have hnd := ok.nd
  rw [names_keys] at hnd
  refine ⟨_, pss_cons (ps_if (PW.pt (pw_or (pt_cmpR op_gt (pe_callB call_len_seq (by rfl) T.n_len PySem.boot_len (pa_cons (pv 1) pa_nil)) (pe_gi T.i_MOST_FACTS_books) (nomark _)) (pw_or1 (pt_cmpR op_gt (pe_callB call_len_seq (by rfl) T.n_len PySem.boot_len (pa_cons (pv 2) pa_nil)) (pe_gi T.i_MOST_TABLES_books) (nomark _))))) (pss_one ps_never) pss_nil)
  (pss_cons (ps_expr (pe_cD (ok_look_at_columns T) hr (pa_cons (pv 2) (pa_cons (pe_cD (ok_named_domains T) hr (pa_cons (pv 1) (pa_cons (pv 2) pa_nil))) pa_nil))))
  (pss_cons (ps_expr (pe_cD (ok_look_for_rings T) hr (pa_cons (pv 2) pa_nil)))
  (pss_cons (ps_fld (pv 0) (pe_callTy call_list_of (by rfl) T.n_list (by decide +kernel) (pa_cons (pv 1) pa_nil)) rfl)
  (pss_one (ps_fld (pv 0) (pe_callTy call_list_of (by rfl) T.n_list (by decide +kernel) (pa_cons (pv 2) pa_nil)) rfl))))), ?_⟩
  refine ⟨_, rfl, a1, _, rfl, .inl (SqL.of ha1), _, _, rfl, rfl, _, rfl, ?_⟩
  rw [decide_eq_false (show ¬ (20 : Int) < (us1.length : Nat) by omega)]
  refine iteF ⟨_, rfl, a2, _, rfl, .inl (SqL.of ha2), _, _, rfl, rfl, _, rfl, ?_⟩
  rw [decide_eq_false (show ¬ (30 : Int) < (us2.length : Nat) by omega)]
  refine iteF ?_
  refine ⟨_, rfl, _, rfl, _, rfl, ls, _, _, b.facts, b.tabs, _, rfl, L, r1, r2, ⟨fun p hp => (ok.facts p hp).1, ok.nd, by omega, by omega, rfl⟩, fun H1 w1 s1 q1 => ?_⟩
  refine ⟨ls, _, _, b.tabs, _, (), rfl, L.to s1, (tLst (tTab K)).mono s1.cut r2, q1, ⟨ok.tabs, ok.cols⟩, fun H2 w2 s2 _ => ?_⟩
  have s12 := s1.trans s2
  obtain ⟨rank, hrank, _⟩ := ok.rank
  refine ⟨_, rfl, ls, _, b.tabs, (), rfl, L.to s12, (tLst (tTab K)).mono s12.cut r2, ⟨by omega, ⟨rank, hrank⟩, (List.nodup_append.mp hnd).2.1⟩, fun H3 w3 s3 _ => ?_⟩
  have s13 := s12.trans s3
  have F3 : Fill ls x _ dx H H3 [] := ⟨But.of s13, s13 _ _ hx, L.to s13⟩
  refine ⟨_, rfl, a1, _, rfl, .inl (SqL.of (s13 _ _ ha1)), fun p1 np1 => ?_⟩
  have q1 := cp1 _ (F3.but.cut mx) p1 (F3.live.no np1) np1
  have F4 := F3.new (o := .lst us1) np1
  refine ⟨_, rfl, x, _, dx, _, rfl, F4.at_, T.c_Book, T.a_Book_facts, by show 0 < 1000; decide, ?_⟩
  have F5 := F4.store (putF "facts" (.ref p1) [])
  have q1 := (tLst (tPair tStr (tDom K))).mono ((But.upd (o := .ins (He.ga K "Book") dx (putF "facts" (.ref p1) []))).cut mx) q1
  refine ⟨_, rfl, a2, _, rfl, .inl (SqL.of (F5.but _ _ ha2 (fun e => n2 (e ▸ mx)))), fun p2 np2 => ?_⟩
  have q2 := cp2 _ (F5.but.cut mx) p2 (F5.live.no np2) np2
  have q1 := (tLst (tPair tStr (tDom K))).mono (Same.cut (Same.upd (o := .lst us2) np2)) q1
  have F6 := F5.new (o := .lst us2) np2
  refine ⟨_, rfl, x, _, dx, _, rfl, F6.at_, T.c_Book, T.a_Book_tables, Nat.lt_of_le_of_lt (putF_len _ _ _) (by decide), ?_⟩
  have F7 := F6.store (putF "tables" (.ref p2) (putF "facts" (.ref p1) []))
  refine k _ (.ref p1) (.ref p2) F7.but ?_ ((tLst (tPair tStr (tDom K))).mono ((But.upd).cut mx) q1) ((tLst (tTab K)).mono ((But.upd).cut mx) q2)
  rw [F7.at_, putF_new (f := "facts") (l := []) rfl, putF_new (f := "tables") (by kernel_rfl)]
  rfl
abbrev n_table_of : List Str := ["book", "name", "table"]
theorem sc_table_of : FnScope n_table_of ["book", "name"] (defScope s_table_of) := ⟨rfl, rfl, rfl, by decide +kernel, rfl, by decide +kernel, by decide +kernel⟩
theorem ok_table_of (T : Tx K mg) : Def P w K mg base "table_of" ["book", "name"] 1 (Sp2 (tBk K) tStr (tTab K) fun b n r => findTab b n = some r) := by
  refine ⟨?_, T.g_table_of, T.f_table_of.kp, T.f_table_of.bindsN fun _ _ _ _ _ _ us hl => match us, hl with | [_, _], _ => rfl⟩
  refine fn_body T.f_table_of sc_table_of (fun _ _ _ _ h => len2 h) fun cdv A outer s H vs Q E hr h => ?_
  obtain ⟨ls, vb, vn, b, n, t, rfl, L, ⟨ab, dx, v1, v2, rfl, hab, r1, ⟨at_, ut, rfl, hat, rt⟩⟩, rfl, hf, k⟩ := h
  have hab := cut_at hab
  have hat := cut_at hat
  have e2 := rt.len
  refine ⟨_, pss_cons (ps_for PassesOwn.never rfl (pi_list (pe_fld (pv 0) rfl)) (pg_name (i := 2) sc_table_of.nd rfl (.inl rfl))
  (pss_one (ps_if (pt_cmpR op_eq (pe_fld (pv 2) rfl) (pv 1) (nomark _)) (pss_one (ps_ret (pv 2))) pss_nil)))
  (pss_one ps_never), ?_⟩
  refine ⟨_, rfl, ab, _, dx, _, .ref at_, rfl, hab, T.c_Book, T.a_Book_tables, fb_tabs _ _, at_, rfl, ⟨_, SqL.of hat⟩, for_list (K := K) (a := at_) (xs := ut) (fun i σ H' => (∃ c, σ = [some (.ref ab), some (.str n), c]) ∧ H' = H ∧ findTab b n = (b.tabs.drop i).find? fun t => decide (t.name = n)) ⟨⟨_, rfl⟩, rfl, rfl⟩ (fun i σ H' _ p => by rw [p.2.1]; exact SqL.of hat) ?_ ?_⟩
  · rintro i x σ H1 hx ⟨⟨c, rfl⟩, rfl, hd⟩
    obtain ⟨y, hy, rx⟩ := rt.get hx
    obtain ⟨ax, dy, w1, w2, w3, w4, rfl, hax, _⟩ := id rx
    have hi := (List.getElem?_eq_some_iff.mp hy).1
    have ed : b.tabs.drop i = y :: b.tabs.drop (i + 1) := by
      rw [List.drop_eq_getElem_cons hi]
      congr 1
      rw [List.getElem?_eq_getElem hi] at hy
      exact Option.some.inj hy
    rw [ed, List.find?_cons] at hd
    refine ⟨_, rfl, ax, _, dy, _, _, rfl, cut_at hax, T.c_Table, T.a_Table_name, ft_name _ _ _ _ _ _, _, rfl, rfl, _, rfl, ?_⟩
    refine ite2 (fun q => ?_) (fun q => ?_)
    · have q := V.str.inj (ydec q)
      rw [decide_eq_true q] at hd
      have hd : findTab b n = some y := hd
      rw [hf] at hd
      cases hd
      exact ⟨_, rfl, k _ _ (Same.refl _) rx⟩
    · have q : ¬ y.name = n := fun e => ndec q (by rw [e])
      rw [decide_eq_false q] at hd
      exact ⟨⟨_, rfl⟩, rfl, hd⟩
  · rintro σ H1 ⟨⟨c, rfl⟩, rfl, hd⟩
    rw [e2, List.drop_length, hf] at hd
    cases hd
abbrev n_asks : List Str := ["book", "name", "names", "table", "column"]
theorem sc_asks : FnScope n_asks ["book", "name"] (defScope s_asks) := ⟨rfl, rfl, rfl, by decide +kernel, rfl, by decide +kernel, by decide +kernel⟩
theorem ok_asks (T : Tx K mg) : Def P w K mg base "asks" ["book", "name"] 2 (Sp2 (tBk K) tStr (tLst tStr) fun b n r => BkOk b ∧ n ∈ tabNames b ∧ r = askedF b n) := by
  refine ⟨?_, T.g_asks, T.f_asks.kp, T.f_asks.bindsN fun _ _ _ _ _ _ us hl => match us, hl with | [_, _], _ => rfl⟩
  refine fn_body T.f_asks sc_asks (fun _ _ _ _ h => len2 h) fun cdv A outer s H vs Q E hr h => ?_
  obtain ⟨ls, vb, vn, b, n, r, rfl, L, rb, rfl, ⟨ok, hn, rfl⟩, k⟩ := h
  obtain ⟨ab, dx, v1, v2, rfl, hab, r1, ⟨at_, ut, rfl, hat, rt⟩⟩ := id rb
  have hab := cut_at hab
  have hat := cut_at hat
  have e2 := rt.len
  have m2 := ok.most.2
  obtain ⟨t, ht⟩ := findTab_of hn
  refine ⟨_, pss_cons (ps_set (i := 2) sc_asks.nd rfl (.inr rfl) (pe_lc (own := [("table", 3)]) (g := gName 3) rfl sc_asks.nd (pi_list (pe_fld (pv 0) rfl)) (blkOk_by (own := [("table", 3)]) (N := n_asks) (sc := defScope s_asks) (by decide +kernel)) (fun _ _ _ _ _ => (pg_name (i := 3) sc_asks.nd rfl (.inl rfl))) (fun _ _ _ _ _ => pts_nil) (fun _ _ _ _ _ => (pe_fldK (K := K) (pv 3) rfl))))
  (pss_one (ps_ret (pe_lc (own := [("column", 4)]) (g := gName 4) rfl sc_asks.nd (pi_list (pe_fld (pe_cD (ok_table_of T) hr (pa_cons (pv 0) (pa_cons (pv 1) pa_nil))) rfl)) (blkOk_by (own := [("column", 4)]) (N := n_asks) (sc := defScope s_asks) (by decide +kernel)) (fun _ _ _ _ _ => (pg_name (i := 4) sc_asks.nd rfl (.inl rfl))) (fun _ _ _ _ _ => (pts_one (pt_cmpR (in_seqK (K := K)) (pv 4) (pv 2) (by rfl)))) (fun _ _ _ _ _ => (pv 4))))), ?_⟩
  refine ⟨_, rfl, ab, _, dx, _, .ref at_, rfl, hab, T.c_Book, T.a_Book_tables, fb_tabs _ _, at_, rfl, ⟨_, SqL.of hat⟩, fun an nn => ?_⟩
  refine lc_map (walk_list (K := K) (a := at_) (xs := ut)) (u := tStr) (ls := ls) (tabNames b) nn L (by omega) (by unfold tabNames; rw [List.length_map, e2]) (fun H' s' => SqL.of (s' _ _ hat)) ?_ ?_
  · rintro i x y H1 H2 R hy s1 sc L2 ⟨rfl, hx⟩ hR
    obtain ⟨t, ht, ax, dx, v1, v2, v3, v4, rfl, hax, _⟩ := rt.get hx
    have hy : (b.tabs.map (·.name))[i]? = some y := hy
    rw [List.getElem?_map, ht] at hy
    cases hy
    exact ⟨rfl, _, rfl, ax, _, dx, _, _, rfl, s1 _ _ (cut_at hax), T.c_Table, T.a_Table_name, ft_name _ _ _ _ _ _, hR _ _ (Same.refl _) rfl⟩
  rintro H1 s1 ⟨b', us, e, hb, rs⟩
  cases e
  obtain rfl := rs_str rs
  have han := cut_at hb
  refine ⟨_, rfl, _, rfl, ls, _, _, b, n, t, rfl, L.to s1, (tBk K).mono s1.cut rb, rfl, ht, fun H2 w2 s2 rt2 => ?_⟩
  obtain ⟨ax, dy, y1, y2, y3, y4, rfl, hax, ⟨ac, uc, rfl, hac, rc⟩, _⟩ := rt2
  have hax := cut_at hax
  have hac := cut_at hac
  obtain rfl := rs_str rc
  have tok := ok.tabs t (findTab_some ht).1
  refine ⟨ax, _, dy, _, .ref ac, rfl, hax, T.c_Table, T.a_Table_names, ft_names _ _ _ _ _ _, ac, rfl, ⟨_, SqL.of hac⟩, fun D nD => ?_⟩
  have s12 := s1.trans s2
  refine lc_fmap (walk_list (K := K) (a := ac) (xs := t.names.map V.str)) (u := tStr) (ls := ls) (fun i => decide (t.names.getD i "" ∈ tabNames b)) (fun i => t.names.getD i "") nD (L.to s12) (by rw [List.length_map]; have := tok.cols; omega) (fun H' s' => SqL.of (s' _ _ hac)) ?_ ?_
  · rintro i x H3 H4 R1 R2 hi s3 sc L2 ⟨rfl, hx⟩ h1 h2
    rw [List.getElem?_map] at hx
    obtain ⟨c, hc, rfl⟩ := Option.map_eq_some_iff.mp hx
    have ec : t.names.getD i "" = c := by rw [List.getD_eq_getElem?_getD, hc]; rfl
    rw [ec] at h1 h2
    refine ⟨rfl, _, rfl, _, rfl, an, _, rfl, .inl (SqL.of (s3 _ _ (s2 _ _ han))), rfl, flat_strs _, _, rfl, ?_⟩
    show if (if false = true then _ else inV (.str c) ((tabNames b).map V.str)) = true then _ else _
    rw [if_neg Bool.false_ne_true, inV_str]
    refine ite2 (fun q => ?_) (fun q => ?_)
    · exact ⟨_, rfl, h1 q _ _ (Same.refl _) rfl⟩
    · exact h2 (by cases e : decide (c ∈ tabNames b) with | false => rfl | true => exact absurd e q) _ (Same.refl _)
  · intro H3 s3 rD
    refine k _ _ (s12.trans s3) ?_
    have : ((List.range (t.names.map V.str).length).filter (fun i => decide (t.names.getD i "" ∈ tabNames b))).map (fun i => t.names.getD i "") = askedF b n := by
      unfold askedF
      rw [ht]
      show _ = t.names.filter _
      rw [List.length_map]
      exact range_filter t.names "" fun c => decide (c ∈ tabNames b)
    rw [← this]
    exact rD
end
end Rk
set_option Elab.async false
set_option linter.all false
set_option maxRecDepth 100000
set_option maxHeartbeats 1000000
namespace Rk
open PySem PySem.Spec PyProof.Rows L2
open TL
abbrev spGath (K : PySem.W.Frag) (f : Nat) : Sp := Sp3 (tBk K) tStr (tLst tStr) (tLst tStr) fun b n told r => BkOk b ∧ (∃ rank, Ranked rank b.tabs ∧ rank n < f) ∧ n ∈ tabNames b ∧ (∀ c ∈ told, c ∈ tabNames b) ∧ told.length + 5 ^ f ≤ 1000 ∧ r = gathF b f n told
theorem fold_len {b : Bk} (hb : ∀ t ∈ b.tabs, TabOk t) (f : Nat) : ∀ (l acc : List Str), (l.foldl (fun acc a => gathF b f a acc) acc).length ≤ acc.length + l.length * 5 ^ f := by
  intro l
  induction l with
  | nil => intro acc; simp
  | cons a l ih =>
    intro acc
    rw [List.foldl_cons]
    have h1 := ih (gathF b f a acc)
    have h2 := gath_len hb f a acc
    rw [List.length_cons, Nat.succ_mul]
    omega
theorem fold_sub {b : Bk} (f : Nat) : ∀ (l acc : List Str), (∀ c ∈ l, c ∈ tabNames b) → (∀ c ∈ acc, c ∈ tabNames b) → ∀ c ∈ l.foldl (fun acc a => gathF b f a acc) acc, c ∈ tabNames b := by
  intro l
  induction l with
  | nil => intro acc _ h; exact h
  | cons a l ih => intro acc hl h; exact ih _ (fun c hc => hl c (List.mem_cons_of_mem _ hc)) (gath_sub f a acc (hl a List.mem_cons_self) h)
section
variable {P : Program} {w : World} {K : PySem.W.Frag} {mg : Str → Option Value} {base : Heap}
abbrev n_gathered : List Str := ["book", "name", "told", "asked"]
theorem sc_gathered : FnScope n_gathered ["book", "name", "told"] (defScope s_gathered) := ⟨rfl, rfl, rfl, by decide +kernel, rfl, by decide +kernel, by decide +kernel⟩
theorem gath_rec (T : Tx K mg) : ∀ f, Def P w K mg base "gathered" ["book", "name", "told"] (3 + f) (spGath K f)
  | 0 => ⟨⟨fun vs H Q E h => len3 h, fun A outer s H args us vs Q E _ _ _ _ h => by
      obtain ⟨ls, v1, v2, v3, b, n, told, r, _, _, _, _, _, ⟨_, ⟨rank, _, hr⟩, _⟩, _⟩ := h
      exact absurd hr (Nat.not_lt_zero _)⟩, T.g_gathered, T.f_gathered.kp, T.f_gathered.bindsN fun _ _ _ _ _ _ us hl => match us, hl with | [_, _, _], _ => rfl⟩
  | f + 1 => by
    have IH : Def P w K mg base "gathered" ["book", "name", "told"] (3 + f) (spGath K f) := gath_rec T f
    refine ⟨?_, T.g_gathered, T.f_gathered.kp, T.f_gathered.bindsN fun _ _ _ _ _ _ us hl => match us, hl with | [_, _, _], _ => rfl⟩
    refine fn_body T.f_gathered sc_gathered (fun _ _ _ _ h => len3 h) fun cdv A outer s H vs Q E hr h => ?_
    obtain ⟨ls, vb, vn, vt, b, n, told, r, rfl, L, rb, rfl, rtold, ⟨ok, ⟨rank, hrank, hlt⟩, hn, hsub, h1000, rfl⟩, k⟩ := h
    obtain ⟨a, us, rfl, ha, rs⟩ := id rtold
    have ha := cut_at ha
    obtain rfl := rs_str rs
    have k : ∀ H' w, Same H H' → (tLst tStr).rep (cut H' ls) w (if n ∈ told then told else (askedF b n).foldl (fun acc a => gathF b f a acc) told ++ [n]) → Q w H' := k
    refine ⟨_, pss_cons (ps_if (pt_cmpR op_in_seq (pv 1) (pv 2) (by rfl)) (pss_one (ps_ret (pv 2))) pss_nil)
  (pss_cons (ps_for PassesOwn.never rfl (pi_list (pe_cD (ok_asks T) (hr.mono (Nat.le_add_right 3 f)) (pa_cons (pv 0) (pa_cons (pv 1) pa_nil)))) (pg_name (i := 3) sc_gathered.nd rfl (.inl rfl))
  (pss_one (ps_set (i := 2) sc_gathered.nd rfl (.inl rfl) (pe_cD IH hr (pa_cons (pv 0) (pa_cons (pv 3) (pa_cons (pv 2) pa_nil))) (Nat.le_refl _)))))
  (pss_one (ps_ret (pe_op op_cat (pv 2) (pe_lst (pa_cons (pv 1) pa_nil)))))), ?_⟩
    refine ⟨_, rfl, _, rfl, a, _, rfl, .inl (SqL.of ha), rfl, flat_strs _, _, rfl, ?_⟩
    show if (if false = true then _ else inV (.str n) (told.map V.str)) = true then _ else _
    rw [if_neg Bool.false_ne_true, inV_str]
    refine ite2 (fun q => ?_) (fun q => ?_)
    · rw [if_pos (of_decide_eq_true q)] at k
      exact ⟨_, rfl, k _ _ (Same.refl _) rtold⟩
    have q : ¬ n ∈ told := fun m => q (decide_eq_true m)
    rw [if_neg q] at k
    refine ⟨_, rfl, _, rfl, ls, _, _, b, n, _, rfl, L, rb, rfl, ⟨ok, hn, rfl⟩, fun H1 w1 s1 r1 => ?_⟩
    obtain ⟨aa, ua, rfl, haa, rsa⟩ := r1
    have haa := cut_at haa
    obtain rfl := rs_str rsa
    have h4 : (askedF b n).length ≤ 4 := by
      unfold askedF
      split
      · rename_i t ht
        exact Nat.le_trans (List.length_filter_le _ _) (ok.tabs t (findTab_some ht).1).cols.2
      · exact Nat.zero_le _
    have h5 : 0 < 5 ^ f := Nat.pow_pos (by decide)
    have e5 : 5 ^ (f + 1) = 5 ^ f * 5 := Nat.pow_succ ..
    refine ⟨aa, rfl, ⟨_, SqL.of haa⟩, for_list (K := K) (a := aa) (xs := (askedF b n).map V.str) (fun i σ H' => (∃ v c, σ = [some vb, some (.str n), some v, c] ∧ (tLst tStr).rep (cut H' ls) v (((askedF b n).take i).foldl (fun acc a => gathF b f a acc) told)) ∧ Same H H' ∧ H' aa = some (.lst ((askedF b n).map V.str))) ⟨⟨_, _, rfl, by rw [List.take_zero]; exact (tLst tStr).mono s1.cut rtold⟩, s1, haa⟩ (fun i σ H' _ p => SqL.of p.2.2) ?_ ?_⟩
    · rintro i x σ H2 hx ⟨⟨v, c, rfl, rv⟩, s2, haa2⟩
      rw [List.getElem?_map] at hx
      obtain ⟨z, hz, rfl⟩ := Option.map_eq_some_iff.mp hx
      have hzm := List.mem_of_getElem? hz
      have hi := (List.getElem?_eq_some_iff.mp hz).1
      have hl := fold_len (fun t ht => ok.tabs t ht) f ((askedF b n).take i) told
      have hti : ((askedF b n).take i).length * 5 ^ f ≤ 3 * 5 ^ f := Nat.mul_le_mul_right _ (by rw [List.length_take]; omega)
      refine ⟨_, rfl, _, rfl, _, rfl, ls, _, _, _, b, z, _, _, rfl, L.to s2, (tBk K).mono s2.cut rb, rfl, rv, ⟨ok, ⟨rank, hrank, by have := asked_rank hrank hzm; omega⟩, asked_mem hzm, fold_sub f _ _ (fun c hc => asked_mem (List.mem_of_mem_take hc)) hsub, by omega, rfl⟩, fun H3 w3 s3 r3 => ?_⟩
      refine ⟨⟨w3, _, rfl, ?_⟩, s2.trans s3, s3 _ _ haa2⟩
      rw [take_snoc hz, List.foldl_append]
      exact r3
    · rintro σ H2 ⟨⟨v, c, rfl, rv⟩, s2, haa2⟩
      rw [List.length_map, List.take_length] at rv
      have hl := fold_len (fun t ht => ok.tabs t ht) f (askedF b n) told
      have hti : (askedF b n).length * 5 ^ f ≤ 4 * 5 ^ f := Nat.mul_le_mul_right _ h4
      obtain ⟨al, ul, rfl, hal, rl⟩ := rv
      obtain rfl := rs_str rl
      have hal := cut_at hal
      refine ⟨_, rfl, _, rfl, szl 1, fun p np => ?_⟩
      refine ⟨al, p, _, _, rfl, rfl, (Same.upd np) _ _ hal, upd_same, ?_, fun y ny => ?_⟩
      · rw [List.length_map]; exact szl _ (by show _ + 1 ≤ 1000; omega)
      · have s3 := s2.trans (Same.upd (o := .lst [.str n]) np)
        refine k _ _ (s3.trans (Same.upd ny)) ⟨y, _, rfl, at_cut (L.no (s3.free ny)) upd_same, ?_⟩
        have := str_rs (H := cut (upd (upd H2 p (.lst [.str n])) y (.lst (((askedF b n).foldl (fun acc a => gathF b f a acc) told).map V.str ++ [.str n]))) ls) (xs := (askedF b n).foldl (fun acc a => gathF b f a acc) told ++ [n])
        rw [List.map_append] at this
        exact this
abbrev n_order_of : List Str := ["book", "name"]
theorem sc_order_of : FnScope n_order_of ["book", "name"] (defScope s_order_of) := ⟨rfl, rfl, rfl, by decide +kernel, rfl, by decide +kernel, by decide +kernel⟩
theorem ok_order_of (T : Tx K mg) : Def P w K mg base "order_of" ["book", "name"] 7 (Sp2 (tBk K) tStr (tLst tStr) fun b n r => BkOk b ∧ n ∈ tabNames b ∧ r = orderF b n) := by
  refine ⟨?_, T.g_order_of, T.f_order_of.kp, T.f_order_of.bindsN fun _ _ _ _ _ _ us hl => match us, hl with | [_, _], _ => rfl⟩
  refine fn_body T.f_order_of sc_order_of (fun _ _ _ _ h => len2 h) fun cdv A outer s H vs Q E hr h => ?_
  obtain ⟨ls, vb, vn, b, n, r, rfl, L, rb, rfl, ⟨ok, hn, rfl⟩, k⟩ := h
  obtain ⟨rank, hrank, h2⟩ := ok.rank
  refine ⟨_, pss_one (ps_ret (pe_cD (gath_rec T 3) hr (pa_cons (pv 0) (pa_cons (pv 1) (pa_cons (pe_lst pa_nil) pa_nil))))), ?_⟩
  refine ⟨_, rfl, _, rfl, Nat.zero_le _, fun p np => ?_⟩
  have s1 : Same H (upd H p (.lst [])) := Same.upd np
  refine ⟨ls, _, _, _, b, n, [], _, rfl, L.to s1, (tBk K).mono s1.cut rb, rfl, ⟨p, [], rfl, at_cut (L.no np) upd_same, trivial⟩, ⟨ok, ⟨rank, hrank, by have := h2 n; omega⟩, hn, (fun c hc => absurd hc (by simp)), by decide, rfl⟩, fun H2 w2 s2 r2 => k _ _ (s1.trans s2) r2⟩
abbrev n_needs : List Str := ["book", "name", "columns", "asked", "fact"]
theorem sc_needs : FnScope n_needs ["book", "name"] (defScope s_needs) := ⟨rfl, rfl, rfl, by decide +kernel, rfl, by decide +kernel, by decide +kernel⟩
theorem ok_needs (T : Tx K mg) : Def P w K mg base "needs" ["book", "name"] 8 (Sp2 (tBk K) tStr (tLst tStr) fun b n r => BkOk b ∧ n ∈ tabNames b ∧ r = needsF b n) := by
  refine ⟨?_, T.g_needs, T.f_needs.kp, T.f_needs.bindsN fun _ _ _ _ _ _ us hl => match us, hl with | [_, _], _ => rfl⟩
  refine fn_body T.f_needs sc_needs (fun _ _ _ _ h => len2 h) fun cdv A outer s H vs Q E hr h => ?_
  obtain ⟨ls, vb, vn, b, n, r, rfl, L, rb, rfl, ⟨ok, hn, rfl⟩, k⟩ := h
  obtain ⟨ab, dx, v1, v2, rfl, hab, ⟨af, uf, rfl, haf, rf⟩, r2⟩ := id rb
  have hab := cut_at hab
  have haf := cut_at haf
  have e1 := rf.len
  have m1 := ok.most.1
  refine ⟨_, pss_cons (ps_set (i := 2) sc_needs.nd rfl (.inr rfl) (pe_lst pa_nil))
  (pss_cons (ps_for PassesOwn.never rfl (pi_list (pe_cD (ok_order_of T) hr (pa_cons (pv 0) (pa_cons (pv 1) pa_nil)))) (pg_name (i := 3) sc_needs.nd rfl (.inl rfl))
  (pss_one (ps_expr (pe_bm PySem.F.plainAttrs_list PySem.F.slot_list_extend PySem.F.type_list_extend mt_extend (pv 2) (pa_cons (pe_fld (pe_cD (ok_table_of T) hr (pa_cons (pv 0) (pa_cons (pv 3) pa_nil))) rfl) pa_nil)))))
  (pss_one (ps_ret (pe_lc (own := [("fact", 4)]) (g := gName 4) rfl sc_needs.nd (pi_list (pe_fld (pv 0) rfl)) (blkOk_by (own := [("fact", 4)]) (N := n_needs) (sc := defScope s_needs) (by decide +kernel)) (fun _ _ _ _ _ => (pg_name (i := 4) sc_needs.nd rfl (.inl rfl))) (fun _ _ _ _ _ => (pts_one (pt_cmpR (in_seqK (K := K)) (pe_ix (ixT (K := K)) (pv 4) pe_int (fun _ _ => rfl)) (pv 2) (by rfl)))) (fun _ _ _ _ _ => (pe_ix (ixT (K := K)) (pv 4) pe_int (fun _ _ => rfl))))))), ?_⟩
  refine ⟨Nat.zero_le _, fun l nl => ?_⟩
  have s0 : Same H (upd H l (.lst [])) := Same.upd nl
  have L0 : Live (upd H l (.lst [])) (l :: ls) := Live.cons upd_same (L.to s0)
  refine ⟨_, rfl, _, rfl, l :: ls, _, _, b, n, _, rfl, L0, (tBk K).mono (s0.more1 nl) rb, rfl, ⟨ok, hn, rfl⟩, fun H1 w1 s1 r1 => ?_⟩
  obtain ⟨ao, uo, rfl, hao, ro⟩ := r1
  have nao : ao ≠ l := fun e => (cut_iff.mp hao).1 (by rw [e]; exact List.mem_cons_self)
  have hao := cut_at hao
  obtain rfl := rs_str ro
  have s01 := s0.trans s1
  have hlo : (orderF b n).length ≤ 125 := by
    have := gath_len (fun t ht => ok.tabs t ht) 3 n []
    exact Nat.le_trans this (by decide)
  refine ⟨ao, rfl, ⟨_, SqL.of hao⟩, for_list (K := K) (a := ao) (xs := (orderF b n).map V.str) (fun i σ H' => (∃ c, σ = [some (.ref ab), some (.str n), some (.ref l), c, none]) ∧ Same H H' ∧ H' ao = some (.lst ((orderF b n).map V.str)) ∧ H' l = some (.lst ((colsF b ((orderF b n).take i)).map V.str)) ∧ (colsF b ((orderF b n).take i)).length ≤ 4 * i) ⟨⟨_, rfl⟩, s01, hao, by rw [List.take_zero]; exact s1 _ _ upd_same, by rw [List.take_zero]; exact Nat.zero_le _⟩ (fun i σ H' _ p => SqL.of p.2.2.1) ?_ ?_⟩
  · rintro i x σ H2 hx ⟨⟨c, rfl⟩, s2, hao2, hl2, hlen⟩
    rw [List.getElem?_map] at hx
    obtain ⟨z, hz, rfl⟩ := Option.map_eq_some_iff.mp hx
    have hi := (List.getElem?_eq_some_iff.mp hz).1
    have hzt : z ∈ tabNames b := gath_sub 3 n [] hn (fun c hc => absurd hc (by simp)) z (List.mem_of_getElem? hz)
    obtain ⟨t, ht⟩ := findTab_of hzt
    have tok := ok.tabs t (findTab_some ht).1
    refine ⟨_, rfl, .inl ⟨rfl, _, SqL.of hl2⟩, _, rfl, _, rfl, l :: ls, _, _, b, z, t, rfl, Live.cons hl2 (L.to s2), (tBk K).mono (s2.more1 nl) rb, rfl, ht, fun H3 w3 s3 rt => ?_⟩
    obtain ⟨ax, dy, y1, y2, y3, y4, rfl, hax, ⟨ac, uc, rfl, hac, rc⟩, _⟩ := rt
    obtain rfl := rs_str rc
    have e3 : colsF b ((orderF b n).take (i + 1)) = colsF b ((orderF b n).take i) ++ t.names := by
      unfold colsF
      rw [take_snoc hz, List.flatMap_append, List.flatMap_cons, List.flatMap_nil, List.append_nil, ht]
    have hc := tok.cols
    refine ⟨ax, _, dy, _, .ref ac, rfl, cut_at hax, T.c_Table, T.a_Table_names, ft_names _ _ _ _ _ _, l, ac, _, _, rfl, rfl, s3 _ _ hl2, cut_at hac, szl _ (by rw [List.length_map, List.length_map]; omega), ⟨_, rfl⟩, (s2.trans s3).mut nl, ?_, ?_, ?_⟩
    · rw [upd_ne nao]
      exact s3 _ _ hao2
    · rw [e3, List.map_append]; exact upd_same
    · rw [e3, List.length_append]; omega
  · rintro σ H2 ⟨⟨c, rfl⟩, s2, hao2, hl2, hlen⟩
    rw [List.length_map, List.take_length] at hl2
    refine ⟨_, rfl, ab, _, dx, _, .ref af, rfl, s2 _ _ hab, T.c_Book, T.a_Book_facts, fb_facts _ _, af, rfl, ⟨_, SqL.of (s2 _ _ haf)⟩, fun D nD => ?_⟩
    refine lc_fmap (walk_list (K := K) (a := af) (xs := uf)) (u := tStr) (ls := ls) (fun i => decide ((b.facts.getD i ("", .words [])).1 ∈ colsF b (orderF b n))) (fun i => (b.facts.getD i ("", .words [])).1) nD (L.to s2) (by omega) (fun H' s' => SqL.of (s' _ _ (s2 _ _ haf))) ?_ ?_
    · rintro i x H3 H4 R1 R2 hi s3 sc L2 ⟨rfl, hx⟩ h1 h2
      obtain ⟨p, hp, t, u1, u2, rfl, ht, rfl, _⟩ := rf.get hx
      have ec : b.facts.getD i ("", .words []) = p := by rw [List.getD_eq_getElem?_getD, hp]; rfl
      rw [ec] at h1 h2
      have ht := s3 _ _ (s2 _ _ (cut_at ht))
      refine ⟨rfl, _, rfl, t, _, 0, _, rfl, rfl, SqT.of ht, at_of (j := 0) rfl rfl, _, rfl, l, _, rfl, .inl (SqL.of (s3 _ _ hl2)), rfl, flat_strs _, _, rfl, ?_⟩
      show if (if false = true then _ else inV (.str p.1) ((colsF b (orderF b n)).map V.str)) = true then _ else _
      rw [if_neg Bool.false_ne_true, inV_str]
      refine ite2 (fun q => ?_) (fun q => ?_)
      · exact ⟨_, rfl, t, _, 0, _, rfl, rfl, SqT.of ht, at_of (j := 0) rfl rfl, h1 q _ _ (Same.refl _) rfl⟩
      · exact h2 (by cases e : decide (p.1 ∈ colsF b (orderF b n)) with | false => rfl | true => exact absurd e q) _ (Same.refl _)
    · intro H3 s3 rD
      refine k _ _ (s2.trans s3) ?_
      have : ((List.range uf.length).filter (fun i => decide ((b.facts.getD i ("", .words [])).1 ∈ colsF b (orderF b n)))).map (fun i => (b.facts.getD i ("", .words [])).1) = needsF b n := by
        unfold needsF
        rw [e1, ← range_filter b.facts ("", .words []) fun p => decide (p.1 ∈ colsF b (orderF b n)), List.map_map]
        rfl
      rw [← this]
      exact rD
end
end Rk
set_option Elab.async false
set_option linter.all false
set_option maxRecDepth 100000
set_option maxHeartbeats 1000000
namespace Rk
open PySem PySem.Spec PyProof.Rows L2
open TL
theorem Ps.find {A : Type} {t : Ty A} {H : Hp} {vs : List (Key × V)} {xs : List (Str × A)} {k : Str} {x : A} (h : Ps t H vs xs) (e : Rk.look xs k = some x) : ∃ v, valV vs (Sum.inr k) = some v ∧ t.rep H v x := by
  rcases h.look k with ⟨v, z, h1, h2, r⟩ | ⟨h1, h2⟩
  · rw [e] at h2; cases h2; exact ⟨v, h1, r⟩
  · rw [e] at h2; cases h2
theorem Ps.nofind {A : Type} {t : Ty A} {H : Hp} {vs : List (Key × V)} {xs : List (Str × A)} {k : Str} (h : Ps t H vs xs) (e : Rk.look xs k = none) : valV vs (Sum.inr k) = none := by
  rcases h.look k with ⟨v, z, h1, h2, r⟩ | ⟨h1, h2⟩
  · rw [e] at h2; cases h2
  · exact h1
theorem in_more {H : Hp} {l d u : Addr} {ls : List Addr} {us : List V} {ws : List (Key × V)} (h : cut H (l :: ls) u = some (.tup us)) (hd : H d = some (.dK ws)) : cut H (l :: d :: ls) u = some (.tup us) := by
  obtain ⟨n, e⟩ := cut_iff.mp h
  refine at_cut (fun m => ?_) e
  rcases List.mem_cons.mp m with q | m
  · exact n (q ▸ List.mem_cons_self)
  · rcases List.mem_cons.mp m with q | q
    · rw [q, hd] at e; cases e
    · exact n (List.mem_cons_of_mem _ q)
theorem nd_take {A B : Type} {l : List A} (f : A → B) (nd : (l.map f).Nodup) {i : Nat} {x : A} (h : l[i]? = some x) : f x ∉ (l.take i).map f := by
  intro m
  rw [List.map_take] at m
  obtain ⟨j, hj⟩ := List.mem_iff_getElem?.mp m
  rw [List.getElem?_take] at hj
  by_cases q : j < i
  · rw [if_pos q] at hj
    have hi' := (List.getElem?_eq_some_iff.mp (show (l.map f)[i]? = some (f x) by rw [List.getElem?_map, h]; rfl)).1
    have hjl : j < (l.map f).length := by omega
    have e3 : (l.map f)[i]? = some (f x) := by rw [List.getElem?_map, h]; rfl
    rw [← e3, List.getElem?_eq_getElem hjl, List.getElem?_eq_getElem hi'] at hj
    have : j = i := (List.getElem_inj nd).mp (Option.some.inj hj)
    omega
  · rw [if_neg q] at hj; cases hj
def codeF (fs : List (Str × RVal)) (p : Str × Dom) : Str × Int := (p.1, placeF p.2 ((look fs p.1).getD (.int 0)))
def codesF (b : Bk) (n : Str) (fs : List (Str × RVal)) : List (Str × Int) := (b.facts.filter fun p => decide (p.1 ∈ needsF b n)).map (codeF fs)
def stopF (verds : List (Str × Ver)) (names : List Str) : Option Ver := names.findSome? fun c => match look verds c with
  | some v => if v.1 = "say" then none else some v
  | none => none
def ownC (codes : List (Str × Int)) (verds : List (Str × Ver)) (c : Str) : Int := match look verds c with
  | some v => v.2
  | none => (look codes c).getD 0
def entryF (t : Tab) (codes : List (Str × Int)) (verds : List (Str × Ver)) : Ver := match stopF verds t.names with
  | some v => v
  | none => verdictF t.way (picked t.rows (fsOf t (t.names.map (ownC codes verds)))) t.out.lo t.out.hi
def entsF (codes : List (Str × Int)) (ts : List Tab) : List (Str × Ver) := ts.foldl (fun acc t => acc ++ [(t.name, entryF t codes acc)]) []
theorem ents_keys (codes : List (Str × Int)) (ts : List Tab) : (entsF codes ts).map (·.1) = ts.map (·.name) := by
  unfold entsF
  have : ∀ (ts : List Tab) (acc : List (Str × Ver)), (ts.foldl (fun acc t => acc ++ [(t.name, entryF t codes acc)]) acc).map (·.1) = acc.map (·.1) ++ ts.map (·.name) := by
    intro ts
    induction ts with
    | nil => intro acc; simp
    | cons t r ih => intro acc; rw [List.foldl_cons, ih]; simp
  exact (this ts []).trans (List.nil_append _)
theorem ents_len (codes : List (Str × Int)) (ts : List Tab) : (entsF codes ts).length = ts.length := by
  have := congrArg List.length (ents_keys codes ts)
  rw [List.length_map, List.length_map] at this
  exact this
theorem ents_snoc {codes : List (Str × Int)} {ts : List Tab} {i : Nat} {t : Tab} (h : ts[i]? = some t) : entsF codes (ts.take (i + 1)) = entsF codes (ts.take i) ++ [(t.name, entryF t codes (entsF codes (ts.take i)))] := by
  unfold entsF
  rw [take_snoc h, List.foldl_append]
  rfl
def tEnt : Ty (Str × Ver) := ⟨fun H v x => ∃ a v2 v3 v4, v = .ref a ∧ H a = some (.tup [.str x.1, v2, v3, v4]) ∧ tVer.rep H v4 x.2, fun s ⟨a, v2, v3, v4, e, h, r⟩ => ⟨a, v2, v3, v4, e, s _ _ h, tVer.mono s r⟩⟩
structure AskOk (b : Bk) (n : Str) (fs : List (Str × RVal)) : Prop where
  ok : BkOk b
  mem : n ∈ tabNames b
  facts : ∀ p ∈ b.facts, p.1 ∈ needsF b n → ∃ x, look fs p.1 = some x ∧ bearsF p.2 x = true
  nd : (orderF b n).Nodup
  cols : ∀ i m t, (orderF b n)[i]? = some m → findTab b m = some t → ∀ c ∈ t.names, c ∈ (orderF b n).take i ∨ ∃ x, look (codesF b n fs) c = some x
section
variable {P : Program} {w : World} {K : PySem.W.Frag} {mg : Str → Option Value} {base : Heap}
abbrev n_fact_codes : List Str := ["book", "name", "facts", "told", "needed", "fact", "domain"]
theorem sc_fact_codes : FnScope n_fact_codes ["book", "name", "facts"] (defScope s_fact_codes) := ⟨rfl, rfl, rfl, by decide +kernel, rfl, by decide +kernel, by decide +kernel⟩
theorem ok_fact_codes (T : Tx K mg) : Def P w K mg base "fact_codes" ["book", "name", "facts"] 9 (Sp3 (tBk K) tStr (tDic tVal) (tDic tInt) fun b n fs r => BkOk b ∧ n ∈ tabNames b ∧ (∀ p ∈ b.facts, p.1 ∈ needsF b n → ∃ x, look fs p.1 = some x ∧ bearsF p.2 x = true) ∧ r = codesF b n fs) := by
  refine ⟨?_, T.g_fact_codes, T.f_fact_codes.kp, T.f_fact_codes.bindsN fun _ _ _ _ _ _ us hl => match us, hl with | [_, _, _], _ => rfl⟩
  refine fn_body T.f_fact_codes sc_fact_codes (fun _ _ _ _ h => len3 h) fun cdv A outer s H vs Q E hr h => ?_
  obtain ⟨ls, vb, vn, vf, b, n, fs, r, rfl, L, rb, rfl, ⟨ad, wd, rfl, had, hps⟩, ⟨ok, hn, hfs, rfl⟩, k⟩ := h
  obtain ⟨ab, dx, v1, v2, rfl, hab, ⟨af, uf, rfl, haf, rf⟩, r2⟩ := id rb
  have hab := cut_at hab
  have haf := cut_at haf
  have had := cut_at had
  have e1 := rf.len
  have m1 := ok.most.1
  have nd : (b.facts.map (·.1)).Nodup := by
    have := ok.nd
    rw [names_keys] at this
    exact (List.nodup_append.mp this).1
  refine ⟨_, pss_cons (ps_set (i := 3) sc_fact_codes.nd rfl (.inl rfl) pe_dnewK)
  (pss_cons (ps_set (i := 4) sc_fact_codes.nd rfl (.inl rfl) (pe_cD (ok_needs T) hr (pa_cons (pv 0) (pa_cons (pv 1) pa_nil))))
  (pss_cons (ps_for PassesOwn.never rfl (pi_list (pe_fld (pv 0) rfl)) (pg_tup (by rfl) (pgs_cons (pg_name (i := 5) sc_fact_codes.nd rfl (.inl rfl)) (pgs_cons (pg_name (i := 6) sc_fact_codes.nd rfl (.inl rfl)) pgs_nil)))
  (pss_one (ps_if (pt_cmpR op_in_seq (pv 5) (pv 4) (by rfl)) (pss_cons (ps_if (pt_cmp (pc_dnotin (hu_of hr) (pv 5) (pv 2))) (pss_one ps_never) pss_nil)
  (pss_one (ps_dput (hu_of hr) (pv 3) (pv 5) (pe_disp (P := P) (w := w) (K := K) (mg := mg) (base := base) (pv 6) hr (pa_cons (pe_dget (hu_of hr) (pv 2) (pv 5) (fun _ _ => rfl)) pa_nil)) rfl))) pss_nil)))
  (pss_one (ps_ret (pv 3))))), ?_⟩
  intro l nl
  have s0 : Same H (upd H l (.dK [])) := Same.upd nl
  have L0 : Live (upd H l (.dK [])) (l :: ls) := Live.cons upd_same (L.to s0)
  refine ⟨_, rfl, _, rfl, l :: ls, _, _, b, n, _, rfl, L0, (tBk K).mono (s0.more1 nl) rb, rfl, ⟨ok, hn, rfl⟩, fun H1 w1 s1 r1 => ?_⟩
  obtain ⟨ao, uo, rfl, hao, ro⟩ := r1
  have nao : ao ≠ l := fun e => (cut_iff.mp hao).1 (by rw [e]; exact List.mem_cons_self)
  have hao := cut_at hao
  obtain rfl := rs_str ro
  have s01 := s0.trans s1
  refine ⟨_, rfl, ab, _, dx, _, .ref af, rfl, s01 _ _ hab, T.c_Book, T.a_Book_facts, fb_facts _ _, af, rfl, ⟨_, SqL.of (s01 _ _ haf)⟩, for_list (K := K) (a := af) (xs := uf) (fun i σ H' => (∃ c d, σ = [some (.ref ab), some (.str n), some (.ref ad), some (.ref l), some (.ref ao), c, d]) ∧ Same H H' ∧ H' ao = some (.lst ((needsF b n).map V.str)) ∧ ∃ ws, H' l = some (.dK ws) ∧ Ps tInt (cut H' (l :: ls)) ws (((b.facts.take i).filter fun p => decide (p.1 ∈ needsF b n)).map (codeF fs))) ⟨⟨_, _, rfl⟩, s01, hao, [], s1 _ _ upd_same, by rw [List.take_zero]; trivial⟩ (fun i σ H' _ p => SqL.of (p.2.1 _ _ haf)) ?_ ?_⟩
  · rintro i x σ H2 hx ⟨⟨c, d, rfl⟩, s2, hao2, ws, hl, hws⟩
    obtain ⟨p, hp, t, y1, y2, rfl, ht, rfl, rd⟩ := rf.get hx
    have ht := cut_at ht
    have hi := (List.getElem?_eq_some_iff.mp hx).1
    have hlen := hws.len
    have hlen2 : (((b.facts.take i).filter fun p => decide (p.1 ∈ needsF b n)).map (codeF fs)).length ≤ i := by
      rw [List.length_map]
      exact Nat.le_trans (List.length_filter_le _ _) (by rw [List.length_take]; exact Nat.min_le_left _ _)
    refine ⟨t, _, rfl, SqT.of (s2 _ _ ht), rfl, _, _, rfl, _, _, rfl, rfl, ?_⟩
    refine ⟨_, rfl, _, rfl, ao, _, rfl, .inl (SqL.of hao2), rfl, flat_strs _, _, rfl, ?_⟩
    show if (if false = true then _ else inV (.str p.1) ((needsF b n).map V.str)) = true then _ else _
    rw [if_neg Bool.false_ne_true, inV_str]
    refine ite2 (fun q => ?_) (fun q => ?_)
    · have qm := of_decide_eq_true q
      obtain ⟨x, hx, hb⟩ := hfs p (List.mem_of_getElem? hp) qm
      obtain ⟨v, hv, rv⟩ := (hps.mono cut_sub).find hx
      refine ⟨_, rfl, _, rfl, ad, _, rfl, DGet.k (k := Sum.inr p.1) (s2 _ _ had), _, rfl, ?_⟩
      rw [hv]
      refine iteF ?_
      obtain ⟨a, C, dx2, fs2, ev, ha, nm, M⟩ := dom_code (P := P) (w := w) (base := base) T ((tDom K).mono (cut_sub.trans s2) rd)
      refine ⟨_, rfl, a, C, dx2, fs2, _, ev, ha, nm, ⟨_, _, by decide, M⟩, _, rfl, _, rfl, ad, v, rfl, by rw [← hv]; exact DGet.k (k := Sum.inr p.1) (s2 _ _ had), ?_⟩
      refine ⟨l :: ls, _, _, p.2, x, _, rfl, Live.cons hl (L.to s2), (tDom K).mono (s2.more1 nl) rd, rv, ⟨rfl, hb, rfl⟩, fun H3 w3 s3 r3 => ?_⟩
      obtain rfl : w3 = .int (placeF p.2 x) := r3
      have hnew : p.1 ∉ (((b.facts.take i).filter fun p => decide (p.1 ∈ needsF b n)).map (codeF fs)).map (·.1) := by
        intro m
        rw [List.map_map] at m
        obtain ⟨q2, hq2, e⟩ := List.mem_map.mp m
        exact nd_take (·.1) nd hp (List.mem_map.mpr ⟨q2, (List.mem_filter.mp hq2).1, e⟩)
      refine ⟨_, rfl, _, rfl, l, _, rfl, DPut.k (k := Sum.inr p.1) (s3 _ _ hl) (small1000 (by omega)), ⟨_, _, rfl⟩, (s2.trans s3).mut nl, by rw [upd_ne nao]; exact s3 _ _ hao2, _, upd_same, ?_⟩
      rw [cut_upd List.mem_cons_self, take_snoc hp, List.filter_append, List.map_append]
      have e2 : ([p].filter fun p => decide (p.1 ∈ needsF b n)).map (codeF fs) = [(p.1, placeF p.2 x)] := by
        rw [List.filter_cons, if_pos q]
        show [codeF fs p] = _
        unfold codeF
        rw [hx]
        rfl
      rw [e2]
      have := Ps.put (t := tInt) (v := .int (placeF p.2 x)) (x := placeF p.2 x) p.1 rfl (hws.mono (Same.cut s3))
      rw [put_new hnew] at this
      exact this
    · refine ⟨⟨_, _, rfl⟩, s2, hao2, ws, hl, ?_⟩
      rw [take_snoc hp, List.filter_append, List.map_append]
      have e2 : ([p].filter fun p => decide (p.1 ∈ needsF b n)).map (codeF fs) = [] := by
        rw [List.filter_cons, if_neg q]
        rfl
      rw [e2, List.append_nil]
      exact hws
  · rintro σ H2 ⟨⟨c, d, rfl⟩, s2, hao2, ws, hl, hws⟩
    rw [e1, List.take_length] at hws
    exact ⟨_, rfl, k _ _ s2 ⟨l, ws, rfl, at_cut (L.no nl) hl, hws.mono Same.less1⟩⟩
abbrev n_entry : List Str := ["table", "codes", "verdicts", "own", "name", "told", "rows"]
theorem sc_entry : FnScope n_entry ["table", "codes", "verdicts"] (defScope s_entry) := ⟨rfl, rfl, rfl, by decide +kernel, rfl, by decide +kernel, by decide +kernel⟩
theorem ok_entry (T : Tx K mg) : Def P w K mg base "entry" ["table", "codes", "verdicts"] 6 (Sp3 (tTab K) (tDic tInt) (tDic tVer) tEnt fun t codes verds r => TabOk t ∧ (∀ c ∈ t.names, look verds c = none → ∃ x, look codes c = some x) ∧ r = (t.name, entryF t codes verds)) := by
  refine ⟨?_, T.g_entry, T.f_entry.kp, T.f_entry.bindsN fun _ _ _ _ _ _ us hl => match us, hl with | [_, _, _], _ => rfl⟩
  refine fn_body T.f_entry sc_entry (fun _ _ _ _ h => len3 h) fun cdv A outer s H vs Q E hr h => ?_
  obtain ⟨ls, vt, vc, vv, t, codes, verds, r, rfl, L, rt, ⟨ac, wc, rfl, hac, hpc⟩, ⟨av, wv, rfl, hav, hpv⟩, ⟨ok, hcod, rfl⟩, k⟩ := h
  obtain ⟨at_, dx, v1, v2, v3, v4, rfl, hat, ⟨an, un, rfl, han, rn⟩, r2, r3, r4⟩ := id rt
  have hat := cut_at hat
  have han := cut_at han
  have hac := cut_at hac
  have hav := cut_at hav
  obtain rfl := rs_str rn
  have hcols := ok.cols
  refine ⟨_, pss_cons (ps_set (i := 3) sc_entry.nd rfl (.inl rfl) (pe_lst pa_nil))
  (pss_cons (ps_for PassesOwn.never rfl (pi_list (pe_fld (pv 0) rfl)) (pg_name (i := 4) sc_entry.nd rfl (.inl rfl))
  (pss_one (ps_if (pt_cmp (pc_din (hu_of hr) (pv 4) (pv 2))) (pss_cons (ps_set (i := 5) sc_entry.nd rfl (.inl rfl) (pe_dget (hu_of hr) (pv 2) (pv 4) (fun _ _ => rfl)))
  (pss_cons (ps_if (pt_cmpR op_ne (pe_ix ix_tup (pv 5) pe_int (fun _ _ => rfl)) pe_str (nomark _)) (pss_one (ps_ret (pe_tup (pa_cons (pe_fld (pv 0) rfl) (pa_cons pe_non (pa_cons pe_int (pa_cons (pv 5) pa_nil))))))) pss_nil)
  (pss_one (ps_expr (pe_bm PySem.F.plainAttrs_list PySem.F.slot_list_append PySem.F.type_list_append mt_append (pv 3) (pa_cons (pe_ix ix_tup (pv 5) pe_int (fun _ _ => rfl)) pa_nil)))))) (pss_one (ps_expr (pe_bm PySem.F.plainAttrs_list PySem.F.slot_list_append PySem.F.type_list_append mt_append (pv 3) (pa_cons (pe_dget (hu_of hr) (pv 1) (pv 4) (fun _ _ => rfl)) pa_nil)))))))
  (pss_cons (ps_set (i := 6) sc_entry.nd rfl (.inl rfl) (pe_cD (ok_mask T) hr (pa_cons (pv 0) (pa_cons (pv 3) pa_nil))))
  (pss_one (ps_ret (pe_tup (pa_cons (pe_fld (pv 0) rfl) (pa_cons (pv 3) (pa_cons (pv 6) (pa_cons (pe_cD (ok_judged T) hr (pa_cons (pv 0) (pa_cons (pv 6) pa_nil))) pa_nil))))))))), ?_⟩
  refine ⟨Nat.zero_le _, fun l nl => ?_⟩
  have s0 : Same H (upd H l (.lst [])) := Same.upd nl
  refine ⟨_, rfl, at_, _, dx, _, .ref an, rfl, s0 _ _ hat, T.c_Table, T.a_Table_names, ft_names _ _ _ _ _ _, an, rfl, ⟨_, SqL.of (s0 _ _ han)⟩, for_list (K := K) (a := an) (xs := t.names.map V.str) (fun i σ H' => (∃ c d, σ = [some (.ref at_), some (.ref ac), some (.ref av), some (.ref l), c, d, none]) ∧ Same H H' ∧ H' l = some (.lst (((t.names.take i).map (ownC codes verds)).map V.int)) ∧ stopF verds (t.names.take i) = none) ⟨⟨_, _, rfl⟩, s0, upd_same, by rw [List.take_zero]; rfl⟩ (fun i σ H' _ p => SqL.of (p.2.1 _ _ han)) ?_ ?_⟩
  · rintro i x σ H1 hx ⟨⟨c, d, rfl⟩, s1, hl, hstop⟩
    rw [List.getElem?_map] at hx
    obtain ⟨z, hz, rfl⟩ := Option.map_eq_some_iff.mp hx
    have hi := (List.getElem?_eq_some_iff.mp hz).1
    have hzm := List.mem_of_getElem? hz
    have hlen : (((t.names.take i).map (ownC codes verds)).map V.int).length < 1000 := by
      rw [List.length_map, List.length_map, List.length_take]; omega
    have esn : ((t.names.take (i + 1)).map (ownC codes verds)).map V.int = ((t.names.take i).map (ownC codes verds)).map V.int ++ [.int (ownC codes verds z)] := by
      rw [take_snoc hz, List.map_append, List.map_append]; rfl
    have est : stopF verds (t.names.take (i + 1)) = match look verds z with
        | some v => if v.1 = "say" then none else some v
        | none => none := by
      unfold stopF at hstop ⊢
      rw [take_snoc hz, List.findSome?_append, hstop]
      rw [Option.none_or, List.findSome?_cons, List.findSome?_nil]
      split <;> rename_i hq <;> simp_all
    refine ⟨_, rfl, _, rfl, av, _, rfl, DGet.k (k := Sum.inr z) (s1 _ _ hav), _, rfl, ?_⟩
    cases e : look verds z with
    | some v =>
      obtain ⟨u, hu, ru⟩ := hpv.find e
      rw [hu]
      refine iteT ?_
      obtain ⟨tu, u1, u2, rfl, htu, e1, e2⟩ := id ru
      obtain rfl : u1 = .str v.1 := e1
      obtain rfl : u2 = .int v.2 := e2
      have htu := cut_at htu
      rw [e] at est
      refine ⟨_, rfl, _, rfl, av, _, rfl, by rw [← hu]; exact DGet.k (k := Sum.inr z) (s1 _ _ hav), ?_⟩
      refine ⟨_, rfl, tu, _, 0, _, rfl, rfl, SqT.of (s1 _ _ htu), at_of (j := 0) rfl rfl, rfl, _, rfl, ?_⟩
      by_cases q : v.1 = "say"
      · refine iteNS (by rw [q]) ?_
        refine ⟨_, rfl, .inl ⟨rfl, _, SqL.of hl⟩, _, rfl, tu, _, 1, _, rfl, rfl, SqT.of (s1 _ _ htu), at_of (j := 1) rfl rfl, l, _, _, rfl, rfl, hl, small1000 (Nat.le_of_lt hlen), ⟨_, _, rfl⟩, s1.mut nl, ?_, ?_⟩
        · rw [esn, show ownC codes verds z = v.2 by unfold ownC; rw [e]]
          exact upd_same
        · rw [est]; exact if_pos q
      · refine iteNT (fun z => q (V.str.inj z)) ?_
        refine ⟨_, rfl, at_, _, dx, _, _, rfl, s1 _ _ hat, T.c_Table, T.a_Table_name, ft_name _ _ _ _ _ _, _, rfl, szl 4, fun p np => ?_⟩
        refine k _ _ (s1.trans (Same.upd np)) ⟨p, _, _, _, rfl, at_cut (L.no (s1.free np)) upd_same, ?_⟩
        have ent : entryF t codes verds = v := by
          have : stopF verds t.names = some v := by
            have e4 : stopF verds (t.names.take (i + 1)) = some v := by rw [est]; exact if_neg q
            unfold stopF at e4 ⊢
            rw [← List.take_append_drop (i + 1) t.names, List.findSome?_append, e4]
            rfl
          unfold entryF
          rw [this]
        rw [ent]
        exact tVer.mono (s1.trans (Same.upd np)).cut ru
    | none =>
      rw [hpv.nofind e]
      obtain ⟨x, hx⟩ := hcod z hzm e
      obtain ⟨u, hu, ru⟩ := hpc.find hx
      obtain rfl : u = .int x := ru
      rw [e] at est
      refine iteF ⟨_, rfl, .inl ⟨rfl, _, SqL.of hl⟩, _, rfl, _, rfl, ac, _, rfl, by rw [← hu]; exact DGet.k (k := Sum.inr z) (s1 _ _ hac), l, _, _, rfl, rfl, hl, small1000 (Nat.le_of_lt hlen), ⟨_, _, rfl⟩, s1.mut nl, ?_, est⟩
      rw [esn, show ownC codes verds z = x by unfold ownC; rw [e, hx]; rfl]
      exact upd_same
  · rintro σ H1 ⟨⟨c, d, rfl⟩, s1, hl, hstop⟩
    rw [List.length_map, List.take_length] at hstop
    rw [List.length_map, List.take_length] at hl
    have ent : entryF t codes verds = verdictF t.way (picked t.rows (fsOf t (t.names.map (ownC codes verds)))) t.out.lo t.out.hi := by
      unfold entryF; rw [hstop]
    have rt1 := (tTab K).mono s1.cut rt
    refine ⟨_, rfl, _, rfl, ls, _, _, t, _, _, rfl, L.to s1, rt1, ⟨l, _, rfl, at_cut (L.no nl) hl, int_rs⟩, ⟨ok, by rw [List.length_map], rfl⟩, fun H2 w2 s2 r2 => ?_⟩
    obtain rfl : w2 = .int (maskL (fsOf t (t.names.map (ownC codes verds)))) := r2
    have s12 := s1.trans s2
    refine ⟨_, rfl, at_, _, dx, _, _, rfl, s12 _ _ hat, T.c_Table, T.a_Table_name, ft_name _ _ _ _ _ _, _, rfl, _, rfl, _, rfl, _, rfl, ?_⟩
    refine ⟨ls, _, _, t, _, _, rfl, L.to s12, (tTab K).mono s12.cut rt, rfl, ⟨ok, _, by unfold fsOf; rw [List.length_map], rfl, rfl⟩, fun H3 w3 s3 r3 => ?_⟩
    refine ⟨szl 4, fun p np => ?_⟩
    have s123 := s12.trans s3
    refine k _ _ (s123.trans (Same.upd np)) ⟨p, _, _, _, rfl, at_cut (L.no (s123.free np)) upd_same, ?_⟩
    rw [ent]
    exact tVer.mono (Same.upd np).cut r3
abbrev n_entries : List Str := ["tables", "codes", "verdicts", "told", "table", "found"]
theorem sc_entries : FnScope n_entries ["tables", "codes"] (defScope s_entries) := ⟨rfl, rfl, rfl, by decide +kernel, rfl, by decide +kernel, by decide +kernel⟩
theorem ok_entries (T : Tx K mg) : Def P w K mg base "entries" ["tables", "codes"] 7 (Sp2 (tLst (tTab K)) (tDic tInt) (tLst tEnt) fun ts codes r => (∀ t ∈ ts, TabOk t) ∧ ts.length ≤ 1000 ∧ (ts.map (·.name)).Nodup ∧ (∀ i t, ts[i]? = some t → ∀ c ∈ t.names, c ∈ (ts.take i).map (·.name) ∨ ∃ x, look codes c = some x) ∧ r = entsF codes ts) := by
  refine ⟨?_, T.g_entries, T.f_entries.kp, T.f_entries.bindsN fun _ _ _ _ _ _ us hl => match us, hl with | [_, _], _ => rfl⟩
  refine fn_body T.f_entries sc_entries (fun _ _ _ _ h => len2 h) fun cdv A outer s H vs Q E hr h => ?_
  obtain ⟨ls, vt, vc, ts, codes, r, rfl, L, ⟨at_, ut, rfl, hat, rt⟩, rc, ⟨hok, h1000, hnd, hcol, rfl⟩, k⟩ := h
  have hat := cut_at hat
  have e1 := rt.len
  refine ⟨_, pss_cons (ps_set (i := 2) sc_entries.nd rfl (.inl rfl) pe_dnewK)
  (pss_cons (ps_set (i := 3) sc_entries.nd rfl (.inl rfl) (pe_lst pa_nil))
  (pss_cons (ps_for PassesOwn.never rfl (pi_list (pv 0)) (pg_name (i := 4) sc_entries.nd rfl (.inl rfl))
  (pss_cons (ps_set (i := 5) sc_entries.nd rfl (.inl rfl) (pe_cD (ok_entry T) hr (pa_cons (pv 4) (pa_cons (pv 1) (pa_cons (pv 2) pa_nil)))))
  (pss_cons (ps_dput (hu_of hr) (pv 2) (pe_fld (pv 4) rfl) (pe_ix ix_tup (pv 5) pe_int (fun _ _ => rfl)) rfl)
  (pss_one (ps_expr (pe_bm PySem.F.plainAttrs_list PySem.F.slot_list_append PySem.F.type_list_append mt_append (pv 3) (pa_cons (pv 5) pa_nil)))))))
  (pss_one (ps_ret (pv 3))))), ?_⟩
  intro d nd
  have s0 : Same H (upd H d (.dK [])) := Same.upd nd
  refine ⟨Nat.zero_le _, fun l nl => ?_⟩
  have s1 := s0.trans (Same.upd (o := .lst []) nl)
  have nld : l ≠ d := fun e => by rw [e, upd_same] at nl; cases nl
  have nl0 : H l = none := s0.free nl
  refine ⟨_, rfl, at_, rfl, ⟨_, SqL.of (s1 _ _ hat)⟩, for_list (K := K) (a := at_) (xs := ut) (fun i σ H' => (∃ a b, σ = [some (.ref at_), some vc, some (.ref d), some (.ref l), a, b]) ∧ Same H H' ∧ (∃ ws, H' d = some (.dK ws) ∧ Ps tVer (cut H' (l :: d :: ls)) ws (entsF codes (ts.take i))) ∧ ∃ us, H' l = some (.lst us) ∧ Rs tEnt (cut H' (l :: d :: ls)) us (entsF codes (ts.take i))) ⟨⟨_, _, rfl⟩, s1, ⟨[], by rw [upd_ne (Ne.symm nld)]; exact upd_same, by rw [List.take_zero]; trivial⟩, [], upd_same, by rw [List.take_zero]; trivial⟩ (fun i σ H' _ p => SqL.of (p.2.1 _ _ hat)) ?_ ?_⟩
  · rintro i x σ H1 hx ⟨⟨a, b, rfl⟩, s2, ⟨ws, hd, hps⟩, us, hl, hrs⟩
    obtain ⟨t, ht, rx⟩ := rt.get hx
    have hi := (List.getElem?_eq_some_iff.mp hx).1
    have LL : Live H1 (l :: d :: ls) := Live.cons hl (Live.cons hd (L.to s2))
    have sc : Same (cut H ls) (cut H1 (l :: d :: ls)) := s2.more2 nl0 nd
    have hlk : (entsF codes (ts.take i)).length ≤ i := by rw [ents_len, List.length_take]; exact Nat.min_le_left _ _
    have hcut : (tDic tVer).rep (cut H1 (l :: ls)) (.ref d) (entsF codes (ts.take i)) := by
      refine ⟨d, ws, rfl, at_cut (fun m => ?_) hd, hps.mono (Same.less fun z m => ?_)⟩
      · rcases List.mem_cons.mp m with e | m
        · exact nld e.symm
        · exact L d m nd
      · rcases List.mem_cons.mp m with e | m
        · rw [e]; exact List.mem_cons_self
        · exact List.mem_cons_of_mem _ (List.mem_cons_of_mem _ m)
    refine ⟨_, rfl, _, rfl, _, rfl, l :: ls, _, _, _, t, codes, entsF codes (ts.take i), _, rfl, Live.cons hl (L.to s2), (tTab K).mono (s2.more1 nl0) rx, (tDic tInt).mono (s2.more1 nl0) rc, hcut, ⟨hok t (List.mem_of_getElem? ht), fun c hc hn => ?_, rfl⟩, fun H2 w2 s3 r2 => ?_⟩
    · rcases hcol i t ht c hc with m | q
      · rw [look_none, ents_keys] at hn
        exact absurd m hn
      · exact q
    obtain ⟨p, v2, v3, v4, rfl, hp, rv⟩ := r2
    have hd3 := s3 _ _ hd
    have hl3 := s3 _ _ hl
    have hpm := in_more hp hd3
    have hp := cut_at hp
    have rvm : tVer.rep (cut H2 (l :: d :: ls)) v4 (entryF t codes (entsF codes (ts.take i))) := by
      obtain ⟨u, u1, u2, e, hu, f1, f2⟩ := rv
      exact ⟨u, u1, u2, e, in_more hu hd3, f1, f2⟩
    have s23 := s2.trans s3
    obtain ⟨ax, dx, y1, y2, y3, y4, rfl, hax, _⟩ := rx
    have hax := s23 _ _ (cut_at hax)
    have elen := hps.len
    have hnew : t.name ∉ (entsF codes (ts.take i)).map (·.1) := by
      rw [ents_keys]
      exact nd_take (·.name) hnd ht
    have elen2 := hrs.len
    have c2 : cut (upd (upd H2 d (.dK (putK ws (Sum.inr t.name) v4))) l (.lst (us ++ [.ref p]))) (l :: d :: ls) = cut H2 (l :: d :: ls) := by
      rw [cut_upd List.mem_cons_self, cut_upd (List.mem_cons_of_mem _ List.mem_cons_self)]
    refine ⟨_, rfl, p, _, 3, _, rfl, rfl, SqT.of hp, at_of (j := 3) rfl rfl, _, rfl, _, rfl, ax, _, dx, _, _, rfl, hax, T.c_Table, T.a_Table_name, ft_name _ _ _ _ _ _, d, _, rfl, DPut.k (k := Sum.inr t.name) hd3 (small1000 (by omega)), ?_⟩
    refine ⟨_, rfl, .inl ⟨rfl, _, SqL.of (by rw [upd_ne nld]; exact hl3)⟩, _, rfl, l, _, _, rfl, rfl, by rw [upd_ne nld]; exact hl3, small1000 (by omega), ⟨_, _, rfl⟩, (s23.mut nd).mut nl0, ⟨_, by rw [upd_ne (Ne.symm nld)]; exact upd_same, ?_⟩, _, upd_same, ?_⟩
    · rw [c2, ents_snoc ht]
      have := Ps.put t.name rvm (hps.mono (Same.cut s3))
      rw [put_new hnew] at this
      exact this
    · rw [c2, ents_snoc ht]
      exact (hrs.mono (Same.cut s3)).snoc ⟨p, v2, v3, v4, rfl, hpm, rvm⟩
  · rintro σ H1 ⟨⟨a, b, rfl⟩, s2, ⟨ws, hd, hps⟩, us, hl, hrs⟩
    rw [e1, List.take_length] at hrs
    exact ⟨_, rfl, k _ _ s2 ⟨l, us, rfl, at_cut (L.no nl0) hl, hrs.mono (Same.less fun z m => List.mem_cons_of_mem _ (List.mem_cons_of_mem _ m))⟩⟩
abbrev n_tables_for : List Str := ["book", "name", "asked"]
theorem sc_tables_for : FnScope n_tables_for ["book", "name"] (defScope s_tables_for) := ⟨rfl, rfl, rfl, by decide +kernel, rfl, by decide +kernel, by decide +kernel⟩
theorem ok_tables_for (T : Tx K mg) : Def P w K mg base "tables_for" ["book", "name"] 8 (Sp2 (tBk K) tStr (tLst (tTab K)) fun b n r => BkOk b ∧ n ∈ tabNames b ∧ (orderF b n).map (findTab b) = r.map some) := by
  refine ⟨?_, T.g_tables_for, T.f_tables_for.kp, T.f_tables_for.bindsN fun _ _ _ _ _ _ us hl => match us, hl with | [_, _], _ => rfl⟩
  refine fn_body T.f_tables_for sc_tables_for (fun _ _ _ _ h => len2 h) fun cdv A outer s H vs Q E hr h => ?_
  obtain ⟨ls, vb, vn, b, n, r, rfl, L, rb, rfl, ⟨ok, hn, er⟩, k⟩ := h
  have e1 : (orderF b n).length = r.length := by
    have := congrArg List.length er
    rw [List.length_map, List.length_map] at this
    exact this
  have hlo : (orderF b n).length ≤ 125 := by
    have := gath_len (fun t ht => ok.tabs t ht) 3 n []
    exact Nat.le_trans this (by decide)
  refine ⟨_, pss_one (ps_ret (pe_lc (own := [("asked", 2)]) (g := gName 2) rfl sc_tables_for.nd (pi_list (pe_cD (ok_order_of T) hr (pa_cons (pv 0) (pa_cons (pv 1) pa_nil)))) (blkOk_by (own := [("asked", 2)]) (N := n_tables_for) (sc := defScope s_tables_for) (by decide +kernel)) (fun _ _ _ _ _ => (pg_name (i := 2) sc_tables_for.nd rfl (.inl rfl))) (fun _ _ _ _ _ => pts_nil) (fun _ _ _ _ _ => (pe_cD (ok_table_of T) hr (pa_cons (pv 0) (pa_cons (pv 2) pa_nil)))))), ?_⟩
  refine ⟨_, rfl, _, rfl, ls, _, _, b, n, _, rfl, L, rb, rfl, ⟨ok, hn, rfl⟩, fun H1 w1 s1 r1 => ?_⟩
  obtain ⟨ao, uo, rfl, hao, ro⟩ := r1
  have hao := cut_at hao
  obtain rfl := rs_str ro
  refine ⟨ao, rfl, ⟨_, SqL.of hao⟩, fun D nD => ?_⟩
  refine lc_map (walk_list (K := K) (a := ao) (xs := (orderF b n).map V.str)) (u := tTab K) (ls := ls) r nD (L.to s1) (by rw [List.length_map]; omega) (by rw [List.length_map]; exact e1.symm) (fun H' s' => SqL.of (s' _ _ hao)) ?_ ?_
  · rintro i x y H2 H3 R hy s2 sc L2 ⟨rfl, hx⟩ hR
    rw [List.getElem?_map] at hx
    obtain ⟨z, hz, rfl⟩ := Option.map_eq_some_iff.mp hx
    have hf : findTab b z = some y := by
      have := congrArg (fun l => l[i]?) er
      simp only [List.getElem?_map] at this
      rw [hz, hy] at this
      exact Option.some.inj this
    exact ⟨rfl, _, rfl, _, rfl, _, _, _, b, z, y, rfl, L2, (tBk K).mono (s1.cut.trans sc) rb, rfl, hf, fun H4 w4 s4 r4 => hR _ _ s4 r4⟩
  · intro H2 s2 rD
    exact k _ _ (s1.trans s2) rD
abbrev n_trail : List Str := ["book", "name", "facts"]
theorem sc_trail : FnScope n_trail ["book", "name", "facts"] (defScope s_trail) := ⟨rfl, rfl, rfl, by decide +kernel, rfl, by decide +kernel, by decide +kernel⟩
theorem ok_trail (T : Tx K mg) : Def P w K mg base "trail" ["book", "name", "facts"] 10 (Sp3 (tBk K) tStr (tDic tVal) (tLst tEnt) fun b n fs r => AskOk b n fs ∧ ∃ ts, (orderF b n).map (findTab b) = ts.map some ∧ r = entsF (codesF b n fs) ts) := by
  refine ⟨?_, T.g_trail, T.f_trail.kp, T.f_trail.bindsN fun _ _ _ _ _ _ us hl => match us, hl with | [_, _, _], _ => rfl⟩
  refine fn_body T.f_trail sc_trail (fun _ _ _ _ h => len3 h) fun cdv A outer s H vs Q E hr h => ?_
  obtain ⟨ls, vb, vn, vf, b, n, fs, r, rfl, L, rb, rfl, rf, ⟨ok, ts, er, rfl⟩, k⟩ := h
  have hmem : ∀ {i : Nat} {t : Tab}, ts[i]? = some t → ∃ m, (orderF b n)[i]? = some m ∧ findTab b m = some t := by
    intro i t ht
    have := congrArg (fun l => l[i]?) er
    simp only [List.getElem?_map] at this
    rw [ht] at this
    obtain ⟨m, hm, e⟩ := Option.map_eq_some_iff.mp this
    exact ⟨m, hm, e⟩
  have enm : ts.map (·.name) = orderF b n := by
    apply List.ext_getElem?
    intro i
    rw [List.getElem?_map]
    cases e : ts[i]? with
    | some t =>
      obtain ⟨m, hm, ef⟩ := hmem e
      rw [hm, ← (findTab_some ef).2]; rfl
    | none =>
      have := congrArg (fun l => l[i]?) er
      simp only [List.getElem?_map] at this
      rw [e] at this
      cases e2 : (orderF b n)[i]? with
      | none => rfl
      | some m => rw [e2] at this; cases this
  have hlo : (orderF b n).length ≤ 125 := by
    have := gath_len (fun t ht => ok.ok.tabs t ht) 3 n []
    exact Nat.le_trans this (by decide)
  refine ⟨_, pss_one (ps_ret (pe_cD (ok_entries T) hr (pa_cons (pe_cD (ok_tables_for T) hr (pa_cons (pv 0) (pa_cons (pv 1) pa_nil))) (pa_cons (pe_cD (ok_fact_codes T) hr (pa_cons (pv 0) (pa_cons (pv 1) (pa_cons (pv 2) pa_nil)))) pa_nil)))), ?_⟩
  refine ⟨_, rfl, _, rfl, ls, _, _, b, n, ts, rfl, L, rb, rfl, ⟨ok.ok, ok.mem, er⟩, fun H1 w1 s1 r1 => ?_⟩
  refine ⟨_, rfl, _, rfl, _, rfl, ls, _, _, _, b, n, fs, _, rfl, L.to s1, (tBk K).mono s1.cut rb, rfl, (tDic tVal).mono s1.cut rf, ⟨ok.ok, ok.mem, ok.facts, rfl⟩, fun H2 w2 s2 r2 => ?_⟩
  refine ⟨ls, _, _, ts, _, _, rfl, L.to (s1.trans s2), (tLst (tTab K)).mono s2.cut r1, r2, ⟨fun t ht => ?_, ?_, ?_, fun i t ht c hc => ?_, rfl⟩, fun H3 w3 s3 r3 => k _ _ ((s1.trans s2).trans s3) r3⟩
  · obtain ⟨i, hi⟩ := List.mem_iff_getElem?.mp ht
    obtain ⟨m, hm, ef⟩ := hmem hi
    exact ok.ok.tabs t (findTab_some ef).1
  · have := congrArg List.length enm
    rw [List.length_map] at this
    omega
  · rw [enm]; exact ok.nd
  · obtain ⟨m, hm, ef⟩ := hmem ht
    rw [List.map_take, enm]
    exact ok.cols i m t hm ef c hc
abbrev n_ask : List Str := ["book", "name", "facts"]
theorem sc_ask : FnScope n_ask ["book", "name", "facts"] (defScope s_ask) := ⟨rfl, rfl, rfl, by decide +kernel, rfl, by decide +kernel, by decide +kernel⟩
theorem ok_ask (T : Tx K mg) : Def P w K mg base "ask" ["book", "name", "facts"] 11 (Sp3 (tBk K) tStr (tDic tVal) tVer fun b n fs r => AskOk b n fs ∧ ∃ ts e, (orderF b n).map (findTab b) = ts.map some ∧ (entsF (codesF b n fs) ts).getLast? = some e ∧ r = e.2) := by
  refine ⟨?_, T.g_ask, T.f_ask.kp, T.f_ask.bindsN fun _ _ _ _ _ _ us hl => match us, hl with | [_, _, _], _ => rfl⟩
  refine fn_body T.f_ask sc_ask (fun _ _ _ _ h => len3 h) fun cdv A outer s H vs Q E hr h => ?_
  obtain ⟨ls, vb, vn, vf, b, n, fs, r, rfl, L, rb, rfl, rf, ⟨ok, ts, e, er, el, rfl⟩, k⟩ := h
  obtain ⟨pre, epre⟩ := List.getLast?_eq_some_iff.mp el
  refine ⟨_, pss_one (ps_ret (pe_ix ix_tup (pe_ix ix_list (pe_cD (ok_trail T) hr (pa_cons (pv 0) (pa_cons (pv 1) (pa_cons (pv 2) pa_nil)))) (pe_un un_neg pe_int) (fun _ _ => rfl)) pe_int (fun _ _ => rfl))), ?_⟩
  refine ⟨_, rfl, _, rfl, _, rfl, ls, _, _, _, b, n, fs, _, rfl, L, rb, rfl, rf, ⟨ok, ts, er, rfl⟩, fun H1 w1 s1 r1 => ?_⟩
  rw [epre] at r1
  obtain ⟨a, us, rfl, ha, rs⟩ := r1
  obtain ⟨ws, v, rfl, _, ⟨p, v2, v3, v4, rfl, hp, rv⟩⟩ := rs.snoc_inv
  have ha := cut_at ha
  have hp := cut_at hp
  exact ⟨1, rfl, a, _, _, _, rfl, rfl, SqL.of ha, at_last _ _, p, _, 3, _, rfl, rfl, SqT.of hp, at_of (j := 3) rfl rfl, k _ _ s1 rv⟩
end
end Rk
set_option Elab.async false
set_option linter.all false
set_option maxRecDepth 100000
set_option maxHeartbeats 1000000
namespace Rk
open PySem PySem.Spec PyProof.Rows L2
open TL
theorem mt_rpartition {X : Cx} : MtR X "str.rpartition" (fun x xs H Q => ∃ a b, x = .str a ∧ xs = [.str b] ∧ (b.length == 0) = false ∧ a.length ≤ sizeLine ∧
    ∀ p, H p = none → Q (.ref p) (upd H p (.tup [.str (Txt.rpartition a b).1, .str (Txt.rpartition a b).2.1, .str (Txt.rpartition a b).2.2]))) := by
  intro pins s σ H x xs v us Q I rx rs h
  obtain ⟨a, b, rfl, rfl, hb, hz, h⟩ := h
  obtain ⟨t, rfl⟩ := rx
  cases rs with
  | cons r1 rs =>
    cases rs
    obtain ⟨u, rfl⟩ := r1
    refine call_meets F.slot_str_rpartition (typeIs_str _ _ _) F.entry_str_rpartition (F.args_str_rpartition_2 _ _) (meets_str_rpartition a b t u hb hz) ?_
    unfold Txt.rpartition at h
    revert h
    cases Builtin.Str.lastOccurrence a b 0 a.length with
    | none => intro h; exact laid_parts I h
    | some i => intro h; exact laid_parts I h
theorem pe_rpartition {X : Cx} {o e : Expr} {to te : TE} {apos pos : Pos} (ho : PE X o to) (he : PE X e te) (hs : starEach [e] X.env = [(false, eval e X.env)] := by rfl) (hbase : attributeBase o "rpartition" X.env (eval o X.env) = eval o X.env := by rfl) (hline : (apos.endLine == pos.line) = true := by rfl) :
    PE X (.Call (.Attribute o "rpartition" apos) [e] [] pos) (tM1 (fun x xs H Q => ∃ a b, x = .str a ∧ xs = [.str b] ∧ (b.length == 0) = false ∧ a.length ≤ sizeLine ∧
      ∀ p, H p = none → Q (.ref p) (upd H p (.tup [.str (Txt.rpartition a b).1, .str (Txt.rpartition a b).2.1, .str (Txt.rpartition a b).2.2]))) to te) :=
  pe_m1 F.slot_str_rpartition F.type_str_rpartition mt_rpartition ho he hs hbase hline
theorem pe_startswith {X : Cx} {o e : Expr} {to te : TE} {apos pos : Pos} (ho : PE X o to) (he : PE X e te) (hs : starEach [e] X.env = [(false, eval e X.env)] := by rfl) (hbase : attributeBase o "startswith" X.env (eval o X.env) = eval o X.env := by rfl) (hline : (apos.endLine == pos.line) = true := by rfl) :
    PE X (.Call (.Attribute o "startswith" apos) [e] [] pos) (tM1 (fun x xs H Q => ∃ a b, x = .str a ∧ xs = [.str b] ∧ Q (.bl (Txt.startswith a b)) H) to te) :=
  pe_m1 F.slot_str_startswith F.type_str_startswith mt_startswith ho he hs hbase hline
/-! ### laws of texts -/
theorem starts_pre (x y : Str) (hy : tl y ≠ []) : Txt.startswith x y = pre (tl y) (tl x) := by
  rw [Bool.eq_iff_iff]
  have e := at_iff (x := x) hy 0
  rw [List.drop_zero] at e
  rw [← e]
  unfold Txt.startswith
  rw [Bool.and_eq_true, decide_eq_true_eq]
  exact Iff.rfl
theorem starts_app (y b : Str) (hy : tl y ≠ []) : Txt.startswith (y ++ b) y = true := by
  rw [starts_pre _ _ hy, tl_append, pre_self]
theorem starts_no {x y : Str} {s c : Nat} {S r : List Nat} (ey : tl y = s :: S) (ex : tl x = c :: r) (h : c ≠ s) : Txt.startswith x y = false := by
  rw [starts_pre _ _ (by rw [ey]; simp), ey, ex, pre_of_head _ _ h]
theorem cut_app (y b : Str) {k : Nat} (h : (tl y).length = k) : cutS (y ++ b) (some (k : Int)) none = b := by
  refine ext_tl ?_
  rw [tl_cut_from, tl_append, ← h, List.drop_left]
/-- a mark within the separator that the part does not have -/
theorem pre_mark {S p rest : List Nat} {k c : Nat} (hk : S[k]? = some c) (hf : ∀ j, j < k → S[j]? ≠ some c) (hp : c ∉ p) : ∀ i, i < p.length → pre S ((p ++ (S ++ rest)).drop i) = false := by
  intro i hi
  cases h : pre S ((p ++ (S ++ rest)).drop i) with
  | false => rfl
  | true =>
    have e : ((p ++ (S ++ rest)).drop i).take S.length = S := eq_of_beq h
    have hkl := (List.getElem?_eq_some_iff.mp hk).1
    have e2 := congrArg (fun l => l[k]?) e
    simp only [List.getElem?_take, if_pos hkl, List.getElem?_drop, hk] at e2
    by_cases q : i + k < p.length
    · rw [List.getElem?_append_left q] at e2
      exact absurd (List.mem_of_getElem? e2) hp
    · rw [List.getElem?_append_right (by omega), List.getElem?_append_left (by omega)] at e2
      exact absurd e2 (hf _ (by omega))
theorem pre_mark_end {S p : List Nat} {k c : Nat} (hk : S[k]? = some c) (hp : c ∉ p) : ∀ i, i < p.length → pre S (p.drop i) = false := by
  intro i hi
  cases h : pre S (p.drop i) with
  | false => rfl
  | true =>
    have e : (p.drop i).take S.length = S := eq_of_beq h
    have hkl := (List.getElem?_eq_some_iff.mp hk).1
    have e2 := congrArg (fun l => l[k]?) e
    simp only [List.getElem?_take, if_pos hkl, List.getElem?_drop, hk] at e2
    exact absurd (List.mem_of_getElem? e2) hp
theorem partition_mark {y : Str} {k c : Nat} (hk : (tl y)[k]? = some c) (hf : ∀ j, j < k → (tl y)[j]? ≠ some c) {a b : Str} (h : c ∉ tl a) : Txt.partition (a ++ y ++ b) y = (a, y, b) := by
  have hy : tl y ≠ [] := fun e => by rw [e] at hk; cases hk
  rw [partition_par _ y hy, tl_append, tl_append, List.append_assoc, par_part hy (pre_mark hk hf h)]
  show ((⟨([] ++ tl a).toArray⟩ : Str), y, (⟨(tl b).toArray⟩ : Str)) = _
  rw [List.nil_append, mk_tl, mk_tl]
theorem spl_join_mark {S : List Nat} {k c : Nat} (hk : S[k]? = some c) (hf : ∀ j, j < k → S[j]? ≠ some c) : ∀ {parts : List (List Nat)}, parts ≠ [] → (∀ p ∈ parts, c ∉ p) → spl S 0 [] (joinL S parts) = parts
  | [], h, _ => absurd rfl h
  | [p], _, hp => by
    show spl S 0 [] p = [p]
    rw [spl_last (pre_mark_end hk (hp p (List.mem_singleton.mpr rfl))), List.nil_append]
  | p :: q :: r, _, hp => by
    have hS : S ≠ [] := fun e => by rw [e] at hk; cases hk
    show spl S 0 [] (p ++ (S ++ joinL S (q :: r))) = p :: q :: r
    rw [spl_part hS (pre_mark hk hf (hp p (List.mem_cons_self ..))), List.nil_append, spl_join_mark hk hf (by simp) fun z hz => hp z (List.mem_cons_of_mem _ hz)]
theorem split_join_mark {y : Str} {k c : Nat} (hk : (tl y)[k]? = some c) (hf : ∀ j, j < k → (tl y)[j]? ≠ some c) (hb : y.cps.all (· < 256) = true) {parts : List Str} (hne : parts ≠ []) (hp : ∀ p ∈ parts, c ∉ tl p) :
    Txt.split (Txt.join y parts) y = parts := by
  have hy : tl y ≠ [] := fun e => by rw [e] at hk; cases hk
  refine map_tl_inj ?_
  rw [split_spl _ y hy (kind_ok hb), join_eq, tl_join]
  refine spl_join_mark hk hf (fun e => hne (List.map_eq_nil_iff.mp e)) fun p h => ?_
  obtain ⟨z, hz, rfl⟩ := List.mem_map.mp h
  exact hp z hz
theorem tl_by : tl (" by " : Str) = [32, 98, 121, 32] := by decide +kernel
theorem rpart_by {a b : Str} (hb : 32 ∉ tl b) : Txt.rpartition (a ++ " by " ++ b) " by " = (a, (" by " : Str), b) := by
  have hy : tl (" by " : Str) ≠ [] := by rw [tl_by]; simp
  have hx : tl (a ++ " by " ++ b) = tl a ++ ([32, 98, 121, 32] ++ tl b) := by rw [tl_append, tl_append, tl_by, List.append_assoc]
  have hat : StrLaws.At (a ++ " by " ++ b) " by " (a ++ " by " ++ b).length (tl a).length := by
    rw [at_iff hy, hx, List.drop_left, tl_by, pre_self]
  have hno : ∀ k, (tl a).length < k → ¬ StrLaws.At (a ++ " by " ++ b) " by " (a ++ " by " ++ b).length k := by
    intro k hk h
    rw [at_iff hy, hx, tl_by] at h
    have e : ((tl a ++ ([32, 98, 121, 32] ++ tl b)).drop k).take 4 = [32, 98, 121, 32] := eq_of_beq h
    rw [List.drop_append, List.drop_of_length_le (Nat.le_of_lt hk), List.nil_append] at e
    obtain ⟨j, hj⟩ : ∃ j, k - (tl a).length = j + 1 := ⟨k - (tl a).length - 1, by omega⟩
    rw [hj] at e
    have e0 := congrArg (fun l => l[0]?) e
    have e3 := congrArg (fun l => l[3]?) e
    simp only [List.getElem?_take, List.getElem?_drop] at e0 e3
    match j, e0, e3 with
    | 0, e0, _ => simp at e0
    | 1, e0, _ => simp at e0
    | 2, _, e3 =>
      simp at e3
      rw [← Array.getElem?_toList] at e3
      exact hb (List.mem_of_getElem? e3)
    | j + 3, e0, _ =>
      rw [if_pos (by decide), show j + 3 + 1 + 0 = [32, 98, 121, 32].length + j by simp; omega, List.getElem?_append_right (by omega), Nat.add_sub_cancel_left] at e0
      exact hb (List.mem_of_getElem? e0)
  unfold Txt.rpartition
  rcases StrLaws.last_spec (a ++ " by " ++ b) " by " with ⟨_, hn⟩ | ⟨i, h0, hi, hn⟩
  · exact absurd hat (hn _)
  · have ei : i = (tl a).length := by
      rcases Nat.lt_trichotomy i (tl a).length with q | q | q
      · exact absurd hat (hn _ q)
      · exact q
      · exact absurd hi (hno _ q)
    rw [h0]
    show (Builtin.Str.strSub _ 0 i, _, Builtin.Str.strSub _ (i + _) _) = _
    rw [ei]
    have e4 : (" by " : Str).length = 4 := by decide +kernel
    congr 1
    · refine ext_tl ?_
      rw [tl_strSub, List.drop_zero, Nat.sub_zero, hx, List.take_left]
    · congr 1
      refine ext_tl ?_
      rw [tl_strSub_end, hx, e4, ← List.drop_drop, List.drop_left]
      rfl
/-! ### the lines of a book -/
def lnS : Prt → Str
  | .fact n d => "fact " ++ (n ++ " " ++ d)
  | .table n cs d w => "table " ++ (n ++ ": " ++ (Txt.join ", " cs ++ " -> " ++ (d ++ " by " ++ w)))
  | .when fs v => "when " ++ (Txt.join " | " fs ++ " -> " ++ v)
/-- lines that read back -/
def LnOk : Prt → Prop
  | .fact n d => isWord n = true ∧ d.length ≤ 600
  | .table n cs d w => isWord n = true ∧ cs ≠ [] ∧ cs.length ≤ 4 ∧ (∀ c ∈ cs, isWord c = true) ∧ d.length ≤ 600 ∧ 32 ∉ tl w ∧ w.length ≤ 10
  | .when fs v => fs ≠ [] ∧ fs.length ≤ 4 ∧ (∀ f ∈ fs, 124 ∉ tl f ∧ 62 ∉ tl f ∧ f.length ≤ 12600) ∧ v.length ≤ 100
theorem tl_fact : tl ("fact " : Str) = [102, 97, 99, 116, 32] := by decide +kernel
theorem tl_table : tl ("table " : Str) = [116, 97, 98, 108, 101, 32] := by decide +kernel
theorem tl_when : tl ("when " : Str) = [119, 104, 101, 110, 32] := by decide +kernel
theorem tl_colon : tl (": " : Str) = [58, 32] := by decide +kernel
theorem tl_arrow : tl (" -> " : Str) = [32, 45, 62, 32] := by decide +kernel
theorem tl_bar : tl (" | " : Str) = [32, 124, 32] := by decide +kernel
theorem tl_sp : tl (" " : Str) = [32] := by decide +kernel
theorem starts_fact (p : Prt) : Txt.startswith (lnS p) "fact " = match p with | .fact _ _ => true | _ => false := by
  cases p with
  | fact n d => exact starts_app _ _ (by rw [tl_fact]; simp)
  | table n cs d w => exact starts_no tl_fact (by show tl ("table " ++ _) = _; rw [tl_append, tl_table]; rfl) (by decide)
  | when fs v => exact starts_no tl_fact (by show tl ("when " ++ _) = _; rw [tl_append, tl_when]; rfl) (by decide)
theorem starts_table (p : Prt) : Txt.startswith (lnS p) "table " = match p with | .table _ _ _ _ => true | _ => false := by
  cases p with
  | fact n d => exact starts_no tl_table (by show tl ("fact " ++ _) = _; rw [tl_append, tl_fact]; rfl) (by decide)
  | table n cs d w => exact starts_app _ _ (by rw [tl_table]; simp)
  | when fs v => exact starts_no tl_table (by show tl ("when " ++ _) = _; rw [tl_append, tl_when]; rfl) (by decide)
theorem starts_when (p : Prt) : Txt.startswith (lnS p) "when " = match p with | .when _ _ => true | _ => false := by
  cases p with
  | fact n d => exact starts_no tl_when (by show tl ("fact " ++ _) = _; rw [tl_append, tl_fact]; rfl) (by decide)
  | table n cs d w => exact starts_no tl_when (by show tl ("table " ++ _) = _; rw [tl_append, tl_table]; rfl) (by decide)
  | when fs v => exact starts_app _ _ (by rw [tl_when]; simp)
theorem join_most (y : Str) {ps : List Str} {k : Nat} (h : ∀ p ∈ ps, p.length ≤ k) : (Txt.join y ps).length ≤ ps.length * (k + y.length) := Nat.le_trans (join_len y ps) (join_le y h)
theorem ln_len {p : Prt} (h : LnOk p) : (lnS p).length ≤ 60000 := by
  cases p with
  | fact n d =>
    have h1 := isWord_len h.1
    have h2 := h.2
    show ("fact " ++ (n ++ " " ++ d)).length ≤ _
    have : ("fact " : Str).length = 5 := by decide +kernel
    have : (" " : Str).length = 1 := by decide +kernel
    rw [app_len, app_len, app_len]
    omega
  | table n cs d w =>
    obtain ⟨h1, _, h3, h4, h5, _, h7⟩ := h
    have h1 := isWord_len h1
    show ("table " ++ (n ++ ": " ++ (Txt.join ", " cs ++ " -> " ++ (d ++ " by " ++ w)))).length ≤ _
    have : ("table " : Str).length = 6 := by decide +kernel
    have : (": " : Str).length = 2 := by decide +kernel
    have : (" -> " : Str).length = 4 := by decide +kernel
    have : (" by " : Str).length = 4 := by decide +kernel
    have hj := join_most ", " (ps := cs) (k := 12) fun c hc => (isWord_len (h4 c hc)).2
    have : cs.length * (12 + (", " : Str).length) ≤ 4 * 14 := Nat.mul_le_mul h3 (by decide +kernel)
    simp only [app_len]
    omega
  | when fs v =>
    obtain ⟨_, h2, h3, h4⟩ := h
    show ("when " ++ (Txt.join " | " fs ++ " -> " ++ v)).length ≤ _
    have : ("when " : Str).length = 5 := by decide +kernel
    have : (" -> " : Str).length = 4 := by decide +kernel
    have hj := join_most " | " (ps := fs) (k := 12600) fun c hc => (h3 c hc).2.2
    have : fs.length * (12600 + (" | " : Str).length) ≤ 4 * 12603 := Nat.mul_le_mul h2 (by decide +kernel)
    simp only [app_len]
    omega
theorem cut_fact (n d : Str) : cutS (lnS (.fact n d)) (some 5) none = n ++ " " ++ d := cut_app "fact " _ (by rw [tl_fact]; rfl)
theorem cut_table (n : Str) (cs : List Str) (d w : Str) : cutS (lnS (.table n cs d w)) (some 6) none = n ++ ": " ++ (Txt.join ", " cs ++ " -> " ++ (d ++ " by " ++ w)) := cut_app "table " _ (by rw [tl_table]; rfl)
theorem cut_when (fs : List Str) (v : Str) : cutS (lnS (.when fs v)) (some 5) none = Txt.join " | " fs ++ " -> " ++ v := cut_app "when " _ (by rw [tl_when]; rfl)
theorem part_fact {n d : Str} (h : isWord n = true) : Txt.partition (n ++ " " ++ d) " " = (n, (" " : Str), d) := partition_app tl_sp (isWord_free h (by decide))
theorem part_head {n x : Str} (h : isWord n = true) : Txt.partition (n ++ ": " ++ x) ": " = (n, (": " : Str), x) := partition_app tl_colon (isWord_free h (by decide))
theorem part_cols {cs : List Str} {x : Str} (h : ∀ c ∈ cs, isWord c = true) : Txt.partition (Txt.join ", " cs ++ " -> " ++ x) " -> " = (Txt.join ", " cs, (" -> " : Str), x) :=
  partition_mark (k := 2) (c := 62) (by rw [tl_arrow]; rfl) (by rw [tl_arrow]; decide) (join_free (by rw [tl_cs]; decide) fun c hc => isWord_free (h c hc) (by decide))
theorem split_cols {cs : List Str} (h0 : cs ≠ []) (h : ∀ c ∈ cs, isWord c = true) : Txt.split (Txt.join ", " cs) ", " = cs := split_join tl_cs (by decide +kernel) h0 fun c hc => isWord_free (h c hc) (by decide)
theorem part_when {fs : List Str} {v : Str} (h : ∀ f ∈ fs, 62 ∉ tl f) : Txt.partition (Txt.join " | " fs ++ " -> " ++ v) " -> " = (Txt.join " | " fs, (" -> " : Str), v) :=
  partition_mark (k := 2) (c := 62) (by rw [tl_arrow]; rfl) (by rw [tl_arrow]; decide) (join_free (by rw [tl_bar]; decide) h)
theorem split_when {fs : List Str} (h0 : fs ≠ []) (h : ∀ f ∈ fs, 124 ∉ tl f) : Txt.split (Txt.join " | " fs) " | " = fs :=
  split_join_mark (k := 1) (c := 124) (by rw [tl_bar]; rfl) (by rw [tl_bar]; decide) (by decide +kernel) h0 h
end Rk
set_option Elab.async false
set_option linter.all false
set_option maxRecDepth 100000
set_option maxHeartbeats 1000000
namespace Rk
open PySem PySem.Spec PyProof.Rows L2
open TL
section
variable {P : Program} {w : World} {K : PySem.W.Frag} {mg : Str → Option Value} {base : Heap}
abbrev n_table_parts : List Str := ["line", "head", "columns", "tail"]
theorem sc_table_parts : FnScope n_table_parts ["line"] (defScope s_table_parts) := ⟨rfl, rfl, rfl, by decide +kernel, rfl, by decide +kernel, by decide +kernel⟩
theorem ok_table_parts (T : Tx K mg) : Def P w K mg base "table_parts" ["line"] 1 (Sp1 tStr tPrt fun s p => ∃ n cs d y, p = .table n cs d y ∧ LnOk p ∧ s = n ++ ": " ++ (Txt.join ", " cs ++ " -> " ++ (d ++ " by " ++ y))) := by
  refine ⟨?_, T.g_table_parts, T.f_table_parts.kp, T.f_table_parts.bindsN fun _ _ _ _ _ _ us hl => match us, hl with | [_], _ => rfl⟩
  refine fn_body T.f_table_parts sc_table_parts (fun _ _ _ _ h => len1 h) fun cdv A outer s H vs Q E hr h => ?_
  obtain ⟨ls, v, s, p, rfl, L, rfl, ⟨n, cs, d, y, rfl, ok, rfl⟩, k⟩ := h
  have hz := ln_len ok
  obtain ⟨h1, h2, h3, h4, h5, h6, h7⟩ := ok
  have hz2 : (n ++ ": " ++ (Txt.join ", " cs ++ " -> " ++ (d ++ " by " ++ y))).length ≤ 60000 := by
    have e : (lnS (.table n cs d y)).length = ("table " : Str).length + (n ++ ": " ++ (Txt.join ", " cs ++ " -> " ++ (d ++ " by " ++ y))).length := app_len _ _
    omega
  have hz3 : (Txt.join ", " cs ++ " -> " ++ (d ++ " by " ++ y)).length ≤ 60000 := by
    have e := app_len (n ++ ": ") (Txt.join ", " cs ++ " -> " ++ (d ++ " by " ++ y))
    omega
  have hz4 : (d ++ " by " ++ y).length ≤ 60000 := by
    have e := app_len (Txt.join ", " cs ++ " -> ") (d ++ " by " ++ y)
    omega
  have hz5 : (Txt.join ", " cs).length ≤ 60000 := by
    have e := app_len (Txt.join ", " cs ++ " -> ") (d ++ " by " ++ y)
    have e2 := app_len (Txt.join ", " cs) " -> "
    omega
  have p1 := part_head (x := Txt.join ", " cs ++ " -> " ++ (d ++ " by " ++ y)) h1
  have p2 := part_cols (x := d ++ " by " ++ y) h4
  have p3 := rpart_by (a := d) h6
  have ne1 : ¬ V.str ": " = V.str "" := strI (by decide +kernel)
  have ne2 : ¬ V.str " -> " = V.str "" := strI (by decide +kernel)
  have ne3 : ¬ V.str " by " = V.str "" := strI (by decide +kernel)
  refine ⟨_, pss_cons (ps_set (i := 1) sc_table_parts.nd rfl (.inl rfl) (pe_partition (pv 0) pe_str))
  (pss_cons (ps_set (i := 2) sc_table_parts.nd rfl (.inl rfl) (pe_partition (pe_ix ix_tup (pv 1) pe_int (fun _ _ => rfl)) pe_str))
  (pss_cons (ps_set (i := 3) sc_table_parts.nd rfl (.inl rfl) (pe_rpartition (pe_ix ix_tup (pv 2) pe_int (fun _ _ => rfl)) pe_str))
  (pss_cons (ps_if (PW.pt (pw_or (pt_cmpR op_eq (pe_ix ix_tup (pv 1) pe_int (fun _ _ => rfl)) pe_str (nomark _)) (pw_or (pt_cmpR op_eq (pe_ix ix_tup (pv 2) pe_int (fun _ _ => rfl)) pe_str (nomark _)) (pw_or1 (pt_cmpR op_eq (pe_ix ix_tup (pv 3) pe_int (fun _ _ => rfl)) pe_str (nomark _)))))) (pss_one ps_never) pss_nil)
  (pss_one (ps_ret (pe_tup (pa_cons pe_str (pa_cons (pe_ix ix_tup (pv 1) pe_int (fun _ _ => rfl)) (pa_cons (pe_split (pe_ix ix_tup (pv 2) pe_int (fun _ _ => rfl)) pe_str) (pa_cons (pe_ix ix_tup (pv 3) pe_int (fun _ _ => rfl)) (pa_cons (pe_ix ix_tup (pv 3) pe_int (fun _ _ => rfl)) pa_nil))))))))))), ?_⟩
  refine ⟨_, rfl, ⟨_, rfl⟩, _, _, rfl, rfl, by decide +kernel, szb _ (by omega), fun a na => ?_⟩
  rw [p1]
  have s1 : Same H (upd H a (.tup [.str n, .str ": ", .str (Txt.join ", " cs ++ " -> " ++ (d ++ " by " ++ y))])) := Same.upd na
  have ha : upd H a (.tup [.str n, .str ": ", .str (Txt.join ", " cs ++ " -> " ++ (d ++ " by " ++ y))]) a = some (.tup [.str n, .str ": ", .str (Txt.join ", " cs ++ " -> " ++ (d ++ " by " ++ y))]) := upd_same
  generalize hH1 : upd H a (.tup [.str n, .str ": ", .str (Txt.join ", " cs ++ " -> " ++ (d ++ " by " ++ y))]) = H1 at s1 ha
  refine ⟨_, rfl, a, _, 2, _, rfl, rfl, SqT.of ha, at_of (j := 2) rfl rfl, ⟨_, rfl⟩, _, _, rfl, rfl, by decide +kernel, szb _ (by omega), fun b nb => ?_⟩
  rw [p2]
  have s2 : Same H1 (upd H1 b (.tup [.str (Txt.join ", " cs), .str " -> ", .str (d ++ " by " ++ y)])) := Same.upd nb
  have hb : upd H1 b (.tup [.str (Txt.join ", " cs), .str " -> ", .str (d ++ " by " ++ y)]) b = some (.tup [.str (Txt.join ", " cs), .str " -> ", .str (d ++ " by " ++ y)]) := upd_same
  generalize hH2 : upd H1 b (.tup [.str (Txt.join ", " cs), .str " -> ", .str (d ++ " by " ++ y)]) = H2 at s2 hb
  refine ⟨_, rfl, b, _, 2, _, rfl, rfl, SqT.of hb, at_of (j := 2) rfl rfl, ⟨_, rfl⟩, _, _, rfl, rfl, by decide +kernel, szb _ (by omega), fun c nc => ?_⟩
  rw [p3]
  have s3 : Same H2 (upd H2 c (.tup [.str d, .str " by ", .str y])) := Same.upd nc
  have hc : upd H2 c (.tup [.str d, .str " by ", .str y]) c = some (.tup [.str d, .str " by ", .str y]) := upd_same
  generalize hH3 : upd H2 c (.tup [.str d, .str " by ", .str y]) = H3 at s3 hc
  have ha3 := s3 _ _ (s2 _ _ ha)
  have hb3 := s3 _ _ hb
  have s4 := (s1.trans s2).trans s3
  refine ⟨_, rfl, a, _, 1, _, rfl, rfl, SqT.of ha3, at_of (j := 1) rfl rfl, rfl, _, rfl, ifN ne1 ?_⟩
  refine ⟨_, rfl, b, _, 1, _, rfl, rfl, SqT.of hb3, at_of (j := 1) rfl rfl, rfl, _, rfl, ifN ne2 ?_⟩
  refine ⟨_, rfl, c, _, 1, _, rfl, rfl, SqT.of hc, at_of (j := 1) rfl rfl, rfl, _, rfl, ifN ne3 ?_⟩
  refine ⟨_, rfl, a, _, 0, _, rfl, rfl, SqT.of ha3, at_of (j := 0) rfl rfl, _, rfl, b, _, 0, _, rfl, rfl, SqT.of hb3, at_of (j := 0) rfl rfl, ⟨_, rfl⟩, _, _, rfl, rfl, by decide +kernel, szb _ (by omega), fun l nl => ?_⟩
  rw [split_cols h2 h4]
  have s5 : Same H3 (upd H3 l (.lst (cs.map V.str))) := Same.upd nl
  have hl : upd H3 l (.lst (cs.map V.str)) l = some (.lst (cs.map V.str)) := upd_same
  generalize hH4 : upd H3 l (.lst (cs.map V.str)) = H4 at s5 hl
  refine ⟨_, rfl, c, _, 0, _, rfl, rfl, SqT.of (s5 _ _ hc), at_of (j := 0) rfl rfl, _, rfl, c, _, 2, _, rfl, rfl, SqT.of (s5 _ _ hc), at_of (j := 2) rfl rfl, szl 5, fun q nq => ?_⟩
  have lno : l ∉ ls := L.no (s4.free nl)
  exact k _ _ ((s4.trans s5).trans (Same.upd nq)) ⟨q, l, rfl, at_cut (L.no ((s4.trans s5).free nq)) upd_same, at_cut lno (Same.upd nq _ _ hl)⟩
abbrev n_parts_of : List Str := ["line", "halves"]
theorem sc_parts_of : FnScope n_parts_of ["line"] (defScope s_parts_of) := ⟨rfl, rfl, rfl, by decide +kernel, rfl, by decide +kernel, by decide +kernel⟩
theorem ok_parts_of (T : Tx K mg) : Def P w K mg base "parts_of" ["line"] 2 (Sp1 tStr tPrt fun s p => LnOk p ∧ s = lnS p) := by
  refine ⟨?_, T.g_parts_of, T.f_parts_of.kp, T.f_parts_of.bindsN fun _ _ _ _ _ _ us hl => match us, hl with | [_], _ => rfl⟩
  refine fn_body T.f_parts_of sc_parts_of (fun _ _ _ _ h => len1 h) fun cdv A outer s H vs Q E hr h => ?_
  obtain ⟨ls, v, s, p, rfl, L, rfl, ⟨ok, rfl⟩, k⟩ := h
  have hz := ln_len ok
  have e1 := starts_fact p
  have e2 := starts_table p
  have e3 := starts_when p
  have nsp : ¬ V.str " " = V.str "" := strI (by decide +kernel)
  have nar : ¬ V.str " -> " = V.str "" := strI (by decide +kernel)
  refine ⟨_, pss_cons (ps_if (pt_val (pe_startswith (pv 0) pe_str)) (pss_cons (ps_set (i := 1) sc_parts_of.nd rfl (.inl rfl) (pe_partition (pe_slice sl_str (pv 0) (po_some pe_int) po_none) pe_str))
  (pss_cons (ps_if (pt_cmpR op_eq (pe_ix ix_tup (pv 1) pe_int (fun _ _ => rfl)) pe_str (nomark _)) (pss_one ps_never) pss_nil)
  (pss_one (ps_ret (pe_tup (pa_cons pe_str (pa_cons (pe_ix ix_tup (pv 1) pe_int (fun _ _ => rfl)) (pa_cons (pe_ix ix_tup (pv 1) pe_int (fun _ _ => rfl)) pa_nil)))))))) pss_nil)
  (pss_cons (ps_if (pt_val (pe_startswith (pv 0) pe_str)) (pss_one (ps_ret (pe_cD (ok_table_parts T) hr (pa_cons (pe_slice sl_str (pv 0) (po_some pe_int) po_none) pa_nil)))) pss_nil)
  (pss_cons (ps_if (pt_val (pe_startswith (pv 0) pe_str)) (pss_cons (ps_set (i := 1) sc_parts_of.nd rfl (.inl rfl) (pe_partition (pe_slice sl_str (pv 0) (po_some pe_int) po_none) pe_str))
  (pss_cons (ps_if (pt_cmpR op_eq (pe_ix ix_tup (pv 1) pe_int (fun _ _ => rfl)) pe_str (nomark _)) (pss_one ps_never) pss_nil)
  (pss_one (ps_ret (pe_tup (pa_cons pe_str (pa_cons (pe_split (pe_ix ix_tup (pv 1) pe_int (fun _ _ => rfl)) pe_str) (pa_cons (pe_ix ix_tup (pv 1) pe_int (fun _ _ => rfl)) pa_nil)))))))) pss_nil)
  (pss_one ps_never))), ?_⟩
  refine ⟨_, rfl, ⟨_, rfl⟩, _, _, rfl, rfl, ?_⟩
  cases p with
  | fact n d =>
    obtain ⟨h1, h2⟩ := id ok
    have h1z := isWord_len h1
    refine ⟨_, rfl, ?_⟩
    rw [e1]
    refine iteT ?_
    refine ⟨_, rfl, 5, rfl, _, rfl, szb _ (by omega), ⟨_, rfl⟩, _, _, rfl, rfl, by decide +kernel, ?_, fun a na => ?_⟩
    · rw [cut_fact, app_len, app_len]
      have : (" " : Str).length = 1 := by decide +kernel
      exact szb _ (by omega)
    rw [cut_fact, part_fact h1]
    have s1 : Same H (upd H a (.tup [.str n, .str " ", .str d])) := Same.upd na
    have ha : upd H a (.tup [.str n, .str " ", .str d]) a = some (.tup [.str n, .str " ", .str d]) := upd_same
    generalize hH1 : upd H a (.tup [.str n, .str " ", .str d]) = H1 at s1 ha
    refine ⟨_, rfl, a, _, 1, _, rfl, rfl, SqT.of ha, at_of (j := 1) rfl rfl, rfl, _, rfl, ifN nsp ?_⟩
    refine ⟨_, rfl, a, _, 0, _, rfl, rfl, SqT.of ha, at_of (j := 0) rfl rfl, _, rfl, a, _, 2, _, rfl, rfl, SqT.of ha, at_of (j := 2) rfl rfl, szl 3, fun q nq => ?_⟩
    exact k _ _ (s1.trans (Same.upd nq)) ⟨q, _, _, _, rfl, at_cut (L.no (s1.free nq)) upd_same, rfl, rfl, rfl⟩
  | table n cs d y =>
    refine ⟨_, rfl, ?_⟩
    rw [e1]
    refine iteF ⟨_, rfl, ⟨_, rfl⟩, _, _, rfl, rfl, _, rfl, ?_⟩
    rw [e2]
    refine iteT ?_
    refine ⟨_, rfl, 6, rfl, _, rfl, szb _ (by omega), ?_⟩
    rw [cut_table]
    exact ⟨ls, _, _, _, rfl, L, rfl, ⟨n, cs, d, y, rfl, ok, rfl⟩, fun H1 w1 s1 r1 => k _ _ s1 r1⟩
  | when fs y =>
    obtain ⟨h0, h4, hf, hy⟩ := id ok
    refine ⟨_, rfl, ?_⟩
    rw [e1]
    refine iteF ⟨_, rfl, ⟨_, rfl⟩, _, _, rfl, rfl, _, rfl, ?_⟩
    rw [e2]
    refine iteF ⟨_, rfl, ⟨_, rfl⟩, _, _, rfl, rfl, _, rfl, ?_⟩
    rw [e3]
    refine iteT ?_
    have hz2 : (Txt.join " | " fs ++ " -> " ++ y).length ≤ 60000 := by
      have e : (lnS (.when fs y)).length = ("when " : Str).length + (Txt.join " | " fs ++ " -> " ++ y).length := app_len _ _
      omega
    have hz3 : (Txt.join " | " fs).length ≤ 60000 := by
      have e := app_len (Txt.join " | " fs ++ " -> ") y
      have e2 := app_len (Txt.join " | " fs) " -> "
      omega
    refine ⟨_, rfl, 5, rfl, _, rfl, szb _ (by omega), ⟨_, rfl⟩, _, _, rfl, rfl, by decide +kernel, ?_, fun a na => ?_⟩
    · rw [cut_when]; exact szb _ (by omega)
    rw [cut_when, part_when fun f h => (hf f h).2.1]
    have s1 : Same H (upd H a (.tup [.str (Txt.join " | " fs), .str " -> ", .str y])) := Same.upd na
    have ha : upd H a (.tup [.str (Txt.join " | " fs), .str " -> ", .str y]) a = some (.tup [.str (Txt.join " | " fs), .str " -> ", .str y]) := upd_same
    generalize hH1 : upd H a (.tup [.str (Txt.join " | " fs), .str " -> ", .str y]) = H1 at s1 ha
    refine ⟨_, rfl, a, _, 1, _, rfl, rfl, SqT.of ha, at_of (j := 1) rfl rfl, rfl, _, rfl, ifN nar ?_⟩
    refine ⟨_, rfl, a, _, 0, _, rfl, rfl, SqT.of ha, at_of (j := 0) rfl rfl, ⟨_, rfl⟩, _, _, rfl, rfl, by decide +kernel, szb _ (by omega), fun l nl => ?_⟩
    rw [split_when h0 fun f h => (hf f h).1]
    have s5 : Same H1 (upd H1 l (.lst (fs.map V.str))) := Same.upd nl
    have hl : upd H1 l (.lst (fs.map V.str)) l = some (.lst (fs.map V.str)) := upd_same
    generalize hH4 : upd H1 l (.lst (fs.map V.str)) = H4 at s5 hl
    refine ⟨_, rfl, a, _, 2, _, rfl, rfl, SqT.of (s5 _ _ ha), at_of (j := 2) rfl rfl, szl 3, fun q nq => ?_⟩
    exact k _ _ ((s1.trans s5).trans (Same.upd nq)) ⟨q, l, rfl, at_cut (L.no ((s1.trans s5).free nq)) upd_same, at_cut (L.no (s1.free nl)) (Same.upd nq _ _ hl)⟩
end
end Rk
set_option Elab.async false
set_option linter.all false
set_option maxRecDepth 100000
set_option maxHeartbeats 1000000
namespace Rk
open PySem PySem.Spec PyProof.Rows L2
open TL
/-! ### a book as it is written -/
structure TbT where
  name : Str
  cols : List Str
  out : Dom
  way : Wy
  rows : List (List Fl × Int)
def factP (p : Str × Dom) : Prt := .fact p.1 (domS p.2)
def rowP (out : Dom) (r : List Fl × Int) : Prt := .when (r.1.map flS) (valS out r.2)
def headP (t : TbT) : Prt := .table t.name t.cols (domS t.out) t.way.nm
def blkP (t : TbT) : Prt × List Prt := (headP t, t.rows.map (rowP t.out))
def tabP (t : TbT) : List Prt := headP t :: t.rows.map (rowP t.out)
abbrev tPB : Ty (Prt × List Prt) := tPair tPrt (tLst tPrt)
def tVia {A B : Type} (t : Ty A) (f : B → A) : Ty B := ⟨fun H v x => t.rep H v (f x), fun s h => t.mono s h⟩
theorem rs_via {A B : Type} {t : Ty A} {f : B → A} {H : Hp} : ∀ {vs : List V} {xs : List B}, Rs (tVia t f) H vs xs ↔ Rs t H vs (xs.map f)
  | [], [] => Iff.rfl
  | _ :: _, [] => Iff.rfl
  | [], _ :: _ => Iff.rfl
  | v :: vs, x :: xs => and_congr Iff.rfl rs_via
theorem lst_via {A B : Type} {t : Ty A} {f : B → A} {H : Hp} {v : V} {xs : List B} : (tLst (tVia t f)).rep H v xs ↔ (tLst t).rep H v (xs.map f) :=
  ⟨fun ⟨a, vs, e, h, r⟩ => ⟨a, vs, e, h, rs_via.mp r⟩, fun ⟨a, vs, e, h, r⟩ => ⟨a, vs, e, h, rs_via.mpr r⟩⟩
abbrev tFact : Ty (Str × Dom) := tVia tPrt factP
abbrev tBlk : Ty TbT := tVia tPB blkP
abbrev tWhen (out : Dom) : Ty (List Fl × Int) := tVia tPrt (rowP out)
/-- a block, opened -/
theorem blk_at {H : Hp} {v : V} {t : TbT} (h : tBlk.rep H v t) : ∃ a ah l b ws, v = .ref a ∧ H a = some (.tup [.ref ah, .ref b]) ∧ H ah = some (.tup [.str "table", .str t.name, .ref l, .str (domS t.out), .str t.way.nm]) ∧ H l = some (.lst (t.cols.map V.str)) ∧
    H b = some (.lst ws) ∧ Rs (tWhen t.out) H ws t.rows := by
  obtain ⟨a, v1, v2, rfl, ha, ⟨ah, l, e1, hh, hl⟩, ⟨b, ws, e2, hb, rs⟩⟩ := h
  obtain rfl : v1 = .ref ah := e1
  obtain rfl : v2 = .ref b := e2
  exact ⟨a, ah, l, b, ws, rfl, ha, hh, hl, hb, rs_via.mpr rs⟩
def tagS : Prt → Str
  | .fact _ _ => "fact"
  | .table _ _ _ _ => "table"
  | .when _ _ => "when"
theorem prt_at {H : Hp} {v : V} {p : Prt} (h : tPrt.rep H v p) : ∃ a r, v = .ref a ∧ H a = some (.tup (.str (tagS p) :: r)) := by
  cases p with
  | fact n d => obtain ⟨a, v1, v2, v3, e, h, e1, e2, e3⟩ := h; obtain rfl : v1 = .str "fact" := e1; exact ⟨a, _, e, h⟩
  | table n cs d w => obtain ⟨a, l, e, h, _⟩ := h; exact ⟨a, _, e, h⟩
  | when fs x => obtain ⟨a, l, e, h, _⟩ := h; exact ⟨a, _, e, h⟩
def blkStep (acc : List (Prt × List Prt)) (p : Prt) : List (Prt × List Prt) := match p with
  | .fact _ _ => acc
  | .table n cs d w => acc ++ [(.table n cs d w, [])]
  | .when fs v => match acc.getLast? with
    | some l => acc.dropLast ++ [(l.1, l.2 ++ [.when fs v])]
    | none => acc
def blkF (ps : List Prt) : List (Prt × List Prt) := ps.foldl blkStep []
theorem blk_snoc {ps : List Prt} {i : Nat} {p : Prt} (h : ps[i]? = some p) : blkF (ps.take (i + 1)) = blkStep (blkF (ps.take i)) p := by
  unfold blkF; rw [take_snoc h, List.foldl_append]; rfl
theorem step_when (acc : List (Prt × List Prt)) (l : Prt × List Prt) (fs : List Str) (v : Str) : blkStep (acc ++ [l]) (.when fs v) = acc ++ [(l.1, l.2 ++ [.when fs v])] := by
  unfold blkStep
  rw [List.getLast?_concat]
  show (acc ++ [l]).dropLast ++ _ = _
  rw [List.dropLast_concat]
theorem step_len {acc : List (Prt × List Prt)} {n : Nat} (h : ∀ b ∈ acc, b.2.length ≤ n) (p : Prt) : ∀ b ∈ blkStep acc p, b.2.length ≤ n + 1 := by
  cases p with
  | fact a d => exact fun b m => Nat.le_succ_of_le (h b m)
  | table a cs d w =>
    intro b m
    rcases List.mem_append.mp m with m | m
    · exact Nat.le_succ_of_le (h b m)
    · rw [List.mem_singleton.mp m]; exact Nat.zero_le _
  | when fs v =>
    rcases List.eq_nil_or_concat acc with e | ⟨t, l, e⟩
    · subst e; exact fun b m => Nat.le_succ_of_le (h b m)
    · rw [List.concat_eq_append] at e
      subst e
      rw [step_when]
      intro b m
      rcases List.mem_append.mp m with m | m
      · exact Nat.le_succ_of_le (h b (List.mem_append_left _ m))
      · rw [List.mem_singleton.mp m, List.length_append]
        exact Nat.succ_le_succ (h l (List.mem_append_right _ (List.mem_singleton.mpr rfl)))
theorem blk_len (ps : List Prt) : ∀ b ∈ blkF ps, b.2.length ≤ ps.length := by
  have : ∀ (ps : List Prt) (acc : List (Prt × List Prt)) (n : Nat), (∀ b ∈ acc, b.2.length ≤ n) → ∀ b ∈ ps.foldl blkStep acc, b.2.length ≤ n + ps.length := by
    intro ps
    induction ps with
    | nil => intro acc n h; exact h
    | cons p ps ih =>
      intro acc n h
      rw [List.foldl_cons, List.length_cons]
      have := ih _ (n + 1) (step_len h p)
      intro b m
      have := this b m
      omega
  have h := this ps [] 0 (fun b m => by cases m)
  rw [Nat.zero_add] at h
  exact h
/-- the blocks that are being made -/
def BInv (H : Hp) (ls : List Addr) (l : Addr) (H' : Hp) (us : List V) (bs : List (Prt × List Prt)) : Prop :=
  (bs = [] ∧ us = []) ∨ ∃ us0 tup cur pv rs b0 p0 r0, bs = b0 ++ [(p0, r0)] ∧ us = us0 ++ [.ref tup] ∧ Rs tPB (cut H' (l :: cur :: ls)) us0 b0 ∧ cut H' (l :: cur :: ls) tup = some (.tup [pv, .ref cur]) ∧ H' cur = some (.lst rs) ∧ H cur = none ∧ cur ≠ l ∧
    tPrt.rep (cut H' (l :: cur :: ls)) pv p0 ∧ Rs tPrt (cut H' (l :: cur :: ls)) rs r0
theorem BInv.all {H : Hp} {ls : List Addr} {l : Addr} {H' : Hp} {us : List V} {bs : List (Prt × List Prt)} (h : BInv H ls l H' us bs) (L : Live H ls) {H3 : Hp} {ls' : List Addr} (s : Same H' H3) (hx : ∀ x ∈ ls', x = l ∨ x ∈ ls ∨ H' x = none) : Rs tPB (cut H3 ls') us bs := by
  rcases h with ⟨rfl, rfl⟩ | ⟨us0, tup, cur, pv, rs, b0, p0, r0, rfl, rfl, h1, h2, h3, h4, h5, h6, h7⟩
  · trivial
  · have sc : Same (cut H' (l :: cur :: ls)) (cut H3 ls') := Same.more s fun x m => by
      rcases hx x m with q | q | q
      · exact .inl (q ▸ List.mem_cons_self)
      · exact .inl (List.mem_cons_of_mem _ (List.mem_cons_of_mem _ q))
      · exact .inr q
    refine (h1.mono sc).snoc ⟨tup, pv, _, rfl, sc _ _ h2, tPrt.mono sc h6, cur, rs, rfl, at_cut (fun m => ?_) (s _ _ h3), h7.mono sc⟩
    rcases hx cur m with q | q | q
    · exact h5 q
    · exact L cur q h4
    · rw [q] at h3; cases h3
section
variable {P : Program} {w : World} {K : PySem.W.Frag} {mg : Str → Option Value} {base : Heap}
abbrev n_blocks_of : List Str := ["parts", "blocks", "part"]
theorem sc_blocks_of : FnScope n_blocks_of ["parts"] (defScope s_blocks_of) := ⟨rfl, rfl, rfl, by decide +kernel, rfl, by decide +kernel, by decide +kernel⟩
theorem ok_blocks_of (T : Tx K mg) : Def P w K mg base "blocks_of" ["parts"] 1 (Sp1 (tLst tPrt) (tLst tPB) fun ps r => ps.length ≤ 1000 ∧ (∀ i fs v, ps[i]? = some (.when fs v) → blkF (ps.take i) ≠ []) ∧ r = blkF ps) := by
  refine ⟨?_, T.g_blocks_of, T.f_blocks_of.kp, T.f_blocks_of.bindsN fun _ _ _ _ _ _ us hl => match us, hl with | [_], _ => rfl⟩
  refine fn_body T.f_blocks_of sc_blocks_of (fun _ _ _ _ h => len1 h) fun cdv A outer s H vs Q E hr h => ?_
  obtain ⟨ls, v, ps, r, rfl, L, ⟨ap, up, rfl, hap, rp⟩, ⟨h1000, hw, rfl⟩, k⟩ := h
  have hap := cut_at hap
  have e1 := rp.len
  refine ⟨_, pss_cons (ps_set (i := 1) sc_blocks_of.nd rfl (.inl rfl) (pe_lst pa_nil))
  (pss_cons (ps_for PassesOwn.never rfl (pi_list (pv 0)) (pg_name (i := 2) sc_blocks_of.nd rfl (.inl rfl))
  (pss_cons (ps_if (pt_cmpR op_eq (pe_ix ix_tup (pv 2) pe_int (fun _ _ => rfl)) pe_str (nomark _)) (pss_one (ps_expr (pe_bm PySem.F.plainAttrs_list PySem.F.slot_list_append PySem.F.type_list_append mt_append (pv 1) (pa_cons (pe_tup (pa_cons (pv 2) (pa_cons (pe_lst pa_nil) pa_nil))) pa_nil)))) pss_nil)
  (pss_one (ps_if (pt_cmpR op_eq (pe_ix ix_tup (pv 2) pe_int (fun _ _ => rfl)) pe_str (nomark _)) (pss_cons (ps_if (pt_cmpR op_eq (pe_callB call_len_seq (by rfl) T.n_len PySem.boot_len (pa_cons (pv 1) pa_nil)) pe_int (nomark _)) (pss_one ps_never) pss_nil)
  (pss_one (ps_expr (pe_bm PySem.F.plainAttrs_list PySem.F.slot_list_append PySem.F.type_list_append mt_append (pe_ix ix_tup (pe_ix ix_list (pv 1) (pe_un un_neg pe_int) (fun _ _ => rfl)) pe_int (fun _ _ => rfl)) (pa_cons (pv 2) pa_nil))))) pss_nil))))
  (pss_one (ps_ret (pv 1)))), ?_⟩
  refine ⟨Nat.zero_le _, fun l nl => ?_⟩
  have s0 : Same H (upd H l (.lst [])) := Same.upd nl
  refine ⟨_, rfl, ap, rfl, ⟨_, SqL.of (s0 _ _ hap)⟩, for_list (K := K) (a := ap) (xs := up) (fun i σ H' => (∃ c, σ = [some (.ref ap), some (.ref l), c]) ∧ Same H H' ∧ ∃ us, H' l = some (.lst us) ∧ us.length ≤ i ∧ BInv H ls l H' us (blkF (ps.take i))) ⟨⟨_, rfl⟩, s0, [], upd_same, Nat.le_refl _, .inl ⟨by rw [List.take_zero]; rfl, rfl⟩⟩ (fun i σ H' _ p => SqL.of (p.2.1 _ _ hap)) ?_ ?_⟩
  · rintro i x σ H1 hx ⟨⟨c, rfl⟩, s1, us, hl, hlen, inv⟩
    obtain ⟨p, hp, rx⟩ := rp.get hx
    have hi := (List.getElem?_eq_some_iff.mp hx).1
    obtain ⟨a, rr, rfl, ha⟩ := prt_at rx
    have ha := cut_at ha
    have eb := blk_snoc hp
    refine ⟨_, rfl, a, _, 0, _, rfl, rfl, SqT.of (s1 _ _ ha), at_of (j := 0) rfl rfl, rfl, _, rfl, ?_⟩
    cases p with
    | fact n d =>
      refine ifN (strI (by show ¬ ("fact" : Str) = "table"; decide +kernel)) ⟨_, rfl, a, _, 0, _, rfl, rfl, SqT.of (s1 _ _ ha), at_of (j := 0) rfl rfl, rfl, _, rfl, ifN (strI (by show ¬ ("fact" : Str) = "when"; decide +kernel)) ⟨⟨_, rfl⟩, s1, us, hl, by omega, ?_⟩⟩
      rw [eb]; exact inv
    | table n cs d y =>
      refine ifY rfl ⟨_, rfl, .inl ⟨rfl, _, SqL.of hl⟩, _, rfl, Nat.zero_le _, fun cur nc => ⟨szl 2, fun tup nt => ⟨l, us, _, rfl, rfl, ?_, small1000 (by omega), ?_⟩⟩⟩
      · exact Same.upd nt _ _ (Same.upd nc _ _ hl)
      · have s2 : Same H1 (upd H1 cur (.lst [])) := Same.upd nc
        have s3 : Same H1 (upd (upd H1 cur (.lst [])) tup (.tup [.ref a, .ref cur])) := s2.trans (Same.upd nt)
        have s13 := s1.trans s3
        have ncl : cur ≠ l := fun e => by rw [e, hl] at nc; cases nc
        have ntl : tup ≠ l := fun e => by rw [e] at nt; rw [s2 _ _ hl] at nt; cases nt
        have ntc : tup ≠ cur := fun e => by rw [e, upd_same] at nt; cases nt
        have nc0 := s1.free nc
        have nt0 : H tup = none := (s1.trans s2).free nt
        refine ⟨_, rfl, a, _, 0, _, rfl, rfl, SqT.of ((s13.mut nl) _ _ ha), at_of (j := 0) rfl rfl, rfl, _, rfl, ifN (strI (by show ¬ ("table" : Str) = "when"; decide +kernel)) ⟨⟨_, rfl⟩, s13.mut nl, _, upd_same, by rw [List.length_append]; exact Nat.succ_le_succ hlen, .inr ⟨us, tup, cur, .ref a, [], _, _, [], by rw [eb]; rfl, rfl, ?_, ?_, ?_, nc0, ncl, ?_, trivial⟩⟩⟩
        · rw [cut_upd List.mem_cons_self]
          refine inv.all L s3 fun x m => ?_
          rcases List.mem_cons.mp m with q | m
          · exact .inl q
          · rcases List.mem_cons.mp m with q | q
            · exact .inr (.inr (q ▸ nc))
            · exact .inr (.inl q)
        · rw [cut_upd List.mem_cons_self]
          refine at_cut (fun m => ?_) upd_same
          rcases List.mem_cons.mp m with q | m
          · exact ntl q
          · rcases List.mem_cons.mp m with q | q
            · exact ntc q
            · exact L tup q nt0
        · rw [upd_ne ncl, upd_ne (Ne.symm ntc)]; exact upd_same
        · rw [cut_upd List.mem_cons_self]
          exact tPrt.mono (s13.more2 nl nc0) rx
    | when fs y =>
      refine ifN (strI (by show ¬ ("when" : Str) = "table"; decide +kernel)) ⟨_, rfl, a, _, 0, _, rfl, rfl, SqT.of (s1 _ _ ha), at_of (j := 0) rfl rfl, rfl, _, rfl, ifY rfl ?_⟩
      rcases inv with ⟨q, _⟩ | ⟨us0, tup, cur, pv, rs, b0, p0, r0, q, rfl, h1, h2, h3, h4, h5, h6, h7⟩
      · exact absurd q (hw i fs y hp)
      · refine ⟨_, rfl, l, _, rfl, .inl (SqL.of hl), rfl, _, rfl, ifN (fun z => ?_) ?_⟩
        · have := V.int.inj z
          rw [List.length_append] at this
          simp at this
          omega
        · have lr : rs.length = r0.length := h7.len
          refine ⟨_, rfl, 1, rfl, l, _, _, _, rfl, rfl, SqL.of hl, at_last _ _, tup, _, 1, _, rfl, rfl, SqT.of (cut_at h2), at_of (j := 1) rfl rfl, .inl ⟨rfl, _, SqL.of h3⟩, _, rfl, cur, _, _, rfl, rfl, h3, ?_, ⟨_, rfl⟩, s1.mut h4, us0 ++ [.ref tup], ?_, by omega, .inr ⟨us0, tup, cur, pv, rs ++ [.ref a], b0, p0, r0 ++ [.when fs y], ?_, rfl, ?_, ?_, upd_same, h4, h5, ?_, ?_⟩⟩
          · have := blk_len (ps.take i) (p0, r0) (by rw [q]; exact List.mem_append_right _ (List.mem_singleton.mpr rfl))
            rw [List.length_take] at this
            exact small1000 (by show rs.length ≤ 1000; have : r0.length ≤ min i ps.length := this; omega)
          · rw [upd_ne (Ne.symm h5)]; exact hl
          · rw [eb, q, step_when]
          · rw [cut_upd (List.mem_cons_of_mem _ List.mem_cons_self)]; exact h1
          · rw [cut_upd (List.mem_cons_of_mem _ List.mem_cons_self)]; exact h2
          · rw [cut_upd (List.mem_cons_of_mem _ List.mem_cons_self)]; exact h6
          · rw [cut_upd (List.mem_cons_of_mem _ List.mem_cons_self)]
            exact h7.snoc (tPrt.mono (s1.more2 nl h4) rx)
  · rintro σ H1 ⟨⟨c, rfl⟩, s1, us, hl, hlen, inv⟩
    rw [e1, List.take_length] at inv
    refine ⟨_, rfl, k _ _ s1 ⟨l, us, rfl, at_cut (L.no nl) hl, inv.all L (Same.refl _) fun x m => .inr (.inl m)⟩⟩
end
end Rk
set_option Elab.async false
set_option linter.all false
set_option maxRecDepth 100000
set_option maxHeartbeats 1000000
namespace Rk
open PySem PySem.Spec PyProof.Rows L2
open TL
theorem Rs.to {A B : Type} {t : Ty A} {u : Ty B} {H : Hp} (g : A → B) (h : ∀ v x, t.rep H v x → u.rep H v (g x)) : ∀ {vs : List V} {xs : List A}, Rs t H vs xs → Rs u H vs (xs.map g)
  | [], [], _ => trivial
  | v :: vs, x :: xs, r => ⟨h v x r.1, Rs.to g h r.2⟩
  | [], _ :: _, r => r.elim
  | _ :: _, [], r => r.elim
def tNm : Ty Str := ⟨fun H v n => ∃ a x r, v = .ref a ∧ H a = some (.tup (x :: .str n :: r)), fun s ⟨a, x, r, e, h⟩ => ⟨a, x, r, e, s _ _ h⟩⟩
theorem fact_at {H : Hp} {v : V} {p : Str × Dom} (h : tFact.rep H v p) : ∃ a, v = .ref a ∧ H a = some (.tup [.str "fact", .str p.1, .str (domS p.2)]) := by
  obtain ⟨a, v1, v2, v3, e, h, e1, e2, e3⟩ := h
  obtain rfl : v1 = .str "fact" := e1
  obtain rfl : v2 = .str p.1 := e2
  obtain rfl : v3 = .str (domS p.2) := e3
  exact ⟨a, e, h⟩
section
variable {P : Program} {w : World} {K : PySem.W.Frag} {mg : Str → Option Value} {base : Heap}
abbrev n_look_at_counts : List Str := ["facts", "blocks", "head", "rows"]
theorem sc_look_at_counts : FnScope n_look_at_counts ["facts", "blocks"] (defScope s_look_at_counts) := ⟨rfl, rfl, rfl, by decide +kernel, rfl, by decide +kernel, by decide +kernel⟩
theorem ok_look_at_counts (T : Tx K mg) : Def P w K mg base "look_at_counts" ["facts", "blocks"] 1 (Sp2 (tLst tFact) (tLst tBlk) tNon fun fs ts r => fs.length ≤ 20 ∧ ts.length ≤ 30 ∧ ∀ t ∈ ts, t.cols.length ≤ 4 ∧ t.rows.length ≤ 200) := by
  refine ⟨?_, T.g_look_at_counts, T.f_look_at_counts.kp, T.f_look_at_counts.bindsN fun _ _ _ _ _ _ us hl => match us, hl with | [_, _], _ => rfl⟩
  refine fn_body T.f_look_at_counts sc_look_at_counts (fun _ _ _ _ h => len2 h) fun cdv A outer s H vs Q E hr h => ?_
  obtain ⟨ls, vf, vt, fs, ts, r, rfl, L, ⟨af, uf, rfl, haf, rf⟩, ⟨at_, ut, rfl, hat, rt⟩, ⟨h20, h30, ht⟩, k⟩ := h
  have haf := cut_at haf
  have hat := cut_at hat
  have e1 := rf.len
  have e2 := rt.len
  refine ⟨_, pss_cons (ps_if (PW.pt (pw_or (pt_cmpR op_gt (pe_callB call_len_seq (by rfl) T.n_len PySem.boot_len (pa_cons (pv 0) pa_nil)) (pe_gi T.i_MOST_FACTS_reading) (nomark _)) (pw_or1 (pt_cmpR op_gt (pe_callB call_len_seq (by rfl) T.n_len PySem.boot_len (pa_cons (pv 1) pa_nil)) (pe_gi T.i_MOST_TABLES_reading) (nomark _))))) (pss_one ps_never) pss_nil)
  (pss_one (ps_for PassesOwn.never rfl (pi_list (pv 1)) (pg_tup (by rfl) (pgs_cons (pg_name (i := 2) sc_look_at_counts.nd rfl (.inl rfl)) (pgs_cons (pg_name (i := 3) sc_look_at_counts.nd rfl (.inl rfl)) pgs_nil)))
  (pss_one (ps_if (PW.pt (pw_or (pt_cmpR op_gt (pe_callB call_len_seq (by rfl) T.n_len PySem.boot_len (pa_cons (pe_ix ix_tup (pv 2) pe_int (fun _ _ => rfl)) pa_nil)) (pe_gi T.i_MOST_COLUMNS_reading) (nomark _)) (pw_or1 (pt_cmpR op_gt (pe_callB call_len_seq (by rfl) T.n_len PySem.boot_len (pa_cons (pv 3) pa_nil)) (pe_gi T.i_MOST_ROWS_reading) (nomark _))))) (pss_one ps_never) pss_nil)))), ?_⟩
  refine ⟨_, rfl, af, _, rfl, .inl (SqL.of haf), _, _, rfl, rfl, _, rfl, ifN (by omega) ⟨_, rfl, at_, _, rfl, .inl (SqL.of hat), _, _, rfl, rfl, _, rfl, ifN (by omega) ?_⟩⟩
  refine ⟨_, rfl, at_, rfl, ⟨_, SqL.of hat⟩, for_list (K := K) (a := at_) (xs := ut) (fun i σ H' => (∃ c d, σ = [some (.ref af), some (.ref at_), c, d]) ∧ Same H H') ⟨⟨_, _, rfl⟩, Same.refl _⟩ (fun i σ H' _ p => SqL.of (p.2 _ _ hat)) ?_ ?_⟩
  · rintro i x σ H1 hx ⟨⟨c, d, rfl⟩, s1⟩
    obtain ⟨t, ht1, rx⟩ := rt.get hx
    obtain ⟨a, ah, l, b, ws, rfl, ha, hh, hl, hb, rs⟩ := blk_at (tBlk.mono (cut_sub.trans s1) rx)
    obtain ⟨h4, h200⟩ := ht t (List.mem_of_getElem? ht1)
    have e3 := rs.len
    refine ⟨a, _, rfl, SqT.of ha, rfl, _, _, rfl, _, _, rfl, rfl, ?_⟩
    refine ⟨_, rfl, ah, _, 2, _, rfl, rfl, SqT.of hh, at_of (j := 2) rfl rfl, l, _, rfl, .inl (SqL.of hl), _, _, rfl, rfl, _, rfl, ifN (by rw [List.length_map]; omega) ⟨_, rfl, b, _, rfl, .inl (SqL.of hb), _, _, rfl, rfl, _, rfl, ifN (by omega) ⟨⟨_, _, rfl⟩, s1⟩⟩⟩
  · rintro σ H1 ⟨⟨c, d, rfl⟩, s1⟩
    exact k _ _ s1 rfl
abbrev n_look_at_all_names : List Str := ["facts", "blocks", "names", "part", "head", "rows", "seen", "column", "block"]
theorem sc_look_at_all_names : FnScope n_look_at_all_names ["facts", "blocks"] (defScope s_look_at_all_names) := ⟨rfl, rfl, rfl, by decide +kernel, rfl, by decide +kernel, by decide +kernel⟩
theorem ok_look_at_all_names (T : Tx K mg) : Def P w K mg base "look_at_all_names" ["facts", "blocks"] 2 (Sp2 (tLst tFact) (tLst tBlk) tNon fun fs ts r => fs.length ≤ 100 ∧ ts.length ≤ 100 ∧ (fs.map (·.1) ++ ts.map (·.name)).Nodup ∧ (∀ n ∈ fs.map (·.1) ++ ts.map (·.name), isWord n = true) ∧ ∀ t ∈ ts, t.cols.length ≤ 4 ∧ (t.name :: t.cols).Nodup ∧ ∀ c ∈ t.cols, c ∈ fs.map (·.1) ++ ts.map (·.name)) := by
  refine ⟨?_, T.g_look_at_all_names, T.f_look_at_all_names.kp, T.f_look_at_all_names.bindsN fun _ _ _ _ _ _ us hl => match us, hl with | [_, _], _ => rfl⟩
  refine fn_body T.f_look_at_all_names sc_look_at_all_names (fun _ _ _ _ h => len2 h) fun cdv A outer s H vs Q E hr h => ?_
  obtain ⟨ls, vf, vt, fs, ts, r, rfl, L, ⟨af, uf, rfl, haf, rf⟩, ⟨at_, ut, rfl, hat, rt⟩, ⟨h20, h30, hnd, hwd, ht⟩, k⟩ := h
  have haf := cut_at haf
  have hat := cut_at hat
  have e1 := rf.len
  have e2 := rt.len
  generalize hN : fs.map (·.1) ++ ts.map (·.name) = N at hnd hwd ht
  have hNl : N.length ≤ 200 := by rw [← hN, List.length_append, List.length_map, List.length_map]; omega
  refine ⟨_, pss_cons (ps_set (i := 2) sc_look_at_all_names.nd rfl (.inl rfl) (pe_lst pa_nil))
  (pss_cons (ps_for PassesOwn.never rfl (pi_list (pe_op op_cat (pv 0) (pe_lc (own := [("block", 8)]) (g := gName 8) rfl sc_look_at_all_names.nd (pi_list (pv 1)) (blkOk_by (own := [("block", 8)]) (N := n_look_at_all_names) (sc := defScope s_look_at_all_names) (by decide +kernel)) (fun _ _ _ _ _ => (pg_name (i := 8) sc_look_at_all_names.nd rfl (.inl rfl))) (fun _ _ _ _ _ => pts_nil) (fun _ _ _ _ _ => (pe_ix (ixT (K := K)) (pv 8) pe_int (fun _ _ => rfl)))))) (pg_name (i := 3) sc_look_at_all_names.nd rfl (.inl rfl))
  (pss_cons (ps_if (PW.pt (pw_or (pt_not (pt_val (pe_cD (ok_is_word T) hr (pa_cons (pe_ix ix_tup (pv 3) pe_int (fun _ _ => rfl)) pa_nil)))) (pw_or1 (pt_cmpR op_in_seq (pe_ix ix_tup (pv 3) pe_int (fun _ _ => rfl)) (pv 2) (by rfl))))) (pss_one ps_never) pss_nil)
  (pss_one (ps_expr (pe_bm PySem.F.plainAttrs_list PySem.F.slot_list_append PySem.F.type_list_append mt_append (pv 2) (pa_cons (pe_ix ix_tup (pv 3) pe_int (fun _ _ => rfl)) pa_nil))))))
  (pss_one (ps_for PassesOwn.never rfl (pi_list (pv 1)) (pg_tup (by rfl) (pgs_cons (pg_name (i := 4) sc_look_at_all_names.nd rfl (.inl rfl)) (pgs_cons (pg_name (i := 5) sc_look_at_all_names.nd rfl (.inl rfl)) pgs_nil)))
  (pss_cons (ps_set (i := 6) sc_look_at_all_names.nd rfl (.inl rfl) (pe_lst (pa_cons (pe_ix ix_tup (pv 4) pe_int (fun _ _ => rfl)) pa_nil)))
  (pss_one (ps_for PassesOwn.never rfl (pi_list (pe_ix ix_tup (pv 4) pe_int (fun _ _ => rfl))) (pg_name (i := 7) sc_look_at_all_names.nd rfl (.inl rfl))
  (pss_cons (ps_if (PW.pt (pw_or (pt_cmpR op_notIn_seq (pv 7) (pv 2) (by rfl)) (pw_or1 (pt_cmpR op_in_seq (pv 7) (pv 6) (by rfl))))) (pss_one ps_never) pss_nil)
  (pss_one (ps_expr (pe_bm PySem.F.plainAttrs_list PySem.F.slot_list_append PySem.F.type_list_append mt_append (pv 6) (pa_cons (pv 7) pa_nil))))))))))), ?_⟩
  refine ⟨Nat.zero_le _, fun l nl => ?_⟩
  have s0 : Same H (upd H l (.lst [])) := Same.upd nl
  refine ⟨_, rfl, _, rfl, at_, rfl, ⟨_, SqL.of (s0 _ _ hat)⟩, fun D nD => ?_⟩
  refine lc_map (walk_list (K := K) (a := at_) (xs := ut)) (u := tNm) (ls := l :: ls) (ts.map (·.name)) nD (Live.cons upd_same (L.to s0)) (by omega) (by rw [List.length_map]; omega) (fun H' s' => SqL.of (s' _ _ (s0 _ _ hat))) ?_ ?_
  · rintro i x y H2 H3 R hy s2 sc L2 ⟨rfl, hx⟩ hR
    obtain ⟨t, ht1, a, v1, v2, rfl, ha, ⟨ah, lc, e, hh, hl⟩, _⟩ := rt.get hx
    obtain rfl : v1 = .ref ah := e
    rw [List.getElem?_map, ht1] at hy
    cases hy
    have scc := (s0.more1 nl).trans sc
    exact ⟨rfl, _, rfl, a, _, 0, _, rfl, rfl, SqT.of (cut_at (scc _ _ ha)), at_of (j := 0) rfl rfl, hR _ _ (Same.refl _) ⟨ah, _, _, rfl, scc _ _ hh⟩⟩
  intro H2 s2 rD
  obtain ⟨D', ud, e, hD, rd⟩ := rD
  cases e
  have hD := cut_at hD
  have e3 := rd.len
  have s02 := s0.trans s2
  refine ⟨af, D, _, _, rfl, rfl, s02 _ _ haf, hD, szb _ (by rw [e1, e3, List.length_map]; omega), fun q nq => ?_⟩
  have s3 : Same H2 (upd H2 q (.lst (uf ++ ud))) := Same.upd nq
  have hq : upd H2 q (.lst (uf ++ ud)) q = some (.lst (uf ++ ud)) := upd_same
  generalize upd H2 q (.lst (uf ++ ud)) = H3 at s3 hq
  have s03 := s02.trans s3
  have rN : Rs tNm (cut H3 (l :: ls)) (uf ++ ud) N := by
    rw [← hN]
    refine Rs.app ?_ (rd.mono s3.cut)
    refine Rs.to (·.1) (fun v p h => ?_) (rf.mono ((s0.more1 nl).trans (s2.trans s3).cut))
    obtain ⟨a, e, h⟩ := fact_at h
    exact ⟨a, _, _, e, h⟩
  have hl3 : H3 l = some (.lst []) := s3 _ _ (s2 _ _ upd_same)
  have nql : q ≠ l := fun e => by rw [e, s2 _ _ upd_same] at nq; cases nq
  have wl : ∀ {n : Str}, isWord n = true → n.length ≤ 1000000 := fun h => by have := isWord_len h; omega
  refine ⟨q, rfl, ⟨_, SqL.of hq⟩, for_list (K := K) (a := q) (xs := uf ++ ud) (fun i σ H' => (∃ c d, σ = [some (.ref af), some (.ref at_), some (.ref l), c, none, none, none, none, d]) ∧ Same H H' ∧ Same (cut H3 (l :: ls)) (cut H' (l :: ls)) ∧ H' q = some (.lst (uf ++ ud)) ∧ H' l = some (.lst ((N.take i).map V.str))) ⟨⟨_, _, rfl⟩, s03, Same.refl _, hq, by rw [List.take_zero]; exact hl3⟩ (fun i σ H' _ p => SqL.of p.2.2.2.1) ?_ ?_⟩
  · rintro i x σ H4 hx ⟨⟨c, d, rfl⟩, s4, s5, hq4, hl4⟩
    obtain ⟨n, hn, a, x0, r0, rfl, ha⟩ := rN.get hx
    have ha := cut_at (s5 _ _ ha)
    have hi := (List.getElem?_eq_some_iff.mp hn).1
    have hw := hwd n (List.mem_of_getElem? hn)
    refine ⟨_, rfl, a, _, 1, _, rfl, rfl, SqT.of ha, at_of (j := 1) rfl rfl, [], _, n, true, rfl, Live.nil, rfl, ⟨wl hw, hw.symm⟩, fun H5 w5 s6 r5 => ?_⟩
    obtain rfl : w5 = .bl true := r5
    refine ⟨_, rfl, iteF ⟨_, rfl, a, _, 1, _, rfl, rfl, SqT.of (s6 _ _ ha), at_of (j := 1) rfl rfl, _, rfl, l, _, rfl, .inl (SqL.of (s6 _ _ hl4)), rfl, flat_strs _, _, rfl, ?_⟩⟩
    show if (if false = true then _ else inV (.str n) ((N.take i).map V.str)) = true then _ else _
    rw [if_neg Bool.false_ne_true, inV_str, decide_eq_false (fun m => ?_)]
    · refine iteF ⟨_, rfl, .inl ⟨rfl, _, SqL.of (s6 _ _ hl4)⟩, _, rfl, a, _, 1, _, rfl, rfl, SqT.of (s6 _ _ ha), at_of (j := 1) rfl rfl, l, _, _, rfl, rfl, s6 _ _ hl4, ?_, ⟨_, _, rfl⟩, (s4.trans s6).mut nl, ?_, ?_, ?_⟩
      · rw [List.length_map, List.length_take]; exact small1000 (by omega)
      · rw [cut_upd List.mem_cons_self]; exact s5.trans (Same.cut s6)
      · rw [upd_ne nql]; exact s6 _ _ hq4
      · rw [take_snoc hn, List.map_append]; exact upd_same
    · have := nd_take (id : Str → Str) (by rw [List.map_id]; exact hnd) hn
      rw [List.map_id] at this
      exact this m
  · rintro σ H4 ⟨⟨c, d, rfl⟩, s4, s5, hq4, hl4⟩
    rw [show (uf ++ ud).length = N.length from rN.len, List.take_length] at hl4
    refine ⟨_, rfl, at_, rfl, ⟨_, SqL.of (s4 _ _ hat)⟩, for_list (K := K) (a := at_) (xs := ut) (fun i σ H' => (∃ c1 c2 c3 c4 c5, σ = [some (.ref af), some (.ref at_), some (.ref l), c, c1, c2, c3, c4, c5]) ∧ Same H H' ∧ H' l = some (.lst (N.map V.str))) ⟨⟨_, _, _, _, _, rfl⟩, s4, hl4⟩ (fun i σ H' _ p => SqL.of (p.2.1 _ _ hat)) ?_ ?_⟩
    · rintro i x σ H5 hx ⟨⟨c1, c2, c3, c4, c5, rfl⟩, s6, hl5⟩
      obtain ⟨t, ht1, rx⟩ := rt.get hx
      obtain ⟨a, ah, lc, b, ws, rfl, ha, hh, hlc, hb, rs⟩ := blk_at (tBlk.mono (cut_sub.trans s6) rx)
      obtain ⟨h4, hnd2, hcs⟩ := ht t (List.mem_of_getElem? ht1)
      refine ⟨a, _, rfl, SqT.of ha, rfl, _, _, rfl, _, _, rfl, rfl, ?_⟩
      refine ⟨_, rfl, ah, _, 1, _, rfl, rfl, SqT.of hh, at_of (j := 1) rfl rfl, szl 1, fun m nm => ?_⟩
      have s7 : Same H5 (upd H5 m (.lst [.str t.name])) := Same.upd nm
      have nml : m ≠ l := fun e => by rw [e, hl5] at nm; cases nm
      refine ⟨_, rfl, ah, _, 2, _, rfl, rfl, SqT.of (s7 _ _ hh), at_of (j := 2) rfl rfl, lc, rfl, ⟨_, SqL.of (s7 _ _ hlc)⟩, for_list (K := K) (a := lc) (xs := t.cols.map V.str) (fun j σ H' => (∃ c4 c5, σ = [some (.ref af), some (.ref at_), some (.ref l), c, some (.ref ah), some (.ref b), some (.ref m), c4, c5]) ∧ Same H5 H' ∧ H' m = some (.lst ((t.name :: t.cols.take j).map V.str))) ⟨⟨_, _, rfl⟩, s7, by rw [List.take_zero]; exact upd_same⟩ (fun j σ H' _ p => SqL.of (p.2.1 _ _ hlc)) ?_ ?_⟩
      · rintro j y σ H6 hy ⟨⟨c4, c5, rfl⟩, s8, hm⟩
        rw [List.getElem?_map] at hy
        obtain ⟨z, hz, rfl⟩ := Option.map_eq_some_iff.mp hy
        refine ⟨_, rfl, _, rfl, l, _, rfl, .inl (SqL.of (s8 _ _ hl5)), rfl, flat_strs _, _, rfl, ?_⟩
        show if (if true = true then !inV (.str z) (N.map V.str) else _) = true then _ else _
        rw [if_pos rfl, inV_str, decide_eq_true (hcs z (List.mem_of_getElem? hz))]
        refine iteF ⟨_, rfl, _, rfl, m, _, rfl, .inl (SqL.of hm), rfl, flat_strs _, _, rfl, ?_⟩
        show if (if false = true then _ else inV (.str z) ((t.name :: t.cols.take j).map V.str)) = true then _ else _
        rw [if_neg Bool.false_ne_true, inV_str, decide_eq_false (fun mm => ?_)]
        · refine iteF ⟨_, rfl, .inl ⟨rfl, _, SqL.of hm⟩, _, rfl, m, _, _, rfl, rfl, hm, ?_, ⟨_, _, rfl⟩, s8.mut nm, ?_⟩
          · rw [List.length_map, List.length_cons, List.length_take]; exact small1000 (by omega)
          · rw [take_snoc hz]
            show upd H6 m _ m = some (.lst ((t.name :: (t.cols.take j ++ [z])).map V.str))
            rw [upd_same, ← List.cons_append, List.map_append]
            rfl
        · have e5 : (t.name :: t.cols)[j + 1]? = some z := hz
          have := nd_take (id : Str → Str) (by rw [List.map_id]; exact hnd2) e5
          rw [List.map_id] at this
          exact this mm
      · rintro σ H6 ⟨⟨c4, c5, rfl⟩, s8, hm⟩
        exact ⟨⟨_, _, _, _, _, rfl⟩, s6.trans s8, s8 _ _ hl5⟩
    · rintro σ H5 ⟨⟨c1, c2, c3, c4, c5, rfl⟩, s6, hl5⟩
      exact k _ _ s6 rfl
end
end Rk
set_option Elab.async false
set_option linter.all false
set_option maxRecDepth 100000
set_option maxHeartbeats 1000000
namespace Rk
open PySem PySem.Spec PyProof.Rows L2
open TL
def domsOf (ds : List (Str × Dom)) (t : TbT) : List Dom := t.cols.map fun c => (look ds c).getD (.words [])
def cellsF (doms : List Dom) (r : List Fl × Int) : List Spans := (r.1.zip doms).map fun p => flV p.2 p.1
/-- the rows of a table, read under these domains -/
structure RowsOk (ds : List (Str × Dom)) (t : TbT) : Prop where
  known : ∀ c ∈ t.cols, ∃ d, look ds c = some d ∧ d.Ok
  len : ∀ r ∈ t.rows, r.1.length = t.cols.length
  fl : ∀ r ∈ t.rows, ∀ (i : Nat) f d, r.1[i]? = some f → (domsOf ds t)[i]? = some d → FlOk d f
theorem when_at {out : Dom} {H : Hp} {v : V} {r : List Fl × Int} (h : (tWhen out).rep H v r) : ∃ a l, v = .ref a ∧ H a = some (.tup [.str "when", .ref l, .str (valS out r.2)]) ∧ H l = some (.lst ((r.1.map flS).map V.str)) := h
section
variable {P : Program} {w : World} {K : PySem.W.Frag} {mg : Str → Option Value} {base : Heap}
abbrev n_domains_read : List Str := ["facts", "blocks", "told", "fact", "head", "rows"]
theorem sc_domains_read : FnScope n_domains_read ["facts", "blocks"] (defScope s_domains_read) := ⟨rfl, rfl, rfl, by decide +kernel, rfl, by decide +kernel, by decide +kernel⟩
theorem ok_domains_read (T : Tx K mg) : Def P w K mg base "domains_read" ["facts", "blocks"] 5 (Sp2 (tLst tFact) (tLst tBlk) (tDic (tDom K)) fun fs ts r => fs.length ≤ 100 ∧ ts.length ≤ 100 ∧ (fs.map (·.1) ++ ts.map (·.name)).Nodup ∧ (∀ p ∈ fs, p.2.Ok) ∧ (∀ t ∈ ts, t.out.Ok) ∧ r = fs ++ ts.map fun t => (t.name, t.out)) := by
  refine ⟨?_, T.g_domains_read, T.f_domains_read.kp, T.f_domains_read.bindsN fun _ _ _ _ _ _ us hl => match us, hl with | [_, _], _ => rfl⟩
  refine fn_body T.f_domains_read sc_domains_read (fun _ _ _ _ h => len2 h) fun cdv A outer s H vs Q E hr h => ?_
  obtain ⟨ls, vf, vt, fs, ts, r, rfl, L, ⟨af, uf, rfl, haf, rf⟩, ⟨at_, ut, rfl, hat, rt⟩, ⟨h20, h30, hnd, hfo, hto, rfl⟩, k⟩ := h
  have haf := cut_at haf
  have hat := cut_at hat
  have e1 := rf.len
  have e2 := rt.len
  refine ⟨_, pss_cons (ps_set (i := 2) sc_domains_read.nd rfl (.inl rfl) pe_dnewK)
  (pss_cons (ps_for PassesOwn.never rfl (pi_list (pv 0)) (pg_name (i := 3) sc_domains_read.nd rfl (.inl rfl))
  (pss_one (ps_dput (hu_of hr) (pv 2) (pe_ix ix_tup (pv 3) pe_int (fun _ _ => rfl)) (pe_cD (ok_read_domain T) hr (pa_cons (pe_ix ix_tup (pv 3) pe_int (fun _ _ => rfl)) pa_nil)) rfl)))
  (pss_cons (ps_for PassesOwn.never rfl (pi_list (pv 1)) (pg_tup (by rfl) (pgs_cons (pg_name (i := 4) sc_domains_read.nd rfl (.inl rfl)) (pgs_cons (pg_name (i := 5) sc_domains_read.nd rfl (.inl rfl)) pgs_nil)))
  (pss_one (ps_dput (hu_of hr) (pv 2) (pe_ix ix_tup (pv 4) pe_int (fun _ _ => rfl)) (pe_cD (ok_read_domain T) hr (pa_cons (pe_ix ix_tup (pv 4) pe_int (fun _ _ => rfl)) pa_nil)) rfl)))
  (pss_one (ps_ret (pv 2))))), ?_⟩
  intro d nd
  have s0 : Same H (upd H d (.dK [])) := Same.upd nd
  refine ⟨_, rfl, af, rfl, ⟨_, SqL.of (s0 _ _ haf)⟩, for_list (K := K) (a := af) (xs := uf) (fun i σ H' => (∃ c, σ = [some (.ref af), some (.ref at_), some (.ref d), c, none, none]) ∧ Same H H' ∧ ∃ ws, H' d = some (.dK ws) ∧ Ps (tDom K) (cut H' (d :: ls)) ws (fs.take i)) ⟨⟨_, rfl⟩, s0, [], upd_same, by rw [List.take_zero]; trivial⟩ (fun i σ H' _ p => SqL.of (p.2.1 _ _ haf)) ?_ ?_⟩
  · rintro i x σ H1 hx ⟨⟨c, rfl⟩, s1, ws, hd, hps⟩
    obtain ⟨p, hp, rx⟩ := rf.get hx
    obtain ⟨a, rfl, ha⟩ := fact_at rx
    have ha := s1 _ _ (cut_at ha)
    have hi := (List.getElem?_eq_some_iff.mp hp).1
    have hnew : p.1 ∉ (fs.take i).map (·.1) := nd_take (·.1) (List.nodup_append.mp hnd).1 hp
    refine ⟨_, rfl, a, _, 2, _, rfl, rfl, SqT.of ha, at_of (j := 2) rfl rfl, ?_⟩
    refine ⟨d :: ls, _, _, p.2, rfl, Live.cons hd (L.to s1), rfl, ⟨hfo p (List.mem_of_getElem? hp), rfl⟩, fun H2 w2 s2 r2 => ?_⟩
    have hlen := hps.len
    rw [List.length_take] at hlen
    refine ⟨_, rfl, _, rfl, a, _, 1, _, rfl, rfl, SqT.of (s2 _ _ ha), at_of (j := 1) rfl rfl, d, _, rfl, DPut.k (k := Sum.inr p.1) (s2 _ _ hd) (small1000 (by omega)), ⟨_, rfl⟩, (s1.trans s2).mut nd, _, upd_same, ?_⟩
    rw [cut_upd List.mem_cons_self, take_snoc hp]
    have := Ps.put p.1 r2 (hps.mono (Same.cut s2))
    rw [put_new hnew] at this
    exact this
  rintro σ H1 ⟨⟨c, rfl⟩, s1, ws, hd, hps⟩
  rw [e1, List.take_length] at hps
  refine ⟨_, rfl, at_, rfl, ⟨_, SqL.of (s1 _ _ hat)⟩, for_list (K := K) (a := at_) (xs := ut) (fun i σ H' => (∃ c1 c2, σ = [some (.ref af), some (.ref at_), some (.ref d), c, c1, c2]) ∧ Same H H' ∧ ∃ ws, H' d = some (.dK ws) ∧ Ps (tDom K) (cut H' (d :: ls)) ws (fs ++ (ts.take i).map fun t => (t.name, t.out))) ⟨⟨_, _, rfl⟩, s1, ws, hd, by rw [List.take_zero, List.map_nil, List.append_nil]; exact hps⟩ (fun i σ H' _ p => SqL.of (p.2.1 _ _ hat)) ?_ ?_⟩
  · rintro i x σ H2 hx ⟨⟨c1, c2, rfl⟩, s2, ws2, hd2, hps2⟩
    obtain ⟨t, ht1, rx⟩ := rt.get hx
    obtain ⟨a, ah, lc, b, ws, rfl, ha, hh, hlc, hb, rs⟩ := blk_at (tBlk.mono (cut_sub.trans s2) rx)
    have hi := (List.getElem?_eq_some_iff.mp hx).1
    have hnew : t.name ∉ (fs ++ (ts.take i).map fun t => (t.name, t.out)).map (·.1) := by
      intro m
      rw [List.map_append, List.map_map] at m
      rcases List.mem_append.mp m with m | m
      · exact (List.nodup_append.mp hnd).2.2 t.name m t.name (List.mem_map.mpr ⟨t, List.mem_of_getElem? ht1, rfl⟩) rfl
      · exact nd_take (·.name) (List.nodup_append.mp hnd).2.1 ht1 m
    refine ⟨a, _, rfl, SqT.of ha, rfl, _, _, rfl, _, _, rfl, rfl, ?_⟩
    refine ⟨_, rfl, ah, _, 3, _, rfl, rfl, SqT.of hh, at_of (j := 3) rfl rfl, ?_⟩
    refine ⟨d :: ls, _, _, t.out, rfl, Live.cons hd2 (L.to s2), rfl, ⟨hto t (List.mem_of_getElem? ht1), rfl⟩, fun H3 w3 s3 r3 => ?_⟩
    have hlen := hps2.len
    rw [List.length_append, List.length_map, List.length_take] at hlen
    refine ⟨_, rfl, _, rfl, ah, _, 1, _, rfl, rfl, SqT.of (s3 _ _ hh), at_of (j := 1) rfl rfl, d, _, rfl, DPut.k (k := Sum.inr t.name) (s3 _ _ hd2) (small1000 (by omega)), ⟨_, _, rfl⟩, (s2.trans s3).mut nd, _, upd_same, ?_⟩
    rw [cut_upd List.mem_cons_self, take_snoc ht1, List.map_append, ← List.append_assoc]
    have := Ps.put t.name r3 (hps2.mono (Same.cut s3))
    rw [put_new hnew] at this
    exact this
  · rintro σ H2 ⟨⟨c1, c2, rfl⟩, s2, ws2, hd2, hps2⟩
    rw [e2, List.take_length] at hps2
    exact ⟨_, rfl, k _ _ s2 ⟨d, ws2, rfl, at_cut (L.no nd) hd2, hps2.mono Same.less1⟩⟩
abbrev n_look_at_ways : List Str := ["blocks", "domains", "head", "rows", "way"]
theorem sc_look_at_ways : FnScope n_look_at_ways ["blocks", "domains"] (defScope s_look_at_ways) := ⟨rfl, rfl, rfl, by decide +kernel, rfl, by decide +kernel, by decide +kernel⟩
theorem ok_look_at_ways (T : Tx K mg) : Def P w K mg base "look_at_ways" ["blocks", "domains"] 5 (Sp2 (tLst tBlk) (tDic (tDom K)) tNon fun ts ds r => ∀ t ∈ ts, look ds t.name = some t.out ∧ (t.way = .sum → ∃ lo hi, t.out = .num lo hi)) := by
  refine ⟨?_, T.g_look_at_ways, T.f_look_at_ways.kp, T.f_look_at_ways.bindsN fun _ _ _ _ _ _ us hl => match us, hl with | [_, _], _ => rfl⟩
  refine fn_body T.f_look_at_ways sc_look_at_ways (fun _ _ _ _ h => len2 h) fun cdv A outer s H vs Q E hr h => ?_
  obtain ⟨ls, vt, vd, ts, ds, r, rfl, L, ⟨at_, ut, rfl, hat, rt⟩, ⟨ad, wd, rfl, had, hps⟩, ht, k⟩ := h
  have hat := cut_at hat
  have had := cut_at had
  have hps := hps.mono cut_sub
  refine ⟨_, pss_one (ps_for PassesOwn.never rfl (pi_list (pv 0)) (pg_tup (by rfl) (pgs_cons (pg_name (i := 2) sc_look_at_ways.nd rfl (.inl rfl)) (pgs_cons (pg_name (i := 3) sc_look_at_ways.nd rfl (.inl rfl)) pgs_nil)))
  (pss_cons (ps_set (i := 4) sc_look_at_ways.nd rfl (.inl rfl) (pe_cD (ok_way_by T) hr (pa_cons (pe_ix ix_tup (pv 2) pe_int (fun _ _ => rfl)) pa_nil)))
  (pss_one (ps_if (PW.pt (pw_and (pt_cmpR op_eq (pe_fld (pv 4) rfl) pe_str (nomark _)) (pw_and1 (pt_val (pe_callB call_isi (by rfl) T.n_isinstance (by decide +kernel) (pa_cons (pe_dget (hu_of hr) (pv 1) (pe_ix ix_tup (pv 2) pe_int (fun _ _ => rfl)) (fun _ _ => rfl)) (pa_cons (pe_gc T.g_Words) pa_nil))))))) (pss_one ps_never) pss_nil)))), ?_⟩
  refine ⟨_, rfl, at_, rfl, ⟨_, SqL.of hat⟩, for_list (K := K) (a := at_) (xs := ut) (fun i σ H' => (∃ c d e, σ = [some (.ref at_), some (.ref ad), c, d, e]) ∧ Same H H') ⟨⟨_, _, _, rfl⟩, Same.refl _⟩ (fun i σ H' _ p => SqL.of (p.2 _ _ hat)) ?_ ?_⟩
  · rintro i x σ H1 hx ⟨⟨c, d, e, rfl⟩, s1⟩
    obtain ⟨t, ht1, rx⟩ := rt.get hx
    obtain ⟨a, ah, l, b, ws, rfl, ha, hh, hl, hb, rs⟩ := blk_at (tBlk.mono (cut_sub.trans s1) rx)
    obtain ⟨hlk, hsum⟩ := ht t (List.mem_of_getElem? ht1)
    refine ⟨a, _, rfl, SqT.of ha, rfl, _, _, rfl, _, _, rfl, rfl, ?_⟩
    refine ⟨_, rfl, ah, _, 4, _, rfl, rfl, SqT.of hh, at_of (j := 4) rfl rfl, ls, _, _, t.way, rfl, L.to s1, rfl, rfl, fun H2 w2 s2 r2 => ?_⟩
    obtain ⟨aw, dw, rfl, haw⟩ := r2
    have haw := cut_at haw
    have s12 := s1.trans s2
    obtain ⟨cl, na⟩ : Cls K (He.ga K t.way.cls) ∧ NoAttr K (He.ga K t.way.cls) "called" := by
      cases t.way
      · exact ⟨T.c_First, T.a_First_called⟩
      · exact ⟨T.c_Only, T.a_Only_called⟩
      · exact ⟨T.c_Like, T.a_Like_called⟩
      · exact ⟨T.c_Low, T.a_Low_called⟩
      · exact ⟨T.c_High, T.a_High_called⟩
      · exact ⟨T.c_Sum, T.a_Sum_called⟩
    refine ⟨_, rfl, aw, _, dw, _, _, rfl, haw, cl, na, hk_ _ _, rfl, _, rfl, ?_⟩
    refine ite2 (fun c => ?_) (fun c => ?_)
    · have c := V.str.inj (ydec c)
      have hs : t.way = .sum := by
        cases hy : t.way with
        | sum => rfl
        | _ => rw [hy] at c; exact absurd c (by decide +kernel)
      obtain ⟨lo, hi, eo⟩ := hsum hs
      obtain ⟨v, hv, rv⟩ := hps.find hlk
      obtain ⟨tt, ty, kk⟩ := dom_isW T ((tDom K).mono s12 rv)
      have kk' : PySem.W.kitOne K tt (.ref (He.ga K "Words")) = some false := by rw [eo] at kk; exact kk
      refine ⟨_, rfl, _, rfl, ah, _, 1, _, rfl, rfl, SqT.of (s2 _ _ hh), at_of (j := 1) rfl rfl, ad, v, rfl, by rw [← hv]; exact DGet.k (k := Sum.inr t.name) (s12 _ _ had), _, _, _, _, _, rfl, .own _, ty, kk', _, rfl, iteF ⟨⟨_, _, _, rfl⟩, s12⟩⟩
    · exact ⟨⟨_, _, _, rfl⟩, s12⟩
  · rintro σ H1 ⟨⟨c, d, e, rfl⟩, s1⟩
    exact k _ _ s1 rfl
abbrev n_look_at_fields : List Str := ["blocks", "head", "rows", "row"]
theorem sc_look_at_fields : FnScope n_look_at_fields ["blocks"] (defScope s_look_at_fields) := ⟨rfl, rfl, rfl, by decide +kernel, rfl, by decide +kernel, by decide +kernel⟩
theorem ok_look_at_fields (T : Tx K mg) : Def P w K mg base "look_at_fields" ["blocks"] 1 (Sp1 (tLst tBlk) tNon fun ts r => ∀ t ∈ ts, ∀ r ∈ t.rows, r.1.length = t.cols.length) := by
  refine ⟨?_, T.g_look_at_fields, T.f_look_at_fields.kp, T.f_look_at_fields.bindsN fun _ _ _ _ _ _ us hl => match us, hl with | [_], _ => rfl⟩
  refine fn_body T.f_look_at_fields sc_look_at_fields (fun _ _ _ _ h => len1 h) fun cdv A outer s H vs Q E hr h => ?_
  obtain ⟨ls, vt, ts, r, rfl, L, ⟨at_, ut, rfl, hat, rt⟩, ht, k⟩ := h
  have hat := cut_at hat
  refine ⟨_, pss_one (ps_for PassesOwn.never rfl (pi_list (pv 0)) (pg_tup (by rfl) (pgs_cons (pg_name (i := 1) sc_look_at_fields.nd rfl (.inl rfl)) (pgs_cons (pg_name (i := 2) sc_look_at_fields.nd rfl (.inl rfl)) pgs_nil)))
  (pss_one (ps_for PassesOwn.never rfl (pi_list (pv 2)) (pg_name (i := 3) sc_look_at_fields.nd rfl (.inl rfl))
  (pss_one (ps_if (pt_cmpR op_ne (pe_callB call_len_seq (by rfl) T.n_len PySem.boot_len (pa_cons (pe_ix ix_tup (pv 3) pe_int (fun _ _ => rfl)) pa_nil)) (pe_callB call_len_seq (by rfl) T.n_len PySem.boot_len (pa_cons (pe_ix ix_tup (pv 1) pe_int (fun _ _ => rfl)) pa_nil)) (nomark _)) (pss_one ps_never) pss_nil))))), ?_⟩
  refine ⟨_, rfl, at_, rfl, ⟨_, SqL.of hat⟩, for_list (K := K) (a := at_) (xs := ut) (fun i σ H' => (∃ c d e, σ = [some (.ref at_), c, d, e]) ∧ Same H H') ⟨⟨_, _, _, rfl⟩, Same.refl _⟩ (fun i σ H' _ p => SqL.of (p.2 _ _ hat)) ?_ ?_⟩
  · rintro i x σ H1 hx ⟨⟨c, d, e, rfl⟩, s1⟩
    obtain ⟨t, ht1, rx⟩ := rt.get hx
    obtain ⟨a, ah, l, b, ws, rfl, ha, hh, hl, hb, rs⟩ := blk_at (tBlk.mono (cut_sub.trans s1) rx)
    have hlen := ht t (List.mem_of_getElem? ht1)
    refine ⟨a, _, rfl, SqT.of ha, rfl, _, _, rfl, _, _, rfl, rfl, ?_⟩
    refine ⟨_, rfl, b, rfl, ⟨_, SqL.of hb⟩, for_list (K := K) (a := b) (xs := ws) (fun i σ H' => (∃ e, σ = [some (.ref at_), some (.ref ah), some (.ref b), e]) ∧ Same H1 H') ⟨⟨_, rfl⟩, Same.refl _⟩ (fun i σ H' _ p => SqL.of (p.2 _ _ hb)) ?_ ?_⟩
    · rintro j y σ H2 hy ⟨⟨e, rfl⟩, s2⟩
      obtain ⟨row, hrow, ry⟩ := rs.get hy
      obtain ⟨ar, lr, rfl, har, hlr⟩ := when_at ry
      refine ⟨_, rfl, ar, _, 1, _, rfl, rfl, SqT.of (s2 _ _ har), at_of (j := 1) rfl rfl, lr, _, rfl, .inl (SqL.of (s2 _ _ hlr)), _, rfl, ah, _, 2, _, rfl, rfl, SqT.of (s2 _ _ hh), at_of (j := 2) rfl rfl, l, _, rfl, .inl (SqL.of (s2 _ _ hl)), rfl, _, rfl, iteNS ?_ ⟨⟨_, rfl⟩, s2⟩⟩
      rw [List.length_map, List.length_map, List.length_map, hlen row (List.mem_of_getElem? hrow)]
    · rintro σ H2 ⟨⟨e, rfl⟩, s2⟩
      exact ⟨⟨_, _, _, rfl⟩, s1.trans s2⟩
  · rintro σ H1 ⟨⟨c, d, e, rfl⟩, s1⟩
    exact k _ _ s1 rfl
abbrev n_cells_read : List Str := ["block", "domains", "told", "row", "name", "field"]
theorem sc_cells_read : FnScope n_cells_read ["block", "domains"] (defScope s_cells_read) := ⟨rfl, rfl, rfl, by decide +kernel, rfl, by decide +kernel, by decide +kernel⟩
theorem ok_cells_read (T : Tx K mg) : Def P w K mg base "cells_read" ["block", "domains"] 7 (Sp2 tBlk (tDic (tDom K)) (tLst (tLst tSpans)) fun t ds r => RowsOk ds t ∧ t.rows.length ≤ 200 ∧ t.cols.length ≤ 4 ∧ r = t.rows.map (cellsF (domsOf ds t))) := by
  refine ⟨?_, T.g_cells_read, T.f_cells_read.kp, T.f_cells_read.bindsN fun _ _ _ _ _ _ us hl => match us, hl with | [_, _], _ => rfl⟩
  refine fn_body T.f_cells_read sc_cells_read (fun _ _ _ _ h => len2 h) fun cdv A outer s H vs Q E hr h => ?_
  obtain ⟨ls, vt, vd, t, ds, r, rfl, L, rx, ⟨ad, wd, rfl, had, hps⟩, ⟨ok, h200, h4, rfl⟩, k⟩ := h
  obtain ⟨a, ah, lc, b, ws, rfl, ha, hh, hlc, hb, rs⟩ := blk_at (tBlk.mono cut_sub rx)
  have had := cut_at had
  have e1 := rs.len
  refine ⟨_, pss_cons (ps_set (i := 2) sc_cells_read.nd rfl (.inl rfl) (pe_lst pa_nil))
  (pss_cons (ps_for PassesOwn.never rfl (pi_list (pe_ix ix_tup (pv 0) pe_int (fun _ _ => rfl))) (pg_name (i := 3) sc_cells_read.nd rfl (.inl rfl))
  (pss_one (ps_expr (pe_bm PySem.F.plainAttrs_list PySem.F.slot_list_append PySem.F.type_list_append mt_append (pv 2) (pa_cons (pe_lc (own := [("name", 4), ("field", 5)]) (g := gTup _ 2 (gCons (gName 4) (gCons (gName 5) gNil))) rfl sc_cells_read.nd (pi_zip (by rfl) T.n_zip (pa_cons (pe_ix ix_tup (pe_ix ix_tup (pv 0) pe_int (fun _ _ => rfl)) pe_int (fun _ _ => rfl)) (pa_cons (pe_ix ix_tup (pv 3) pe_int (fun _ _ => rfl)) pa_nil))) (blkOk_by (own := [("name", 4), ("field", 5)]) (N := n_cells_read) (sc := defScope s_cells_read) (by decide +kernel)) (fun _ _ _ _ _ => (pg_tup (by rfl) (pgs_cons (pg_name (i := 4) sc_cells_read.nd rfl (.inl rfl)) (pgs_cons (pg_name (i := 5) sc_cells_read.nd rfl (.inl rfl)) pgs_nil)))) (fun _ _ _ _ _ => pts_nil) (fun _ _ _ _ _ => (pe_cD (ok_read_cell T) hr (pa_cons (pe_dget (hu_of hr) (pv 1) (pv 4) (fun _ _ => rfl)) (pa_cons (pv 5) pa_nil))))) pa_nil)))))
  (pss_one (ps_ret (pv 2)))), ?_⟩
  refine ⟨Nat.zero_le _, fun l nl => ?_⟩
  have s0 : Same H (upd H l (.lst [])) := Same.upd nl
  refine ⟨_, rfl, a, _, 1, _, rfl, rfl, SqT.of (s0 _ _ ha), at_of (j := 1) rfl rfl, b, rfl, ⟨_, SqL.of (s0 _ _ hb)⟩, for_list (K := K) (a := b) (xs := ws) (fun i σ H' => (∃ c d e, σ = [some (.ref a), some (.ref ad), some (.ref l), c, d, e]) ∧ Same H H' ∧ ∃ us, H' l = some (.lst us) ∧ Rs (tLst tSpans) (cut H' (l :: ls)) us ((t.rows.take i).map (cellsF (domsOf ds t)))) ⟨⟨_, _, _, rfl⟩, s0, [], upd_same, by rw [List.take_zero]; trivial⟩ (fun i σ H' _ p => SqL.of (p.2.1 _ _ hb)) ?_ ?_⟩
  · rintro i x σ H1 hx ⟨⟨c, d, e, rfl⟩, s1, us, hl, hus⟩
    obtain ⟨row, hrow, ry⟩ := rs.get hx
    obtain ⟨ar, lr, rfl, har, hlr⟩ := when_at ry
    have hi := (List.getElem?_eq_some_iff.mp hx).1
    have hrm := List.mem_of_getElem? hrow
    have hlen := ok.len row hrm
    have hul := hus.len
    rw [List.length_map, List.length_take] at hul
    have hdl : (domsOf ds t).length = t.cols.length := List.length_map _
    refine ⟨_, rfl, .inl ⟨rfl, _, SqL.of hl⟩, ?_⟩
    refine ⟨_, rfl, a, _, 0, _, rfl, rfl, SqT.of (s1 _ _ ha), at_of (j := 0) rfl rfl, ah, _, 2, _, rfl, rfl, SqT.of (s1 _ _ hh), at_of (j := 2) rfl rfl, _, rfl, ar, _, 1, _, rfl, rfl, SqT.of (s1 _ _ har), at_of (j := 1) rfl rfl, lc, lr, _, _, rfl, SqL.of (s1 _ _ hlc), SqL.of (s1 _ _ hlr), fun D nD => ?_⟩
    refine lc_map (walk_zip (K := K) (a := lc) (b := lr) (xs := t.cols.map V.str) (ys := (row.1.map flS).map V.str) rfl) (u := tSpans) (ls := l :: ls) (cellsF (domsOf ds t) row) nD (Live.cons hl (L.to s1)) (by rw [List.length_map]; omega) (by unfold cellsF; rw [List.length_map, List.length_zip, List.length_map, List.length_map, List.length_map]; omega) (fun H' s' => ⟨SqL.of (s' _ _ (s1 _ _ hlc)), SqL.of (s' _ _ (s1 _ _ hlr))⟩) ?_ ?_
    · rintro j y sp H2 H3 R hsp s2 sc L2 ⟨tt, z1, z2, rfl, nt, rfl, hz1, hz2⟩ hR
      have hz1 : (t.cols.map V.str)[j]? = some z1 := hz1
      rw [List.getElem?_map] at hz1
      obtain ⟨c, hc, rfl⟩ := Option.map_eq_some_iff.mp hz1
      have hz2 : ((row.1.map flS).map V.str)[j]? = some z2 := hz2
      rw [List.getElem?_map, List.getElem?_map] at hz2
      obtain ⟨fx, hfx, rfl⟩ := Option.map_eq_some_iff.mp hz2
      obtain ⟨f, hf, rfl⟩ := Option.map_eq_some_iff.mp hfx
      obtain ⟨d, hd, dok⟩ := ok.known c (List.mem_of_getElem? hc)
      have hdj : (domsOf ds t)[j]? = some d := by
        unfold domsOf
        rw [List.getElem?_map, hc]
        show some ((look ds c).getD _) = _
        rw [hd]; rfl
      have esp : sp = flV d f := by
        unfold cellsF at hsp
        rw [List.getElem?_map, (show (row.1.zip (domsOf ds t))[j]? = some (f, d) from List.getElem?_zip_eq_some.mpr ⟨hf, hdj⟩)] at hsp
        exact (Option.some.inj hsp).symm
      subst esp
      obtain ⟨v, hv, rv⟩ := hps.find hd
      have s3 : Same H2 (upd H2 tt (.tup [.str c, .str (flS f)])) := Same.upd nt
      refine ⟨tt, _, rfl, SqT.of upd_same, rfl, _, _, rfl, _, _, rfl, rfl, rfl, ?_⟩
      refine ⟨_, rfl, _, rfl, ad, v, rfl, by rw [← hv]; exact DGet.k (k := Sum.inr c) (s3 _ _ (s2 _ _ (s1 _ _ had))), _, rfl, ?_⟩
      have scc := ((s1.more1 nl).trans sc).trans s3.cut
      refine ⟨_, _, _, d, _, _, rfl, L2.to s3, (tDom K).mono scc rv, rfl, ⟨f, dok, ok.fl row hrm j f d hf hdj, rfl, rfl⟩, fun H4 w4 s4 r4 => hR _ _ (s3.trans s4) r4⟩
    · intro H2 s2 rD
      refine ⟨l, _, _, rfl, rfl, s2 _ _ hl, small1000 (by omega), ⟨_, _, _, rfl⟩, (s1.trans s2).mut nl, _, upd_same, ?_⟩
      rw [cut_upd List.mem_cons_self, take_snoc hrow, List.map_append]
      exact (hus.mono (Same.cut s2)).snoc rD
  · rintro σ H1 ⟨⟨c, d, e, rfl⟩, s1, us, hl, hus⟩
    rw [e1, List.take_length] at hus
    exact ⟨_, rfl, k _ _ s1 ⟨l, us, rfl, at_cut (L.no nl) hl, hus.mono Same.less1⟩⟩
abbrev n_look_at_values : List Str := ["blocks", "domains", "head", "rows", "row"]
theorem sc_look_at_values : FnScope n_look_at_values ["blocks", "domains"] (defScope s_look_at_values) := ⟨rfl, rfl, rfl, by decide +kernel, rfl, by decide +kernel, by decide +kernel⟩
theorem ok_look_at_values (T : Tx K mg) : Def P w K mg base "look_at_values" ["blocks", "domains"] 2 (Sp2 (tLst tBlk) (tDic (tDom K)) tNon fun ts ds r => ∀ t ∈ ts, look ds t.name = some t.out ∧ t.out.Ok ∧ ∀ r ∈ t.rows, t.out.lo ≤ r.2 ∧ r.2 ≤ t.out.hi) := by
  refine ⟨?_, T.g_look_at_values, T.f_look_at_values.kp, T.f_look_at_values.bindsN fun _ _ _ _ _ _ us hl => match us, hl with | [_, _], _ => rfl⟩
  refine fn_body T.f_look_at_values sc_look_at_values (fun _ _ _ _ h => len2 h) fun cdv A outer s H vs Q E hr h => ?_
  obtain ⟨ls, vt, vd, ts, ds, r, rfl, L, ⟨at_, ut, rfl, hat, rt⟩, ⟨ad, wd, rfl, had, hps⟩, ht, k⟩ := h
  have hat := cut_at hat
  have had := cut_at had
  have hps := hps.mono cut_sub
  refine ⟨_, pss_one (ps_for PassesOwn.never rfl (pi_list (pv 0)) (pg_tup (by rfl) (pgs_cons (pg_name (i := 2) sc_look_at_values.nd rfl (.inl rfl)) (pgs_cons (pg_name (i := 3) sc_look_at_values.nd rfl (.inl rfl)) pgs_nil)))
  (pss_one (ps_if (pt_not (pt_val (pe_callB call_isi (by rfl) T.n_isinstance (by decide +kernel) (pa_cons (pe_dget (hu_of hr) (pv 1) (pe_ix ix_tup (pv 2) pe_int (fun _ _ => rfl)) (fun _ _ => rfl)) (pa_cons (pe_gc T.g_Words) pa_nil))))) (pss_one (ps_for PassesOwn.never rfl (pi_list (pv 3)) (pg_name (i := 4) sc_look_at_values.nd rfl (.inl rfl))
  (pss_one (ps_expr (pe_cD (ok_number_of T) hr (pa_cons (pe_ix ix_tup (pv 4) pe_int (fun _ _ => rfl)) pa_nil)))))) pss_nil))), ?_⟩
  refine ⟨_, rfl, at_, rfl, ⟨_, SqL.of hat⟩, for_list (K := K) (a := at_) (xs := ut) (fun i σ H' => (∃ c d e, σ = [some (.ref at_), some (.ref ad), c, d, e]) ∧ Same H H') ⟨⟨_, _, _, rfl⟩, Same.refl _⟩ (fun i σ H' _ p => SqL.of (p.2 _ _ hat)) ?_ ?_⟩
  · rintro i x σ H1 hx ⟨⟨c, d, e, rfl⟩, s1⟩
    obtain ⟨t, ht1, rx⟩ := rt.get hx
    obtain ⟨a, ah, l, b, ws, rfl, ha, hh, hl, hb, rs⟩ := blk_at (tBlk.mono (cut_sub.trans s1) rx)
    obtain ⟨hlk, hok, hrow⟩ := ht t (List.mem_of_getElem? ht1)
    obtain ⟨v, hv, rv⟩ := hps.find hlk
    obtain ⟨tt, ty, kk⟩ := dom_isW T ((tDom K).mono s1 rv)
    refine ⟨a, _, rfl, SqT.of ha, rfl, _, _, rfl, _, _, rfl, rfl, ?_⟩
    refine ⟨_, rfl, _, rfl, ah, _, 1, _, rfl, rfl, SqT.of hh, at_of (j := 1) rfl rfl, ad, v, rfl, by rw [← hv]; exact DGet.k (k := Sum.inr t.name) (s1 _ _ had), _, _, _, _, _, rfl, .own _, ty, kk, _, rfl, ?_⟩
    cases eo : t.out with
    | words wds => exact iteF ⟨⟨_, _, _, rfl⟩, s1⟩
    | num lo hi =>
      rw [eo] at hok hrow
      obtain ⟨_, n1, n2⟩ := hok.num lo hi rfl
      refine iteT ?_
      refine ⟨_, rfl, b, rfl, ⟨_, SqL.of hb⟩, for_list (K := K) (a := b) (xs := ws) (fun i σ H' => (∃ e, σ = [some (.ref at_), some (.ref ad), some (.ref ah), some (.ref b), e]) ∧ Same H1 H') ⟨⟨_, rfl⟩, Same.refl _⟩ (fun i σ H' _ p => SqL.of (p.2 _ _ hb)) ?_ ?_⟩
      · rintro j y σ H2 hy ⟨⟨e, rfl⟩, s2⟩
        obtain ⟨row, hrw, ry⟩ := rs.get hy
        obtain ⟨ar, lr, rfl, har, hlr⟩ := when_at ry
        obtain ⟨g1, g2⟩ := hrow row (List.mem_of_getElem? hrw)
        rw [eo] at har
        refine ⟨_, rfl, ar, _, 2, _, rfl, rfl, SqT.of (s2 _ _ har), at_of (j := 2) rfl rfl, ?_⟩
        exact ⟨[], _, _, row.2, rfl, Live.nil, rfl, ⟨rfl, small_in n1 n2 g1 g2⟩, fun H3 w3 s3 _ => ⟨⟨_, rfl⟩, s2.trans s3⟩⟩
      · rintro σ H2 ⟨⟨e, rfl⟩, s2⟩
        exact ⟨⟨_, _, _, rfl⟩, s1.trans s2⟩
  · rintro σ H1 ⟨⟨c, d, e, rfl⟩, s1⟩
    exact k _ _ s1 rfl
end
end Rk
set_option Elab.async false
set_option linter.all false
set_option maxRecDepth 100000
set_option maxHeartbeats 1000000
namespace Rk
open PySem PySem.Spec PyProof.Rows L2
open TL
def tabOf (ds : List (Str × Dom)) (t : TbT) : Tab := ⟨t.name, t.cols, domsOf ds t, t.out, t.way, t.rows.map fun r => (cellsF (domsOf ds t) r, r.2)⟩
section
variable {P : Program} {w : World} {K : PySem.W.Frag} {mg : Str → Option Value} {base : Heap}
abbrev n_table_read : List Str := ["block", "cells", "domains", "head", "outcome", "rows", "taken", "row", "name"]
theorem sc_table_read : FnScope n_table_read ["block", "cells", "domains"] (defScope s_table_read) := ⟨rfl, rfl, rfl, by decide +kernel, rfl, by decide +kernel, by decide +kernel⟩
theorem ok_table_read (T : Tx K mg) : Def P w K mg base "table_read" ["block", "cells", "domains"] 7 (Sp3 tBlk (tLst (tLst tSpans)) (tDic (tDom K)) (tTab K) fun t cs ds r => RowsOk ds t ∧ look ds t.name = some t.out ∧ t.out.Ok ∧ (∀ r ∈ t.rows, t.out.lo ≤ r.2 ∧ r.2 ≤ t.out.hi) ∧ cs = t.rows.map (cellsF (domsOf ds t)) ∧ TabOk (tabOf ds t) ∧ r = tabOf ds t) := by
  refine ⟨?_, T.g_table_read, T.f_table_read.kp, T.f_table_read.bindsN fun _ _ _ _ _ _ us hl => match us, hl with | [_, _, _], _ => rfl⟩
  refine fn_body T.f_table_read sc_table_read (fun _ _ _ _ h => len3 h) fun cdv A outer s H vs Q E hr h => ?_
  obtain ⟨ls, vt, vc, vd, t, cs, ds, r, rfl, L, rx, ⟨ac, uc, rfl, hac, rc⟩, ⟨ad, wd, rfl, had, hps⟩, ⟨ok, hlk, hout, hval, rfl, tok, rfl⟩, k⟩ := h
  obtain ⟨a, ah, lc, b, ws, rfl, ha, hh, hlc, hb, rs⟩ := blk_at (tBlk.mono cut_sub rx)
  have hlcn : cut H ls lc = some (.lst (t.cols.map V.str)) := by
    obtain ⟨a', v1, v2, e, ha', ⟨ah', l', e1, hh', hl'⟩, _⟩ := rx
    cases e
    have := cut_at ha'
    rw [ha] at this
    cases this
    cases e1
    have := cut_at hh'
    rw [hh] at this
    cases this
    exact hl'
  have had := cut_at had
  have hac := cut_at hac
  have e1 := rs.len
  have e2 := rc.len
  rw [List.length_map] at e2
  have h200 : t.rows.length ≤ 200 := by have := tok.most; unfold tabOf at this; rw [List.length_map] at this; exact this
  obtain ⟨v, hv, rv⟩ := hps.find hlk
  refine ⟨_, pss_cons (ps_set (i := 3) sc_table_read.nd rfl (.inl rfl) (pe_ix ix_tup (pv 0) pe_int (fun _ _ => rfl)))
  (pss_cons (ps_set (i := 4) sc_table_read.nd rfl (.inr rfl) (pe_dget (hu_of hr) (pv 2) (pe_ix ix_tup (pv 3) pe_int (fun _ _ => rfl)) (fun _ _ => rfl)))
  (pss_cons (ps_setLc (i := 5) (own := [("taken", 6), ("row", 7)]) (g := gTup _ 2 (gCons (gName 6) (gCons (gName 7) gNil))) rfl sc_table_read.nd rfl rfl (sw_true rfl rfl rfl (by decide +kernel)) (pi_zip (by rfl) T.n_zip (pa_cons (pv 1) (pa_cons (pe_ix ix_tup (pv 0) pe_int (fun _ _ => rfl)) pa_nil))) (blkOk_by (own := [("taken", 6), ("row", 7)]) (N := n_table_read) (sc := defScope s_table_read) (by decide +kernel)) (fun _ _ _ _ _ => (pg_tup (by rfl) (pgs_cons (pg_name (i := 6) sc_table_read.nd rfl (.inl rfl)) (pgs_cons (pg_name (i := 7) sc_table_read.nd rfl (.inl rfl)) pgs_nil)))) (fun _ _ _ _ _ => pts_nil) (fun _ _ _ _ _ => (pe_tup (pa_cons (pv 6) (pa_cons (pe_cD (ok_read_value T) hr (pa_cons (pv 4) (pa_cons (pe_ix (ixT (K := K)) (pv 7) pe_int (fun _ _ => rfl)) pa_nil))) pa_nil)))))
  (pss_one (ps_ret (pe_mkD (mk_Table T) hr (pa_cons (pe_ix ix_tup (pv 3) pe_int (fun _ _ => rfl)) (pa_cons (pe_ix ix_tup (pv 3) pe_int (fun _ _ => rfl)) (pa_cons (pe_lc (own := [("name", 8)]) (g := gName 8) rfl sc_table_read.nd (pi_list (pe_ix ix_tup (pv 3) pe_int (fun _ _ => rfl))) (blkOk_by (own := [("name", 8)]) (N := n_table_read) (sc := defScope s_table_read) (by decide +kernel)) (fun _ _ _ _ _ => (pg_name (i := 8) sc_table_read.nd rfl (.inl rfl))) (fun _ _ _ _ _ => pts_nil) (fun _ _ _ _ _ => (pe_dget (hu_of hr) (pv 2) (pv 8) (fun _ _ => rfl)))) (pa_cons (pv 4) (pa_cons (pe_ix ix_tup (pv 3) pe_int (fun _ _ => rfl)) (pa_cons (pv 5) pa_nil))))))))))), ?_⟩
  refine ⟨_, rfl, a, _, 0, _, rfl, rfl, SqT.of ha, at_of (j := 0) rfl rfl, ?_⟩
  refine ⟨_, rfl, _, rfl, ah, _, 1, _, rfl, rfl, SqT.of hh, at_of (j := 1) rfl rfl, ad, v, rfl, by rw [← hv]; exact DGet.k (k := Sum.inr t.name) had, ?_⟩
  refine ⟨_, rfl, _, rfl, a, _, 1, _, rfl, rfl, SqT.of ha, at_of (j := 1) rfl rfl, ac, b, _, _, rfl, SqL.of hac, SqL.of hb, fun D nD => ?_⟩
  refine lc_map (walk_zip (K := K) (a := ac) (b := b) (xs := uc) (ys := ws) rfl) (u := tRow) (ls := ls) (tabOf ds t).rows nD L (by omega) (by unfold tabOf; rw [List.length_map]; omega) (fun H' s' => ⟨SqL.of (s' _ _ hac), SqL.of (s' _ _ hb)⟩) ?_ ?_
  · rintro j y rw_ H2 H3 R hrw s2 sc L2 ⟨tt, z1, z2, rfl, nt, rfl, hz1, hz2⟩ hR
    have hz1 : uc[j]? = some z1 := hz1
    have hz2 : ws[j]? = some z2 := hz2
    obtain ⟨row, hrow, ry⟩ := rs.get hz2
    obtain ⟨cells, hcells, rcells⟩ := rc.get hz1
    obtain ⟨ar, lr, rfl, har, hlr⟩ := when_at ry
    rw [List.getElem?_map, hrow] at hcells
    cases hcells
    have hrw : (t.rows.map fun r => (cellsF (domsOf ds t) r, r.2))[j]? = some rw_ := hrw
    rw [List.getElem?_map, hrow] at hrw
    cases hrw
    obtain ⟨g1, g2⟩ := hval row (List.mem_of_getElem? hrow)
    have s3 : Same H2 (upd H2 tt (.tup [z1, .ref ar])) := Same.upd nt
    have scc := sc.trans s3.cut
    refine ⟨tt, _, rfl, SqT.of upd_same, rfl, _, _, rfl, _, _, rfl, rfl, rfl, ?_⟩
    refine ⟨_, rfl, _, rfl, _, rfl, ar, _, 2, _, rfl, rfl, SqT.of (s3 _ _ (s2 _ _ har)), at_of (j := 2) rfl rfl, ?_⟩
    refine ⟨_, _, _, t.out, _, row.2, rfl, L2.to s3, (tDom K).mono scc rv, rfl, ⟨hout, g1, g2, rfl⟩, fun H4 w4 s4 r4 => ?_⟩
    refine ⟨szl 2, fun p np => hR _ _ (s3.trans (s4.trans (Same.upd np))) ⟨p, _, _, rfl, at_cut ((L2.to (s3.trans s4)).no np) upd_same, ?_, r4⟩⟩
    exact (tLst tSpans).mono (scc.trans (s4.trans (Same.upd np)).cut) rcells
  rintro H1 s1 ⟨D', ud, e, hD, rd⟩
  cases e
  refine ⟨_, rfl, ah, _, 1, _, rfl, rfl, SqT.of (s1 _ _ hh), at_of (j := 1) rfl rfl, _, rfl, ah, _, 2, _, rfl, rfl, SqT.of (s1 _ _ hh), at_of (j := 2) rfl rfl, ?_⟩
  refine ⟨_, rfl, ah, _, 2, _, rfl, rfl, SqT.of (s1 _ _ hh), at_of (j := 2) rfl rfl, lc, rfl, ⟨_, SqL.of (s1 _ _ hlc)⟩, fun D2 nD2 => ?_⟩
  refine lc_map (walk_list (K := K) (a := lc) (xs := t.cols.map V.str)) (u := tDom K) (ls := ls) (domsOf ds t) nD2 (L.to s1) (by rw [List.length_map]; have : t.cols.length ≤ 4 := tok.cols.2; omega) (by unfold domsOf; rw [List.length_map, List.length_map]) (fun H' s' => SqL.of (s' _ _ (s1 _ _ hlc))) ?_ ?_
  · rintro j y d H2 H3 R hd s2 sc L2 ⟨rfl, hy⟩ hR
    rw [List.getElem?_map] at hy
    obtain ⟨c, hc, rfl⟩ := Option.map_eq_some_iff.mp hy
    obtain ⟨d', hd', dok⟩ := ok.known c (List.mem_of_getElem? hc)
    unfold domsOf at hd
    rw [List.getElem?_map, hc] at hd
    have hd : some ((look ds c).getD (.words [])) = some d := hd
    rw [hd'] at hd
    cases hd
    obtain ⟨v2, hv2, rv2⟩ := hps.find hd'
    exact ⟨rfl, _, rfl, _, rfl, ad, v2, rfl, by rw [← hv2]; exact DGet.k (k := Sum.inr c) (s2 _ _ (s1 _ _ had)), hR _ _ (Same.refl _) ((tDom K).mono (s1.cut.trans sc) rv2)⟩
  rintro H2 s2 rD2
  have s12 := s1.trans s2
  refine ⟨_, rfl, _, rfl, ah, _, 4, _, rfl, rfl, SqT.of (s12 _ _ hh), at_of (j := 4) rfl rfl, _, rfl, ?_⟩
  intro x dx nx ndx nxd
  have s3 : Same H2 (upd (upd H2 dx (.own x)) x (.ins (He.ga K "Table") dx [])) := (Same.upd ndx).trans (Same.upd (by rw [upd_ne (Ne.symm nxd)]; exact nx))
  have s23 := s12.trans s3
  have nx0 : H x = none := s12.free nx
  have scx : Same (cut H2 ls) (cut (upd (upd H2 dx (.own x)) x (.ins (He.ga K "Table") dx [])) (x :: ls)) := s3.more1 nx
  refine ⟨x :: ls, x, dx, _, _, _, _, tabOf ds t, rfl, Live.cons upd_same (L.to s23), List.mem_cons_self, tok, upd_same, ?_, (tLst (tDom K)).mono scx rD2, (tDom K).mono (s12.cut.trans scx) rv, (tLst tRow).mono (s2.cut.trans scx) ⟨D, ud, rfl, hD, rd⟩, fun H' w2 w3 w4 w6 hk hx r2 r3 r4 r6 => ?_⟩
  · exact ⟨lc, _, rfl, (s12.cut.trans scx) _ _ hlcn, str_rs⟩
  · refine ⟨rfl, k _ _ (fun b o e => ?_) ⟨x, dx, _, _, _, _, rfl, at_cut (L.no nx0) hx, (tLst tStr).mono Same.less1 r2, (tLst (tDom K)).mono Same.less1 r3, (tDom K).mono Same.less1 r4, (tLst tRow).mono Same.less1 r6⟩⟩
    exact hk b o (s23 _ _ e) (fun q => by rw [q, nx0] at e; cases e)
end
end Rk
set_option Elab.async false
set_option linter.all false
set_option maxRecDepth 100000
set_option maxHeartbeats 1000000
namespace Rk
open PySem PySem.Spec PyProof.Rows L2
open TL
structure Src where
  facts : List (Str × Dom)
  tabs : List TbT
  low : Bool
def tabsP (ts : List TbT) : List Prt := ts.flatMap tabP
def srcP (s : Src) : List Prt := if s.low = true then tabsP s.tabs ++ s.facts.map factP else s.facts.map factP ++ tabsP s.tabs
def srcS (s : Src) : Str := Txt.join "\n" ((srcP s).map lnS)
def srcD (s : Src) : List (Str × Dom) := s.facts ++ s.tabs.map fun t => (t.name, t.out)
def srcB (s : Src) : Bk := ⟨s.facts, s.tabs.map (tabOf (srcD s))⟩
structure SrcOk (s : Src) : Prop where
  bk : BkOk (srcB s)
  rows : ∀ t ∈ s.tabs, RowsOk (srcD s) t
  few : (srcP s).length ≤ 200
  some_ : srcP s ≠ []
theorem SrcOk.tab {s : Src} (h : SrcOk s) {t : TbT} (m : t ∈ s.tabs) : TabOk (tabOf (srcD s) t) := h.bk.tabs _ (List.mem_map.mpr ⟨t, m, rfl⟩)
theorem SrcOk.value {s : Src} (h : SrcOk s) {t : TbT} (m : t ∈ s.tabs) : ∀ r ∈ t.rows, t.out.lo ≤ r.2 ∧ r.2 ≤ t.out.hi := fun r hr =>
  ((h.tab m).rows (cellsF (domsOf (srcD s) t) r, r.2) (List.mem_map.mpr ⟨r, hr, rfl⟩)).code
theorem SrcOk.keys {s : Src} (h : SrcOk s) : (s.facts.map (·.1) ++ s.tabs.map (·.name)).Nodup := by
  have := h.bk.nd
  rw [names_keys] at this
  have e : (srcB s).tabs.map (·.name) = s.tabs.map (·.name) := by show (s.tabs.map _).map _ = _; rw [List.map_map]; rfl
  rw [e] at this
  exact this
theorem SrcOk.look {s : Src} (h : SrcOk s) {t : TbT} (m : t ∈ s.tabs) : look (srcD s) t.name = some t.out := by
  refine look_mem ?_ (List.mem_append_right _ (List.mem_map.mpr ⟨t, m, rfl⟩))
  have := h.keys
  unfold srcD
  rw [List.map_append, List.map_map]
  exact this
/-! ### the signs of the lines -/
theorem fl_free {d : Dom} (ok : d.Ok) {f : Fl} (h : FlOk d f) {c : Nat} (h1 : c ≠ 45) (h2 : c < 46 ∨ 57 < c) (h3 : c < 97 ∨ 122 < c) (h4 : c ≠ 44) (h5 : c ≠ 32) : c ∉ tl (flS f) := by
  cases f with
  | all => rw [show tl (flS .all) = [45] from tl_m]; simpa using h1
  | none =>
    have e : tl (flS .none) = [110, 111, 116, 32, 45] := by decide +kernel
    rw [e]
    intro m
    simp only [List.mem_cons, List.not_mem_nil, or_false] at m
    omega
  | parts ps =>
    refine join_free (by rw [tl_cs]; intro m; simp only [List.mem_cons, List.not_mem_nil, or_false] at m; omega) fun p hp => ?_
    obtain ⟨q, hq, rfl⟩ := List.mem_map.mp hp
    exact pt_free ok (h.2.2.1 q hq) h1 h2 h3
theorem dom_free {d : Dom} (ok : d.Ok) {c : Nat} (h1 : c ≠ 45) (h2 : c < 46 ∨ 57 < c) (h3 : c < 97 ∨ 122 < c) (h4 : c ≠ 44) (h5 : c ≠ 32) : c ∉ tl (domS d) := by
  cases d with
  | num lo hi =>
    show c ∉ tl (numS lo ++ ".." ++ numS hi)
    rw [tl_append, tl_append, tl_dd]
    intro m
    rcases List.mem_append.mp m with m | m
    · rcases List.mem_append.mp m with m | m
      · exact numS_free h1 (by omega) m
      · simp only [List.mem_cons, List.not_mem_nil, or_false] at m; omega
    · exact numS_free h1 (by omega) m
  | words ws =>
    exact join_free (by rw [tl_cs]; intro m; simp only [List.mem_cons, List.not_mem_nil, or_false] at m; omega) fun w hw => isWord_free ((ok.words ws rfl).2.2.1 w hw) h3
theorem val_free {d : Dom} (ok : d.Ok) {v : Int} (g1 : d.lo ≤ v) (g2 : v ≤ d.hi) {c : Nat} (h1 : c ≠ 45) (h2 : c < 46 ∨ 57 < c) (h3 : c < 97 ∨ 122 < c) : c ∉ tl (valS d v) ∧ (valS d v).length ≤ 100 := by
  cases d with
  | num lo hi =>
    obtain ⟨_, s1, s2⟩ := ok.num lo hi rfl
    have := numS_len (small_in s1 s2 g1 g2)
    exact ⟨numS_free h1 (by omega), by show (numS v).length ≤ 100; omega⟩
  | words ws =>
    have hm : wordAt ws v ∈ ws := List.mem_of_getElem? (wordAt_mem (ws := ws) (c := v) g1 g2)
    have hw := (ok.words ws rfl).2.2.1 _ hm
    have := isWord_len hw
    exact ⟨isWord_free hw h3, by show (wordAt ws v).length ≤ 100; omega⟩
theorem way_free (y : Wy) : 32 ∉ tl y.nm ∧ 10 ∉ tl y.nm ∧ y.nm.length ≤ 10 := by cases y <;> decide +kernel
theorem not10 {x y : Str} (h1 : 10 ∉ tl x) (h2 : 10 ∉ tl y) : 10 ∉ tl (x ++ y) := by
  rw [tl_append]; exact fun m => (List.mem_append.mp m).elim h1 h2
/-- each line reads back -/
theorem src_lines {s : Src} (h : SrcOk s) : ∀ p ∈ srcP s, LnOk p ∧ 10 ∉ tl (lnS p) := by
  have hf : ∀ p ∈ s.facts.map factP, LnOk p ∧ 10 ∉ tl (lnS p) := by
    intro p hp
    obtain ⟨f, hf, rfl⟩ := List.mem_map.mp hp
    obtain ⟨g1, g2⟩ := h.bk.facts f hf
    exact ⟨⟨g1, domS_len g2⟩, not10 (by decide +kernel) (not10 (not10 (isWord_free g1 (by decide)) (by decide +kernel)) (dom_free g2 (by decide) (by decide) (by decide) (by decide) (by decide)))⟩
  have ht : ∀ p ∈ tabsP s.tabs, LnOk p ∧ 10 ∉ tl (lnS p) := by
    intro p hp
    obtain ⟨t, ht, hp⟩ := List.mem_flatMap.mp hp
    have tok := h.tab ht
    have hwd : ∀ c ∈ t.cols, isWord c = true := tok.words
    have hc : 1 ≤ t.cols.length ∧ t.cols.length ≤ 4 := tok.cols
    have hne : t.cols ≠ [] := fun e => by rw [e] at hc; exact absurd hc.1 (by decide)
    have hout : t.out.Ok := tok.out
    rcases List.mem_cons.mp hp with rfl | hp
    · refine ⟨⟨tok.word, hne, hc.2, hwd, domS_len hout, (way_free t.way).1, (way_free t.way).2.2⟩, ?_⟩
      refine not10 (by decide +kernel) (not10 (not10 (isWord_free tok.word (by decide)) (by decide +kernel)) (not10 (not10 (join_free (by decide +kernel) fun c hc => isWord_free (hwd c hc) (by decide)) (by decide +kernel)) (not10 (not10 (dom_free hout (by decide) (by decide) (by decide) (by decide) (by decide)) (by decide +kernel)) (way_free t.way).2.1)))
    · obtain ⟨r, hr, rfl⟩ := List.mem_map.mp hp
      have rok := h.rows t ht
      obtain ⟨g1, g2⟩ := h.value ht r hr
      have hl := rok.len r hr
      have hfl : ∀ f ∈ r.1, ∃ d, d.Ok ∧ FlOk d f := by
        intro f hf
        obtain ⟨i, hi⟩ := List.mem_iff_getElem?.mp hf
        have hil := (List.getElem?_eq_some_iff.mp hi).1
        have hd : (domsOf (srcD s) t)[i]? = some ((domsOf (srcD s) t)[i]'(by unfold domsOf; rw [List.length_map]; omega)) := by simp
        exact ⟨_, tok.doms _ (List.mem_of_getElem? hd), rok.fl r hr i f _ hi hd⟩
      refine ⟨⟨fun e => ?_, ?_, ?_, (val_free hout g1 g2 (c := 0) (by decide) (by decide) (by decide)).2⟩, ?_⟩
      · have e := congrArg List.length e
        rw [List.length_map, hl] at e
        have : t.cols.length = 0 := e
        omega
      · rw [List.length_map, hl]; exact hc.2
      · intro x hx
        obtain ⟨f, hf, rfl⟩ := List.mem_map.mp hx
        obtain ⟨d, dok, fok⟩ := hfl f hf
        exact ⟨fl_free dok fok (by decide) (by decide) (by decide) (by decide) (by decide), fl_free dok fok (by decide) (by decide) (by decide) (by decide) (by decide), flS_len dok fok⟩
      · refine not10 (by decide +kernel) (not10 (not10 (join_free (by decide +kernel) fun x hx => ?_) (by decide +kernel)) (val_free hout g1 g2 (by decide) (by decide) (by decide)).1)
        obtain ⟨f, hf, rfl⟩ := List.mem_map.mp hx
        obtain ⟨d, dok, fok⟩ := hfl f hf
        exact fl_free dok fok (by decide) (by decide) (by decide) (by decide) (by decide)
  intro p hp
  unfold srcP at hp
  split at hp
  · exact (List.mem_append.mp hp).elim (ht p) (hf p)
  · exact (List.mem_append.mp hp).elim (hf p) (ht p)
theorem src_len {s : Src} (h : SrcOk s) : (srcS s).length + 2 ≤ 13000000 := by
  have := join_most "\n" (ps := (srcP s).map lnS) (k := 60000) fun x hx => by
    obtain ⟨p, hp, rfl⟩ := List.mem_map.mp hx
    exact ln_len (src_lines h p hp).1
  have e : ((srcP s).map lnS).length * (60000 + ("\n" : Str).length) ≤ 200 * 60001 := Nat.mul_le_mul (by rw [List.length_map]; exact h.few) (by decide +kernel)
  unfold srcS
  omega
theorem tl_nl : tl ("\n" : Str) = [10] := by decide +kernel
theorem src_split {s : Src} (h : SrcOk s) : Txt.split (srcS s) "\n" = (srcP s).map lnS := split_join tl_nl (by decide +kernel) (fun e => h.some_ (List.map_eq_nil_iff.mp e)) fun x hx => by
  obtain ⟨p, hp, rfl⟩ := List.mem_map.mp hx
  exact (src_lines h p hp).2
theorem ln_ne (p : Prt) : tl (lnS p) ≠ [] := by
  cases p with
  | fact n d => show tl ("fact " ++ _) ≠ []; rw [tl_append, tl_fact]; exact fun e => nomatch e
  | table n cs d w => show tl ("table " ++ _) ≠ []; rw [tl_append, tl_table]; exact fun e => nomatch e
  | when fs v => show tl ("when " ++ _) ≠ []; rw [tl_append, tl_when]; exact fun e => nomatch e
theorem src_ne {s : Src} (h : SrcOk s) : srcS s ≠ "" := by
  intro e
  have e2 := src_split h
  cases hp : srcP s with
  | nil => exact h.some_ hp
  | cons p r =>
    have e3 := congrArg tl e
    unfold srcS at e3
    rw [hp] at e3
    cases r with
    | nil =>
      rw [List.map_cons, List.map_nil, join_one] at e3
      exact ln_ne p e3
    | cons q r =>
      rw [List.map_cons, List.map_cons, join_cons2] at e3
      exact ln_ne p (List.append_eq_nil_iff.mp e3).1
/-! ### blocks -/
def wellB : Bool → List Prt → Bool
  | _, [] => true
  | b, .fact _ _ :: r => wellB b r
  | _, .table _ _ _ _ :: r => wellB true r
  | b, .when _ _ :: r => b && wellB b r
theorem well_true : ∀ ps, wellB true ps = true
  | [] => rfl
  | .fact _ _ :: r => well_true r
  | .table _ _ _ _ :: r => well_true r
  | .when _ _ :: r => well_true r
theorem step_ne {acc : List (Prt × List Prt)} (h : acc ≠ []) (p : Prt) : blkStep acc p ≠ [] := by
  cases p with
  | fact n d => exact h
  | table n cs d w => exact fun e => nomatch (List.append_eq_nil_iff.mp e).2
  | when fs v =>
    rcases List.eq_nil_or_concat acc with e | ⟨t, l, e⟩
    · exact absurd e h
    · rw [List.concat_eq_append] at e
      subst e
      rw [step_when]
      exact fun e => nomatch (List.append_eq_nil_iff.mp e).2
theorem well_at : ∀ (ps : List Prt) (b : Bool) (acc : List (Prt × List Prt)), wellB b ps = true → (b = true → acc ≠ []) → ∀ i fs v, ps[i]? = some (.when fs v) → (ps.take i).foldl blkStep acc ≠ []
  | [], _, _, _, _, i, _, _, h => by simp at h
  | .fact n d :: r, b, acc, hw, hb, 0, fs, v, h => by simp at h
  | .table n cs d w :: r, b, acc, hw, hb, 0, fs, v, h => by simp at h
  | .when fs' v' :: r, b, acc, hw, hb, 0, fs, v, h => by
    have hw : (b && wellB b r) = true := hw
    rw [Bool.and_eq_true] at hw
    exact hb hw.1
  | .fact n d :: r, b, acc, hw, hb, i + 1, fs, v, h => well_at r b acc hw hb i fs v h
  | .table n cs d w :: r, b, acc, hw, hb, i + 1, fs, v, h => well_at r true (acc ++ [(.table n cs d w, [])]) hw (fun _ e => nomatch (List.append_eq_nil_iff.mp e).2) i fs v h
  | .when fs' v' :: r, b, acc, hw, hb, i + 1, fs, v, h => by
    have hw : (b && wellB b r) = true := hw
    rw [Bool.and_eq_true] at hw
    exact well_at r b (blkStep acc (.when fs' v')) hw.2 (fun q => step_ne (hb q) _) i fs v h
theorem well_facts (b : Bool) : ∀ (fs : List (Str × Dom)) (r : List Prt), wellB b (fs.map factP ++ r) = wellB b r
  | [], _ => rfl
  | _ :: fs, r => well_facts b fs r
theorem well_tabs (b : Bool) (ts : List TbT) (fs : List (Str × Dom)) : wellB b (tabsP ts ++ fs.map factP) = true := by
  cases ts with
  | nil =>
    have := well_facts b fs []
    rw [List.append_nil] at this
    exact this
  | cons t ts => exact well_true _
theorem src_well (s : Src) : wellB false (srcP s) = true := by
  unfold srcP
  split
  · exact well_tabs _ _ _
  · rw [well_facts]
    have := well_tabs false s.tabs []
    rw [List.map_nil, List.append_nil] at this
    exact this
theorem fold_facts : ∀ (fs : List (Str × Dom)) (acc : List (Prt × List Prt)), (fs.map factP).foldl blkStep acc = acc
  | [], _ => rfl
  | _ :: fs, acc => fold_facts fs acc
theorem fold_rows (out : Dom) : ∀ (rs : List (List Fl × Int)) (acc : List (Prt × List Prt)) (h : Prt) (b : List Prt), (rs.map (rowP out)).foldl blkStep (acc ++ [(h, b)]) = acc ++ [(h, b ++ rs.map (rowP out))]
  | [], acc, h, b => by rw [List.map_nil, List.append_nil]; rfl
  | r :: rs, acc, h, b => by
    rw [List.map_cons, List.foldl_cons]
    have e := step_when acc (h, b) (r.1.map flS) (valS out r.2)
    have e : blkStep (acc ++ [(h, b)]) (rowP out r) = acc ++ [(h, b ++ [rowP out r])] := e
    rw [e, fold_rows out rs, List.append_assoc]
    rfl
theorem fold_tabs : ∀ (ts : List TbT) (acc : List (Prt × List Prt)), (tabsP ts).foldl blkStep acc = acc ++ ts.map blkP
  | [], acc => by rw [List.map_nil, List.append_nil]; rfl
  | t :: ts, acc => by
    show (tabP t ++ tabsP ts).foldl blkStep acc = _
    rw [List.foldl_append]
    have e : (tabP t).foldl blkStep acc = acc ++ [blkP t] := fold_rows t.out t.rows acc (headP t) []
    rw [e, fold_tabs ts, List.append_assoc]
    rfl
theorem src_blocks (s : Src) : blkF (srcP s) = s.tabs.map blkP := by
  unfold blkF srcP
  split
  · rw [List.foldl_append, fold_tabs, fold_facts, List.nil_append]
  · rw [List.foldl_append, fold_facts, fold_tabs, List.nil_append]
def isFact : Prt → Bool
  | .fact _ _ => true
  | _ => false
theorem src_facts (s : Src) : (srcP s).filter isFact = s.facts.map factP := by
  have hf : (s.facts.map factP).filter isFact = s.facts.map factP := List.filter_eq_self.mpr fun p hp => by
    obtain ⟨f, _, rfl⟩ := List.mem_map.mp hp; rfl
  have ht : (tabsP s.tabs).filter isFact = [] := List.filter_eq_nil_iff.mpr fun p hp => by
    obtain ⟨t, _, hp⟩ := List.mem_flatMap.mp hp
    rcases List.mem_cons.mp hp with rfl | hp
    · exact Bool.false_ne_true
    · obtain ⟨r, _, rfl⟩ := List.mem_map.mp hp; exact Bool.false_ne_true
  unfold srcP
  split
  · rw [List.filter_append, hf, ht, List.nil_append]
  · rw [List.filter_append, hf, ht, List.append_nil]
theorem tag_fact (p : Prt) : decide (V.str (tagS p) = V.str "fact") = isFact p := by
  cases p with
  | fact n d => exact decide_eq_true rfl
  | table n cs d w => exact decide_eq_false (strI (by show ¬ ("table" : Str) = "fact"; decide +kernel))
  | when fs v => exact decide_eq_false (strI (by show ¬ ("when" : Str) = "fact"; decide +kernel))
end Rk
set_option Elab.async false
set_option linter.all false
set_option maxRecDepth 100000
set_option maxHeartbeats 1000000
namespace Rk
open PySem PySem.Spec PyProof.Rows L2
open TL
section
variable {P : Program} {w : World} {K : PySem.W.Frag} {mg : Str → Option Value} {base : Heap}
abbrev n_read_book : List Str := ["text", "lines", "parts", "facts", "blocks", "domains", "fields", "tables", "line", "part", "block", "cells", "fact"]
theorem sc_read_book : FnScope n_read_book ["text"] (defScope s_read_book) := ⟨rfl, rfl, rfl, by decide +kernel, rfl, by decide +kernel, by decide +kernel⟩
theorem ok_read_book (T : Tx K mg) : Def P w K mg base "read_book" ["text"] 9 (Sp1 tStr (tBk K) fun x b => ∃ s, SrcOk s ∧ x = srcS s ∧ b = srcB s) := by
  refine ⟨?_, T.g_read_book, T.f_read_book.kp, T.f_read_book.bindsN fun _ _ _ _ _ _ us hl => match us, hl with | [_], _ => rfl⟩
  refine fn_body T.f_read_book sc_read_book (fun _ _ _ _ h => len1 h) fun cdv A outer s H vs Q E hr h => ?_
  obtain ⟨ls, v, x, b, rfl, L, rfl, ⟨s_, ok, rfl, rfl⟩, k⟩ := h
  have hlen := src_len ok
  have hlines := src_lines ok
  have hkeys := ok.keys
  have hbk := ok.bk
  have hft : s_.facts.length ≤ 20 := hbk.most.1
  have htt : s_.tabs.length ≤ 30 := by have : (srcB s_).tabs.length ≤ 30 := hbk.most.2; unfold srcB at this; rw [List.length_map] at this; exact this
  have htok : ∀ t ∈ s_.tabs, TabOk (tabOf (srcD s_) t) := fun t h => ok.tab h
  have hcol : ∀ t ∈ s_.tabs, t.cols.length ≤ 4 := fun t h => (htok t h).cols.2
  have hrow : ∀ t ∈ s_.tabs, t.rows.length ≤ 200 := fun t h => by have : (t.rows.map _).length ≤ 200 := (htok t h).most; rw [List.length_map] at this; exact this
  have hout : ∀ t ∈ s_.tabs, t.out.Ok := fun t h => (htok t h).out
  have hfo : ∀ p ∈ s_.facts, p.2.Ok := fun p h => (hbk.facts p h).2
  refine ⟨_, pss_cons (ps_set (i := 1) sc_read_book.nd rfl (.inl rfl) (pe_lst pa_nil))
  (pss_cons (ps_if (pt_cmpR op_ne (pv 0) pe_str (nomark _)) (pss_one (ps_set (i := 1) sc_read_book.nd rfl (.inl rfl) (pe_split (pv 0) pe_str))) pss_nil)
  (pss_cons (ps_setLc (i := 2) (own := [("line", 8)]) (g := gName 8) rfl sc_read_book.nd rfl rfl (sw_true rfl rfl rfl (by decide +kernel)) (pi_list (pv 1)) (blkOk_by (own := [("line", 8)]) (N := n_read_book) (sc := defScope s_read_book) (by decide +kernel)) (fun _ _ _ _ _ => (pg_name (i := 8) sc_read_book.nd rfl (.inl rfl))) (fun _ _ _ _ _ => pts_nil) (fun _ _ _ _ _ => (pe_cD (ok_parts_of T) hr (pa_cons (pv 8) pa_nil))))
  (pss_cons (ps_setLc (i := 3) (own := [("part", 9)]) (g := gName 9) rfl sc_read_book.nd rfl rfl (sw_true rfl rfl rfl (by decide +kernel)) (pi_list (pv 2)) (blkOk_by (own := [("part", 9)]) (N := n_read_book) (sc := defScope s_read_book) (by decide +kernel)) (fun _ _ _ _ _ => (pg_name (i := 9) sc_read_book.nd rfl (.inl rfl))) (fun _ _ _ _ _ => (pts_one (pt_cmpR op_eq (pe_ix (ixT (K := K)) (pv 9) pe_int (fun _ _ => rfl)) pe_str (nomark _)))) (fun _ _ _ _ _ => (pv 9)))
  (pss_cons (ps_set (i := 4) sc_read_book.nd rfl (.inl rfl) (pe_cD (ok_blocks_of T) hr (pa_cons (pv 2) pa_nil)))
  (pss_cons (ps_expr (pe_cD (ok_look_at_counts T) hr (pa_cons (pv 3) (pa_cons (pv 4) pa_nil))))
  (pss_cons (ps_expr (pe_cD (ok_look_at_all_names T) hr (pa_cons (pv 3) (pa_cons (pv 4) pa_nil))))
  (pss_cons (ps_set (i := 5) sc_read_book.nd rfl (.inr rfl) (pe_cD (ok_domains_read T) hr (pa_cons (pv 3) (pa_cons (pv 4) pa_nil))))
  (pss_cons (ps_expr (pe_cD (ok_look_at_ways T) hr (pa_cons (pv 4) (pa_cons (pv 5) pa_nil))))
  (pss_cons (ps_expr (pe_cD (ok_look_at_fields T) hr (pa_cons (pv 4) pa_nil)))
  (pss_cons (ps_setLc (i := 6) (own := [("block", 10)]) (g := gName 10) rfl sc_read_book.nd rfl rfl (sw_true rfl rfl rfl (by decide +kernel)) (pi_list (pv 4)) (blkOk_by (own := [("block", 10)]) (N := n_read_book) (sc := defScope s_read_book) (by decide +kernel)) (fun _ _ _ _ _ => (pg_name (i := 10) sc_read_book.nd rfl (.inl rfl))) (fun _ _ _ _ _ => pts_nil) (fun _ _ _ _ _ => (pe_cD (ok_cells_read T) hr (pa_cons (pv 10) (pa_cons (pv 5) pa_nil)))))
  (pss_cons (ps_expr (pe_cD (ok_look_at_values T) hr (pa_cons (pv 4) (pa_cons (pv 5) pa_nil))))
  (pss_cons (ps_setLc (i := 7) (own := [("block", 10), ("cells", 11)]) (g := gTup _ 2 (gCons (gName 10) (gCons (gName 11) gNil))) rfl sc_read_book.nd rfl rfl (sw_true rfl rfl rfl (by decide +kernel)) (pi_zip (by rfl) T.n_zip (pa_cons (pv 4) (pa_cons (pv 6) pa_nil))) (blkOk_by (own := [("block", 10), ("cells", 11)]) (N := n_read_book) (sc := defScope s_read_book) (by decide +kernel)) (fun _ _ _ _ _ => (pg_tup (by rfl) (pgs_cons (pg_name (i := 10) sc_read_book.nd rfl (.inl rfl)) (pgs_cons (pg_name (i := 11) sc_read_book.nd rfl (.inl rfl)) pgs_nil)))) (fun _ _ _ _ _ => pts_nil) (fun _ _ _ _ _ => (pe_cD (ok_table_read T) hr (pa_cons (pv 10) (pa_cons (pv 11) (pa_cons (pv 5) pa_nil))))))
  (pss_one (ps_ret (pe_mkD (mk_Book T) hr (pa_cons (pe_lc (own := [("fact", 12)]) (g := gName 12) rfl sc_read_book.nd (pi_list (pv 3)) (blkOk_by (own := [("fact", 12)]) (N := n_read_book) (sc := defScope s_read_book) (by decide +kernel)) (fun _ _ _ _ _ => (pg_name (i := 12) sc_read_book.nd rfl (.inl rfl))) (fun _ _ _ _ _ => pts_nil) (fun _ _ _ _ _ => (pe_tup (pa_cons (pe_ix (ixT (K := K)) (pv 12) pe_int (fun _ _ => rfl)) (pa_cons (pe_dget (hu_of hr) (pv 5) (pe_ix (ixT (K := K)) (pv 12) pe_int (fun _ _ => rfl)) (fun _ _ => rfl)) pa_nil))))) (pa_cons (pv 7) pa_nil))))))))))))))))), ?_⟩
  refine ⟨Nat.zero_le _, fun l0 nl0 => ?_⟩
  have s0 : Same H (upd H l0 (.lst [])) := Same.upd nl0
  refine ⟨_, rfl, rfl, _, rfl, iteNT (strI (src_ne ok)) ?_⟩
  refine ⟨_, rfl, ⟨_, rfl⟩, _, _, rfl, rfl, by decide +kernel, Nat.le_trans hlen (by decide), fun l nl => ?_⟩
  rw [src_split ok]
  have s1 : Same (upd H l0 (.lst [])) (upd (upd H l0 (.lst [])) l (.lst (((srcP s_).map lnS).map V.str))) := Same.upd nl
  have hl : upd (upd H l0 (.lst [])) l (.lst (((srcP s_).map lnS).map V.str)) l = some (.lst (((srcP s_).map lnS).map V.str)) := upd_same
  have s1 := s0.trans s1
  generalize upd (upd H l0 (.lst [])) l (.lst (((srcP s_).map lnS).map V.str)) = H1 at s1 hl
  refine ⟨_, rfl, l, rfl, ⟨_, SqL.of hl⟩, fun D nD => ?_⟩
  refine lc_map (walk_list (K := K) (a := l) (xs := ((srcP s_).map lnS).map V.str)) (u := tPrt) (ls := ls) (srcP s_) nD (L.to s1) (by rw [List.length_map, List.length_map]; have := ok.few; omega) (by rw [List.length_map, List.length_map]) (fun H' s' => SqL.of (s' _ _ hl)) ?_ ?_
  · rintro i x p H2 H3 R hp s2 sc L2 ⟨rfl, hx⟩ hR
    rw [List.getElem?_map, List.getElem?_map, hp] at hx
    cases hx
    exact ⟨rfl, _, rfl, _, _, _, p, rfl, L2, rfl, ⟨(hlines p (List.mem_of_getElem? hp)).1, rfl⟩, fun H4 w4 s4 r4 => hR _ _ s4 r4⟩
  rintro H2 s2 rD
  have rD0 := rD
  obtain ⟨D', up, e, hD, rp⟩ := rD
  cases e
  have e1 := rp.len
  have hD' := cut_at hD
  have s02 := s1.trans s2
  -- facts
  refine ⟨_, rfl, D, rfl, ⟨_, SqL.of hD'⟩, fun D2 nD2 => ?_⟩
  refine lc_fmap (walk_list (K := K) (a := D) (xs := up)) (u := tPrt) (ls := ls) (fun i => isFact ((srcP s_).getD i (.when [] ""))) (fun i => (srcP s_).getD i (.when [] "")) nD2 (L.to s02) (by rw [e1]; have := ok.few; omega) (fun H' s' => SqL.of (s' _ _ hD')) ?_ ?_
  · rintro i x H3 H4 R1 R2 hi s3 sc L2 ⟨rfl, hx⟩ h1 h2
    obtain ⟨p, hp, rx⟩ := rp.get hx
    have ec : (srcP s_).getD i (.when [] "") = p := by rw [List.getD_eq_getElem?_getD, hp]; rfl
    rw [ec] at h1 h2
    obtain ⟨a, rr, rfl, ha⟩ := prt_at rx
    have ha := s3 _ _ (cut_at ha)
    refine ⟨rfl, _, rfl, a, _, 0, _, rfl, rfl, SqT.of ha, at_of (j := 0) rfl rfl, rfl, _, rfl, ?_⟩
    show if decide (V.str (tagS p) = V.str "fact") = true then _ else _
    rw [tag_fact]
    refine ite2 (fun q => ?_) (fun q => ?_)
    · exact ⟨_, rfl, h1 q _ _ (Same.refl _) (tPrt.mono sc rx)⟩
    · exact h2 (by cases e : isFact p with | false => rfl | true => exact absurd e q) _ (Same.refl _)
  intro H3 s3 rF
  have eF : ((List.range up.length).filter (fun i => isFact ((srcP s_).getD i (.when [] "")))).map (fun i => (srcP s_).getD i (.when [] "")) = s_.facts.map factP := by
    rw [e1, range_filter, src_facts]
  rw [eF] at rF
  have rF : (tLst tFact).rep (cut H3 ls) (.ref D2) s_.facts := lst_via.mpr rF
  have s03 := s02.trans s3
  -- blocks
  refine ⟨_, rfl, ls, _, _, _, rfl, L.to s03, (tLst tPrt).mono s3.cut rD0, ⟨by have := ok.few; omega, ?_, rfl⟩, fun H4 w4 s4 rB => ?_⟩
  · have := well_at (srcP s_) false [] (src_well s_) (fun q => nomatch q)
    exact this
  rw [src_blocks] at rB
  have rB : (tLst tBlk).rep (cut H4 ls) w4 s_.tabs := lst_via.mpr rB
  have s04 := s03.trans s4
  have rF := (tLst tFact).mono s4.cut rF
  refine ⟨_, rfl, _, rfl, ls, _, _, s_.facts, s_.tabs, (), rfl, L.to s04, rF, rB, ⟨hft, htt, fun t h => ⟨hcol t h, hrow t h⟩⟩, fun H5 w5 s5 _ => ?_⟩
  have s05 := s04.trans s5
  have rF := (tLst tFact).mono s5.cut rF
  have rB := (tLst tBlk).mono s5.cut rB
  have hnw : ∀ n ∈ s_.facts.map (·.1) ++ s_.tabs.map (·.name), isWord n = true := by
    intro n hn
    rcases List.mem_append.mp hn with m | m
    · obtain ⟨p, hp, rfl⟩ := List.mem_map.mp m; exact (hbk.facts p hp).1
    · obtain ⟨t, ht, rfl⟩ := List.mem_map.mp m; exact (htok t ht).word
  have hcn : ∀ t ∈ s_.tabs, ∀ c ∈ t.cols, c ∈ s_.facts.map (·.1) ++ s_.tabs.map (·.name) := by
    intro t ht c hc
    obtain ⟨d, hd, _⟩ := (ok.rows t ht).known c hc
    have : c ∈ (srcD s_).map (·.1) := by
      cases Decidable.em (c ∈ (srcD s_).map (·.1)) with
      | inl h => exact h
      | inr h => rw [look_none.mpr h] at hd; cases hd
    unfold srcD at this
    rw [List.map_append, List.map_map] at this
    exact this
  refine ⟨_, rfl, _, rfl, ls, _, _, s_.facts, s_.tabs, (), rfl, L.to s05, rF, rB, ⟨by omega, by omega, hkeys, hnw, fun t ht => ⟨hcol t ht, (htok t ht).nd, hcn t ht⟩⟩, fun H6 w6 s6 _ => ?_⟩
  have s06 := s05.trans s6
  have rF := (tLst tFact).mono s6.cut rF
  have rB := (tLst tBlk).mono s6.cut rB
  refine ⟨_, rfl, _, rfl, ls, _, _, s_.facts, s_.tabs, _, rfl, L.to s06, rF, rB, ⟨by omega, by omega, hkeys, hfo, hout, rfl⟩, fun H7 w7 s7 rDm => ?_⟩
  have rDm : (tDic (tDom K)).rep (cut H7 ls) w7 (srcD s_) := rDm
  have s07 := s06.trans s7
  have rF := (tLst tFact).mono s7.cut rF
  have rB := (tLst tBlk).mono s7.cut rB
  refine ⟨_, rfl, _, rfl, ls, _, _, s_.tabs, srcD s_, (), rfl, L.to s07, rB, rDm, fun t ht => ⟨ok.look ht, (htok t ht).way⟩, fun H8 w8 s8 _ => ?_⟩
  have s08 := s07.trans s8
  have rF := (tLst tFact).mono s8.cut rF
  have rB := (tLst tBlk).mono s8.cut rB
  have rDm := (tDic (tDom K)).mono s8.cut rDm
  refine ⟨_, rfl, ls, _, s_.tabs, (), rfl, L.to s08, rB, fun t ht => (ok.rows t ht).len, fun H9 w9 s9 _ => ?_⟩
  have s09 := s08.trans s9
  have rF := (tLst tFact).mono s9.cut rF
  have rB := (tLst tBlk).mono s9.cut rB
  have rDm := (tDic (tDom K)).mono s9.cut rDm
  obtain ⟨ab, ub, rfl, hab, rub⟩ := id rB
  have hab' := cut_at hab
  have e2 := rub.len
  refine ⟨_, rfl, ab, rfl, ⟨_, SqL.of hab'⟩, fun D3 nD3 => ?_⟩
  refine lc_map (walk_list (K := K) (a := ab) (xs := ub)) (u := tLst (tLst tSpans)) (ls := ls) (s_.tabs.map fun t => t.rows.map (cellsF (domsOf (srcD s_) t))) nD3 (L.to s09) (by omega) (by rw [List.length_map]; omega) (fun H' s' => SqL.of (s' _ _ hab')) ?_ ?_
  · rintro i x y H10 H11 R hy s10 sc L2 ⟨rfl, hx⟩ hR
    obtain ⟨t, ht, rx⟩ := rub.get hx
    rw [List.getElem?_map, ht] at hy
    cases hy
    have hm := List.mem_of_getElem? ht
    exact ⟨rfl, _, rfl, _, rfl, _, _, _, t, srcD s_, _, rfl, L2, tBlk.mono sc rx, (tDic (tDom K)).mono sc rDm, ⟨ok.rows t hm, hrow t hm, hcol t hm, rfl⟩, fun H12 w12 s12 r12 => hR _ _ s12 r12⟩
  intro H10 s10 rC
  have s010 := s09.trans s10
  have rF := (tLst tFact).mono s10.cut rF
  have rB := (tLst tBlk).mono s10.cut rB
  have rDm := (tDic (tDom K)).mono s10.cut rDm
  refine ⟨_, rfl, _, rfl, ls, _, _, s_.tabs, srcD s_, (), rfl, L.to s010, rB, rDm, fun t ht => ⟨ok.look ht, hout t ht, ok.value ht⟩, fun H11 w11 s11 _ => ?_⟩
  have s011 := s010.trans s11
  have rF := (tLst tFact).mono s11.cut rF
  have rDm := (tDic (tDom K)).mono s11.cut rDm
  have rC := (tLst (tLst (tLst tSpans))).mono s11.cut rC
  have hab11 := s11 _ _ (s10 _ _ hab')
  have rub := rub.mono (s10.trans s11).cut
  obtain ⟨ac, uc, e, hac, ruc⟩ := rC
  cases e
  have hac' := cut_at hac
  have e3 := ruc.len
  rw [List.length_map] at e3
  refine ⟨_, rfl, _, rfl, ab, D3, ub, uc, rfl, SqL.of hab11, SqL.of hac', fun D4 nD4 => ?_⟩
  refine lc_map (walk_zip (K := K) (a := ab) (b := D3) (xs := ub) (ys := uc) rfl) (u := tTab K) (ls := ls) (srcB s_).tabs nD4 (L.to s011) (by omega) (by unfold srcB; rw [List.length_map]; omega) (fun H' s' => ⟨SqL.of (s' _ _ hab11), SqL.of (s' _ _ hac')⟩) ?_ ?_
  · rintro i x y H12 H13 R hy s12 sc L2 ⟨tt, z1, z2, rfl, nt, rfl, hz1, hz2⟩ hR
    have hz1 : ub[i]? = some z1 := hz1
    have hz2 : uc[i]? = some z2 := hz2
    obtain ⟨t, ht, rx⟩ := rub.get hz1
    obtain ⟨c, hc, rc⟩ := ruc.get hz2
    rw [List.getElem?_map, ht] at hc
    cases hc
    have hy : (s_.tabs.map (tabOf (srcD s_)))[i]? = some y := hy
    rw [List.getElem?_map, ht] at hy
    cases hy
    have hm := List.mem_of_getElem? ht
    have s13 : Same H12 (upd H12 tt (.tup [z1, z2])) := Same.upd nt
    have scc := sc.trans s13.cut
    refine ⟨tt, _, rfl, SqT.of upd_same, rfl, _, _, rfl, _, _, rfl, rfl, rfl, ?_⟩
    exact ⟨_, rfl, _, rfl, _, rfl, _, _, _, _, t, _, srcD s_, _, rfl, L2.to s13, tBlk.mono scc rx, (tLst (tLst tSpans)).mono scc rc, (tDic (tDom K)).mono scc rDm, ⟨ok.rows t hm, ok.look hm, hout t hm, ok.value hm, rfl, htok t hm, rfl⟩, fun H14 w14 s14 r14 => hR _ _ (s13.trans s14) r14⟩
  intro H12 s12 rT
  have s012 := s011.trans s12
  have rF := (tLst tFact).mono s12.cut rF
  have rDm := (tDic (tDom K)).mono s12.cut rDm
  obtain ⟨afc, ufc, e, haf, ruf⟩ := rF
  cases e
  have haf' := cut_at haf
  have e4 := ruf.len
  refine ⟨_, rfl, D2, rfl, ⟨_, SqL.of haf'⟩, fun D5 nD5 => ?_⟩
  refine lc_map (walk_list (K := K) (a := D2) (xs := ufc)) (u := tPair tStr (tDom K)) (ls := ls) s_.facts nD5 (L.to s012) (by omega) (by omega) (fun H' s' => SqL.of (s' _ _ haf')) ?_ ?_
  · rintro i x y H13 H14 R hy s13 sc L2 ⟨rfl, hx⟩ hR
    obtain ⟨p, hp, rx⟩ := ruf.get hx
    rw [hp] at hy
    have ey := Option.some.inj hy
    rw [← ey] at hR
    clear hy ey
    obtain ⟨a, rfl, ha⟩ := fact_at rx
    have ha := s13 _ _ (cut_at ha)
    have hlk : look (srcD s_) p.1 = some p.2 := by
      refine look_mem ?_ (List.mem_append_left _ (List.mem_of_getElem? hp))
      unfold srcD
      rw [List.map_append, List.map_map]
      exact hkeys
    obtain ⟨ad, wd, rfl, had, hps⟩ := rDm
    obtain ⟨v, hv, rv⟩ := hps.find hlk
    refine ⟨rfl, _, rfl, a, _, 1, _, rfl, rfl, SqT.of ha, at_of (j := 1) rfl rfl, _, rfl, _, rfl, a, _, 1, _, rfl, rfl, SqT.of ha, at_of (j := 1) rfl rfl, ad, v, rfl, by rw [← hv]; exact DGet.k (k := Sum.inr p.1) (s13 _ _ (cut_at had)), szl 2, fun q nq => ?_⟩
    exact hR _ _ (Same.upd nq) ⟨q, _, _, rfl, at_cut (L2.no nq) upd_same, rfl, (tDom K).mono (sc.trans (Same.upd nq).cut) rv⟩
  intro H13 s13 rFs
  have s013 := s012.trans s13
  have rT := (tLst (tTab K)).mono s13.cut rT
  refine ⟨_, rfl, ?_⟩
  intro x dx nx ndx nxd
  have s14 : Same H13 (upd (upd H13 dx (.own x)) x (.ins (He.ga K "Book") dx [])) := (Same.upd ndx).trans (Same.upd (by rw [upd_ne (Ne.symm nxd)]; exact nx))
  have s014 := s013.trans s14
  have nx0 : H x = none := s013.free nx
  have scx : Same (cut H13 ls) (cut (upd (upd H13 dx (.own x)) x (.ins (He.ga K "Book") dx [])) (x :: ls)) := s14.more1 nx
  refine ⟨x :: ls, x, dx, _, _, srcB s_, rfl, Live.cons upd_same (L.to s014), List.mem_cons_self, hbk, upd_same, (tLst (tPair tStr (tDom K))).mono scx rFs, (tLst (tTab K)).mono scx rT, fun H' w1 w2 hk hx r1 r2 => ?_⟩
  refine ⟨rfl, k _ _ (fun b o e => ?_) ⟨x, dx, _, _, rfl, at_cut (L.no nx0) hx, (tLst (tPair tStr (tDom K))).mono Same.less1 r1, (tLst (tTab K)).mono Same.less1 r2⟩⟩
  exact hk b o (s014 _ _ e) (fun q => by rw [q, nx0] at e; cases e)
end
end Rk
set_option Elab.async false
set_option linter.all false
set_option maxRecDepth 100000
set_option maxHeartbeats 1000000
namespace Rk
open PySem PySem.Spec PyProof.Rows L2
open TL
theorem sorted_len : ∀ (l : List Int) (lo hi : Int), l.Pairwise (· < ·) → (∀ x ∈ l, lo ≤ x ∧ x < hi) → lo ≤ hi → lo + l.length ≤ hi
  | [], lo, hi, _, _, h => by simpa using h
  | a :: l, lo, hi, hp, hx, h => by
    have h1 := hx a List.mem_cons_self
    have := sorted_len l (a + 1) hi (List.pairwise_cons.mp hp).2 (fun x m => ⟨by have := (List.pairwise_cons.mp hp).1 x m; omega, (hx x (List.mem_cons_of_mem _ m)).2⟩) (by omega)
    rw [List.length_cons]
    omega
theorem codes_mem {q : Int × Int} {c : Int} (h : c ∈ codesOf q) : q.1 ≤ c ∧ c ≤ q.2 := by
  unfold codesOf at h
  obtain ⟨i, hi, rfl⟩ := List.mem_map.mp h
  have := List.mem_range.mp hi
  omega
theorem codes_sorted (q : Int × Int) : (codesOf q).Pairwise (· < ·) := by
  unfold codesOf
  rw [List.pairwise_map]
  exact (List.pairwise_lt_range (n := (q.2 + 1 - q.1).toNat)).imp fun {a b} h => by omega
theorem flat_sorted : ∀ {sp : Spans}, Tidy sp → (sp.flatMap codesOf).Pairwise (· < ·)
  | [], _ => List.Pairwise.nil
  | q :: sp, h => by
    rw [List.flatMap_cons, List.pairwise_append]
    refine ⟨codes_sorted q, flat_sorted h.tail, fun a ha b hb => ?_⟩
    obtain ⟨q', hq', hb⟩ := List.mem_flatMap.mp hb
    have h1 := codes_mem ha
    have h2 := codes_mem hb
    have := (List.pairwise_cons.mp h.1).1 q' hq'
    omega
theorem flat_mem {ws : List Str} {sp : Spans} (hin : InDom (.words ws) sp) {c : Int} (h : c ∈ sp.flatMap codesOf) : 0 ≤ c ∧ c ≤ (ws.length : Int) - 1 := by
  obtain ⟨q, hq, hc⟩ := List.mem_flatMap.mp h
  have := codes_mem hc
  have h1 : (0 : Int) ≤ q.1 := (hin q hq).1
  have h2 : q.2 ≤ (ws.length : Int) - 1 := (hin q hq).2
  omega
theorem word_pt {ws : List Str} (hnd : ws.Nodup) {c : Int} (h : 0 ≤ c) (h2 : c ≤ (ws.length : Int) - 1) : ptV (.words ws) (.word (wordAt ws c)) = (c, c) := by
  obtain ⟨hl, e⟩ := List.getElem?_eq_some_iff.mp (wordAt_mem h h2)
  have : ((ws.idxOf (wordAt ws c) : Nat) : Int) = c := by
    rw [← e, hnd.idxOf_getElem _ hl]; omega
  show (((ws.idxOf (wordAt ws c) : Nat) : Int), ((ws.idxOf (wordAt ws c) : Nat) : Int)) = _
  rw [this]
/-- what is shown reads back -/
theorem show_fl {d : Dom} (ok : d.Ok) {sp : Spans} (ht : Tidy sp) (hin : InDom d sp) (h100 : sp.length ≤ 100) : FlOk d (showFl d sp) ∧ flV d (showFl d sp) = sp := by
  unfold showFl
  split
  · rename_i e; exact ⟨trivial, e.symm⟩
  · rename_i ne
    split
    · rename_i e; exact ⟨trivial, e.symm⟩
    · cases d with
      | num lo hi =>
        have hq : ∀ q ∈ sp, PtOk (.num lo hi) (showPt (.num lo hi) q) ∧ ptV (.num lo hi) (showPt (.num lo hi) q) = q := fun q hq => showPt_len ok (hin q hq).1 (ht.2 q hq) (hin q hq).2
        have e : (sp.map (showPt (.num lo hi))).map (ptV (.num lo hi)) = sp := by
          rw [List.map_map]
          refine (List.map_congr_left (g := id) fun q m => (hq q m).2).trans (List.map_id _)
        refine ⟨⟨fun e => ne (List.map_eq_nil_iff.mp e), by rw [List.length_map]; exact h100, fun p hp => ?_, by rw [e]; exact ht.asc⟩, ?_⟩
        · obtain ⟨q, hq', rfl⟩ := List.mem_map.mp hp
          exact (hq q hq').1
        · show mergeS ((sp.map (showPt (.num lo hi))).map (ptV (.num lo hi))) = sp
          rw [e, merge_tidy ht]
      | words ws =>
        obtain ⟨h0, h40, _, hnd⟩ := ok.words ws rfl
        have el : (sp.flatMap fun q => (codesOf q).map fun c => Pt.word (wordAt ws c)) = (sp.flatMap codesOf).map fun c => Pt.word (wordAt ws c) := by
          rw [List.map_flatMap]
        have ev : ((sp.flatMap codesOf).map fun c => Pt.word (wordAt ws c)).map (ptV (.words ws)) = (sp.flatMap codesOf).map fun c => (c, c) := by
          rw [List.map_map]
          exact List.map_congr_left fun c m => word_pt hnd (flat_mem hin m).1 (flat_mem hin m).2
        show FlOk (.words ws) (.parts (sp.flatMap fun q => (codesOf q).map fun c => Pt.word (wordAt ws c))) ∧ flV (.words ws) (.parts (sp.flatMap fun q => (codesOf q).map fun c => Pt.word (wordAt ws c))) = sp
        refine ⟨⟨fun e => ?_, ?_, fun p hp => ?_, ?_⟩, ?_⟩
        · cases sp with
          | nil => exact ne rfl
          | cons q sp =>
            rw [List.flatMap_cons] at e
            have e := (List.append_eq_nil_iff.mp e).1
            have := congrArg List.length e
            rw [List.length_map, codes_len] at this
            have := ht.2 q List.mem_cons_self
            simp at *
            omega
        · have := sorted_len _ 0 ws.length (flat_sorted ht) (fun c m => by have := flat_mem hin m; omega) (by omega)
          rw [el, List.length_map]
          omega
        · rw [el] at hp
          obtain ⟨c, hc, rfl⟩ := List.mem_map.mp hp
          exact List.mem_of_getElem? (wordAt_mem (flat_mem hin hc).1 (flat_mem hin hc).2)
        · rw [el, ev]
          refine ⟨?_, fun p hp => ?_⟩
          · rw [List.pairwise_map]; exact flat_sorted ht
          · obtain ⟨c, _, rfl⟩ := List.mem_map.mp hp; exact Int.le_refl _
        · exact merge_flat ws hnd sp [] ht hin
def showR (ds : List Dom) (r : Row) : List Fl × Int := ((ds.zip r.1).map fun p => showFl p.1 p.2, r.2)
def showT (t : Tab) : TbT := ⟨t.name, t.names, t.out, t.way, t.rows.map (showR t.doms)⟩
def showSrc (b : Bk) : Src := ⟨b.facts, b.tabs.map showT, false⟩
theorem show_srcD (b : Bk) : srcD (showSrc b) = namesOf b.facts b.tabs := by
  unfold srcD showSrc namesOf
  rw [List.map_map]
  rfl
theorem show_doms {b : Bk} (ok : BkOk b) {t : Tab} (m : t ∈ b.tabs) : domsOf (srcD (showSrc b)) (showT t) = t.doms := by
  have tok := ok.tabs t m
  unfold domsOf
  rw [show_srcD]
  apply List.ext_getElem?
  intro i
  show (t.names.map _)[i]? = _
  rw [List.getElem?_map]
  cases e : t.names[i]? with
  | none =>
    have := List.getElem?_eq_none_iff.mp e
    exact (List.getElem?_eq_none_iff.mpr (by rw [tok.dlen]; exact this)).symm
  | some c =>
    have hi := (List.getElem?_eq_some_iff.mp e).1
    have hd : t.doms[i]? = some (t.doms[i]'(by rw [tok.dlen]; exact hi)) := by simp
    rw [hd]
    show some ((look _ c).getD _) = _
    rw [ok.cols t m i c _ e hd]
    rfl
theorem show_cells {ds : List Dom} {out : Dom} (dok : ∀ d ∈ ds, d.Ok) {r : Row} (ok : RowOk ds out r) : cellsF ds (showR ds r) = r.1 := by
  unfold cellsF showR
  apply List.ext_getElem?
  intro i
  rw [List.getElem?_map]
  cases e : r.1[i]? with
  | none =>
    have := List.getElem?_eq_none_iff.mp e
    have hl := ok.len
    rw [List.getElem?_eq_none_iff.mpr (by rw [List.length_zip, List.length_map, List.length_zip]; omega)]
    rfl
  | some sp =>
    have hi := (List.getElem?_eq_some_iff.mp e).1
    have hl := ok.len
    have hd : ds[i]? = some (ds[i]'(by omega)) := by simp [← hl, hi]
    have e2 : ((ds.zip r.1).map fun p => showFl p.1 p.2)[i]? = some (showFl (ds[i]'(by omega)) sp) := by
      rw [List.getElem?_map, show (ds.zip r.1)[i]? = some (ds[i]'(by omega), sp) from List.getElem?_zip_eq_some.mpr ⟨hd, e⟩]
      rfl
    rw [show (((ds.zip r.1).map fun p => showFl p.1 p.2).zip ds)[i]? = some (showFl (ds[i]'(by omega)) sp, ds[i]'(by omega)) from List.getElem?_zip_eq_some.mpr ⟨e2, hd⟩]
    obtain ⟨h1, h2, h3⟩ := ok.cells i sp _ e hd
    exact congrArg some (show_fl (dok _ (List.mem_of_getElem? hd)) h1 h2 h3).2
theorem show_tab {b : Bk} (ok : BkOk b) {t : Tab} (m : t ∈ b.tabs) : tabOf (srcD (showSrc b)) (showT t) = t := by
  have tok := ok.tabs t m
  unfold tabOf
  rw [show_doms ok m]
  show (⟨t.name, t.names, t.doms, t.out, t.way, (t.rows.map (showR t.doms)).map fun r => (cellsF t.doms r, r.2)⟩ : Tab) = t
  have e : (t.rows.map (showR t.doms)).map (fun r => (cellsF t.doms r, r.2)) = t.rows := by
    rw [List.map_map]
    refine (List.map_congr_left (g := id) fun r hr => ?_).trans (List.map_id _)
    show (cellsF t.doms (showR t.doms r), r.2) = r
    rw [show_cells tok.doms (tok.rows r hr)]
  rw [e]
theorem show_bk {b : Bk} (ok : BkOk b) : srcB (showSrc b) = b := by
  unfold srcB
  have e : (showSrc b).tabs.map (tabOf (srcD (showSrc b))) = b.tabs := by
    show (b.tabs.map showT).map _ = _
    rw [List.map_map]
    exact (List.map_congr_left (g := id) fun t m => show_tab ok m).trans (List.map_id _)
  rw [e]
  rfl
theorem show_ok {b : Bk} (ok : BkOk b) (few : (srcP (showSrc b)).length ≤ 200) (some_ : srcP (showSrc b) ≠ []) : SrcOk (showSrc b) := by
  refine ⟨by rw [show_bk ok]; exact ok, fun t' ht' => ?_, few, some_⟩
  obtain ⟨t, ht, rfl⟩ := List.mem_map.mp (show t' ∈ b.tabs.map showT from ht')
  have tok := ok.tabs t ht
  refine ⟨fun c hc => ?_, fun r' hr' => ?_, fun r' hr' i f d hf hd => ?_⟩
  · obtain ⟨i, hi⟩ := List.mem_iff_getElem?.mp (show c ∈ t.names from hc)
    have hl := (List.getElem?_eq_some_iff.mp hi).1
    have hd : t.doms[i]? = some (t.doms[i]'(by rw [tok.dlen]; exact hl)) := by simp
    exact ⟨_, by rw [show_srcD]; exact ok.cols t ht i c _ hi hd, tok.doms _ (List.mem_of_getElem? hd)⟩
  · obtain ⟨r, hr, rfl⟩ := List.mem_map.mp (show r' ∈ t.rows.map (showR t.doms) from hr')
    have rl := (tok.rows r hr).len
    have dl := tok.dlen
    show ((t.doms.zip r.1).map _).length = t.names.length
    rw [List.length_map, List.length_zip]
    omega
  · obtain ⟨r, hr, rfl⟩ := List.mem_map.mp (show r' ∈ t.rows.map (showR t.doms) from hr')
    rw [show_doms ok ht] at hd
    have hf : ((t.doms.zip r.1).map fun p => showFl p.1 p.2)[i]? = some f := hf
    rw [List.getElem?_map] at hf
    obtain ⟨p, hp, rfl⟩ := Option.map_eq_some_iff.mp hf
    obtain ⟨h1, h2⟩ := List.getElem?_zip_eq_some.mp hp
    rw [hd] at h1
    have e : d = p.1 := Option.some.inj h1
    subst e
    obtain ⟨g1, g2, g3⟩ := (tok.rows r hr).cells i p.2 _ h2 hd
    exact (show_fl (tok.doms _ (List.mem_of_getElem? hd)) g1 g2 g3).1
end Rk
set_option Elab.async false
set_option linter.all false
set_option maxRecDepth 100000
set_option maxHeartbeats 1000000
namespace Rk
open PySem PySem.Spec PyProof.Rows L2
open TL
theorem app_assoc (a b c : Str) : a ++ b ++ c = a ++ (b ++ c) := ext_tl (by rw [tl_append, tl_append, tl_append, tl_append, List.append_assoc])
section
variable {P : Program} {w : World} {K : PySem.W.Frag} {mg : Str → Option Value} {base : Heap}
abbrev n_head_text : List Str := ["table", "tail"]
theorem sc_head_text : FnScope n_head_text ["table"] (defScope s_head_text) := ⟨rfl, rfl, rfl, by decide +kernel, rfl, by decide +kernel, by decide +kernel⟩
theorem ok_head_text (T : Tx K mg) : Def P w K mg base "head_text" ["table"] 3 (Sp1 (tTab K) tStr fun t s => TabOk t ∧ s = lnS (headP (showT t))) := by
  refine ⟨?_, T.g_head_text, T.f_head_text.kp, T.f_head_text.bindsN fun _ _ _ _ _ _ us hl => match us, hl with | [_], _ => rfl⟩
  refine fn_body T.f_head_text sc_head_text (fun _ _ _ _ h => len1 h) fun cdv A outer s H vs Q E hr h => ?_
  obtain ⟨ls, v, t, s, rfl, L, ⟨at_, dx, v1, v2, v3, v4, rfl, hat, ⟨an, un, rfl, han, rn⟩, r2, r3, r4⟩, ⟨ok, rfl⟩, k⟩ := h
  have hat := cut_at hat
  have han := cut_at han
  obtain rfl := rs_str rn
  have hd := domS_len ok.out
  have hw := (way_free t.way).2.2
  have hn := (isWord_len ok.word).2
  have h1 : (" -> " : Str).length = 4 := by decide +kernel
  have h2 : (" by " : Str).length = 4 := by decide +kernel
  have h3 : ("table " : Str).length = 6 := by decide +kernel
  have h4 : (": " : Str).length = 2 := by decide +kernel
  have hj := join_most ", " (ps := t.names) (k := 12) fun c hc => (isWord_len (ok.words c hc)).2
  have hjj := join_le ", " (ps := t.names) (k := 12) fun c hc => (isWord_len (ok.words c hc)).2
  have hm : t.names.length * (12 + (", " : Str).length) ≤ 4 * 14 := Nat.mul_le_mul ok.cols.2 (by decide +kernel)
  refine ⟨_, pss_cons (ps_set (i := 1) sc_head_text.nd rfl (.inl rfl) (pe_op op_add_str (pe_op op_add_str (pe_op op_add_str pe_str (pe_disp0 (P := P) (w := w) (K := K) (mg := mg) (base := base) (pe_fld (pv 0) rfl) hr)) pe_str) (pe_fld (pv 0) rfl)))
  (pss_one (ps_ret (pe_op op_add_str (pe_op op_add_str (pe_op op_add_str (pe_op op_add_str pe_str (pe_fld (pv 0) rfl)) pe_str) (pe_join pe_str (pe_fld (pv 0) rfl))) (pv 1)))), ?_⟩
  obtain ⟨a, C, dx2, fs2, ev, ha, nm, M⟩ := dom_written (P := P) (w := w) (base := base) T ((tDom K).mono cut_sub r3)
  refine ⟨_, rfl, at_, _, dx, _, v3, rfl, hat, T.c_Table, T.a_Table_outcome, ft_out _ _ _ _ _ _, a, C, dx2, fs2, _, ev, ha, nm, ⟨_, _, by decide, M⟩, ?_⟩
  refine ⟨ls, _, t.out, _, rfl, L, r3, ⟨rfl, ok.out, rfl⟩, fun H1 w1 s1 e1 => ?_⟩
  obtain rfl : w1 = .str (domS t.out) := e1
  refine ⟨_, _, rfl, rfl, szl _ (by omega), _, _, rfl, rfl, szl _ (by rw [app_len]; omega), ?_⟩
  refine ⟨_, rfl, at_, _, dx, _, _, rfl, s1 _ _ hat, T.c_Table, T.a_Table_way, ft_way _ _ _ _ _ _, _, _, rfl, rfl, szl _ (by rw [app_len, app_len]; omega), ?_⟩
  refine ⟨_, rfl, at_, _, dx, _, _, rfl, s1 _ _ hat, T.c_Table, T.a_Table_name, ft_name _ _ _ _ _ _, _, _, rfl, rfl, szl _ (by omega), _, _, rfl, rfl, szl _ (by rw [app_len]; omega), ?_⟩
  refine ⟨⟨_, rfl⟩, _, rfl, at_, _, dx, _, .ref an, rfl, s1 _ _ hat, T.c_Table, T.a_Table_names, ft_names _ _ _ _ _ _, _, an, t.names, rfl, rfl, .inl (SqL.of (s1 _ _ han)), by omega, _, _, rfl, rfl, szl _ (by rw [app_len, app_len]; omega), ?_⟩
  refine ⟨_, rfl, _, _, rfl, rfl, szl _ (by simp only [app_len]; omega), k _ _ s1 ?_⟩
  show V.str _ = V.str (lnS (headP (showT t)))
  refine congrArg V.str (ext_tl ?_)
  show tl _ = tl ("table " ++ (t.name ++ ": " ++ (Txt.join ", " t.names ++ " -> " ++ (domS t.out ++ " by " ++ t.way.nm))))
  simp only [tl_append, List.append_assoc]
abbrev n_row_text : List Str := ["table", "k", "cells", "code", "fields", "domain", "spans"]
theorem sc_row_text : FnScope n_row_text ["table", "k"] (defScope s_row_text) := ⟨rfl, rfl, rfl, by decide +kernel, rfl, by decide +kernel, by decide +kernel⟩
theorem ok_row_text (T : Tx K mg) : Def P w K mg base "row_text" ["table", "k"] 4 (Sp2 (tTab K) tInt tStr fun t k s => TabOk t ∧ 0 ≤ k ∧ ∃ r, t.rows[k.toNat]? = some r ∧ LnOk (rowP t.out (showR t.doms r)) ∧ s = lnS (rowP t.out (showR t.doms r))) := by
  refine ⟨?_, T.g_row_text, T.f_row_text.kp, T.f_row_text.bindsN fun _ _ _ _ _ _ us hl => match us, hl with | [_, _], _ => rfl⟩
  refine fn_body T.f_row_text sc_row_text (fun _ _ _ _ h => len2 h) fun cdv A outer s H vs Q E hr h => ?_
  obtain ⟨ls, v, vk, t, kk, s, rfl, L, ⟨at_, dx, v1, v2, v3, v4, rfl, hat, r1, ⟨ad, ud, rfl, had, rd⟩, r3, ⟨ar, us, rfl, har, rr⟩⟩, rfl, ⟨ok, h0, r, hrw, hln, rfl⟩, k⟩ := h
  have hat := cut_at hat
  have har := cut_at har
  have had := cut_at had
  obtain ⟨x, hx, tr, y1, y2, rfl, htr, ⟨ac, cells, rfl, hac, rc⟩, rcode⟩ := rr.at_ hrw
  obtain rfl : y2 = .int r.2 := rcode
  have htr := cut_at htr
  have hac := cut_at hac
  have rok := ok.rows r (List.mem_of_getElem? hrw)
  have l1 := rd.len
  have l2 := rc.len
  have l3 := rok.len
  have dl := ok.dlen
  have hc := ok.cols
  have hz := ln_len hln
  refine ⟨_, pss_cons (ps_asg (pe_ix ix_list (pe_fld (pv 0) rfl) (pv 1) (fun _ _ => rfl)) (pg_tup (by rfl) (pgs_cons (pg_name (i := 2) sc_row_text.nd rfl (.inl rfl)) (pgs_cons (pg_name (i := 3) sc_row_text.nd rfl (.inl rfl)) pgs_nil))))
  (pss_cons (ps_setLc (i := 4) (own := [("domain", 5), ("spans", 6)]) (g := gTup _ 2 (gCons (gName 5) (gCons (gName 6) gNil))) rfl sc_row_text.nd rfl rfl (sw_true rfl rfl rfl (by decide +kernel)) (pi_zip (by rfl) T.n_zip (pa_cons (pe_fld (pv 0) rfl) (pa_cons (pv 2) pa_nil))) (blkOk_by (own := [("domain", 5), ("spans", 6)]) (N := n_row_text) (sc := defScope s_row_text) (by decide +kernel)) (fun _ _ _ _ _ => (pg_tup (by rfl) (pgs_cons (pg_name (i := 5) sc_row_text.nd rfl (.inl rfl)) (pgs_cons (pg_name (i := 6) sc_row_text.nd rfl (.inl rfl)) pgs_nil)))) (fun _ _ _ _ _ => pts_nil) (fun _ _ _ _ _ => (pe_cD (ok_show_cell T) hr (pa_cons (pv 5) (pa_cons (pv 6) pa_nil)))))
  (pss_one (ps_ret (pe_op op_add_str (pe_op op_add_str (pe_op op_add_str pe_str (pe_join pe_str (pv 4))) pe_str) (pe_cD (ok_show_value T) hr (pa_cons (pe_fld (pv 0) rfl) (pa_cons (pv 3) pa_nil))))))), ?_⟩
  refine ⟨_, rfl, at_, _, dx, _, .ref ar, rfl, hat, T.c_Table, T.a_Table_rows, ft_rows _ _ _ _ _ _, _, rfl, ar, us, kk, _, rfl, rfl, SqL.of har, at_of (j := kk.toNat) (by omega) hx, ?_⟩
  refine ⟨tr, _, rfl, SqT.of htr, rfl, _, _, rfl, _, _, rfl, rfl, ?_⟩
  refine ⟨_, rfl, at_, _, dx, _, .ref ad, rfl, hat, T.c_Table, T.a_Table_domains, ft_doms _ _ _ _ _ _, _, rfl, ad, ac, _, _, rfl, SqL.of had, SqL.of hac, fun D nD => ?_⟩
  refine lc_map (walk_zip (K := K) (a := ad) (b := ac) (xs := ud) (ys := cells) rfl) (u := tStr) (ls := ls) ((showR t.doms r).1.map flS) nD L (by omega) (by unfold showR; rw [List.length_map, List.length_map, List.length_zip]; omega) (fun H' s' => ⟨SqL.of (s' _ _ had), SqL.of (s' _ _ hac)⟩) ?_ ?_
  · rintro j y z H2 H3 R hz2 s2 sc L2 ⟨tt, z1, z2, rfl, nt, rfl, hz1, hz3⟩ hR
    have hz1 : ud[j]? = some z1 := hz1
    have hz3 : cells[j]? = some z2 := hz3
    obtain ⟨d, hd, rdv⟩ := rd.get hz1
    obtain ⟨sp, hsp, rsp⟩ := rc.get hz3
    have ez : z = flS (showFl d sp) := by
      unfold showR at hz2
      rw [List.getElem?_map, List.getElem?_map, show (t.doms.zip r.1)[j]? = some (d, sp) from List.getElem?_zip_eq_some.mpr ⟨hd, hsp⟩] at hz2
      exact (Option.some.inj hz2).symm
    subst ez
    obtain ⟨g1, g2, g3⟩ := rok.cells j sp d hsp hd
    have s3 : Same H2 (upd H2 tt (.tup [z1, z2])) := Same.upd nt
    have scc := sc.trans s3.cut
    refine ⟨tt, _, rfl, SqT.of upd_same, rfl, _, _, rfl, _, _, rfl, rfl, rfl, ?_⟩
    exact ⟨_, rfl, _, rfl, _, _, _, d, sp, _, rfl, L2.to s3, (tDom K).mono scc rdv, tSpans.mono scc rsp, ⟨ok.doms d (List.mem_of_getElem? hd), g1, g2, g3, rfl⟩, fun H4 w4 s4 r4 => hR _ _ (s3.trans s4) r4⟩
  rintro H1 s1 ⟨D', uf, e, hD, rf⟩
  cases e
  obtain rfl := rs_str rf
  have hD := cut_at hD
  have e1 : lnS (rowP t.out (showR t.doms r)) = "when " ++ (Txt.join " | " ((showR t.doms r).1.map flS) ++ " -> " ++ valS t.out r.2) := rfl
  have e2 : (lnS (rowP t.out (showR t.doms r))).length = ("when " : Str).length + ((Txt.join " | " ((showR t.doms r).1.map flS)).length + (" -> " : Str).length + (valS t.out r.2).length) := by rw [e1]; simp only [app_len]
  have hfl := hln.2.2.1
  have hjj := join_le " | " (ps := (showR t.doms r).1.map flS) (k := 12600) fun f hf => (hfl f hf).2.2
  have hm : ((showR t.doms r).1.map flS).length * (12600 + (" | " : Str).length) ≤ 4 * 12603 := Nat.mul_le_mul hln.2.1 (by decide +kernel)
  refine ⟨⟨_, rfl⟩, _, rfl, _, D, (showR t.doms r).1.map flS, rfl, rfl, .inl (SqL.of hD), by omega, _, _, rfl, rfl, szb _ (by omega), _, _, rfl, rfl, szb _ (by simp only [app_len]; omega), ?_⟩
  refine ⟨_, rfl, at_, _, dx, _, v3, rfl, s1 _ _ hat, T.c_Table, T.a_Table_outcome, ft_out _ _ _ _ _ _, _, rfl, ?_⟩
  refine ⟨ls, _, _, t.out, r.2, _, rfl, L.to s1, (tDom K).mono s1.cut r3, rfl, ⟨ok.out, rok.code.1, rok.code.2, rfl⟩, fun H2 w2 s2 e3 => ?_⟩
  obtain rfl : w2 = .str (valS t.out r.2) := e3
  refine ⟨_, _, rfl, rfl, szb _ (by simp only [app_len]; omega), k _ _ (s1.trans s2) ?_⟩
  refine congrArg V.str (ext_tl ?_)
  rw [e1]
  simp only [tl_append, List.append_assoc]
def partsOf (b : Bk) : List Str := (srcP (showSrc b)).map lnS
theorem parts_split' (b : Bk) : partsOf b = (b.facts.map fun p => lnS (factP p)) ++ b.tabs.flatMap fun t => lnS (headP (showT t)) :: (t.rows.map fun r => lnS (rowP t.out (showR t.doms r))) := by
  unfold partsOf srcP
  rw [if_neg (show ¬ (showSrc b).low = true from Bool.false_ne_true), List.map_append]
  congr 1
  · show (b.facts.map factP).map lnS = _
    rw [List.map_map]; rfl
  · show (tabsP (b.tabs.map showT)).map lnS = _
    unfold tabsP
    rw [List.flatMap_map, List.map_flatMap]
    congr 1
    funext t
    show lnS (headP (showT t)) :: ((t.rows.map (showR t.doms)).map (rowP t.out)).map lnS = _
    rw [List.map_map, List.map_map]
    rfl
end
end Rk
set_option Elab.async false
set_option linter.all false
set_option maxRecDepth 100000
set_option maxHeartbeats 1000000
namespace Rk
open PySem PySem.Spec PyProof.Rows L2
open TL
def tLines (t : Tab) : List Str := lnS (headP (showT t)) :: (t.rows.map fun r => lnS (rowP t.out (showR t.doms r)))
section
variable {P : Program} {w : World} {K : PySem.W.Frag} {mg : Str → Option Value} {base : Heap}
abbrev n_show_book : List Str := ["book", "lines", "name", "domain", "table", "k"]
theorem sc_show_book : FnScope n_show_book ["book"] (defScope s_show_book) := ⟨rfl, rfl, rfl, by decide +kernel, rfl, by decide +kernel, by decide +kernel⟩
theorem ok_show_book (T : Tx K mg) : Def P w K mg base "show_book" ["book"] 5 (Sp1 (tBk K) tStr fun b s => BkOk b ∧ SrcOk (showSrc b) ∧ s = srcS (showSrc b)) := by
  refine ⟨?_, T.g_show_book, T.f_show_book.kp, T.f_show_book.bindsN fun _ _ _ _ _ _ us hl => match us, hl with | [_], _ => rfl⟩
  refine fn_body T.f_show_book sc_show_book (fun _ _ _ _ h => len1 h) fun cdv A outer s H vs Q E hr h => ?_
  obtain ⟨ls, v, b, s, rfl, L, ⟨ab, dx, v1, v2, rfl, hab, ⟨af, uf, rfl, haf, rf⟩, ⟨at_, ut, rfl, hat, rt⟩⟩, ⟨ok, sok, rfl⟩, k⟩ := h
  have hab := cut_at hab
  have haf := cut_at haf
  have hat := cut_at hat
  have e1 := rf.len
  have e2 := rt.len
  have m1 := ok.most.1
  have m2 := ok.most.2
  have hlines := src_lines sok
  have eall : (srcP (showSrc b)).map lnS = (b.facts.map fun p => lnS (factP p)) ++ b.tabs.flatMap tLines := parts_split' b
  have few : ((b.facts.map fun p => lnS (factP p)) ++ b.tabs.flatMap tLines).length ≤ 200 := by rw [← eall, List.length_map]; exact sok.few
  have hmem : ∀ x ∈ (b.facts.map fun p => lnS (factP p)) ++ b.tabs.flatMap tLines, x.length ≤ 60000 := by
    intro x hx
    rw [← eall] at hx
    obtain ⟨p, hp, rfl⟩ := List.mem_map.mp hx
    exact ln_len (hlines p hp).1
  have hpre : ∀ i, ((b.facts.map fun p => lnS (factP p)) ++ (b.tabs.take i).flatMap tLines).length ≤ 200 := by
    intro i
    have e : b.tabs.flatMap tLines = (b.tabs.take i).flatMap tLines ++ (b.tabs.drop i).flatMap tLines := by rw [← List.flatMap_append, List.take_append_drop]
    rw [e] at few
    simp only [List.length_append] at few ⊢
    omega
  refine ⟨_, pss_cons (ps_set (i := 1) sc_show_book.nd rfl (.inl rfl) (pe_lst pa_nil))
  (pss_cons (ps_for PassesOwn.never rfl (pi_list (pe_fld (pv 0) rfl)) (pg_tup (by rfl) (pgs_cons (pg_name (i := 2) sc_show_book.nd rfl (.inl rfl)) (pgs_cons (pg_name (i := 3) sc_show_book.nd rfl (.inl rfl)) pgs_nil)))
  (pss_one (ps_expr (pe_bm PySem.F.plainAttrs_list PySem.F.slot_list_append PySem.F.type_list_append mt_append (pv 1) (pa_cons (pe_op op_add_str (pe_op op_add_str (pe_op op_add_str pe_str (pv 2)) pe_str) (pe_disp0 (P := P) (w := w) (K := K) (mg := mg) (base := base) (pv 3) hr)) pa_nil)))))
  (pss_cons (ps_for PassesOwn.never rfl (pi_list (pe_fld (pv 0) rfl)) (pg_name (i := 4) sc_show_book.nd rfl (.inr rfl))
  (pss_cons (ps_expr (pe_bm PySem.F.plainAttrs_list PySem.F.slot_list_append PySem.F.type_list_append mt_append (pv 1) (pa_cons (pe_cD (ok_head_text T) hr (pa_cons (pv 4) pa_nil)) pa_nil)))
  (pss_one (ps_expr (pe_bm PySem.F.plainAttrs_list PySem.F.slot_list_extend PySem.F.type_list_extend mt_extend (pv 1) (pa_cons (pe_lc (own := [("k", 5)]) (g := gName 5) rfl sc_show_book.nd (pi_range1 (by rfl) T.n_range (pa_cons (pe_callB call_len_seq (by rfl) T.n_len PySem.boot_len (pa_cons (pe_fld (pv 4) rfl) pa_nil)) pa_nil)) (blkOk_by (own := [("k", 5)]) (N := n_show_book) (sc := defScope s_show_book) (by decide +kernel)) (fun _ _ _ _ _ => (pg_name (i := 5) sc_show_book.nd rfl (.inl rfl))) (fun _ _ _ _ _ => pts_nil) (fun _ _ _ _ _ => (pe_cD (ok_row_text T) hr (pa_cons (pv 4) (pa_cons (pv 5) pa_nil))))) pa_nil))))))
  (pss_one (ps_ret (pe_join pe_str (pv 1)))))), ?_⟩
  refine ⟨Nat.zero_le _, fun l nl => ?_⟩
  have s0 : Same H (upd H l (.lst [])) := Same.upd nl
  refine ⟨_, rfl, ab, _, dx, _, .ref af, rfl, s0 _ _ hab, T.c_Book, T.a_Book_facts, fb_facts _ _, af, rfl, ⟨_, SqL.of (s0 _ _ haf)⟩, for_list (K := K) (a := af) (xs := uf) (fun i σ H' => (∃ c d, σ = [some (.ref ab), some (.ref l), c, d, none, none]) ∧ Same H H' ∧ H' l = some (.lst (((b.facts.take i).map fun p => lnS (factP p)).map V.str))) ⟨⟨_, _, rfl⟩, s0, by rw [List.take_zero]; exact upd_same⟩ (fun i σ H' _ p => SqL.of (p.2.1 _ _ haf)) ?_ ?_⟩
  · rintro i x σ H1 hx ⟨⟨c, d, rfl⟩, s1, hl⟩
    obtain ⟨p, hp, t, y1, y2, rfl, ht, rfl, rd⟩ := rf.get hx
    have hi := (List.getElem?_eq_some_iff.mp hp).1
    obtain ⟨hpw, hpo⟩ := ok.facts p (List.mem_of_getElem? hp)
    have hdl := domS_len hpo
    have hwl := isWord_len hpw
    have h5 : ("fact " : Str).length = 5 := by decide +kernel
    have h6 : (" " : Str).length = 1 := by decide +kernel
    refine ⟨t, _, rfl, SqT.of (s1 _ _ (cut_at ht)), rfl, _, _, rfl, _, _, rfl, rfl, ?_⟩
    refine ⟨_, rfl, .inl ⟨rfl, _, SqL.of hl⟩, _, rfl, _, _, rfl, rfl, szl _ (by omega), _, _, rfl, rfl, szl _ (by rw [app_len]; omega), ?_⟩
    obtain ⟨a, C, dx2, fs2, ev, ha, nm, M⟩ := dom_written (P := P) (w := w) (base := base) T ((tDom K).mono (cut_sub.trans s1) rd)
    refine ⟨_, rfl, a, C, dx2, fs2, _, ev, ha, nm, ⟨_, _, by decide, M⟩, ?_⟩
    refine ⟨ls, _, p.2, _, rfl, L.to s1, (tDom K).mono s1.cut rd, ⟨rfl, hpo, rfl⟩, fun H2 w2 s2 e3 => ?_⟩
    obtain rfl : w2 = .str (domS p.2) := e3
    refine ⟨_, _, rfl, rfl, szl _ (by rw [app_len, app_len]; omega), l, _, _, rfl, rfl, s2 _ _ hl, small1000 (by rw [List.length_map, List.length_map, List.length_take]; omega), ⟨_, _, rfl⟩, (s1.trans s2).mut nl, ?_⟩
    have e4 : "fact " ++ p.1 ++ " " ++ domS p.2 = lnS (factP p) := ext_tl (by show _ = tl ("fact " ++ (p.1 ++ " " ++ domS p.2)); simp only [tl_append, List.append_assoc])
    rw [e4, take_snoc hp, List.map_append, List.map_append]
    exact upd_same
  rintro σ H1 ⟨⟨c, d, rfl⟩, s1, hl⟩
  rw [e1, List.take_length] at hl
  refine ⟨_, rfl, ab, _, dx, _, .ref at_, rfl, s1 _ _ hab, T.c_Book, T.a_Book_tables, fb_tabs _ _, at_, rfl, ⟨_, SqL.of (s1 _ _ hat)⟩, for_list (K := K) (a := at_) (xs := ut) (fun i σ H' => (∃ c2 c3, σ = [some (.ref ab), some (.ref l), c, d, c2, c3]) ∧ Same H H' ∧ H' l = some (.lst (((b.facts.map fun p => lnS (factP p)) ++ (b.tabs.take i).flatMap tLines).map V.str))) ⟨⟨_, _, rfl⟩, s1, by rw [List.take_zero, List.flatMap_nil, List.append_nil]; exact hl⟩ (fun i σ H' _ p => SqL.of (p.2.1 _ _ hat)) ?_ ?_⟩
  · rintro i x σ H2 hx ⟨⟨c2, c3, rfl⟩, s2, hl2⟩
    obtain ⟨t, ht, rx⟩ := rt.get hx
    have tok := ok.tabs t (List.mem_of_getElem? ht)
    have hp1 := hpre i
    have hp2 := hpre (i + 1)
    have e5 : (b.tabs.take (i + 1)).flatMap tLines = (b.tabs.take i).flatMap tLines ++ tLines t := by rw [take_snoc ht, List.flatMap_append, List.flatMap_cons, List.flatMap_nil, List.append_nil]
    have e6 : (tLines t).length = t.rows.length + 1 := by unfold tLines; rw [List.length_cons, List.length_map]
    rw [e5] at hp2
    simp only [List.length_append] at hp1 hp2
    refine ⟨_, rfl, .inl ⟨rfl, _, SqL.of hl2⟩, _, rfl, ls, _, t, _, rfl, L.to s2, (tTab K).mono s2.cut rx, ⟨tok, rfl⟩, fun H3 w3 s3 e3 => ?_⟩
    obtain rfl : w3 = .str (lnS (headP (showT t))) := e3
    refine ⟨l, _, _, rfl, rfl, s3 _ _ hl2, small1000 (by rw [List.length_map, List.length_append]; omega), ?_⟩
    have s23 := s2.trans s3
    have s4 := s23.mut (o := .lst (((b.facts.map fun p => lnS (factP p)) ++ (b.tabs.take i).flatMap tLines).map V.str ++ [.str (lnS (headP (showT t)))])) nl
    have hl4 : upd H3 l (.lst (((b.facts.map fun p => lnS (factP p)) ++ (b.tabs.take i).flatMap tLines).map V.str ++ [.str (lnS (headP (showT t)))])) l = _ := upd_same
    have c4 : Same (cut H2 (l :: ls)) (cut (upd H3 l (.lst (((b.facts.map fun p => lnS (factP p)) ++ (b.tabs.take i).flatMap tLines).map V.str ++ [.str (lnS (headP (showT t)))]))) (l :: ls)) := by
      rw [cut_upd List.mem_cons_self]; exact s3.cut
    have c04 := (s2.more1 nl).trans c4
    generalize upd H3 l (.lst (((b.facts.map fun p => lnS (factP p)) ++ (b.tabs.take i).flatMap tLines).map V.str ++ [.str (lnS (headP (showT t)))])) = H4 at s4 hl4 c4 c04
    have rx4 := (tTab K).mono c04 rx
    obtain ⟨ax, dx3, y1, y2, y3, y4, rfl, hax, q1, q2, q3, ⟨ar, ur, rfl, har, rr⟩⟩ := id rx4
    have hax := cut_at hax
    have har := cut_at har
    have e7 := rr.len
    refine ⟨_, rfl, .inl ⟨rfl, _, SqL.of hl4⟩, ?_⟩
    refine ⟨_, rfl, ax, _, dx3, _, .ref ar, rfl, hax, T.c_Table, T.a_Table_rows, ft_rows _ _ _ _ _ _, ar, ur, rfl, .inl (SqL.of har), _, rfl, by omega, by omega, fun D nD => ?_⟩
    have hm : ∀ r ∈ t.rows, LnOk (rowP t.out (showR t.doms r)) := by
      intro r hr
      refine (hlines _ ?_).1
      unfold srcP
      rw [if_neg (show ¬ (showSrc b).low = true from Bool.false_ne_true)]
      refine List.mem_append_right _ (List.mem_flatMap.mpr ⟨showT t, List.mem_map.mpr ⟨t, List.mem_of_getElem? ht, rfl⟩, List.mem_cons_of_mem _ ?_⟩)
      exact List.mem_map.mpr ⟨_, List.mem_map.mpr ⟨r, hr, rfl⟩, rfl⟩
    refine lc_map (walk_range (lo := 0)) (u := tStr) (ls := l :: ls) (t.rows.map fun r => lnS (rowP t.out (showR t.doms r))) nD (Live.cons hl4 (L.to s4)) (by omega) (by rw [List.length_map]; omega) (fun _ _ => trivial) ?_ ?_
    · rintro j y z H5 H6 R hy s5 sc L2 ⟨rfl, rfl⟩ hR
      rw [List.getElem?_map] at hy
      obtain ⟨r, hr, rfl⟩ := Option.map_eq_some_iff.mp hy
      exact ⟨rfl, _, rfl, _, rfl, _, _, _, t, 0 + (j : Nat), _, rfl, L2, (tTab K).mono sc rx4, rfl, ⟨tok, by omega, r, by rw [show ((0 : Int) + (j : Nat)).toNat = j by omega]; exact hr, hm r (List.mem_of_getElem? hr), rfl⟩, fun H7 w7 s7 r7 => hR _ _ s7 r7⟩
    · rintro H5 s5 ⟨D', us, e, hD, rs⟩
      cases e
      obtain rfl := rs_str rs
      refine ⟨l, D, _, _, rfl, rfl, s5 _ _ hl4, cut_at hD, szl _ ?_, ⟨_, _, rfl⟩, (s4.trans s5).mut nl, ?_⟩
      · simp only [List.length_append, List.length_map, List.length_cons, List.length_nil]; omega
      · rw [upd_same, e5]
        unfold tLines
        simp only [List.map_append, List.map_cons, List.append_assoc, List.singleton_append]
  rintro σ H2 ⟨⟨c2, c3, rfl⟩, s2, hl2⟩
  rw [e2, List.take_length] at hl2
  have hj := join_le "\n" (ps := (b.facts.map fun p => lnS (factP p)) ++ b.tabs.flatMap tLines) (k := 60000) hmem
  have hm : ((b.facts.map fun p => lnS (factP p)) ++ b.tabs.flatMap tLines).length * (60000 + ("\n" : Str).length) ≤ 200 * 60001 := Nat.mul_le_mul few (by decide +kernel)
  refine ⟨⟨_, rfl⟩, _, rfl, _, l, _, rfl, rfl, .inl (SqL.of hl2), by omega, k _ _ s2 ?_⟩
  show V.str _ = V.str (Txt.join "\n" ((srcP (showSrc b)).map lnS))
  rw [eall]
end
end Rk
set_option Elab.async false
set_option linter.all false
set_option maxRecDepth 100000
set_option maxHeartbeats 1000000
namespace Rk
open PySem PySem.Spec PyProof.Rows L2 RT
/-! ### list(reversed(list)) -/
section
variable {prog : Program} {w : World} {A : Around} {E : Value → Shared → Prop} {s : Shared}
theorem ext_rev {R : Result → Shared → Prop} {it l S : Addr} {items : Array Value} {c₀ : Nat} (hh : A.handled = none) (hit : s.heap.IsRevIter it l ((items.size : Int) - 1)) (hl : s.heap.IsList l items) (hne : l ≠ it) (hn : items.size ≤ sizeLine)
    (hS : s.heap.get? S = some { cls := .type "list", data := .seq #[] c₀ }) (hSi : S ≠ it) (hSl : S ≠ l) (res : Value)
    (hR : ∀ h' tk acc' c', (∀ b o, b ≠ S → b ≠ it → s.heap.get? b = some o → h'.get? b = some o) → h'.get? S = some { cls := .type "list", dict := none, data := .seq acc' c', slots := #[] } → ItemsOf (fun i v => items[items.size - 1 - i]? = some v) acc' items.size → R (.ok (.ret res)) { s with heap := h', toks := tk }) :
    wpAny (model prog w) A.in1 (Builtin.List.listExtendWith (.ref S) (.ref it) res)
      (fun fin s' => match fin with | .done f => R (.ok f) s' | .again c' => c'.quiet = true ∧ codeAny (model prog w) A c' R s') (fun e s' => R (.error e) s') s := by
  have W := (Walks.listRev (prog := prog) (w := w) (A := A.in1) hh it l hne items).toS
  have hSf : S ∉ [it, l] := by simp only [List.mem_cons, List.not_mem_nil, or_false, not_or]; exact ⟨hSi, hSl⟩
  have hT : s.TypeIs (.ref it) "list_reverseiterator" := hit.typeIs
  have h1 : Builtin.List.listSameRef (.ref S) (.ref it) = false := by simp [Builtin.List.listSameRef, hSi]
  unfold Builtin.List.listExtendWith
  refine wpAny_bind (wpAny_typeOf hT ?_)
  rw [if_neg (by rw [h1]; decide)]
  refine wpAny_bind (wpAny_pyIter_revIter hit ?_)
  refine wpAny_bind (wpAny_holding ?_)
  unfold Builtin.List.listLengthHint
  refine wpAny_bind (wpAny_specialOf hT nolen_lri ?_)
  show wpAny _ A.in1 (specialOf (Value.ref it) (Str.ofString "__length_hint__") >>= _) _ _ _
  refine wpAny_bind (wpAny_specialOf hT hint_lri ?_)
  generalize hid : ("list_reverseiterator.__length_hint__" : String) = id0
  wp_delta
  rw [show splitId id0 = some ("list_reverseiterator", "__length_hint__") from by subst hid; decide +kernel]
  subst hid
  refine wpAny_bind (wpAny_isInstance (b := true) hT (by rw [isSubtype_type]; kernel_rfl) ?_)
  refine wpAny_pure ?_
  rw [if_neg (by decide)]
  have e0 : ((items.size : Nat) : Int) - 1 - ((0 : Nat) : Int) = (items.size : Int) - 1 := by omega
  refine wpAny_pure ⟨plainId_quiet F.plain_extend_loop _, codeAny_extend_loopS W hn _ hSf _ items.size 0 _ _ _ rfl (Nat.zero_le _) ⟨Nat.zero_le _, by rw [e0]; exact hit, hl⟩ hS (ItemsOf.nil _) fun s' acc' c' hm hS' hacc => ?_⟩
  rw [Moved.eq_with hm]
  refine hR s'.heap s'.toks acc' c' (fun b o hb hb2 e => hm.heap b o (fun hmem => ?_) e) hS' hacc
  rcases List.mem_cons.mp hmem with e' | hmem
  · exact hb e'
  · exact hb2 (List.mem_singleton.mp hmem)
theorem init_rev {R : Result → Shared → Prop} {it l S : Addr} {items : Array Value} (hh : A.handled = none) (hit : s.heap.IsRevIter it l ((items.size : Int) - 1)) (hl : s.heap.IsList l items) (hne : l ≠ it) (hn : items.size ≤ sizeLine)
    (hS : s.heap.get? S = some { cls := .type "list", data := .seq #[] }) (hSi : S ≠ it) (hSl : S ≠ l)
    (hR : ∀ h' tk acc' c', (∀ b o, b ≠ S → b ≠ it → s.heap.get? b = some o → h'.get? b = some o) → h'.get? S = some { cls := .type "list", dict := none, data := .seq acc' c', slots := #[] } → ItemsOf (fun i v => items[items.size - 1 - i]? = some v) acc' items.size → R (.ok (.ret .none)) { s with heap := h', toks := tk }) :
    wpAny (model prog w) A.in1 (Builtin.«list.__init__» ⟨[.ref S, .ref it], []⟩)
      (fun fin s' => match fin with | .done f => R (.ok f) s' | .again c' => c'.quiet = true ∧ codeAny (model prog w) A c' R s') (fun e s' => R (.error e) s') s := by
  show wpAny _ _ (do let old ← Builtin.List.listItems (.ref S); Builtin.List.listUpdate (.ref S) (fun _ => #[]); letGo old.toList.reverse; Builtin.List.listExtendWith (.ref S) (.ref it) .none) _ _ s
  refine wpAny_bind ?_
  unfold Builtin.List.listItems
  refine wpAny_bind (wpAny_seqItems hS rfl (wpAny_pure ?_))
  show wpAny _ _ (updateSeq S (fun _ => #[]) >>= fun _ => letGo (#[] : Array Value).toList.reverse >>= fun _ => Builtin.List.listExtendWith (.ref S) (.ref it) .none) _ _ s
  refine wpAny_bind (wpAny_updateSeq hS rfl ?_)
  have hS₂ := Heap.get?_update_self (Obj.mapSeq (fun _ => (#[] : Array Value))) hS rfl
  have oth : ∀ b o, b ≠ S → s.heap.get? b = some o → (s.heap.update S (Obj.mapSeq (fun _ => (#[] : Array Value)))).get? b = some o :=
    fun b o hb e => (Heap.get?_update_other _ _ (Ne.symm hb)).trans e
  refine wpAny_bind (wpAny_letGo ?_)
  have hit2 : (s.heap.update S (Obj.mapSeq (fun _ => (#[] : Array Value)))).IsRevIter it l ((items.size : Int) - 1) := hit.at fun o e => oth it o (Ne.symm hSi) e
  have hl2 : (s.heap.update S (Obj.mapSeq (fun _ => (#[] : Array Value)))).IsList l items := by
    obtain ⟨o, e, r⟩ := hl
    exact ⟨o, oth l o (Ne.symm hSl) e, r⟩
  refine ext_rev (s := { s with heap := s.heap.update S (Obj.mapSeq (fun _ => (#[] : Array Value))) }) hh hit2 hl2 hne hn hS₂ hSi hSl .none fun h' tk acc' c' hk hS' hacc => ?_
  exact hR h' tk acc' c' (fun b o hb hb2 e => hk b o hb hb2 (oth b o hb e)) hS' hacc
theorem call_list_rev {it l : Addr} {items : Array Value} {Q : Value → Shared → Prop} (hh : A.handled = none) (hit : s.heap.IsRevIter it l ((items.size : Int) - 1)) (hl : s.heap.IsList l items) (hne : l ≠ it) (hn : items.size ≤ sizeLine)
    (hQ : ∀ (h' : Heap) (tk : Nat) (acc : Array Value) (c' : Nat), (∀ b o, b ≠ it → s.heap.get? b = some o → h'.get? b = some o) → h'.get? s.heap.objs.size = some { cls := .type "list", dict := none, data := .seq acc c', slots := #[] } → ItemsOf (fun i v => items[items.size - 1 - i]? = some v) acc items.size →
      Q (.ref s.heap.objs.size) { s with heap := h', toks := tk }) :
    wpAny (model prog w) A (call (.type "list") [.ref it]) Q E s := by
  obtain ⟨oi, hoi, _⟩ := id hit
  obtain ⟨ol, hol, _⟩ := id hl
  refine callType_codes (Q₁ := fun obj s₁ => obj = .ref s.heap.objs.size ∧ s₁ = { s with heap := s.heap.push { cls := .type "list", data := .seq #[] } }) F.called_list (F.typeCall_list_1 _) F.entry_list_init
    (code_list_new _ ⟨rfl, rfl⟩) fun obj s₁ h₁ => ?_
  obtain ⟨rfl, rfl⟩ := h₁
  have hS : (s.heap.push { cls := .type "list", data := .seq #[] }).get? s.heap.objs.size = some { cls := .type "list", data := .seq #[] } := Heap.get?_push_size _ rfl
  refine ⟨⟨_, hS, rfl⟩, F.args_list_init_2 _ _, init_rev (s := { s with heap := s.heap.push { cls := .type "list", data := .seq #[] } }) (A := A.in1) hh (hit.at fun o e => Heap.get?_push_of_some _ e) (hl.push _) hne hn hS (Nat.ne_of_gt (Heap.lt_size hoi)) (Nat.ne_of_gt (Heap.lt_size hol)) fun h' tk acc' c' hk hS' hacc => ?_⟩
  exact ⟨rfl, hQ h' tk acc' c' (fun b o hb e => hk b o (Nat.ne_of_lt (Heap.lt_size e)) hb (Heap.get?_push_of_some _ e)) hS' hacc⟩
end
section
variable {X : Cx}
def tLstRev (K : PySem.W.Frag) (te : TE) : TE := fun σ H Q => te σ H fun v H1 => ∃ (a : Addr) (xs : List V), v = .ref a ∧ SqL K H1 a xs ∧ ∀ q, H1 q = none → Q (.ref q) (upd H1 q (.lst xs.reverse))
theorem pe_lstRev {e : Expr} {te : TE} {p p2 pos pos2 : Pos} (hc : X.calm = true) (hg : Gl X "list") (hm : X.mg "list" = none) (hg2 : Gl X "reversed") (hm2 : X.mg "reversed" = none) (he : PE X e te)
    (hs : starEach [e] X.env = (false, eval e X.env) :: starEach [] X.env := by rfl)
    (hs2 : starEach [.Call (.Name "reversed" p2) [e] [] pos2] X.env = (false, eval (.Call (.Name "reversed" p2) [e] [] pos2) X.env) :: starEach [] X.env := by rfl) :
    PE X (.Call (.Name "list" p) [.Call (.Name "reversed" p2) [e] [] pos2] [] pos) (tLstRev X.K te) := by
  refine ⟨fun pins s σ H Q I h => ?_⟩
  refine Call_ (ld_blt I hg hm boot_list (PyProof.Rows.callWith_type1 (args_cons (Call_ (ld_blt I hg2 hm2 PyProof.Rows.boot_reversed (PyProof.Rows.callWith_type1 (args_cons (thn (he.run pins s σ H _ I h) fun u s1 ⟨v, H1, I1, r1, q1⟩ => args_nil ?_) hs) hs rfl))) hs2) hs2 rfl))
  obtain ⟨a, xs, ev, hq, q⟩ := q1
  subst ev
  obtain rfl : u = Value.ref a := r1
  obtain ⟨its, rv, p', hz⟩ := I1.list hq
  refine call_reversed_list p'.isList (args_nil ?_)
  have k0 : ∀ b o, s1.heap.get? b = some o → (s1.heap.push (revObj a ((its.toArray.size : Int) - 1))).get? b = some o := fun b o e => Heap.get?_push_of_some _ e
  have I2 : Inv X pins σ H1 { s1 with heap := s1.heap.push (revObj a ((its.toArray.size : Int) - 1)) } := I1.kept (t' := s1.toks) k0
  obtain ⟨f0, f1, f2, f3, f4, f5⟩ := I1.fpOk (H' := H1) (b := s1.heap.objs.size) (Nat.le_refl _) (I1.hok.fresh (Nat.le_refl _))
  have hl := p'.isList
  obtain ⟨ol, hol, _⟩ := id hl
  have hne : a ≠ s1.heap.objs.size := Nat.ne_of_lt (Heap.lt_size hol)
  have hn : its.toArray.size ≤ sizeLine := by rw [List.size_toArray, ← rv.length]; exact hz
  refine call_list_rev (s := { s1 with heap := s1.heap.push (revObj a ((its.toArray.size : Int) - 1)) }) (I1.ok.hd hc) ⟨_, Heap.get?_push_size _ rfl, rfl, rfl⟩ (hl.push _) hne hn fun h' tk acc c' hk hS hi => ?_
  refine ⟨.ref _, upd H1 _ (.lst xs.reverse), Inv.turnedNew (ch := [s1.heap.objs.size]) (T := (s1.heap.push (revObj a ((its.toArray.size : Int) - 1))).objs.size) (t' := tk) I2 (fun b o hb e => hk b o (fun z => hb (by rw [z]; exact List.mem_singleton.mpr rfl)) e) (fun b hb => ?_) (Nat.le_refl _) (show ObjOk X.prog X.w _ _ _ (.lst xs.reverse) from ⟨by rw [List.length_reverse]; exact hz, acc.toList, c', vals_rev rv hi, ?_⟩), rfl, q _ (I2.hok.fresh (Nat.le_refl _))⟩
  · rw [List.mem_singleton.mp hb]
    exact ⟨f0, f1, f2, f3, f4, f5⟩
  · rw [Array.toArray_toList]; exact hS
end
end Rk
set_option Elab.async false
set_option linter.all false
set_option maxRecDepth 100000
set_option maxHeartbeats 1000000
namespace Rk
open PySem PySem.Spec PyProof.Rows L2
open TL
/-! ### promises that tell what holds of the answer -/
section
variable {A B C D E F : Type}
def SpR1 (t : Ty A) (u : Ty B) (pre : A → Prop) (post : A → B → Prop) : Sp := fun vs H Q _ => ∃ ls v x, vs = [v] ∧ Live H ls ∧ t.rep (cut H ls) v x ∧ pre x ∧ ∀ H' w r, Same H H' → u.rep (cut H' ls) w r → post x r → Q w H'
def SpR2 (t1 : Ty A) (t2 : Ty B) (u : Ty C) (pre : A → B → Prop) (post : A → B → C → Prop) : Sp := fun vs H Q _ => ∃ ls v1 v2 x1 x2, vs = [v1, v2] ∧ Live H ls ∧ t1.rep (cut H ls) v1 x1 ∧ t2.rep (cut H ls) v2 x2 ∧ pre x1 x2 ∧ ∀ H' w r, Same H H' → u.rep (cut H' ls) w r → post x1 x2 r → Q w H'
def SpR3 (t1 : Ty A) (t2 : Ty B) (t3 : Ty C) (u : Ty D) (pre : A → B → C → Prop) (post : A → B → C → D → Prop) : Sp := fun vs H Q _ => ∃ ls v1 v2 v3 x1 x2 x3, vs = [v1, v2, v3] ∧ Live H ls ∧ t1.rep (cut H ls) v1 x1 ∧ t2.rep (cut H ls) v2 x2 ∧ t3.rep (cut H ls) v3 x3 ∧ pre x1 x2 x3 ∧ ∀ H' w r, Same H H' → u.rep (cut H' ls) w r → post x1 x2 x3 r → Q w H'
def SpR4 (t1 : Ty A) (t2 : Ty B) (t3 : Ty C) (t4 : Ty D) (u : Ty E) (pre : A → B → C → D → Prop) (post : A → B → C → D → E → Prop) : Sp := fun vs H Q _ => ∃ ls v1 v2 v3 v4 x1 x2 x3 x4, vs = [v1, v2, v3, v4] ∧ Live H ls ∧ t1.rep (cut H ls) v1 x1 ∧ t2.rep (cut H ls) v2 x2 ∧ t3.rep (cut H ls) v3 x3 ∧ t4.rep (cut H ls) v4 x4 ∧ pre x1 x2 x3 x4 ∧ ∀ H' w r, Same H H' → u.rep (cut H' ls) w r → post x1 x2 x3 x4 r → Q w H'
variable {vs : List V} {H : Hp} {Q : VK} {X : XK}
theorem lenR1 {t : Ty A} {u : Ty B} {p : A → Prop} {q : A → B → Prop} (h : SpR1 t u p q vs H Q X) : vs.length = 1 := by
  obtain ⟨_, _, _, rfl, _⟩ := h; rfl
theorem lenR2 {t1 : Ty A} {t2 : Ty B} {u : Ty C} {p : A → B → Prop} {q : A → B → C → Prop} (h : SpR2 t1 t2 u p q vs H Q X) : vs.length = 2 := by
  obtain ⟨_, _, _, _, _, rfl, _⟩ := h; rfl
theorem lenR3 {t1 : Ty A} {t2 : Ty B} {t3 : Ty C} {u : Ty D} {p : A → B → C → Prop} {q : A → B → C → D → Prop} (h : SpR3 t1 t2 t3 u p q vs H Q X) : vs.length = 3 := by
  obtain ⟨_, _, _, _, _, _, _, rfl, _⟩ := h; rfl
theorem lenR4 {t1 : Ty A} {t2 : Ty B} {t3 : Ty C} {t4 : Ty D} {u : Ty E} {p : A → B → C → D → Prop} {q : A → B → C → D → E → Prop} (h : SpR4 t1 t2 t3 t4 u p q vs H Q X) : vs.length = 4 := by
  obtain ⟨_, _, _, _, _, _, _, _, _, rfl, _⟩ := h; rfl
end
def tScr (K : PySem.W.Frag) : Ty (List Int) := ⟨fun H v xs => ∃ a, v = .ref a ∧ SqL K H a (xs.map V.int), fun s ⟨a, e, h⟩ => ⟨a, e, Same.seq s h⟩⟩
def tNat : Ty Nat := ⟨fun _ v n => v = .int (n : Nat), fun _ h => h⟩
theorem rs_nat {H : Hp} : ∀ {vs : List V} {xs : List Nat}, Rs tNat H vs xs → vs = xs.map fun n => V.int (n : Nat)
  | [], [], _ => rfl
  | _ :: _, _ :: _, h => by rw [show _ = _ from h.1, rs_nat h.2]; rfl
  | [], _ :: _, h => h.elim
  | _ :: _, [], h => h.elim
theorem nat_rs {H : Hp} : ∀ {xs : List Nat}, Rs tNat H (xs.map fun n => V.int (n : Nat)) xs
  | [] => trivial
  | _ :: _ => ⟨rfl, nat_rs⟩
/-! ### the words of the law -/
def chrAt (z : Str) (i : Nat) : Str := ⟨#[(tl z).getD i 0]⟩
def wordN (a b t k : Nat) : Str := cutS (chrAt "qrstuvwx" a ++ chrAt "yz" b) none (some (t : Int)) ++ chrAt "abcdefghijkl" k ++ cutS (chrAt "qrstuvwx" a ++ chrAt "yz" b) (some (t : Int)) none
def wordF (c : Int) (k : Nat) : Str := wordN (c % 8).toNat (c / 8 % 2).toNat (c / 16 % 3).toNat k
theorem at_chr {z : Str} {i : Int} (h0 : 0 ≤ i) (h : i.toNat < (tl z).length) : atI z.cps.toList i = some ((tl z).getD i.toNat 0) := by
  have e : (tl z)[i.toNat]? = some ((tl z).getD i.toNat 0) := by rw [List.getD_eq_getElem?_getD, List.getElem?_eq_getElem h, Option.getD_some]
  have e2 := atI_nat e
  rw [Int.toNat_of_nonneg h0] at e2
  exact e2
theorem word_all : ∀ a < 8, ∀ b < 2, ∀ t < 3, ∀ k < 12, isWord (wordN a b t k) = true ∧ (tl (wordN a b t k))[t]? = some (97 + k) := by decide +kernel
theorem word_three : ∀ a < 8, ∀ b < 2, ∀ t < 3, ∀ k < 12, (wordN a b t k).length = 3 := by decide +kernel
theorem wordF_ok (c : Int) {k : Nat} (h : k < 12) : isWord (wordF c k) = true := (word_all _ (by omega) _ (by omega) _ (by omega) k h).1
theorem wordF_inj (c : Int) {j k : Nat} (hj : j < 12) (hk : k < 12) (e : wordF c j = wordF c k) : j = k := by
  have h1 := (word_all (c % 8).toNat (by omega) (c / 8 % 2).toNat (by omega) (c / 16 % 3).toNat (by omega) j hj).2
  have h2 := (word_all (c % 8).toNat (by omega) (c / 8 % 2).toNat (by omega) (c / 16 % 3).toNat (by omega) k hk).2
  have e : wordN (c % 8).toNat (c / 8 % 2).toNat (c / 16 % 3).toNat j = wordN (c % 8).toNat (c / 8 % 2).toNat (c / 16 % 3).toNat k := e
  rw [e, h2] at h1
  have := Option.some.inj h1
  omega
theorem words_nd (c : Int) {n : Nat} (h : n ≤ 12) : ((List.range n).map (wordF c)).Nodup := by
  unfold List.Nodup
  rw [List.pairwise_map]
  refine (List.pairwise_lt_range (n := n)).imp_of_mem fun {a b} ha hb hlt e => ?_
  have ha := List.mem_range.mp ha
  have hb := List.mem_range.mp hb
  have := wordF_inj c (by omega) (by omega) e
  omega
section
variable {P : Program} {w : World} {K : PySem.W.Frag} {mg : Str → Option Value} {base : Heap}
abbrev n_law_cell : List Str := ["script", "k"]
theorem sc_law_cell : FnScope n_law_cell ["script", "k"] (defScope s_law_cell) := ⟨rfl, rfl, rfl, by decide +kernel, rfl, by decide +kernel, by decide +kernel⟩
theorem ok_law_cell (T : Tx K mg) : Def P w K mg base "_law_cell" ["script", "k"] 1 (Sp2 (tScr K) tInt tInt fun ns k r => 0 ≤ k ∧ r = ns.getD k.toNat 0) := by
  refine ⟨?_, T.g_law_cell, T.f_law_cell.kp, T.f_law_cell.bindsN fun _ _ _ _ _ _ us hl => match us, hl with | [_, _], _ => rfl⟩
  refine fn_body T.f_law_cell sc_law_cell (fun _ _ _ _ h => len2 h) fun cdv A outer s H vs Q E hr h => ?_
  obtain ⟨ls, v, vk, ns, kk, r, rfl, L, ⟨a, rfl, ha⟩, rfl, ⟨h0, rfl⟩, k⟩ := h
  have ha := Same.seq cut_sub ha
  refine ⟨_, pss_cons (ps_if (pt_cmpR op_lt (pv 1) (pe_callB call_len_seq (by rfl) T.n_len PySem.boot_len (pa_cons (pv 0) pa_nil)) (nomark _)) (pss_one (ps_ret (pe_ix ix_list (pv 0) (pv 1) (fun _ _ => rfl)))) pss_nil)
  (pss_one (ps_ret pe_int)), ?_⟩
  refine ⟨_, rfl, _, rfl, a, _, rfl, .inl ha, _, _, rfl, rfl, _, rfl, ?_⟩
  rw [List.length_map]
  refine ite2 (fun c => ?_) (fun c => ?_)
  · have c := ydec c
    have hl : kk.toNat < ns.length := by omega
    refine ⟨_, rfl, _, rfl, a, _, _, _, rfl, rfl, ha, at_of (j := kk.toNat) (by omega) (by rw [List.getElem?_map, List.getElem?_eq_getElem hl]; rfl), k _ _ (Same.refl _) ?_⟩
    rw [List.getD_eq_getElem?_getD, List.getElem?_eq_getElem hl]; rfl
  · have c := ndec c
    refine k _ _ (Same.refl _) ?_
    rw [List.getD_eq_getElem?_getD, List.getElem?_eq_none (by omega)]; rfl
abbrev n_law_word : List Str := ["cell", "k", "stem", "at"]
theorem sc_law_word : FnScope n_law_word ["cell", "k"] (defScope s_law_word) := ⟨rfl, rfl, rfl, by decide +kernel, rfl, by decide +kernel, by decide +kernel⟩
theorem ok_law_word (T : Tx K mg) : Def P w K mg base "_law_word" ["cell", "k"] 1 (Sp2 tInt tInt tStr fun c k s => 0 ≤ k ∧ k < 12 ∧ s = wordF c k.toNat) := by
  refine ⟨?_, T.g_law_word, T.f_law_word.kp, T.f_law_word.bindsN fun _ _ _ _ _ _ us hl => match us, hl with | [_, _], _ => rfl⟩
  refine fn_body T.f_law_word sc_law_word (fun _ _ _ _ h => len2 h) fun cdv A outer s H vs Q E hr h => ?_
  obtain ⟨ls, v, vk, c, kk, s, rfl, L, rfl, rfl, ⟨h0, h12, rfl⟩, k⟩ := h
  have l1 : (tl ("qrstuvwx" : Str)).length = 8 := by decide +kernel
  have l2 : (tl ("yz" : Str)).length = 2 := by decide +kernel
  have l3 : (tl ("abcdefghijkl" : Str)).length = 12 := by decide +kernel
  have z1 : ("qrstuvwx" : Str).length = 8 := by decide +kernel
  have z2 : ("yz" : Str).length = 2 := by decide +kernel
  have z3 : ("abcdefghijkl" : Str).length = 12 := by decide +kernel
  have zc : ∀ z i, (chrAt z i).length = 1 := fun _ _ => rfl
  refine ⟨_, pss_cons (ps_set (i := 2) sc_law_word.nd rfl (.inl rfl) (pe_op op_add_str (pe_ix ix_str pe_str (pe_op op_mod (pv 0) pe_int) (fun _ _ => rfl)) (pe_ix ix_str pe_str (pe_op op_mod (pe_op op_fdiv (pv 0) pe_int) pe_int) (fun _ _ => rfl))))
  (pss_cons (ps_set (i := 3) sc_law_word.nd rfl (.inl rfl) (pe_op op_mod (pe_op op_fdiv (pv 0) pe_int) pe_int))
  (pss_one (ps_ret (pe_op op_add_str (pe_op op_add_str (pe_slice sl_str (pv 2) po_none (po_some (pv 3))) (pe_ix ix_str pe_str (pv 1) (fun _ _ => rfl))) (pe_slice sl_str (pv 2) (po_some (pv 3)) po_none))))), ?_⟩
  have m8 : (0 : Int) < 8 := by decide
  have m2 : (0 : Int) < 2 := by decide
  have m3 : (0 : Int) < 3 := by decide
  have d8 : CDiv c 8 := ⟨by decide, by decide⟩
  have d16 : CDiv c 16 := ⟨by decide, by decide⟩
  refine ⟨_, rfl, _, _, rfl, rfl, m8, _, _, _, rfl, rfl, szl _ (by omega), at_chr (by omega) (by omega), ?_⟩
  refine ⟨_, rfl, _, _, rfl, rfl, d8, _, _, rfl, rfl, m2, _, _, _, rfl, rfl, szl _ (by omega), at_chr (by omega) (by omega), ?_⟩
  have zst : (chrAt "qrstuvwx" (c % 8).toNat ++ chrAt "yz" (c / 8 % 2).toNat).length = 2 := by rw [app_len, zc, zc]
  refine ⟨_, _, rfl, rfl, szl _ (by show (chrAt "qrstuvwx" (c % 8).toNat).length + (chrAt "yz" (c / 8 % 2).toNat).length ≤ 1000; rw [zc, zc]; decide), ?_⟩
  refine ⟨_, rfl, _, _, rfl, rfl, d16, _, _, rfl, rfl, m3, ?_⟩
  have et : (((c / 16 % 3).toNat : Nat) : Int) = c / 16 % 3 := Int.toNat_of_nonneg (by omega)
  refine ⟨_, rfl, _, rfl, c / 16 % 3, rfl, _, rfl, szl _ (by show (chrAt "qrstuvwx" (c % 8).toNat ++ chrAt "yz" (c / 8 % 2).toNat).length ≤ 1000; omega), ?_⟩
  refine ⟨_, rfl, _, _, _, rfl, rfl, szl _ (by omega), at_chr (by omega) (by omega), ?_⟩
  have hcut : ∀ (z : Str) (a b : Option Int), (cutS z a b).length ≤ z.length := fun z a b => by
    rw [len_tl, len_tl]
    show ((tl z).drop _ |>.take _).length ≤ _
    rw [List.length_take, List.length_drop]
    omega
  have hc1 := hcut (chrAt "qrstuvwx" (c % 8).toNat ++ chrAt "yz" (c / 8 % 2).toNat) none (some (c / 16 % 3))
  refine ⟨_, _, rfl, rfl, szl _ (by show (cutS (chrAt "qrstuvwx" (c % 8).toNat ++ chrAt "yz" (c / 8 % 2).toNat) none (some (c / 16 % 3))).length + (chrAt "abcdefghijkl" kk.toNat).length ≤ 1000; rw [zc]; omega), ?_⟩
  have hc2 := hcut (chrAt "qrstuvwx" (c % 8).toNat ++ chrAt "yz" (c / 8 % 2).toNat) (some (c / 16 % 3)) none
  refine ⟨_, rfl, _, rfl, c / 16 % 3, rfl, _, rfl, szl _ (by show (chrAt "qrstuvwx" (c % 8).toNat ++ chrAt "yz" (c / 8 % 2).toNat).length ≤ 1000; omega), ?_⟩
  refine ⟨_, _, rfl, rfl, szl _ (by show (cutS (chrAt "qrstuvwx" (c % 8).toNat ++ chrAt "yz" (c / 8 % 2).toNat) none (some (c / 16 % 3)) ++ chrAt "abcdefghijkl" kk.toNat).length + (cutS (chrAt "qrstuvwx" (c % 8).toNat ++ chrAt "yz" (c / 8 % 2).toNat) (some (c / 16 % 3)) none).length ≤ 1000; rw [app_len, zc]; omega), k _ _ (Same.refl _) ?_⟩
  show V.str _ = V.str (wordF c kk.toNat)
  unfold wordF wordN
  rw [et]
  rfl
abbrev n_law_names : List Str := ["script", "k"]
theorem sc_law_names : FnScope n_law_names ["script"] (defScope s_law_names) := ⟨rfl, rfl, rfl, by decide +kernel, rfl, by decide +kernel, by decide +kernel⟩
theorem ok_law_names (T : Tx K mg) : Def P w K mg base "_law_names" ["script"] 2 (SpR1 (tScr K) (tLst tStr) (fun ns => True) fun ns r => r.length = 6 ∧ r.Nodup ∧ ∀ n ∈ r, isWord n = true ∧ n.length = 3) := by
  refine ⟨?_, T.g_law_names, T.f_law_names.kp, T.f_law_names.bindsN fun _ _ _ _ _ _ us hl => match us, hl with | [_], _ => rfl⟩
  refine fn_body T.f_law_names sc_law_names (fun _ _ _ _ h => lenR1 h) fun cdv A outer s H vs Q E hr h => ?_
  obtain ⟨ls, v, ns, rfl, L, ra, _, k⟩ := h
  refine ⟨_, pss_one (ps_ret (pe_lc (own := [("k", 1)]) (g := gName 1) rfl sc_law_names.nd (pi_range1 (by rfl) T.n_range (pa_cons pe_int pa_nil)) (blkOk_by (own := [("k", 1)]) (N := n_law_names) (sc := defScope s_law_names) (by decide +kernel)) (fun _ _ _ _ _ => (pg_name (i := 1) sc_law_names.nd rfl (.inl rfl))) (fun _ _ _ _ _ => pts_nil) (fun _ _ _ _ _ => (pe_cD (ok_law_word T) hr (pa_cons (pe_op op_fdiv (pe_cD (ok_law_cell T) hr (pa_cons (pv 0) (pa_cons pe_int pa_nil))) pe_int) (pa_cons (pv 1) pa_nil)))))), ?_⟩
  refine ⟨_, rfl, by decide, by decide, fun D nD => ?_⟩
  refine lc_map (walk_range (lo := 0)) (u := tStr) (ls := ls) ((List.range 6).map (wordF (ns.getD 0 0 / 36))) nD L (by decide) (by rw [List.length_map, List.length_range]; rfl) (fun _ _ => trivial) ?_ ?_
  · rintro j y z H5 H6 R hy s5 sc L2 ⟨rfl, rfl⟩ hR
    rw [List.getElem?_map] at hy
    obtain ⟨j', hj', rfl⟩ := Option.map_eq_some_iff.mp hy
    obtain ⟨hj1, hj2⟩ := List.getElem?_eq_some_iff.mp hj'
    rw [List.getElem_range] at hj2
    subst hj2
    rw [List.length_range] at hj1
    refine ⟨rfl, _, rfl, _, _, _, ns, 0, _, rfl, L2, (tScr K).mono sc ra, rfl, ⟨by decide, rfl⟩, fun H7 w7 s7 e7 => ?_⟩
    obtain rfl : w7 = .int (ns.getD 0 0) := e7
    refine ⟨_, _, rfl, rfl, ⟨by decide, by decide⟩, _, rfl, [], _, _, _, 0 + (j : Nat), _, rfl, Live.nil, rfl, rfl, ⟨by omega, by omega, ?_⟩, fun H8 w8 s8 e8 => hR _ _ (s7.trans s8) e8⟩
    rw [show ((0 : Int) + (j : Nat)).toNat = j by omega]
  · intro H5 s5 rD
    refine k _ _ _ s5 rD ⟨by rw [List.length_map, List.length_range], words_nd _ (by decide), fun n hn => ?_⟩
    obtain ⟨i, hi, rfl⟩ := List.mem_map.mp hn
    have hi := List.mem_range.mp hi
    exact ⟨wordF_ok _ (by omega), word_three _ (by omega) _ (by omega) _ (by omega) i (by omega)⟩
end
end Rk
set_option Elab.async false
set_option linter.all false
set_option maxRecDepth 100000
set_option maxHeartbeats 1000000
namespace Rk
open PySem PySem.Spec PyProof.Rows L2
open TL
def tWy : Ty Wy := ⟨fun _ v y => v = .str y.nm, fun _ h => h⟩
section
variable {P : Program} {w : World} {K : PySem.W.Frag} {mg : Str → Option Value} {base : Heap}
abbrev n_law_numbers : List Str := ["script", "start", "most", "told", "k"]
theorem sc_law_numbers : FnScope n_law_numbers ["script", "start", "most"] (defScope s_law_numbers) := ⟨rfl, rfl, rfl, by decide +kernel, rfl, by decide +kernel, by decide +kernel⟩
theorem ok_law_numbers (T : Tx K mg) : Def P w K mg base "_law_numbers" ["script", "start", "most"] 1 (SpR3 (tScr K) tInt tNat (tLst tInt) (fun ns st m => ns.length ≤ 1000 ∧ 0 ≤ st ∧ st ≤ 1000 ∧ 0 < m) fun ns st m r => r.length ≤ m) := by
  refine ⟨?_, T.g_law_numbers, T.f_law_numbers.kp, T.f_law_numbers.bindsN fun _ _ _ _ _ _ us hl => match us, hl with | [_, _, _], _ => rfl⟩
  refine fn_body T.f_law_numbers sc_law_numbers (fun _ _ _ _ h => lenR3 h) fun cdv A outer s H vs Q E hr h => ?_
  obtain ⟨ls, v, vs, vm, ns, st, m, rfl, L, ⟨a, rfl, ha⟩, rfl, rfl, ⟨h1000, h0, h1, hm⟩, k⟩ := h
  have ha := Same.seq cut_sub ha
  have p18 : CPow 10 18 := ⟨by decide, by decide, by decide⟩
  have q18 : (0 : Int) < 10 ^ (18 : Int).toNat := by decide
  refine ⟨_, pss_cons (ps_set (i := 3) sc_law_numbers.nd rfl (.inl rfl) (pe_lst pa_nil))
  (pss_cons (ps_for PassesOwn.never rfl (pi_range2 (by rfl) T.n_range (pa_cons (pv 1) (pa_cons (pe_callB call_len_seq (by rfl) T.n_len PySem.boot_len (pa_cons (pv 0) pa_nil)) pa_nil))) (pg_name (i := 4) sc_law_numbers.nd rfl (.inl rfl))
  (pss_one (ps_if (pt_cmpR op_lt (pe_callB call_len_seq (by rfl) T.n_len PySem.boot_len (pa_cons (pv 3) pa_nil)) (pv 2) (nomark _)) (pss_one (ps_expr (pe_bm PySem.F.plainAttrs_list PySem.F.slot_list_append PySem.F.type_list_append mt_append (pv 3) (pa_cons (pe_op op_mod (pe_ix ix_list (pv 0) (pv 4) (fun _ _ => rfl)) (pe_op op_pow pe_int pe_int)) pa_nil)))) (pss_one (ps_asg (pe_op op_mod (pe_op op_add (pe_op op_mul (pe_ix ix_list (pv 3) (pe_op op_mod (pv 4) (pv 2)) (fun _ _ => rfl)) pe_int) (pe_ix ix_list (pv 0) (pv 4) (fun _ _ => rfl))) (pe_op op_pow pe_int pe_int)) (pg_sub (pv 3) (pe_op op_mod (pv 4) (pv 2)) set_list))))))
  (pss_one (ps_ret (pv 3)))), ?_⟩
  refine ⟨Nat.zero_le _, fun l nl => ?_⟩
  have s0 : Same H (upd H l (.lst [])) := Same.upd nl
  refine ⟨_, rfl, _, rfl, a, _, rfl, .inl (Same.seq s0 ha), _, _, rfl, ⟨by omega, by omega, by rw [List.length_map]; omega, by rw [List.length_map]; omega⟩, ?_⟩
  refine for_range (lo := st) (fun i σ H' => (∃ c, σ = [some (.ref a), some (.int st), some (.int (m : Nat)), some (.ref l), c]) ∧ Same H H' ∧ ∃ xs : List Int, H' l = some (.lst (xs.map V.int)) ∧ xs.length ≤ m ∧ xs.length ≤ i) ⟨⟨_, rfl⟩, s0, [], upd_same, Nat.zero_le _, Nat.le_refl _⟩ ?_ ?_
  · rintro i σ H1 hi ⟨⟨c, rfl⟩, s1, xs, hl, hxm, hxi⟩
    rw [List.length_map] at hi
    have hil : (st + (i : Nat)).toNat < ns.length := by omega
    have hget : (ns.map V.int)[(st + (i : Nat)).toNat]? = some (.int (ns[(st + (i : Nat)).toNat]'hil)) := by rw [List.getElem?_map, List.getElem?_eq_getElem hil]; rfl
    have hat : atI (ns.map V.int) (st + (i : Nat)) = some (.int (ns[(st + (i : Nat)).toNat]'hil)) := at_of (j := (st + (i : Nat)).toNat) (Int.toNat_of_nonneg (by omega)).symm hget
    generalize ns[(st + (i : Nat)).toNat]'hil = z at hat
    refine ⟨_, rfl, l, _, rfl, .inl (SqL.of hl), _, rfl, _, _, rfl, rfl, _, rfl, ?_⟩
    rw [List.length_map]
    refine ite2 (fun c => ?_) (fun c => ?_)
    · have c := ydec c
      refine ⟨_, rfl, .inl ⟨rfl, _, SqL.of hl⟩, _, rfl, _, rfl, a, _, _, _, rfl, rfl, Same.seq s1 ha, hat, _, _, rfl, rfl, p18, _, _, rfl, rfl, q18, l, _, _, rfl, rfl, hl, small1000 (by rw [List.length_map]; omega), ⟨_, rfl⟩, s1.mut nl, xs ++ [z % 10 ^ (18 : Int).toNat], ?_, ?_, ?_⟩
      · rw [List.map_append]; exact upd_same
      · rw [List.length_append]; show xs.length + 1 ≤ m; omega
      · rw [List.length_append]; exact Nat.succ_le_succ hxi
    · have c := ndec c
      have hm0 : (0 : Int) < (m : Nat) := by omega
      have hlt := Int.emod_lt_of_pos (st + (i : Nat)) hm0
      have hnn := Int.emod_nonneg (st + (i : Nat)) (show ((m : Nat) : Int) ≠ 0 by omega)
      have hk : ((st + (i : Nat)) % ((m : Nat) : Int)).toNat < xs.length := by omega
      have hat2 : atI (xs.map V.int) ((st + (i : Nat)) % ((m : Nat) : Int)) = some (.int (xs[((st + (i : Nat)) % ((m : Nat) : Int)).toNat]'hk)) := at_of (j := ((st + (i : Nat)) % ((m : Nat) : Int)).toNat) (Int.toNat_of_nonneg hnn).symm (by rw [List.getElem?_map, List.getElem?_eq_getElem hk]; rfl)
      generalize xs[((st + (i : Nat)) % ((m : Nat) : Int)).toNat]'hk = y at hat2
      have hix : ixN (xs.map V.int).length ((st + (i : Nat)) % ((m : Nat) : Int)) = some ((st + (i : Nat)) % ((m : Nat) : Int)).toNat := by
        unfold ixN
        rw [if_pos hnn, if_pos (by rw [List.length_map]; omega)]
      refine ⟨_, rfl, _, rfl, _, rfl, _, _, rfl, rfl, hm0, l, _, _, _, rfl, rfl, SqL.of hl, hat2, _, _, rfl, rfl, .inr ⟨by decide, by decide⟩, _, rfl, _, rfl, a, _, _, _, rfl, rfl, Same.seq s1 ha, hat, _, _, rfl, rfl, _, _, rfl, rfl, p18, _, _, rfl, rfl, q18, ?_⟩
      refine ⟨_, rfl, _, rfl, _, rfl, _, _, rfl, rfl, hm0, l, _, _, _, rfl, rfl, hl, hix, ⟨_, rfl⟩, s1.mut nl, xs.set ((st + (i : Nat)) % ((m : Nat) : Int)).toNat ((y * 10007 + z) % 10 ^ (18 : Int).toNat), ?_, by rw [List.length_set]; exact hxm, by rw [List.length_set]; omega⟩
      rw [List.map_set]; exact upd_same
  · rintro σ H1 ⟨⟨c, rfl⟩, s1, xs, hl, hxm, hxi⟩
    exact ⟨_, rfl, k _ _ xs s1 ⟨l, _, rfl, at_cut (L.no nl) hl, int_rs⟩ hxm⟩
abbrev n_law_way : List Str := ["cell", "words"]
theorem sc_law_way : FnScope n_law_way ["cell", "words"] (defScope s_law_way) := ⟨rfl, rfl, rfl, by decide +kernel, rfl, by decide +kernel, by decide +kernel⟩
theorem ok_law_way (T : Tx K mg) : Def P w K mg base "_law_way" ["cell", "words"] 1 (SpR2 tInt tBool tWy (fun _ _ => True) fun c b r => b = true → r ≠ .sum) := by
  refine ⟨?_, T.g_law_way, T.f_law_way.kp, T.f_law_way.bindsN fun _ _ _ _ _ _ us hl => match us, hl with | [_, _], _ => rfl⟩
  refine fn_body T.f_law_way sc_law_way (fun _ _ _ _ h => lenR2 h) fun cdv A outer s H vs Q E hr h => ?_
  obtain ⟨ls, v, vb, c, b, rfl, L, rfl, rfl, _, k⟩ := h
  have five : ∃ y : Wy, y ≠ .sum ∧ ([.str "first", .str "only", .str "like", .str "low", .str "high"] : List V)[(c % 5).toNat]? = some (.str y.nm) := by
    rcases (show (c % 5).toNat = 0 ∨ (c % 5).toNat = 1 ∨ (c % 5).toNat = 2 ∨ (c % 5).toNat = 3 ∨ (c % 5).toNat = 4 by omega) with e | e | e | e | e <;> rw [e]
    · exact ⟨.first, (fun q => by cases q), rfl⟩
    · exact ⟨.only, (fun q => by cases q), rfl⟩
    · exact ⟨.like, (fun q => by cases q), rfl⟩
    · exact ⟨.low, (fun q => by cases q), rfl⟩
    · exact ⟨.high, (fun q => by cases q), rfl⟩
  have six : ∃ y : Wy, ([.str "first", .str "only", .str "like", .str "low", .str "high", .str "sum"] : List V)[(c % 6).toNat]? = some (.str y.nm) := by
    rcases (show (c % 6).toNat = 0 ∨ (c % 6).toNat = 1 ∨ (c % 6).toNat = 2 ∨ (c % 6).toNat = 3 ∨ (c % 6).toNat = 4 ∨ (c % 6).toNat = 5 by omega) with e | e | e | e | e | e <;> rw [e]
    · exact ⟨.first, rfl⟩
    · exact ⟨.only, rfl⟩
    · exact ⟨.like, rfl⟩
    · exact ⟨.low, rfl⟩
    · exact ⟨.high, rfl⟩
    · exact ⟨.sum, rfl⟩
  have m5 : (0 : Int) < 5 := by decide
  have m6 : (0 : Int) < 6 := by decide
  refine ⟨_, pss_cons (ps_if (pt_val (pv 1)) (pss_one (ps_ret (pe_ix ix_list (pe_lst (pa_cons pe_str (pa_cons pe_str (pa_cons pe_str (pa_cons pe_str (pa_cons pe_str pa_nil)))))) (pe_op op_mod (pv 0) pe_int) (fun _ _ => rfl)))) pss_nil)
  (pss_one (ps_ret (pe_ix ix_list (pe_lst (pa_cons pe_str (pa_cons pe_str (pa_cons pe_str (pa_cons pe_str (pa_cons pe_str (pa_cons pe_str pa_nil))))))) (pe_op op_mod (pv 0) pe_int) (fun _ _ => rfl)))), ?_⟩
  refine ⟨_, rfl, _, rfl, ?_⟩
  cases b with
  | true =>
    obtain ⟨y, hy, e⟩ := five
    refine iteT ⟨szl 5, fun l nl => ?_⟩
    exact ⟨_, rfl, _, _, rfl, rfl, m5, l, _, _, _, rfl, rfl, SqL.of upd_same, at_of (j := (c % 5).toNat) (Int.toNat_of_nonneg (by omega)).symm e, k _ _ y (Same.upd nl) rfl fun _ => hy⟩
  | false =>
    obtain ⟨y, e⟩ := six
    refine iteF ⟨szl 6, fun l nl => ?_⟩
    exact ⟨_, rfl, _, _, rfl, rfl, m6, l, _, _, _, rfl, rfl, SqL.of upd_same, at_of (j := (c % 6).toNat) (Int.toNat_of_nonneg (by omega)).symm e, k _ _ y (Same.upd nl) rfl fun q => nomatch q⟩
end
end Rk
set_option Elab.async false
set_option linter.all false
set_option maxRecDepth 100000
set_option maxHeartbeats 1000000
namespace Rk
open PySem PySem.Spec PyProof.Rows L2
open TL
theorem seq_at {i : Int} {n : Nat} (h0 : 0 ≤ i) (h : i < (n : Nat)) : seqIndex? i n = some i.toNat := by
  unfold seqIndex?
  have h1 : ¬ i < 0 := by omega
  simp [h1, h0, h]
theorem eraseIdx_map {A B : Type} (f : A → B) : ∀ (l : List A) (k : Nat), (l.map f).eraseIdx k = (l.eraseIdx k).map f
  | [], _ => rfl
  | _ :: _, 0 => rfl
  | a :: l, k + 1 => congrArg (f a :: ·) (eraseIdx_map f l k)
theorem erase_perm : ∀ {l : List Nat} {k : Nat} {y : Nat}, l[k]? = some y → (y :: l.eraseIdx k).Perm l
  | a :: l, 0, y, h => by
    have e : a = y := Option.some.inj h
    subst e
    exact List.Perm.refl _
  | a :: l, k + 1, y, h => (List.Perm.swap a y _).trans ((erase_perm (l := l) (k := k) h).cons a)
  | [], k, y, h => by simp at h
/-- places that are told, and places that are left -/
structure TL2 (n : Nat) (told left : List Nat) : Prop where
  nd : (told ++ left).Nodup
  lt : ∀ c ∈ told ++ left, c < n
theorem TL2.pop {n : Nat} {told left : List Nat} (h : TL2 n told left) {k : Nat} {y : Nat} (hy : left[k]? = some y) : TL2 n (told ++ [y]) (left.eraseIdx k) := by
  have hk := (List.getElem?_eq_some_iff.mp hy).1
  have p : (told ++ [y] ++ left.eraseIdx k).Perm (told ++ left) := by
    rw [List.append_assoc]
    refine List.Perm.append_left told ?_
    exact erase_perm hy
  exact ⟨p.nodup_iff.mpr h.nd, fun c hc => h.lt c (p.mem_iff.mp hc)⟩
section
variable {P : Program} {w : World} {K : PySem.W.Frag} {mg : Str → Option Value} {base : Heap}
abbrev n_law_columns : List Str := ["cell", "facts", "i", "left", "told", "k"]
theorem sc_law_columns : FnScope n_law_columns ["cell", "facts", "i"] (defScope s_law_columns) := ⟨rfl, rfl, rfl, by decide +kernel, rfl, by decide +kernel, by decide +kernel⟩
theorem ok_law_columns (T : Tx K mg) : Def P w K mg base "_law_columns" ["cell", "facts", "i"] 1 (SpR3 tInt tNat tNat (tLst tNat) (fun _ f i => 1 ≤ f ∧ f ≤ 3 ∧ i ≤ 3) fun _ f i r => r.Nodup ∧ (∀ c ∈ r, c < f + i) ∧ 1 ≤ r.length ∧ r.length ≤ 3) := by
  refine ⟨?_, T.g_law_columns, T.f_law_columns.kp, T.f_law_columns.bindsN fun _ _ _ _ _ _ us hl => match us, hl with | [_, _, _], _ => rfl⟩
  refine fn_body T.f_law_columns sc_law_columns (fun _ _ _ _ h => lenR3 h) fun cdv A outer s H vs Q E hr h => ?_
  obtain ⟨ls, v, vf, vi, c, f, i, rfl, L, rfl, rfl, rfl, ⟨h1, h3, h4⟩, k⟩ := h
  have m4 : (0 : Int) < 4 := by decide
  have m2 : (0 : Int) < 2 := by decide
  have d4 : CDiv c 4 := ⟨by decide, by decide⟩
  have d5 : CDiv c 5 := ⟨by decide, by decide⟩
  refine ⟨_, pss_cons (ps_set (i := 3) sc_law_columns.nd rfl (.inl rfl) (pe_listRg rfl (by rfl) T.n_list (prg_1 (by rfl) T.n_range (pe_op op_add (pv 1) (pv 2)))))
  (pss_cons (ps_set (i := 4) sc_law_columns.nd rfl (.inl rfl) (pe_lst pa_nil))
  (Evl.pss_cut (ps_if (PW.pt (pw_and (pt_cmpR op_gt (pv 2) pe_int (nomark _)) (pw_and1 (pt_cmpR op_gt (pe_op op_mod (pv 0) pe_int) pe_int (nomark _))))) (pss_one (ps_expr (pe_bm PySem.F.plainAttrs_list PySem.F.slot_list_append PySem.F.type_list_append mt_append (pv 4) (pa_cons (pe_bm0 PySem.F.plainAttrs_list PySem.F.slot_list_pop PySem.F.type_list_pop mt_pop (pv 3)) pa_nil)))) pss_nil)
  (pss_cons (ps_for PassesOwn.never rfl (pi_range1 (by rfl) T.n_range (pa_cons (pe_op op_add pe_int (pe_op op_mod (pe_op op_fdiv (pv 0) pe_int) pe_int)) pa_nil)) (pg_name (i := 5) sc_law_columns.nd rfl (.inl rfl))
  (pss_one (ps_if (pt_cmpR op_gt (pe_callB call_len_seq (by rfl) T.n_len PySem.boot_len (pa_cons (pv 3) pa_nil)) pe_int (nomark _)) (pss_one (ps_expr (pe_bm PySem.F.plainAttrs_list PySem.F.slot_list_append PySem.F.type_list_append mt_append (pv 4) (pa_cons (pe_bm PySem.F.plainAttrs_list PySem.F.slot_list_pop PySem.F.type_list_pop mt_popAt (pv 3) (pa_cons (pe_op op_mod (pe_op op_fdiv (pv 0) (pe_op op_add pe_int (pe_op op_mul pe_int (pv 5)))) (pe_callB call_len_seq (by rfl) T.n_len PySem.boot_len (pa_cons (pv 3) pa_nil))) pa_nil)) pa_nil)))) pss_nil)))
  (Evl.pss_cut (ps_if (pt_cmpR op_eq (pe_op op_mod (pe_op op_fdiv (pv 0) pe_int) pe_int) pe_int (nomark _)) (pss_one (ps_set (i := 4) sc_law_columns.nd rfl (.inl rfl) (pe_lstRev rfl (by rfl) T.n_list (by rfl) T.n_reversed (pv 4)))) pss_nil)
  (pss_one (ps_ret (pv 4))))))), ?_⟩
  refine ⟨_, rfl, _, rfl, _, _, rfl, rfl, _, rfl, RgOk.of_le (by omega) (by omega) (by omega) (by omega), fun l nl => ?_⟩
  have erg : rgV 0 ((f : Int) + (i : Nat)) = (List.range (f + i)).map fun n => V.int (n : Nat) := by
    unfold rgV
    rw [show ((f : Int) + (i : Nat) - 0).toNat = f + i by omega]
    refine List.map_congr_left fun n _ => ?_
    show V.int (0 + (n : Nat)) = _
    rw [Int.zero_add]
  rw [erg]
  have s1 : Same H (upd H l (.lst ((List.range (f + i)).map fun n => V.int (n : Nat)))) := Same.upd nl
  have hl : upd H l (.lst ((List.range (f + i)).map fun n => V.int (n : Nat))) l = some (.lst ((List.range (f + i)).map fun n => V.int (n : Nat))) := upd_same
  generalize upd H l (.lst ((List.range (f + i)).map fun n => V.int (n : Nat))) = H1 at s1 hl
  refine ⟨Nat.zero_le _, fun t nt => ?_⟩
  have s2 : Same H1 (upd H1 t (.lst [])) := Same.upd nt
  have ntl : t ≠ l := fun e => by rw [e, hl] at nt; cases nt
  have nt0 : H t = none := s1.free nt
  have hl2 := s2 _ _ hl
  have ht2 : upd H1 t (.lst []) t = some (.lst []) := upd_same
  have s12 := s1.trans s2
  generalize upd H1 t (.lst []) = H2 at s2 hl2 ht2 s12
  have init : TL2 (f + i) [] (List.range (f + i)) := ⟨List.nodup_range, fun c hc => List.mem_range.mp hc⟩
  refine ⟨fun σ H3 => (∃ x, σ = [some (.int c), some (.int (f : Nat)), some (.int (i : Nat)), some (.ref l), some (.ref t), x]) ∧ Same H H3 ∧ ∃ told left : List Nat, H3 l = some (.lst (left.map fun n => V.int (n : Nat))) ∧ H3 t = some (.lst (told.map fun n => V.int (n : Nat))) ∧ TL2 (f + i) told left ∧ told.length ≤ 1 ∧ told.length + left.length = f + i, ?_, ?_⟩
  · have zero : (∃ told left : List Nat, H2 l = some (.lst (left.map fun n => V.int (n : Nat))) ∧ H2 t = some (.lst (told.map fun n => V.int (n : Nat))) ∧ TL2 (f + i) told left ∧ told.length ≤ 1 ∧ told.length + left.length = f + i) := ⟨[], List.range (f + i), hl2, ht2, init, Nat.zero_le _, by rw [List.length_range]; exact Nat.zero_add _⟩
    refine ⟨_, rfl, _, _, rfl, rfl, _, rfl, ?_⟩
    refine ite2 (fun c1 => ?_) (fun c1 => ?_)
    · refine ⟨_, rfl, _, _, rfl, rfl, m4, _, _, rfl, rfl, _, rfl, ?_⟩
      refine ite2 (fun c2 => ?_) (fun c2 => ?_)
      · have hgl : (List.range (f + i))[f + i - 1]? = some (f + i - 1) := by rw [List.getElem?_range (by omega)]
        have hlast : (List.range (f + i)).eraseIdx (f + i - 1) = (List.range (f + i)).dropLast := by
          rw [List.eraseIdx_eq_take_drop_succ, List.drop_of_length_le (by rw [List.length_range]; omega), List.append_nil, List.dropLast_eq_take, List.length_range]
        refine ⟨_, rfl, .inl ⟨rfl, _, SqL.of ht2⟩, _, rfl, .inl ⟨rfl, _, SqL.of hl2⟩, l, _, .int ((f + i - 1 : Nat) : Nat), rfl, rfl, hl2, ?_, t, [], _, rfl, rfl, by rw [upd_ne ntl]; exact ht2, by decide, ⟨_, rfl⟩, (s12.mut nl).mut nt0, [f + i - 1], (List.range (f + i)).dropLast, ?_, upd_same, ?_, Nat.le_refl _, ?_⟩
        · rw [List.length_map, List.length_range, List.getElem?_map, hgl]; rfl
        · rw [upd_ne (Ne.symm ntl), upd_same, List.map_dropLast]
        · rw [← hlast]; exact init.pop hgl
        · rw [List.length_dropLast, List.length_range]
          show 1 + _ = _
          omega
      · exact ⟨⟨_, rfl⟩, s12, zero⟩
    · exact ⟨⟨_, rfl⟩, s12, zero⟩
  rintro σ H3 ⟨⟨x, rfl⟩, s3, told, left, hl3, ht3, inv, hle, hsum⟩
  refine ⟨_, rfl, _, _, rfl, rfl, d4, _, _, rfl, rfl, m2, _, _, rfl, rfl, _, rfl, by omega, by omega, ?_⟩
  refine for_range (lo := 0) (fun j σ H' => (∃ x, σ = [some (.int c), some (.int (f : Nat)), some (.int (i : Nat)), some (.ref l), some (.ref t), x]) ∧ Same H H' ∧ ∃ told left : List Nat, H' l = some (.lst (left.map fun n => V.int (n : Nat))) ∧ H' t = some (.lst (told.map fun n => V.int (n : Nat))) ∧ TL2 (f + i) told left ∧ told.length ≤ 1 + j ∧ told.length + left.length = f + i ∧ (1 ≤ j → 1 ≤ told.length)) ⟨⟨_, rfl⟩, s3, told, left, hl3, ht3, inv, by omega, hsum, fun h => by omega⟩ ?_ ?_
  · rintro j σ H4 hj ⟨⟨x, rfl⟩, s4, told, left, hl4, ht4, inv, hle, hsum, hone⟩
    have hj1 : (j : Int) < 2 := by omega
    refine ⟨_, rfl, l, _, rfl, .inl (SqL.of hl4), _, _, rfl, rfl, _, rfl, ?_⟩
    rw [List.length_map]
    refine ite2 (fun c1 => ?_) (fun c1 => ?_)
    · have c1 := ydec c1
      have hpos : 0 < left.length := by omega
      have dk : CDiv c (8 + 3 * (0 + (j : Nat))) := ⟨by omega, by omega⟩
      generalize hq : c / (8 + 3 * (0 + ((j : Nat) : Int))) = q
      have q0 : 0 ≤ q % ((left.length : Nat) : Int) := Int.emod_nonneg _ (by omega)
      have q1 : q % ((left.length : Nat) : Int) < (left.length : Nat) := Int.emod_lt_of_pos _ (by omega)
      have hk : (q % ((left.length : Nat) : Int)).toNat < left.length := by omega
      have hy : left[(q % ((left.length : Nat) : Int)).toNat]? = some (left[(q % ((left.length : Nat) : Int)).toNat]'hk) := List.getElem?_eq_getElem hk
      have inv2 := inv.pop hy
      have hle3 : told.length ≤ 3 := by omega
      refine ⟨_, rfl, .inl ⟨rfl, _, SqL.of ht4⟩, _, rfl, .inl ⟨rfl, _, SqL.of hl4⟩, _, rfl, _, rfl, _, _, rfl, rfl, .inl ⟨by decide, by decide⟩, _, _, rfl, rfl, _, _, rfl, rfl, dk, _, rfl, l, _, rfl, .inl (SqL.of hl4), _, _, rfl, rfl, by rw [List.length_map]; omega, l, left.map (fun n => V.int (n : Nat)), _, (q % ((left.length : Nat) : Int)).toNat, .int ((left[(q % ((left.length : Nat) : Int)).toNat]'hk : Nat) : Nat), rfl, rfl, hl4, ?_, ?_, ?_, ?_, t, told.map (fun n => V.int (n : Nat)), _, rfl, rfl, by rw [upd_ne ntl]; exact ht4, ?_, ⟨_, rfl⟩, (s4.mut nl).mut nt0, told ++ [left[(q % ((left.length : Nat) : Int)).toNat]'hk], left.eraseIdx (q % ((left.length : Nat) : Int)).toNat, ?_, ?_, inv2, ?_, ?_, ?_⟩
      · rw [List.length_map, hq]; omega
      · rw [List.length_map, hq]; omega
      · rw [List.length_map, hq]; exact seq_at q0 q1
      · rw [List.getElem?_map, hy]; rfl
      · rw [List.length_map]; exact szl _ (by show told.length + 1 ≤ 1000; omega)
      · rw [upd_ne (Ne.symm ntl), upd_same, eraseIdx_map]
      · rw [upd_same, List.map_append]; rfl
      · rw [List.length_append]; show told.length + 1 ≤ _; omega
      · rw [List.length_append, List.length_eraseIdx, if_pos hk]; show told.length + 1 + _ = _; omega
      · exact fun _ => by rw [List.length_append]; exact Nat.le_add_left _ _
    · have c1 := ndec c1
      refine ⟨⟨_, rfl⟩, s4, told, left, hl4, ht4, inv, by omega, hsum, fun _ => by omega⟩
  · rintro σ H4 ⟨⟨x, rfl⟩, s4, told, left, hl4, ht4, inv, hle, hsum, hone⟩
    have hone := hone (by omega)
    have fin : ∀ r : List Nat, r.Perm told → r.Nodup ∧ (∀ c ∈ r, c < f + i) ∧ 1 ≤ r.length ∧ r.length ≤ 3 := fun r p => ⟨p.nodup_iff.mpr (List.nodup_append.mp inv.nd).1, fun c hc => inv.lt c (List.mem_append_left _ (p.mem_iff.mp hc)), by rw [p.length_eq]; exact hone, by rw [p.length_eq]; omega⟩
    refine ⟨fun σ H5 => ∃ p x, ∃ r : List Nat, σ = [some (.int c), some (.int (f : Nat)), some (.int (i : Nat)), some (.ref l), some (.ref p), x] ∧ Same H H5 ∧ H p = none ∧ H5 p = some (.lst (r.map fun n => V.int (n : Nat))) ∧ r.Perm told, ?_, ?_⟩
    · refine ⟨_, rfl, _, _, rfl, rfl, d5, _, _, rfl, rfl, m2, rfl, _, rfl, ?_⟩
      refine ite2 (fun c1 => ?_) (fun c1 => ?_)
      · refine ⟨_, rfl, t, _, rfl, SqL.of ht4, fun q nq => ⟨q, _, told.reverse, rfl, s4.trans (Same.upd nq), s4.free nq, ?_, List.reverse_perm told⟩⟩
        rw [upd_same, List.map_reverse]
      · exact ⟨t, _, told, rfl, s4, nt0, ht4, List.Perm.refl _⟩
    · rintro σ H5 ⟨p, x, r, rfl, s5, np, hp, pr⟩
      exact ⟨_, rfl, k _ _ r s5 ⟨p, _, rfl, at_cut (L.no np) hp, nat_rs⟩ (fin r pr)⟩
end
end Rk
set_option Elab.async false
set_option linter.all false
set_option maxRecDepth 100000
set_option maxHeartbeats 1000000
namespace Rk
open PySem PySem.Spec PyProof.Rows L2
open TL
abbrev LD : Type := Bool × List Int × List Str
abbrev tLD : Ty LD := tTri tBool (tLst tInt) (tLst tStr)
def upTo (n : Nat) : List Int := (List.range n).map fun k => ((k : Nat) : Int)
structure LDOk (d : LD) : Prop where
  len : 2 ≤ d.2.1.length ∧ d.2.1.length ≤ 11
  asc : d.2.1.Pairwise (· < ·)
  small : ∀ p ∈ d.2.1, p.natAbs < 10 ^ 59
  w : d.1 = true → d.2.2.length + 1 = d.2.1.length ∧ d.2.1 = upTo d.2.1.length ∧ (∀ w ∈ d.2.2, isWord w = true) ∧ d.2.2.Nodup
theorem upTo_asc (n : Nat) : (upTo n).Pairwise (· < ·) := by
  unfold upTo
  rw [List.pairwise_map]
  exact (List.pairwise_lt_range (n := n)).imp fun {a b} h => by omega
theorem upTo_len (n : Nat) : (upTo n).length = n := by unfold upTo; rw [List.length_map, List.length_range]
theorem upTo_get {n k : Nat} {z : Int} (h : (upTo n)[k]? = some z) : z = (k : Nat) ∧ k < n := by
  unfold upTo at h
  rw [List.getElem?_map] at h
  obtain ⟨j, hj, rfl⟩ := Option.map_eq_some_iff.mp h
  obtain ⟨h1, h2⟩ := List.getElem?_eq_some_iff.mp hj
  rw [List.getElem_range] at h2
  rw [List.length_range] at h1
  exact ⟨by rw [h2], h1⟩
/-- words by their cell -/
theorem ld_words (c : Int) {n : Nat} (h1 : 1 ≤ n) (h : n ≤ 10) : LDOk (true, upTo (n + 1), (List.range n).map (wordF c)) := by
  refine ⟨⟨by rw [upTo_len]; omega, by rw [upTo_len]; omega⟩, upTo_asc _, fun p hp => ?_, fun _ => ⟨by rw [List.length_map, List.length_range, upTo_len], by rw [upTo_len], fun w hw => ?_, words_nd c (by omega)⟩⟩
  · obtain ⟨k, hk, rfl⟩ := List.mem_map.mp (show p ∈ (List.range (n + 1)).map _ from hp)
    have := List.mem_range.mp hk
    have : (11 : Nat) < 10 ^ 59 := by decide
    show ((k : Nat) : Int).natAbs < 10 ^ 59
    omega
  · obtain ⟨k, hk, rfl⟩ := List.mem_map.mp hw
    have := List.mem_range.mp hk
    exact wordF_ok c (by omega)
theorem asc_snoc {l : List Int} {a b : Int} (h : (l ++ [a]).Pairwise (· < ·)) (q : a < b) : (l ++ [a] ++ [b]).Pairwise (· < ·) := by
  rw [List.pairwise_append]
  refine ⟨h, List.pairwise_singleton _ _, fun x hx y hy => ?_⟩
  rw [List.mem_singleton.mp hy]
  rcases List.mem_append.mp hx with m | m
  · have := (List.pairwise_append.mp h).2.2 x m a (List.mem_singleton.mpr rfl)
    omega
  · rw [List.mem_singleton.mp m]; exact q
section
variable {P : Program} {w : World} {K : PySem.W.Frag} {mg : Str → Option Value} {base : Heap}
theorem rng_word (T : Tx K mg) (c : Int) {j : Nat} {H5 : Hp} {Q : VK} (hj : j < 12) (k : ∀ H' w, Same H5 H' → w = V.str (wordF c j) → Q w H') : Sp2 tInt tInt tStr (fun c k s => 0 ≤ k ∧ k < 12 ∧ s = wordF c k.toNat) [.int c, .int (0 + (j : Nat))] H5 Q E0 :=
  ⟨[], _, _, c, 0 + (j : Nat), _, rfl, Live.nil, rfl, rfl, ⟨by omega, by omega, rfl⟩, fun H8 w8 s8 e8 => k _ _ s8 (by rw [show w8 = V.str _ from e8, show ((0 : Int) + (j : Nat)).toNat = j by omega])⟩
abbrev n_law_fact : List Str := ["cell", "most", "count", "at", "points", "k", "part", "step"]
theorem sc_law_fact : FnScope n_law_fact ["cell", "most"] (defScope s_law_fact) := ⟨rfl, rfl, rfl, by decide +kernel, rfl, by decide +kernel, by decide +kernel⟩
theorem ok_law_fact (T : Tx K mg) : Def P w K mg base "_law_fact" ["cell", "most"] 2 (SpR2 tInt tNat tLD (fun _ m => 1 ≤ m ∧ m ≤ 9) fun _ m r => LDOk r) := by
  refine ⟨?_, T.g_law_fact, T.f_law_fact.kp, T.f_law_fact.bindsN fun _ _ _ _ _ _ us hl => match us, hl with | [_, _], _ => rfl⟩
  refine fn_body T.f_law_fact sc_law_fact (fun _ _ _ _ h => lenR2 h) fun cdv A outer s H vs Q E hr h => ?_
  obtain ⟨ls, v, vm, c, m, rfl, L, rfl, rfl, ⟨hm1, hm9⟩, k⟩ := h
  have hm0 : (0 : Int) < (m : Nat) := by omega
  have m1009 : (0 : Int) < 1009 := by decide
  have m3 : (0 : Int) < 3 := by decide
  have m41 : (0 : Int) < 41 := by decide
  have m50 : (0 : Int) < 50 := by decide
  have m5 : (0 : Int) < 5 := by decide
  have p57 : CPow 10 57 := ⟨by decide, by decide, by decide⟩
  have p55 : CPow 10 55 := ⟨by decide, by decide, by decide⟩
  have q57 : (0 : Int) < 2 * 10 ^ (57 : Int).toNat := by decide
  have q55 : (0 : Int) < 10 ^ (55 : Int).toNat := by decide
  have d3 : CDiv c 3 := ⟨by decide, by decide⟩
  have d9 : CDiv c 9 := ⟨by decide, by decide⟩
  have e57 : (10 : Int) ^ (57 : Int).toNat = 1000000000000000000000000000000000000000000000000000000000 := by decide
  have e55 : (10 : Int) ^ (55 : Int).toNat = 10000000000000000000000000000000000000000000000000000000 := by decide
  have five : ∀ n : Nat, n < 5 → ∃ z : Int, 0 < z ∧ ([.int 10007, .int 10009, .int 10037, .int 10039, .int 10061] : List V)[n]? = some (.int z) := by
    intro n hn
    rcases (show n = 0 ∨ n = 1 ∨ n = 2 ∨ n = 3 ∨ n = 4 by omega) with e | e | e | e | e <;> rw [e]
    · exact ⟨10007, by decide, rfl⟩
    · exact ⟨10009, by decide, rfl⟩
    · exact ⟨10037, by decide, rfl⟩
    · exact ⟨10039, by decide, rfl⟩
    · exact ⟨10061, by decide, rfl⟩
  refine ⟨_, pss_cons (ps_set (i := 2) sc_law_fact.nd rfl (.inl rfl) (pe_op op_add pe_int (pe_op op_mod (pe_op op_add (pe_op op_mod (pe_op op_mul (pv 0) pe_int) pe_int) pe_int) (pv 1))))
  (pss_cons (ps_if (pt_cmpR op_eq (pe_op op_mod (pv 0) pe_int) pe_int (nomark _)) (pss_one (ps_ret (pe_tup (pa_cons pe_bl (pa_cons (pe_lc (own := [("k", 5)]) (g := gName 5) rfl sc_law_fact.nd (pi_range1 (by rfl) T.n_range (pa_cons (pe_op op_add (pv 2) pe_int) pa_nil)) (blkOk_by (own := [("k", 5)]) (N := n_law_fact) (sc := defScope s_law_fact) (by decide +kernel)) (fun _ _ _ _ _ => (pg_name (i := 5) sc_law_fact.nd rfl (.inl rfl))) (fun _ _ _ _ _ => pts_nil) (fun _ _ _ _ _ => (pv 5))) (pa_cons (pe_lc (own := [("k", 5)]) (g := gName 5) rfl sc_law_fact.nd (pi_range1 (by rfl) T.n_range (pa_cons (pv 2) pa_nil)) (blkOk_by (own := [("k", 5)]) (N := n_law_fact) (sc := defScope s_law_fact) (by decide +kernel)) (fun _ _ _ _ _ => (pg_name (i := 5) sc_law_fact.nd rfl (.inl rfl))) (fun _ _ _ _ _ => pts_nil) (fun _ _ _ _ _ => (pe_cD (ok_law_word T) hr (pa_cons (pv 0) (pa_cons (pv 5) pa_nil))))) pa_nil)))))) pss_nil)
  (pss_cons (ps_set (i := 3) sc_law_fact.nd rfl (.inl rfl) (pe_op op_sub (pe_op op_mod (pe_op op_fdiv (pv 0) pe_int) pe_int) pe_int))
  (Evl.pss_cut (ps_if (pt_cmpR op_gt (pe_op op_mod (pe_op op_fdiv (pv 0) pe_int) pe_int) pe_int (nomark _)) (pss_one (ps_set (i := 3) sc_law_fact.nd rfl (.inl rfl) (pe_op op_sub (pe_op op_mod (pe_op op_fdiv (pv 0) pe_int) (pe_op op_mul pe_int (pe_op op_pow pe_int pe_int))) (pe_op op_pow pe_int pe_int)))) pss_nil)
  (pss_cons (ps_set (i := 4) sc_law_fact.nd rfl (.inl rfl) (pe_lst (pa_cons (pv 3) pa_nil)))
  (pss_cons (ps_for PassesOwn.never rfl (pi_range1 (by rfl) T.n_range (pa_cons (pv 2) pa_nil)) (pg_name (i := 5) sc_law_fact.nd rfl (.inl rfl))
  (pss_cons (ps_set (i := 6) sc_law_fact.nd rfl (.inl rfl) (pe_op op_mod (pe_op op_mul (pe_op op_add (pe_op op_fdiv (pv 0) pe_int) (pv 5)) (pe_op op_add (pe_op op_mul pe_int (pv 5)) pe_int)) (pe_ix ix_list (pe_lst (pa_cons pe_int (pa_cons pe_int (pa_cons pe_int (pa_cons pe_int (pa_cons pe_int pa_nil)))))) (pe_op op_mod (pv 5) pe_int) (fun _ _ => rfl))))
  (pss_cons (ps_set (i := 7) sc_law_fact.nd rfl (.inl rfl) pe_int)
  (Evl.pss_cut (ps_if (pt_cmpR op_eq (pe_op op_mod (pv 6) pe_int) pe_int (nomark _)) (pss_one (ps_set (i := 7) sc_law_fact.nd rfl (.inl rfl) (pe_op op_add pe_int (pe_op op_mod (pv 6) pe_int)))) pss_nil)
  (Evl.pss_cut (ps_if (pt_cmpR op_eq (pe_op op_mod (pv 6) pe_int) pe_int (nomark _)) (pss_one (ps_set (i := 7) sc_law_fact.nd rfl (.inl rfl) (pe_op op_add pe_int (pe_op op_mod (pe_op op_fdiv (pv 0) (pe_op op_add (pv 5) pe_int)) (pe_op op_pow pe_int pe_int))))) pss_nil)
  (pss_cons (ps_set (i := 3) sc_law_fact.nd rfl (.inl rfl) (pe_op op_add (pv 3) (pv 7)))
  (pss_one (ps_expr (pe_bm PySem.F.plainAttrs_list PySem.F.slot_list_append PySem.F.type_list_append mt_append (pv 4) (pa_cons (pv 3) pa_nil))))))))))
  (pss_one (ps_ret (pe_tup (pa_cons pe_bl (pa_cons (pv 4) (pa_cons (pe_lst pa_nil) pa_nil))))))))))), ?_⟩
  refine ⟨_, rfl, _, _, rfl, rfl, .inr ⟨by decide, by decide⟩, _, _, rfl, rfl, m1009, _, _, rfl, rfl, _, rfl, _, _, rfl, rfl, hm0, _, _, rfl, rfl, ?_⟩
  obtain ⟨n, hn⟩ : ∃ n : Nat, (1 : Int) + (c * 48271 % 1009 + 1) % ((m : Nat) : Int) = (n : Nat) ∧ 1 ≤ n ∧ n ≤ 9 := by
    have a1 := Int.emod_nonneg (c * 48271 % 1009 + 1) (show ((m : Nat) : Int) ≠ 0 by omega)
    have a2 := Int.emod_lt_of_pos (c * 48271 % 1009 + 1) hm0
    exact ⟨(1 + (c * 48271 % 1009 + 1) % ((m : Nat) : Int)).toNat, by omega, by omega, by omega⟩
  obtain ⟨en, hn1, hn9⟩ := hn
  show gName 2 (V.int (1 + (c * 48271 % 1009 + 1) % ((m : Nat) : Int))) _ _ _
  rw [en]
  refine ⟨_, rfl, _, _, rfl, rfl, m3, rfl, _, rfl, ?_⟩
  refine ite2 (fun c1 => ?_) (fun c1 => ?_)
  · refine ⟨_, rfl, _, _, rfl, rfl, _, rfl, by omega, by omega, fun D nD => ?_⟩
    refine lc_map (walk_range (lo := 0)) (u := tInt) (ls := ls) (upTo (n + 1)) nD L (by omega) (by rw [upTo_len]; omega) (fun _ _ => trivial) ?_ ?_
    · rintro j y z H5 H6 R hy s5 sc L2 ⟨rfl, rfl⟩ hR
      obtain ⟨rfl, hj⟩ := upTo_get hy
      exact ⟨rfl, _, rfl, hR _ _ (Same.refl _) (by show V.int _ = V.int _; rw [Int.zero_add])⟩
    · intro H5 s5 rD
      refine ⟨_, rfl, _, rfl, by omega, by omega, fun D2 nD2 => ?_⟩
      refine lc_map (walk_range (lo := 0)) (u := tStr) (ls := ls) ((List.range n).map (wordF c)) nD2 (L.to s5) (by omega) (by rw [List.length_map, List.length_range]; omega) (fun _ _ => trivial) ?_ ?_
      · rintro j y z H6 H7 R hy s6 sc L2 ⟨rfl, rfl⟩ hR
        rw [List.getElem?_map] at hy
        obtain ⟨j', hj', rfl⟩ := Option.map_eq_some_iff.mp hy
        obtain ⟨hj1, hj2⟩ := List.getElem?_eq_some_iff.mp hj'
        rw [List.getElem_range] at hj2
        subst hj2
        rw [List.length_range] at hj1
        exact ⟨rfl, _, rfl, _, rfl, rng_word T c (by omega) fun H8 w8 s8 e8 => hR _ _ s8 e8⟩
      · intro H6 s6 rD2
        refine ⟨szl 3, fun p np => k _ _ (true, upTo (n + 1), (List.range n).map (wordF c)) ((s5.trans s6).trans (Same.upd np)) ⟨p, _, _, _, rfl, at_cut (L.no ((s5.trans s6).free np)) upd_same, rfl, (tLst tInt).mono (s6.trans (Same.upd np)).cut rD, (tLst tStr).mono (Same.upd np).cut rD2⟩ (ld_words c hn1 (by omega))⟩
  refine ⟨_, rfl, _, _, rfl, rfl, d9, _, _, rfl, rfl, m41, _, _, rfl, rfl, ?_⟩
  refine ⟨fun σ H3 => (∃ a : Int, σ = [some (.int c), some (.int (m : Nat)), some (.int (n : Nat)), some (.int a), none, none, none, none] ∧ -(10 ^ 57) ≤ a ∧ a ≤ 10 ^ 57) ∧ Same H H3, ?_, ?_⟩
  · refine ⟨_, rfl, _, _, rfl, rfl, d3, _, _, rfl, rfl, m3, _, _, rfl, rfl, _, rfl, ?_⟩
    refine ite2 (fun c2 => ?_) (fun c2 => ?_)
    · refine ⟨_, rfl, _, _, rfl, rfl, d9, _, _, rfl, rfl, p57, _, _, rfl, rfl, .inl ⟨by decide, by decide⟩, _, _, rfl, rfl, q57, _, _, rfl, rfl, p57, _, _, rfl, rfl, ⟨_, rfl, ?_, ?_⟩, Same.refl _⟩
      · have := Int.emod_nonneg (c / 9) (show (2 * 10 ^ (57 : Int).toNat : Int) ≠ 0 by decide)
        have e : (10 : Int) ^ 57 = 10 ^ (57 : Int).toNat := rfl
        omega
      · have := Int.emod_lt_of_pos (c / 9) q57
        have e : (10 : Int) ^ 57 = 10 ^ (57 : Int).toNat := rfl
        omega
    · refine ⟨⟨_, rfl, ?_, ?_⟩, Same.refl _⟩
      · have : (10 : Int) ^ 57 > 100 := by decide
        omega
      · have : (10 : Int) ^ 57 > 100 := by decide
        omega
  rintro σ H3 ⟨⟨a, rfl, ha1, ha2⟩, s3⟩
  refine ⟨_, rfl, szl 1, fun l nl => ?_⟩
  have nl0 := s3.free nl
  refine ⟨_, rfl, _, rfl, by omega, by omega, ?_⟩
  refine for_range (lo := 0) (fun i σ H' => (∃ (a : Int) (pre : List Int) (x y z : Option V), σ = [some (.int c), some (.int (m : Nat)), some (.int (n : Nat)), some (.int a), some (.ref l), x, y, z] ∧ H' l = some (.lst ((pre ++ [a]).map V.int)) ∧ pre.length = i ∧ (pre ++ [a]).Pairwise (· < ·) ∧ (∀ p ∈ pre ++ [a], -(10 ^ 57) ≤ p) ∧ a ≤ 10 ^ 57 + (i : Nat) * 10 ^ 55) ∧ Same H H') ⟨⟨a, [], _, _, _, rfl, upd_same, rfl, List.pairwise_singleton _ _, fun p hp => by rw [List.mem_singleton.mp hp]; exact ha1, by show a ≤ 10 ^ 57 + 0 * 10 ^ 55; rw [Int.zero_mul, Int.add_zero]; exact ha2⟩, s3.trans (Same.upd nl)⟩ ?_ ?_
  · rintro i σ H4 hi ⟨⟨a, pre, x, y, z, rfl, hl, hpl, hasc, hlo, hhi⟩, s4⟩
    obtain ⟨z5, hz5, ez5⟩ := five ((0 + ((i : Nat) : Int)) % 5).toNat (by omega)
    have dk : CDiv c (0 + ((i : Nat) : Int) + 4) := ⟨by omega, by omega⟩
    refine ⟨_, rfl, _, _, rfl, rfl, d3, _, rfl, _, _, rfl, rfl, _, rfl, _, _, rfl, rfl, .inl ⟨by decide, by decide⟩, _, _, rfl, rfl, _, _, rfl, rfl, .inr ⟨by omega, by omega⟩, szl 5, fun q nq => ?_⟩
    refine ⟨_, rfl, _, _, rfl, rfl, m5, q, _, _, _, rfl, rfl, SqL.of upd_same, at_of (j := ((0 + ((i : Nat) : Int)) % 5).toNat) (Int.toNat_of_nonneg (by omega)).symm ez5, _, _, rfl, rfl, hz5, ?_⟩
    have s5 := s4.trans (Same.upd (o := .lst [.int 10007, .int 10009, .int 10037, .int 10039, .int 10061]) nq)
    have hl5 := (Same.upd (o := .lst [.int 10007, .int 10009, .int 10037, .int 10039, .int 10061]) nq) _ _ hl
    show gName 6 (V.int (((c / 3 + (0 + ((i : Nat) : Int))) * (2 * (0 + ((i : Nat) : Int)) + 5)) % z5)) _ _ _
    generalize ((c / 3 + (0 + ((i : Nat) : Int))) * (2 * (0 + ((i : Nat) : Int)) + 5)) % z5 = part
    generalize upd H4 q (.lst [.int 10007, .int 10009, .int 10037, .int 10039, .int 10061]) = H5 at s5 hl5
    refine ⟨fun σ H6 => ∃ stp : Int, 1 ≤ stp ∧ stp ≤ 10 ^ 55 ∧ σ = [some (.int c), some (.int (m : Nat)), some (.int (n : Nat)), some (.int a), some (.ref l), some (.int (0 + ((i : Nat) : Int))), some (.int part), some (.int stp)] ∧ H6 = H5, ?_, ?_⟩
    · refine ⟨_, rfl, _, _, rfl, rfl, m3, rfl, _, rfl, ?_⟩
      refine ite2 (fun c2 => ?_) (fun c2 => ?_)
      · refine ⟨_, rfl, _, _, rfl, rfl, m50, _, _, rfl, rfl, _, ?_, ?_, rfl, rfl⟩
        · have := Int.emod_nonneg part (show (50 : Int) ≠ 0 by decide); omega
        · have := Int.emod_lt_of_pos part m50
          have : (10 : Int) ^ 55 > 100 := by decide
          omega
      · exact ⟨1, by decide, by decide, rfl, rfl⟩
    rintro σ H6 ⟨stp, g1, g2, rfl, rfl⟩
    refine ⟨fun σ H7 => ∃ stp : Int, 1 ≤ stp ∧ stp ≤ 10 ^ 55 ∧ σ = [some (.int c), some (.int (m : Nat)), some (.int (n : Nat)), some (.int a), some (.ref l), some (.int (0 + ((i : Nat) : Int))), some (.int part), some (.int stp)] ∧ H7 = H6, ?_, ?_⟩
    · refine ⟨_, rfl, _, _, rfl, rfl, m3, rfl, _, rfl, ?_⟩
      refine ite2 (fun c2 => ?_) (fun c2 => ?_)
      · refine ⟨_, rfl, _, rfl, _, _, rfl, rfl, _, _, rfl, rfl, dk, _, _, rfl, rfl, p55, _, _, rfl, rfl, q55, _, _, rfl, rfl, _, ?_, ?_, rfl, rfl⟩
        · have := Int.emod_nonneg (c / (0 + ((i : Nat) : Int) + 4)) (show (10 ^ (55 : Int).toNat : Int) ≠ 0 by decide); omega
        · have := Int.emod_lt_of_pos (c / (0 + ((i : Nat) : Int) + 4)) q55
          have e : (10 : Int) ^ 55 = 10 ^ (55 : Int).toNat := rfl
          omega
      · exact ⟨stp, g1, g2, rfl, rfl⟩
    rintro σ H7 ⟨stp, g1, g2, rfl, rfl⟩
    refine ⟨_, rfl, _, rfl, _, _, rfl, rfl, ?_⟩
    refine ⟨_, rfl, .inl ⟨rfl, _, SqL.of hl5⟩, _, rfl, l, _, _, rfl, rfl, hl5, ?_, ⟨a + stp, pre ++ [a], _, _, _, rfl, ?_, ?_, asc_snoc hasc (by omega), ?_, ?_⟩, s5.mut nl0⟩
    · rw [List.length_map, List.length_append]; exact szl _ (by show pre.length + 1 + 1 ≤ 1000; omega)
    · rw [upd_same, List.map_append (l₁ := pre ++ [a])]; rfl
    · rw [List.length_append, hpl]; rfl
    · intro p hp
      rcases List.mem_append.mp hp with mm | mm
      · exact hlo p mm
      · rw [List.mem_singleton.mp mm]
        have := hlo a (List.mem_append_right _ (List.mem_singleton.mpr rfl))
        omega
    · rw [show ((i + 1 : Nat) : Int) = (i : Nat) + 1 by omega, Int.add_mul]; omega
  · rintro σ H4 ⟨⟨a, pre, x, y, z, rfl, hl, hpl, hasc, hlo, hhi⟩, s4⟩
    refine ⟨_, rfl, Nat.zero_le _, fun e ne => ⟨szl 3, fun p np => ?_⟩⟩
    have s5 : Same H4 (upd (upd H4 e (.lst [])) p (.tup [.bl false, .ref l, .ref e])) := (Same.upd ne).trans (Same.upd np)
    have npe : e ≠ p := fun q => by rw [← q, upd_same] at np; cases np
    refine k _ _ (false, pre ++ [a], []) (s4.trans s5) ⟨p, _, _, _, rfl, at_cut (L.no ((s4.trans (Same.upd ne)).free np)) upd_same, rfl, ⟨l, _, rfl, at_cut (L.no nl0) (s5 _ _ hl), int_rs⟩, ⟨e, [], rfl, at_cut (L.no (s4.free ne)) (by rw [upd_ne npe]; exact upd_same), trivial⟩⟩ ⟨⟨?_, ?_⟩, hasc, fun p hp => ?_, fun q => nomatch q⟩
    · show 2 ≤ (pre ++ [a]).length
      rw [List.length_append]; show 2 ≤ pre.length + 1; omega
    · show (pre ++ [a]).length ≤ 11
      rw [List.length_append]; show pre.length + 1 ≤ 11; omega
    · have h1 := hlo p hp
      have h2 : p ≤ a := by
        rcases List.mem_append.mp hp with mm | mm
        · have := (List.pairwise_append.mp hasc).2.2 p mm a (List.mem_singleton.mpr rfl); omega
        · rw [List.mem_singleton.mp mm]; exact Int.le_refl _
      have h3 : ((n : Nat) : Int) * 10 ^ 55 ≤ 9 * 10 ^ 55 := Int.mul_le_mul_of_nonneg_right (by omega) (by decide)
      have e57' : (10 : Int) ^ 57 = 1000000000000000000000000000000000000000000000000000000000 := by decide
      have e55' : (10 : Int) ^ 55 = 10000000000000000000000000000000000000000000000000000000 := by decide
      have e59' : (10 : Nat) ^ 59 = 100000000000000000000000000000000000000000000000000000000000 := by decide
      have hhi : a ≤ 10 ^ 57 + ((n : Nat) : Int) * 10 ^ 55 := by
        have : (((n : Nat) : Int) - 0).toNat = n := by omega
        first | exact hhi | (rw [this] at hhi; exact hhi)
      rw [e55'] at h3 hhi
      rw [e57'] at h1 hhi
      rw [e59']
      omega
end
end Rk
set_option Elab.async false
set_option linter.all false
set_option maxRecDepth 100000
set_option maxHeartbeats 1000000
namespace Rk
open PySem PySem.Spec PyProof.Rows L2
open TL
/-- points one by one -/
def Cons (d : LD) : Prop := ∀ (k : Nat) z, d.2.1[k]? = some z → z = d.2.1.headD 0 + (k : Nat)
def fromB (b : Int) (n : Nat) : List Int := (List.range n).map fun k => b + ((k : Nat) : Int)
theorem fromB_len (b : Int) (n : Nat) : (fromB b n).length = n := by unfold fromB; rw [List.length_map, List.length_range]
theorem fromB_get {b : Int} {n k : Nat} {z : Int} (h : (fromB b n)[k]? = some z) : z = b + (k : Nat) ∧ k < n := by
  unfold fromB at h
  rw [List.getElem?_map] at h
  obtain ⟨j, hj, rfl⟩ := Option.map_eq_some_iff.mp h
  obtain ⟨h1, h2⟩ := List.getElem?_eq_some_iff.mp hj
  rw [List.getElem_range] at h2
  rw [List.length_range] at h1
  exact ⟨by rw [h2], h1⟩
theorem fromB_head (b : Int) {n : Nat} (h : 1 ≤ n) : (fromB b n).headD 0 = b := by
  obtain ⟨m, rfl⟩ : ∃ m, n = m + 1 := ⟨n - 1, by omega⟩
  unfold fromB
  rw [List.range_succ_eq_map]
  show b + ((0 : Nat) : Int) = b
  simp
theorem fromB_asc (b : Int) (n : Nat) : (fromB b n).Pairwise (· < ·) := by
  unfold fromB
  rw [List.pairwise_map]
  exact (List.pairwise_lt_range (n := n)).imp fun {a b} h => by omega
theorem upTo_from (n : Nat) : upTo n = fromB 0 n := by
  unfold upTo fromB
  exact List.map_congr_left fun k _ => by rw [Int.zero_add]
section
variable {P : Program} {w : World} {K : PySem.W.Frag} {mg : Str → Option Value} {base : Heap}
abbrev n_law_outcome : List Str := ["cell", "count", "base", "k"]
theorem sc_law_outcome : FnScope n_law_outcome ["cell"] (defScope s_law_outcome) := ⟨rfl, rfl, rfl, by decide +kernel, rfl, by decide +kernel, by decide +kernel⟩
theorem ok_law_outcome (T : Tx K mg) : Def P w K mg base "_law_outcome" ["cell"] 2 (SpR1 tInt tLD (fun _ => True) fun _ r => LDOk r ∧ Cons r ∧ r.2.1.length ≤ 5) := by
  refine ⟨?_, T.g_law_outcome, T.f_law_outcome.kp, T.f_law_outcome.bindsN fun _ _ _ _ _ _ us hl => match us, hl with | [_], _ => rfl⟩
  refine fn_body T.f_law_outcome sc_law_outcome (fun _ _ _ _ h => lenR1 h) fun cdv A outer s H vs Q E hr h => ?_
  obtain ⟨ls, v, c, rfl, L, rfl, _, k⟩ := h
  have m3 : (0 : Int) < 3 := by decide
  have m2 : (0 : Int) < 2 := by decide
  have d3 : CDiv c 3 := ⟨by decide, by decide⟩
  have d9 : CDiv c 9 := ⟨by decide, by decide⟩
  have d18 : CDiv c 18 := ⟨by decide, by decide⟩
  have p57 : CPow 10 57 := ⟨by decide, by decide, by decide⟩
  have q57 : (0 : Int) < 2 * 10 ^ (57 : Int).toNat := by decide
  refine ⟨_, pss_cons (ps_set (i := 1) sc_law_outcome.nd rfl (.inl rfl) (pe_op op_add pe_int (pe_op op_mod (pv 0) pe_int)))
  (pss_cons (ps_if (pt_cmpR op_eq (pe_op op_mod (pe_op op_fdiv (pv 0) pe_int) pe_int) pe_int (nomark _)) (pss_one (ps_ret (pe_tup (pa_cons pe_bl (pa_cons (pe_lc (own := [("k", 3)]) (g := gName 3) rfl sc_law_outcome.nd (pi_range1 (by rfl) T.n_range (pa_cons (pe_op op_add (pv 1) pe_int) pa_nil)) (blkOk_by (own := [("k", 3)]) (N := n_law_outcome) (sc := defScope s_law_outcome) (by decide +kernel)) (fun _ _ _ _ _ => (pg_name (i := 3) sc_law_outcome.nd rfl (.inl rfl))) (fun _ _ _ _ _ => pts_nil) (fun _ _ _ _ _ => (pv 3))) (pa_cons (pe_lc (own := [("k", 3)]) (g := gName 3) rfl sc_law_outcome.nd (pi_range1 (by rfl) T.n_range (pa_cons (pv 1) pa_nil)) (blkOk_by (own := [("k", 3)]) (N := n_law_outcome) (sc := defScope s_law_outcome) (by decide +kernel)) (fun _ _ _ _ _ => (pg_name (i := 3) sc_law_outcome.nd rfl (.inl rfl))) (fun _ _ _ _ _ => pts_nil) (fun _ _ _ _ _ => (pe_cD (ok_law_word T) hr (pa_cons (pv 0) (pa_cons (pv 3) pa_nil))))) pa_nil)))))) pss_nil)
  (pss_cons (ps_set (i := 2) sc_law_outcome.nd rfl (.inr rfl) pe_int)
  (Evl.pss_cut (ps_if (pt_cmpR op_eq (pe_op op_mod (pe_op op_fdiv (pv 0) pe_int) pe_int) pe_int (nomark _)) (pss_one (ps_set (i := 2) sc_law_outcome.nd rfl (.inr rfl) (pe_op op_sub (pe_op op_mod (pe_op op_fdiv (pv 0) pe_int) (pe_op op_mul pe_int (pe_op op_pow pe_int pe_int))) (pe_op op_pow pe_int pe_int)))) pss_nil)
  (pss_one (ps_ret (pe_tup (pa_cons pe_bl (pa_cons (pe_lc (own := [("k", 3)]) (g := gName 3) rfl sc_law_outcome.nd (pi_range1 (by rfl) T.n_range (pa_cons (pe_op op_add (pv 1) pe_int) pa_nil)) (blkOk_by (own := [("k", 3)]) (N := n_law_outcome) (sc := defScope s_law_outcome) (by decide +kernel)) (fun _ _ _ _ _ => (pg_name (i := 3) sc_law_outcome.nd rfl (.inl rfl))) (fun _ _ _ _ _ => pts_nil) (fun _ _ _ _ _ => (pe_op op_add (pv 2) (pv 3)))) (pa_cons (pe_lst pa_nil) pa_nil))))))))), ?_⟩
  refine ⟨_, rfl, _, _, rfl, rfl, m3, _, _, rfl, rfl, ?_⟩
  obtain ⟨n, en, hn2, hn4⟩ : ∃ n : Nat, (2 : Int) + c % 3 = (n : Nat) ∧ 2 ≤ n ∧ n ≤ 4 := ⟨(2 + c % 3).toNat, by omega, by omega, by omega⟩
  show gName 1 (V.int (2 + c % 3)) _ _ _
  rw [en]
  refine ⟨_, rfl, _, _, rfl, rfl, d3, _, _, rfl, rfl, m3, rfl, _, rfl, ?_⟩
  refine ite2 (fun c1 => ?_) (fun c1 => ?_)
  · refine ⟨_, rfl, _, _, rfl, rfl, _, rfl, by omega, by omega, fun D nD => ?_⟩
    refine lc_map (walk_range (lo := 0)) (u := tInt) (ls := ls) (upTo (n + 1)) nD L (by omega) (by rw [upTo_len]; omega) (fun _ _ => trivial) ?_ ?_
    · rintro j y z H5 H6 R hy s5 sc L2 ⟨rfl, rfl⟩ hR
      obtain ⟨rfl, hj⟩ := upTo_get hy
      exact ⟨rfl, _, rfl, hR _ _ (Same.refl _) (by show V.int _ = V.int _; rw [Int.zero_add])⟩
    · intro H5 s5 rD
      refine ⟨_, rfl, _, rfl, by omega, by omega, fun D2 nD2 => ?_⟩
      refine lc_map (walk_range (lo := 0)) (u := tStr) (ls := ls) ((List.range n).map (wordF c)) nD2 (L.to s5) (by omega) (by rw [List.length_map, List.length_range]; omega) (fun _ _ => trivial) ?_ ?_
      · rintro j y z H6 H7 R hy s6 sc L2 ⟨rfl, rfl⟩ hR
        rw [List.getElem?_map] at hy
        obtain ⟨j', hj', rfl⟩ := Option.map_eq_some_iff.mp hy
        obtain ⟨hj1, hj2⟩ := List.getElem?_eq_some_iff.mp hj'
        rw [List.getElem_range] at hj2
        subst hj2
        rw [List.length_range] at hj1
        exact ⟨rfl, _, rfl, _, rfl, rng_word T c (by omega) fun H8 w8 s8 e8 => hR _ _ s8 e8⟩
      · intro H6 s6 rD2
        refine ⟨szl 3, fun p np => k _ _ (true, upTo (n + 1), (List.range n).map (wordF c)) ((s5.trans s6).trans (Same.upd np)) ⟨p, _, _, _, rfl, at_cut (L.no ((s5.trans s6).free np)) upd_same, rfl, (tLst tInt).mono (s6.trans (Same.upd np)).cut rD, (tLst tStr).mono (Same.upd np).cut rD2⟩ ⟨ld_words c (by omega) (by omega), fun j z hz => ?_, by show (upTo (n + 1)).length ≤ 5; rw [upTo_len]; omega⟩⟩
        have hz : (upTo (n + 1))[j]? = some z := hz
        show z = (upTo (n + 1)).headD 0 + _
        rw [upTo_from] at hz ⊢
        rw [fromB_head 0 (by omega)]
        exact (fromB_get hz).1
  refine ⟨fun σ H3 => (∃ a : Int, σ = [some (.int c), some (.int (n : Nat)), some (.int a), none] ∧ -(10 ^ 57) ≤ a ∧ a ≤ 10 ^ 57) ∧ Same H H3, ?_, ?_⟩
  · refine ⟨_, rfl, _, _, rfl, rfl, d9, _, _, rfl, rfl, m2, rfl, _, rfl, ?_⟩
    refine ite2 (fun c2 => ?_) (fun c2 => ?_)
    · refine ⟨_, rfl, _, _, rfl, rfl, d18, _, _, rfl, rfl, p57, _, _, rfl, rfl, .inl ⟨by decide, by decide⟩, _, _, rfl, rfl, q57, _, _, rfl, rfl, p57, _, _, rfl, rfl, ⟨_, rfl, ?_, ?_⟩, Same.refl _⟩
      · have := Int.emod_nonneg (c / 18) (show (2 * 10 ^ (57 : Int).toNat : Int) ≠ 0 by decide)
        have e : (10 : Int) ^ 57 = 10 ^ (57 : Int).toNat := rfl
        omega
      · have := Int.emod_lt_of_pos (c / 18) q57
        have e : (10 : Int) ^ 57 = 10 ^ (57 : Int).toNat := rfl
        omega
    · exact ⟨⟨0, rfl, by decide, by decide⟩, Same.refl _⟩
  rintro σ H3 ⟨⟨a, rfl, ha1, ha2⟩, s3⟩
  refine ⟨_, rfl, _, _, rfl, rfl, _, rfl, by omega, by omega, fun D nD => ?_⟩
  refine lc_map (walk_range (lo := 0)) (u := tInt) (ls := ls) (fromB a (n + 1)) nD (L.to s3) (by omega) (by rw [fromB_len]; omega) (fun _ _ => trivial) ?_ ?_
  · rintro j y z H5 H6 R hy s5 sc L2 ⟨rfl, rfl⟩ hR
    obtain ⟨rfl, hj⟩ := fromB_get hy
    refine ⟨rfl, _, rfl, _, rfl, _, _, rfl, rfl, hR _ _ (Same.refl _) ?_⟩
    show V.int _ = V.int _
    rw [Int.zero_add]
  · intro H5 s5 rD
    refine ⟨Nat.zero_le _, fun e ne => ⟨szl 3, fun p np => ?_⟩⟩
    have s6 : Same H5 (upd (upd H5 e (.lst [])) p (.tup [.bl false, .ref D, .ref e])) := (Same.upd ne).trans (Same.upd np)
    have npe : e ≠ p := fun q => by rw [← q, upd_same] at np; cases np
    have s35 := s3.trans s5
    refine k _ _ (false, fromB a (n + 1), []) (s35.trans s6) ⟨p, _, _, _, rfl, at_cut (L.no ((s35.trans (Same.upd ne)).free np)) upd_same, rfl, (tLst tInt).mono s6.cut rD, ⟨e, [], rfl, at_cut (L.no (s35.free ne)) (by rw [upd_ne npe]; exact upd_same), trivial⟩⟩ ⟨⟨⟨?_, ?_⟩, fromB_asc _ _, fun p hp => ?_, fun q => nomatch q⟩, fun j z hz => ?_, ?_⟩
    · show 2 ≤ (fromB a (n + 1)).length
      rw [fromB_len]; omega
    · show (fromB a (n + 1)).length ≤ 11
      rw [fromB_len]; omega
    · obtain ⟨j, hj⟩ := List.mem_iff_getElem?.mp (show p ∈ fromB a (n + 1) from hp)
      obtain ⟨rfl, hjn⟩ := fromB_get hj
      have e57' : (10 : Int) ^ 57 = 1000000000000000000000000000000000000000000000000000000000 := by decide
      have e59' : (10 : Nat) ^ 59 = 100000000000000000000000000000000000000000000000000000000000 := by decide
      rw [e57'] at ha1 ha2
      rw [e59']
      omega
    · have hz : (fromB a (n + 1))[j]? = some z := hz
      show z = (fromB a (n + 1)).headD 0 + _
      rw [fromB_head a (by omega)]
      exact (fromB_get hz).1
    · show (fromB a (n + 1)).length ≤ 5
      rw [fromB_len]; omega
abbrev LR : Type := List Nat × Nat
abbrev tLR : Ty LR := tPair (tLst tNat) tNat
/-- the bits of a row fit the domains of its columns -/
def BitsOk (cols : List Nat) (doms : List LD) (bits : List Nat) : Prop := bits.length = cols.length ∧ ∀ (k : Nat) c d b, cols[k]? = some c → doms[c]? = some d → bits[k]? = some b → b < 2 ^ (d.2.1.length - 1)
theorem bits_snoc {cols : List Nat} {doms : List LD} {bits : List Nat} {i ci b : Nat} {d : LD} (h : BitsOk (cols.take i) doms bits) (hc : cols[i]? = some ci) (hd : doms[ci]? = some d) (hb : b < 2 ^ (d.2.1.length - 1)) : BitsOk (cols.take (i + 1)) doms (bits ++ [b]) := by
  have hi := (List.getElem?_eq_some_iff.mp hc).1
  have hl : bits.length = i := by rw [h.1, List.length_take]; omega
  refine ⟨by rw [List.length_append, hl, List.length_take]; show i + 1 = _; omega, fun k c d' b' h1 h2 h3 => ?_⟩
  by_cases q : k < i
  · refine h.2 k c d' b' ?_ h2 ?_
    · rw [List.getElem?_take, if_pos q]
      rw [List.getElem?_take, if_pos (by omega)] at h1
      exact h1
    · rw [List.getElem?_append_left (by omega)] at h3; exact h3
  · have hk : k < i + 1 := by
      have := (List.getElem?_eq_some_iff.mp h1).1
      rw [List.length_take] at this
      omega
    have e : k = i := by omega
    subst e
    rw [List.getElem?_take, if_pos (by omega), hc] at h1
    cases h1
    rw [hd] at h2
    cases h2
    rw [List.getElem?_append_right (by omega), hl, Nat.sub_self] at h3
    have e3 : b = b' := Option.some.inj h3
    rw [← e3]; exact hb
/-- the list of domains may still be growing: it is only read -/
def spRow : Sp := fun vs H Q _ => ∃ ls c v2 ad ud n cols doms, vs = [.int c, v2, .ref ad, .int ((n : Nat) : Int)] ∧ Live H ls ∧ (tLst tNat).rep (cut H ls) v2 cols ∧ H ad = some (.lst ud) ∧ Rs tLD (cut H ls) ud doms ∧
  (cols.length ≤ 3 ∧ (∀ c ∈ cols, c < doms.length) ∧ (∀ d ∈ doms, LDOk d) ∧ 0 < n) ∧ ∀ H' w r, Same H H' → tLR.rep (cut H' ls) w r → BitsOk cols doms r.1 ∧ r.2 < n → Q w H'
theorem len_law_row {vs : List V} {H : Hp} {Q : VK} {X : XK} (h : spRow vs H Q X) : vs.length = 4 := by
  obtain ⟨_, _, _, _, _, _, _, _, rfl, _⟩ := h; rfl
abbrev n_law_row : List Str := ["cell", "columns", "doms", "count", "bits", "k", "size", "mixed"]
theorem sc_law_row : FnScope n_law_row ["cell", "columns", "doms", "count"] (defScope s_law_row) := ⟨rfl, rfl, rfl, by decide +kernel, rfl, by decide +kernel, by decide +kernel⟩
theorem ok_law_row (T : Tx K mg) : Def P w K mg base "_law_row" ["cell", "columns", "doms", "count"] 1 spRow := by
  refine ⟨?_, T.g_law_row, T.f_law_row.kp, T.f_law_row.bindsN fun _ _ _ _ _ _ us hl => match us, hl with | [_, _, _, _], _ => rfl⟩
  refine fn_body T.f_law_row sc_law_row (fun _ _ _ _ h => len_law_row h) fun cdv A outer s H vs Q E hr h => ?_
  obtain ⟨ls, c, v2, ad, ud, n, cols, doms, rfl, L, ⟨ac, uc, rfl, hac, rc⟩, had, rd, ⟨h3, hlt, hok, hn⟩, k⟩ := h
  have hac := cut_at hac
  obtain rfl := rs_nat rc
  have hn0 : (0 : Int) < (n : Nat) := by omega
  have m4 : (0 : Int) < 4 := by decide
  have m81 : (0 : Int) < 1000081 := by decide
  have three : ∀ n : Nat, n < 3 → ∃ z : Int, -(2 ^ 64) < z ∧ z < 2 ^ 64 ∧ ([.int 48271, .int 69621, .int 16807] : List V)[n]? = some (.int z) := by
    intro n hn
    rcases (show n = 0 ∨ n = 1 ∨ n = 2 by omega) with e | e | e <;> rw [e]
    · exact ⟨48271, by decide, by decide, rfl⟩
    · exact ⟨69621, by decide, by decide, rfl⟩
    · exact ⟨16807, by decide, by decide, rfl⟩
  have three2 : ∀ n : Nat, n < 3 → ∃ z : Int, 0 < z ∧ ([.int 1000003, .int 1000033, .int 1000037] : List V)[n]? = some (.int z) := by
    intro n hn
    rcases (show n = 0 ∨ n = 1 ∨ n = 2 by omega) with e | e | e <;> rw [e]
    · exact ⟨1000003, by decide, rfl⟩
    · exact ⟨1000033, by decide, rfl⟩
    · exact ⟨1000037, by decide, rfl⟩
  refine ⟨_, pss_cons (ps_set (i := 4) sc_law_row.nd rfl (.inl rfl) (pe_lst pa_nil))
  (pss_cons (ps_for PassesOwn.never rfl (pi_range1 (by rfl) T.n_range (pa_cons (pe_callB call_len_seq (by rfl) T.n_len PySem.boot_len (pa_cons (pv 1) pa_nil)) pa_nil)) (pg_name (i := 5) sc_law_row.nd rfl (.inl rfl))
  (pss_cons (ps_set (i := 6) sc_law_row.nd rfl (.inl rfl) (pe_op op_sub (pe_callB call_len_seq (by rfl) T.n_len PySem.boot_len (pa_cons (pe_ix ix_tup (pe_ix ix_list (pv 2) (pe_ix ix_list (pv 1) (pv 5) (fun _ _ => rfl)) (fun _ _ => rfl)) pe_int (fun _ _ => rfl)) pa_nil)) pe_int))
  (pss_cons (ps_set (i := 7) sc_law_row.nd rfl (.inl rfl) (pe_op op_mod (pe_op op_mul (pv 0) (pe_ix ix_list (pe_lst (pa_cons pe_int (pa_cons pe_int (pa_cons pe_int pa_nil)))) (pv 5) (fun _ _ => rfl))) (pe_ix ix_list (pe_lst (pa_cons pe_int (pa_cons pe_int (pa_cons pe_int pa_nil)))) (pv 5) (fun _ _ => rfl))))
  (pss_one (ps_if (pt_cmpR op_eq (pe_op op_mod (pv 7) pe_int) pe_int (nomark _)) (pss_one (ps_expr (pe_bm PySem.F.plainAttrs_list PySem.F.slot_list_append PySem.F.type_list_append mt_append (pv 4) (pa_cons (pe_op op_sub (pe_op op_shl pe_int (pv 6)) pe_int) pa_nil)))) (pss_one (ps_expr (pe_bm PySem.F.plainAttrs_list PySem.F.slot_list_append PySem.F.type_list_append mt_append (pv 4) (pa_cons (pe_op op_mod (pe_op op_fdiv (pv 7) pe_int) (pe_op op_shl pe_int (pv 6))) pa_nil)))))))))
  (pss_one (ps_ret (pe_tup (pa_cons (pv 4) (pa_cons (pe_op op_mod (pe_op op_mod (pe_op op_mul (pv 0) pe_int) pe_int) (pv 3)) pa_nil)))))), ?_⟩
  refine ⟨Nat.zero_le _, fun l nl => ?_⟩
  have s0 : Same H (upd H l (.lst [])) := Same.upd nl
  refine ⟨_, rfl, ac, _, rfl, .inl (SqL.of (s0 _ _ hac)), _, rfl, by rw [List.length_map]; omega, by rw [List.length_map]; omega, ?_⟩
  refine for_range (lo := 0) (fun i σ H' => (∃ x y z, σ = [some (.int c), some (.ref ac), some (.ref ad), some (.int (n : Nat)), some (.ref l), x, y, z]) ∧ Same H H' ∧ ∃ bits : List Nat, H' l = some (.lst (bits.map fun n => V.int (n : Nat))) ∧ BitsOk (cols.take i) doms bits) ⟨⟨_, _, _, rfl⟩, s0, [], upd_same, by rw [List.take_zero]; exact ⟨rfl, fun k c d b h => by simp at h⟩⟩ ?_ ?_
  · rintro i σ H1 hi ⟨⟨x, y, z, rfl⟩, s1, bits, hl, hb⟩
    rw [List.length_map] at hi
    have hi : i < cols.length := by omega
    obtain ⟨z1, a1, a2, ez1⟩ := three (0 + ((i : Nat) : Int)).toNat (by omega)
    obtain ⟨z2, hz2, ez2⟩ := three2 (0 + ((i : Nat) : Int)).toNat (by omega)
    have hci : cols[i]? = some cols[i] := List.getElem?_eq_getElem hi
    have hcl := hlt cols[i] (List.getElem_mem hi)
    have hdi : doms[cols[i]]? = some (doms[cols[i]]'hcl) := List.getElem?_eq_getElem hcl
    obtain ⟨vd, hvd, rvd⟩ := rd.at_ hdi
    have dok := hok _ (List.mem_of_getElem? hdi)
    generalize doms[cols[i]]'hcl = d at hdi rvd dok
    obtain ⟨p, v1, v2, v3, rfl, hp, _, ⟨ap, up, rfl, hap, rp⟩, _⟩ := rvd
    have hp := s1 _ _ (cut_at hp)
    have hap := s1 _ _ (cut_at hap)
    have lp := rp.len
    have hlen := dok.len
    obtain ⟨sz, esz⟩ : ∃ sz : Nat, d.2.1.length = sz + 1 := ⟨d.2.1.length - 1, by omega⟩
    have hat1 : atI (cols.map fun n => V.int (n : Nat)) (0 + ((i : Nat) : Int)) = some (.int (cols[i] : Nat)) := at_of (j := i) (by omega) (by rw [List.getElem?_map, hci]; rfl)
    refine ⟨_, rfl, _, rfl, _, rfl, ac, _, _, _, rfl, rfl, SqL.of (s1 _ _ hac), hat1, ad, _, _, _, rfl, rfl, SqL.of (s1 _ _ had), at_of (j := cols[i]) rfl hvd, p, _, 1, _, rfl, rfl, SqT.of hp, at_of (j := 1) rfl rfl, ap, _, rfl, .inl (SqL.of hap), _, _, rfl, rfl, ?_⟩
    show gName 6 (V.int (((up.length : Nat) : Int) - 1)) _ _ _
    rw [show ((up.length : Nat) : Int) - 1 = (sz : Nat) by omega]
    have csh : CPow 1 (sz : Nat) := ⟨by omega, by omega, by decide⟩
    have psh : (1 : Int) * 2 ^ (((sz : Nat) : Int)).toNat = ((2 ^ sz : Nat) : Int) := by rw [Int.one_mul, Int.toNat_natCast]; simp
    have hpow : 0 < 2 ^ sz := Nat.pow_pos (by decide)
    have d4 : ∀ x, CDiv x 4 := fun x => ⟨by decide, by decide⟩
    refine ⟨_, rfl, szl 3, fun q nq => ⟨_, rfl, q, _, _, _, rfl, rfl, SqL.of upd_same, at_of (j := (0 + ((i : Nat) : Int)).toNat) (by omega) ez1, _, _, rfl, rfl, .inr ⟨a1, a2⟩, szl 3, fun q2 nq2 => ?_⟩⟩
    have s2 : Same H1 (upd (upd H1 q (.lst [.int 48271, .int 69621, .int 16807])) q2 (.lst [.int 1000003, .int 1000033, .int 1000037])) := (Same.upd nq).trans (Same.upd nq2)
    have hl2 := s2 _ _ hl
    have hq2 : (upd (upd H1 q (.lst [.int 48271, .int 69621, .int 16807])) q2 (.lst [.int 1000003, .int 1000033, .int 1000037])) q2 = some (.lst [.int 1000003, .int 1000033, .int 1000037]) := upd_same
    generalize upd (upd H1 q (.lst [.int 48271, .int 69621, .int 16807])) q2 (.lst [.int 1000003, .int 1000033, .int 1000037]) = H2 at s2 hl2 hq2
    refine ⟨_, rfl, q2, _, _, _, rfl, rfl, SqL.of hq2, at_of (j := (0 + ((i : Nat) : Int)).toNat) (by omega) ez2, _, _, rfl, rfl, hz2, ?_⟩
    show gName 7 (V.int (c * z1 % z2)) _ _ _
    generalize c * z1 % z2 = mixed
    have fin : ∀ b : Nat, b < 2 ^ sz → ∃ bits' : List Nat, (upd H2 l (.lst ((bits.map fun n => V.int (n : Nat)) ++ [.int (b : Nat)]))) l = some (.lst (bits'.map fun n => V.int (n : Nat))) ∧ BitsOk (cols.take (i + 1)) doms bits' := fun b hb' =>
      ⟨bits ++ [b], by rw [upd_same, List.map_append]; rfl, bits_snoc hb hci hdi (by rw [esz, Nat.add_sub_cancel]; exact hb')⟩
    have hbl : bits.length ≤ 3 := by rw [hb.1, List.length_take]; omega
    refine ⟨_, rfl, _, _, rfl, rfl, m4, rfl, _, rfl, ?_⟩
    refine ite2 (fun c1 => ?_) (fun c1 => ?_)
    · refine ⟨_, rfl, .inl ⟨rfl, _, SqL.of hl2⟩, _, rfl, _, _, rfl, rfl, csh, _, _, rfl, rfl, l, _, _, rfl, rfl, hl2, by rw [List.length_map]; exact szl _ (by omega), ⟨_, _, _, rfl⟩, (s1.trans s2).mut nl, ?_⟩
      show ∃ bits' : List Nat, (upd H2 l (.lst ((bits.map fun n => V.int (n : Nat)) ++ [.int (1 * 2 ^ (((sz : Nat) : Int)).toNat - 1)]))) l = _ ∧ _
      rw [psh, show ((2 ^ sz : Nat) : Int) - 1 = ((2 ^ sz - 1 : Nat) : Int) by omega]
      exact fin _ (by omega)
    · have e0 := Int.emod_nonneg (mixed / 4) (show ((2 ^ sz : Nat) : Int) ≠ 0 by omega)
      have e1 := Int.emod_lt_of_pos (mixed / 4) (show (0 : Int) < ((2 ^ sz : Nat) : Int) by omega)
      refine ⟨_, rfl, .inl ⟨rfl, _, SqL.of hl2⟩, _, rfl, _, _, rfl, rfl, d4 _, _, rfl, _, _, rfl, rfl, csh, _, _, rfl, rfl, ?_, l, _, _, rfl, rfl, hl2, by rw [List.length_map]; exact szl _ (by omega), ⟨_, _, _, rfl⟩, (s1.trans s2).mut nl, ?_⟩
      · show (0 : Int) < 1 * 2 ^ (((sz : Nat) : Int)).toNat
        rw [psh]; omega
      · show ∃ bits' : List Nat, (upd H2 l (.lst ((bits.map fun n => V.int (n : Nat)) ++ [.int (mixed / 4 % (1 * 2 ^ (((sz : Nat) : Int)).toNat))]))) l = _ ∧ _
        rw [psh, show mixed / 4 % ((2 ^ sz : Nat) : Int) = ((mixed / 4 % ((2 ^ sz : Nat) : Int)).toNat : Nat) by omega]
        exact fin _ (by omega)
  · rintro σ H1 ⟨⟨x, y, z, rfl⟩, s1, bits, hl, hb⟩
    have en : ((((cols.map fun n => V.int ((n : Nat) : Int)).length : Nat) : Int) - 0).toNat = cols.length := by rw [List.length_map]; omega
    have hb : BitsOk cols doms bits := by
      have : cols.take cols.length = cols := List.take_length
      rw [List.length_map, Int.toNat_natCast, this] at hb; exact hb
    have e0 := Int.emod_nonneg (c * 40014 % 1000081) (show ((n : Nat) : Int) ≠ 0 by omega)
    have e1 := Int.emod_lt_of_pos (c * 40014 % 1000081) hn0
    refine ⟨_, rfl, _, rfl, _, _, rfl, rfl, .inr ⟨by decide, by decide⟩, _, _, rfl, rfl, m81, _, rfl, _, _, rfl, rfl, hn0, szl 2, fun p np => ?_⟩
    refine k _ _ (bits, (c * 40014 % 1000081 % ((n : Nat) : Int)).toNat) (s1.trans (Same.upd np)) ⟨p, _, _, rfl, at_cut (L.no (s1.free np)) upd_same, ⟨l, _, rfl, at_cut (L.no nl) (Same.upd np _ _ hl), nat_rs⟩, ?_⟩ ⟨hb, by show (c * 40014 % 1000081 % ((n : Nat) : Int)).toNat < n; omega⟩
    show V.int _ = V.int _
    rw [Int.toNat_of_nonneg e0]
end
end Rk
set_option Elab.async false
set_option linter.all false
set_option maxRecDepth 100000
set_option maxHeartbeats 1000000
namespace Rk
open PySem PySem.Spec PyProof.Rows L2
open TL
section
variable {A B : Type}
/-- [e for ..]: a list of what holds -/
theorem lc_mapR {J : It} {n : Nat} {G : Hp → Prop} {Y : Nat → Hp → V → Hp → Prop} (w : Walk J n G Y) {u : Ty B} (Pp : Nat → B → Prop) {ls : List Addr} {g : TG} {te : TE} {vs : List Nat} {σ : L2.St} {H1 : Hp} {D : Addr} {Qd : Hp → Prop}
    (nD : H1 D = none) (L : Live H1 ls) (hz : n ≤ 100000) (hG : ∀ H', Same H1 H' → G H')
    (hs : ∀ (i : Nat) (x : V) (H H' : Hp) (R1 : V → Hp → Prop), i < n → Same H1 H → Same (cut H1 ls) (cut H (D :: ls)) → Live H (D :: ls) → Y i H x H' → (∀ v H4 y, Same H H4 → u.rep (cut H4 (D :: ls)) v y → Pp i y → R1 v H4) →
      g x (wipe σ vs) H' fun σ2 H2 => wipe σ2 vs = wipe σ vs ∧ te σ2 H2 R1)
    (hd : ∀ H' us ys, Same H1 H' → H' D = some (.lst us) → Rs u (cut H' (D :: ls)) us ys → ys.length = n → (∀ (i : Nat) y, ys[i]? = some y → Pp i y) → Qd H') :
    ∃ W : Nat → Nat → Hp → Prop, (∃ m, W 0 m (upd H1 D (.lst []))) ∧ ∀ i m H, W i m H →
      (J.stop i H ∧ Qd H) ∨ (J.go i H ∧ ∃ Nx : Hp → Prop, (∀ H', Nx H' → ∃ m', m' < m ∧ W (i + 1) m' H') ∧ ∀ x H', J.yld i H x H' → g x (wipe σ vs) H' fun σ2 H2 => wipe σ2 vs = wipe σ vs ∧ tYes σ2 H2 fun b H3 =>
        if b = true then te σ2 H3 fun y H4 => ∃ acc, H4 D = some (.lst acc) ∧ acc.length < sizeLine ∧ Nx (upd H4 D (.lst (acc ++ [y]))) else Nx H3) := by
  refine lc_it w (fun i H => Same H1 H ∧ ∃ acc ys, H D = some (.lst acc) ∧ ys.length = i ∧ Rs u (cut H (D :: ls)) acc ys ∧ ∀ (j : Nat) y, ys[j]? = some y → Pp j y) ⟨Same.upd nD, [], [], upd_same, rfl, trivial, fun j y h => by simp at h⟩ (fun i H _ q => hG H q.1) ?_ ?_
  · rintro i x H H' hi ⟨s1, acc, ys, hD, hly, hr, hp⟩ hY
    have hla := hr.len
    exact hs i x H H' (fun y H4 => ∃ acc, H4 D = some (.lst acc) ∧ acc.length < sizeLine ∧ Same H1 (upd H4 D (.lst (acc ++ [y]))) ∧ ∃ acc' ys', (upd H4 D (.lst (acc ++ [y]))) D = some (.lst acc') ∧ ys'.length = i + 1 ∧ Rs u (cut (upd H4 D (.lst (acc ++ [y]))) (D :: ls)) acc' ys' ∧ ∀ (j : Nat) y, ys'[j]? = some y → Pp j y)
      hi s1 (s1.more1 nD) (Live.cons hD (L.to s1)) hY (fun v H4 y s4 r4 py => by
        refine ⟨acc, s4 _ _ hD, ?_, (s1.trans s4).mut nD, _, ys ++ [y], upd_same, by rw [List.length_append, hly]; rfl, ?_, fun j z hz => ?_⟩
        · exact Nat.lt_of_lt_of_le (show acc.length < 100000 by omega) (by decide)
        · rw [cut_upd List.mem_cons_self]
          exact (hr.mono (Same.cut s4)).snoc r4
        · by_cases q : j < ys.length
          · rw [List.getElem?_append_left q] at hz; exact hp j z hz
          · have hj := (List.getElem?_eq_some_iff.mp hz).1
            rw [List.length_append] at hj
            have hj : j < ys.length + 1 := hj
            have e : j = ys.length := by omega
            subst e
            rw [List.getElem?_append_right (Nat.le_refl _), Nat.sub_self] at hz
            have e2 : y = z := Option.some.inj hz
            rw [← e2, hly]; exact py)
  · rintro H ⟨s1, acc, ys, hD, hly, hr, hp⟩
    exact hd H acc ys s1 hD hr hly hp
end
abbrev LT : Type := List Nat × Wy × List LR
abbrev tLT : Ty LT := tTri (tLst tNat) tWy (tLst tLR)
abbrev LM : Type := Nat × List LD × List LT
abbrev tLM : Ty LM := tTri tNat (tLst tLD) (tLst tLT)
structure LTOk (f : Nat) (doms : List LD) (i : Nat) (t : LT) : Prop where
  nd : t.1.Nodup
  lt : ∀ c ∈ t.1, c < f + i
  len : 1 ≤ t.1.length ∧ t.1.length ≤ 3
  way : ∀ d, doms[f + i]? = some d → d.1 = true → t.2.1 ≠ .sum
  most : t.2.2.length ≤ 48
  rows : ∀ r ∈ t.2.2, BitsOk t.1 doms r.1 ∧ ∀ d, doms[f + i]? = some d → r.2 < d.2.1.length - 1
structure LMOk (m : LM) : Prop where
  f : 1 ≤ m.1 ∧ m.1 ≤ 3
  n : 1 ≤ m.2.2.length ∧ m.2.2.length ≤ 3
  len : m.2.1.length = m.1 + m.2.2.length
  doms : ∀ d ∈ m.2.1, LDOk d
  outs : ∀ (i : Nat) d, m.1 ≤ i → m.2.1[i]? = some d → Cons d
  tabs : ∀ (i : Nat) t, m.2.2[i]? = some t → LTOk m.1 m.2.1 i t
theorem LTOk.more {f : Nat} {doms : List LD} {i : Nat} {t : LT} (h : LTOk f doms i t) (hl : f + i < doms.length) (d : LD) : LTOk f (doms ++ [d]) i t := by
  have e : (doms ++ [d])[f + i]? = doms[f + i]? := List.getElem?_append_left hl
  refine ⟨h.nd, h.lt, h.len, fun d' h' => h.way d' (by rw [← e]; exact h'), h.most, fun r hr => ⟨⟨(h.rows r hr).1.1, fun k c d' b h1 h2 h3 => ?_⟩, fun d' h' => (h.rows r hr).2 d' (by rw [← e]; exact h')⟩⟩
  have hc := h.lt c (List.mem_of_getElem? h1)
  rw [List.getElem?_append_left (by omega)] at h2
  exact (h.rows r hr).1.2 k c d' b h1 h2 h3
section
variable {P : Program} {w : World} {K : PySem.W.Frag} {mg : Str → Option Value} {base : Heap}
theorem ask_cell (T : Tx K mg) {ls : List Addr} {H : Hp} {v : V} {ns : List Int} {Q : VK} (j : Int) (L : Live H ls) (ra : (tScr K).rep (cut H ls) v ns) (h0 : 0 ≤ j) (k : ∀ H' (c : Int), Same H H' → Q (.int c) H') : Sp2 (tScr K) tInt tInt (fun ns k r => 0 ≤ k ∧ r = ns.getD k.toNat 0) [v, .int j] H Q E0 :=
  ⟨ls, _, _, ns, j, _, rfl, L, ra, rfl, ⟨h0, rfl⟩, fun H' w s e => by rw [show w = V.int _ from e]; exact k H' _ s⟩
abbrev n_law_model : List Str := ["script", "start", "facts", "count", "doms", "tables", "i", "columns", "way", "numbers", "cells", "rows", "k", "cell"]
theorem sc_law_model : FnScope n_law_model ["script", "start"] (defScope s_law_model) := ⟨rfl, rfl, rfl, by decide +kernel, rfl, by decide +kernel, by decide +kernel⟩
theorem ok_law_model (T : Tx K mg) : Def P w K mg base "_law_model" ["script", "start"] 4 (SpR2 (tScr K) tInt tLM (fun ns st => ns.length ≤ 1000 ∧ 0 ≤ st ∧ st ≤ 1000) fun _ _ m => LMOk m) := by
  refine ⟨?_, T.g_law_model, T.f_law_model.kp, T.f_law_model.bindsN fun _ _ _ _ _ _ us hl => match us, hl with | [_, _], _ => rfl⟩
  refine fn_body T.f_law_model sc_law_model (fun _ _ _ _ h => lenR2 h) fun cdv A outer s H vs Q E hr h => ?_
  obtain ⟨ls, v, vst, ns, st, rfl, L, ra, rfl, ⟨h1000, hs0, hs1⟩, k⟩ := h
  have m3 : (0 : Int) < 3 := by decide
  have d3 : ∀ c, CDiv c 3 := fun c => ⟨by decide, by decide⟩
  have d9 : ∀ c, CDiv c 9 := fun c => ⟨by decide, by decide⟩
  have three : ∀ n : Nat, n < 3 → ∃ z : Nat, 1 ≤ z ∧ z ≤ 9 ∧ ([.int 9, .int 5, .int 3] : List V)[n]? = some (.int (z : Nat)) := by
    intro n hn
    rcases (show n = 0 ∨ n = 1 ∨ n = 2 by omega) with e | e | e <;> rw [e]
    · exact ⟨9, by decide, by decide, rfl⟩
    · exact ⟨5, by decide, by decide, rfl⟩
    · exact ⟨3, by decide, by decide, rfl⟩
  refine ⟨_, pss_cons (ps_set (i := 2) sc_law_model.nd rfl (.inr rfl) (pe_op op_add pe_int (pe_op op_mod (pe_cD (ok_law_cell T) hr (pa_cons (pv 0) (pa_cons pe_int pa_nil))) pe_int)))
  (pss_cons (ps_set (i := 3) sc_law_model.nd rfl (.inr rfl) (pe_op op_add pe_int (pe_op op_mod (pe_op op_fdiv (pe_cD (ok_law_cell T) hr (pa_cons (pv 0) (pa_cons pe_int pa_nil))) pe_int) pe_int)))
  (pss_cons (ps_set (i := 4) sc_law_model.nd rfl (.inr rfl) (pe_lc (own := [("k", 12)]) (g := gName 12) rfl sc_law_model.nd (pi_range1 (by rfl) T.n_range (pa_cons (pv 2) pa_nil)) (blkOk_by (own := [("k", 12)]) (N := n_law_model) (sc := defScope s_law_model) (by decide +kernel)) (fun _ _ _ _ _ => (pg_name (i := 12) sc_law_model.nd rfl (.inl rfl))) (fun _ _ _ _ _ => pts_nil) (fun _ _ _ _ _ => (pe_cD (ok_law_fact T) hr (pa_cons (pe_cD (ok_law_cell T) hr (pa_cons (pv 0) (pa_cons (pe_op op_add pe_int (pv 12)) pa_nil))) (pa_cons (pe_ix (ixL (K := K)) (pe_lst (pa_cons pe_int (pa_cons pe_int (pa_cons pe_int pa_nil)))) (pe_op op_sub (pv 2) pe_int) (fun _ _ => rfl)) pa_nil))))))
  (pss_cons (ps_set (i := 5) sc_law_model.nd rfl (.inl rfl) (pe_lst pa_nil))
  (pss_cons (ps_for PassesOwn.never rfl (pi_range1 (by rfl) T.n_range (pa_cons (pv 3) pa_nil)) (pg_name (i := 6) sc_law_model.nd rfl (.inr rfl))
  (pss_cons (ps_expr (pe_bm PySem.F.plainAttrs_list PySem.F.slot_list_append PySem.F.type_list_append mt_append (pv 4) (pa_cons (pe_cD (ok_law_outcome T) hr (pa_cons (pe_cD (ok_law_cell T) hr (pa_cons (pv 0) (pa_cons (pe_op op_add pe_int (pv 6)) pa_nil))) pa_nil)) pa_nil)))
  (pss_cons (ps_set (i := 7) sc_law_model.nd rfl (.inr rfl) (pe_cD (ok_law_columns T) hr (pa_cons (pe_cD (ok_law_cell T) hr (pa_cons (pv 0) (pa_cons (pe_op op_add pe_int (pv 6)) pa_nil))) (pa_cons (pv 2) (pa_cons (pv 6) pa_nil)))))
  (pss_cons (ps_set (i := 8) sc_law_model.nd rfl (.inl rfl) (pe_cD (ok_law_way T) hr (pa_cons (pe_op op_fdiv (pe_cD (ok_law_cell T) hr (pa_cons (pv 0) (pa_cons (pe_op op_add pe_int (pv 6)) pa_nil))) pe_int) (pa_cons (pe_ix ix_tup (pe_ix ix_list (pv 4) (pe_un un_neg pe_int) (fun _ _ => rfl)) pe_int (fun _ _ => rfl)) pa_nil))))
  (pss_cons (ps_set (i := 9) sc_law_model.nd rfl (.inr rfl) (pe_cD (ok_law_numbers T) hr (pa_cons (pv 0) (pa_cons (pv 1) (pa_cons (pe_op op_mul pe_int (pv 3)) pa_nil)))))
  (pss_cons (ps_setLc (i := 10) (own := [("k", 12)]) (g := gName 12) rfl sc_law_model.nd rfl rfl (sw_true rfl rfl rfl (by decide +kernel)) (pi_range1 (by rfl) T.n_range (pa_cons (pe_callB call_len_seq (by rfl) T.n_len PySem.boot_len (pa_cons (pv 9) pa_nil)) pa_nil)) (blkOk_by (own := [("k", 12)]) (N := n_law_model) (sc := defScope s_law_model) (by decide +kernel)) (fun _ _ _ _ _ => (pg_name (i := 12) sc_law_model.nd rfl (.inl rfl))) (fun _ _ _ _ _ => (pts_one (pt_cmpR op_eq (pe_op op_mod (pv 12) (pv 3)) (pv 6) (nomark _)))) (fun _ _ _ _ _ => (pe_ix (ixL (K := K)) (pv 9) (pv 12) (fun _ _ => rfl))))
  (pss_cons (ps_setLc (i := 11) (own := [("cell", 13)]) (g := gName 13) rfl sc_law_model.nd rfl rfl (sw_true rfl rfl rfl (by decide +kernel)) (pi_list (pv 10)) (blkOk_by (own := [("cell", 13)]) (N := n_law_model) (sc := defScope s_law_model) (by decide +kernel)) (fun _ _ _ _ _ => (pg_name (i := 13) sc_law_model.nd rfl (.inl rfl))) (fun _ _ _ _ _ => pts_nil) (fun _ _ _ _ _ => (pe_cD (ok_law_row T) hr (pa_cons (pv 13) (pa_cons (pv 7) (pa_cons (pv 4) (pa_cons (pe_op op_sub (pe_callB (len_seqK (K := K)) (by rfl) T.n_len PySem.boot_len (pa_cons (pe_ix (ixT (K := K)) (pe_ix (ixL (K := K)) (pv 4) (pe_un un_neg pe_int) (fun _ _ => rfl)) pe_int (fun _ _ => rfl)) pa_nil)) pe_int) pa_nil)))))))
  (pss_one (ps_expr (pe_bm PySem.F.plainAttrs_list PySem.F.slot_list_append PySem.F.type_list_append mt_append (pv 5) (pa_cons (pe_tup (pa_cons (pv 7) (pa_cons (pv 8) (pa_cons (pv 11) pa_nil)))) pa_nil)))))))))))
  (pss_one (ps_ret (pe_tup (pa_cons (pv 2) (pa_cons (pv 4) (pa_cons (pv 5) pa_nil)))))))))), ?_⟩
  refine ⟨_, rfl, ask_cell T _ L ra (by decide) fun H1 c0 s1 => ?_⟩
  refine ⟨_, _, rfl, rfl, m3, _, _, rfl, rfl, ?_⟩
  obtain ⟨f, ef, hf1, hf3⟩ : ∃ n : Nat, (1 : Int) + c0 % 3 = (n : Nat) ∧ 1 ≤ n ∧ n ≤ 3 := ⟨(1 + c0 % 3).toNat, by omega, by omega, by omega⟩
  show gName 2 (V.int (1 + c0 % 3)) _ _ _
  rw [ef]
  refine ⟨_, rfl, ask_cell T _ (L.to s1) ((tScr K).mono s1.cut ra) (by decide) fun H2 c1 s2 => ?_⟩
  have s12 := s1.trans s2
  refine ⟨_, _, rfl, rfl, d3 _, _, _, rfl, rfl, m3, _, _, rfl, rfl, ?_⟩
  obtain ⟨n, en, hn1, hn3⟩ : ∃ n : Nat, (1 : Int) + c1 / 3 % 3 = (n : Nat) ∧ 1 ≤ n ∧ n ≤ 3 := ⟨(1 + c1 / 3 % 3).toNat, by omega, by omega, by omega⟩
  show gName 3 (V.int (1 + c1 / 3 % 3)) _ _ _
  rw [en]
  refine ⟨_, rfl, _, rfl, by omega, by omega, fun D nD => ?_⟩
  refine lc_mapR (walk_range (lo := 0)) (u := tLD) (ls := ls) (fun _ d => LDOk d) nD (L.to s12) (by omega) (fun _ _ => trivial) ?_ ?_
  · rintro j x H5 H6 R hj s5 sc L2 ⟨rfl, rfl⟩ hR
    obtain ⟨z, hz1, hz9, ez⟩ := three (((f : Nat) : Int) - 1).toNat (by omega)
    refine ⟨rfl, _, rfl, _, rfl, _, _, rfl, rfl, ask_cell T _ L2 ((tScr K).mono (s12.cut.trans sc) ra) (by omega) fun H7 c7 s7 => ?_⟩
    refine ⟨szl 3, fun q nq => ⟨_, rfl, _, _, rfl, rfl, q, _, _, _, rfl, rfl, SqL.of upd_same, at_of (j := (((f : Nat) : Int) - 1).toNat) (by omega) ez, ?_⟩⟩
    exact ⟨_, _, _, c7, z, rfl, (L2.to s7).to (Same.upd nq), rfl, rfl, ⟨hz1, hz9⟩, fun H8 w8 r8 s8 q8 p8 => hR _ _ r8 (s7.trans ((Same.upd nq).trans s8)) q8 p8⟩
  intro H3 us ds0 s3 hD hrs hlen hok
  rw [Int.toNat_natCast] at hlen
  have s13 := s12.trans s3
  have nD0 : H D = none := s12.free nD
  refine ⟨Nat.zero_le _, fun t nt => ?_⟩
  have ntD : t ≠ D := fun e => by rw [e, hD] at nt; cases nt
  have nt0 : H t = none := s13.free nt
  have s14 := s13.trans (Same.upd (o := .lst []) nt)
  refine ⟨_, rfl, _, rfl, by omega, by omega, ?_⟩
  refine for_range (lo := 0) (fun i σ H' => (∃ y1 y2 y3 y4 y5 y6 y7 y8, σ = [some v, some (.int st), some (.int (f : Nat)), some (.int (n : Nat)), some (.ref D), some (.ref t), y1, y2, y3, y4, y5, y6, y7, y8]) ∧ Same H H' ∧ ∃ ud ut, ∃ doms : List LD, ∃ tabs : List LT, H' D = some (.lst ud) ∧ H' t = some (.lst ut) ∧ Rs tLD (cut H' (t :: D :: ls)) ud doms ∧ Rs tLT (cut H' (t :: D :: ls)) ut tabs ∧ doms.length = f + i ∧ tabs.length = i ∧ (∀ d ∈ doms, LDOk d) ∧ (∀ (j : Nat) d, f ≤ j → doms[j]? = some d → Cons d) ∧ (∀ (j : Nat) x, tabs[j]? = some x → LTOk f doms j x))
    ⟨⟨_, _, _, _, _, _, _, _, rfl⟩, s14, us, [], ds0, [], Same.upd nt _ _ hD, upd_same, hrs.mono ((Same.upd nt).more1 nt), trivial, hlen, rfl, fun d hd => ?_, fun j d hj hd => ?_, fun j x hx => by simp at hx⟩ ?_ ?_
  · obtain ⟨j, hj⟩ := List.mem_iff_getElem?.mp hd
    exact hok j d hj
  · have := (List.getElem?_eq_some_iff.mp hd).1
    omega
  · rintro i σ H4 hi ⟨⟨y1, y2, y3, y4, y5, y6, y7, y8, rfl⟩, s4, ud, ut, doms, tabs, hD4, ht4, rd, rt, dl, tl_, dok, dco, tok⟩
    have hin : i < n := by omega
    have LL : Live H4 (t :: D :: ls) := Live.cons ht4 (Live.cons hD4 (L.to s4))
    have ra4 := (tScr K).mono (s4.more2 nt0 nD0) ra
    have hle := rd.len
    have hlt := rt.len
    -- doms.append(..)
    refine ⟨_, rfl, .inl ⟨rfl, _, SqL.of hD4⟩, _, rfl, _, rfl, _, _, rfl, rfl, ask_cell T _ LL ra4 (by omega) fun H5 c5 s5 => ?_⟩
    refine ⟨_, _, c5, rfl, LL.to s5, rfl, trivial, fun H6 w6 d6 s6 r6 ⟨dok6, dco6, dl6⟩ => ?_⟩
    have s46 := s5.trans s6
    refine ⟨D, _, _, rfl, rfl, s46 _ _ hD4, small1000 (by omega), ?_⟩
    have s7 := (s4.trans s46).mut (o := .lst (ud ++ [w6])) nD0
    have ht7 : upd H6 D (.lst (ud ++ [w6])) t = some (.lst ut) := by rw [upd_ne ntD]; exact s46 _ _ ht4
    have hD7 : upd H6 D (.lst (ud ++ [w6])) D = some (.lst (ud ++ [w6])) := upd_same
    have c67 : cut (upd H6 D (.lst (ud ++ [w6]))) (t :: D :: ls) = cut H6 (t :: D :: ls) := cut_upd (List.mem_cons_of_mem _ List.mem_cons_self)
    have rd7 : Rs tLD (cut (upd H6 D (.lst (ud ++ [w6]))) (t :: D :: ls)) (ud ++ [w6]) (doms ++ [d6]) := by rw [c67]; exact (rd.mono s46.cut).snoc r6
    have rt7 : Rs tLT (cut (upd H6 D (.lst (ud ++ [w6]))) (t :: D :: ls)) ut tabs := by rw [c67]; exact rt.mono s46.cut
    have ra7 : (tScr K).rep (cut (upd H6 D (.lst (ud ++ [w6]))) (t :: D :: ls)) v ns := by rw [c67]; exact (tScr K).mono s46.cut ra4
    generalize upd H6 D (.lst (ud ++ [w6])) = H7 at s7 ht7 hD7 c67 rd7 rt7 ra7
    have LL7 : Live H7 (t :: D :: ls) := Live.cons ht7 (Live.cons hD7 (L.to s7))
    -- columns
    refine ⟨_, rfl, _, rfl, _, _, rfl, rfl, ask_cell T _ LL7 ra7 (by omega) fun H8 c8 s8 => ⟨_, rfl, _, rfl, ?_⟩⟩
    refine ⟨_, _, _, _, c8, f, i, rfl, LL7.to s8, rfl, rfl, by show V.int (0 + _) = _; rw [Int.zero_add], ⟨hf1, hf3, by omega⟩, fun H9 w9 cols s9 r9 ⟨cnd, clt, cl1, cl3⟩ => ?_⟩
    have s79 := s8.trans s9
    -- way
    refine ⟨_, rfl, _, rfl, _, _, rfl, rfl, ask_cell T _ (LL7.to s79) ((tScr K).mono s79.cut ra7) (by omega) fun H10 c10 s10 => ?_⟩
    have s710 := s79.trans s10
    obtain ⟨pd, v1, v2, v3, rfl, hpd, e1, ⟨ap, up, e2, hap, rp⟩, _⟩ := id r6
    obtain rfl : v1 = .bl d6.1 := e1
    obtain rfl : v2 = .ref ap := e2
    have lp := rp.len
    have cc : Same (cut H6 (t :: D :: ls)) (cut H10 (t :: D :: ls)) := by rw [← c67]; exact s710.cut
    have hpd10 := cut_at (cc _ _ hpd)
    have hap10 := cut_at (cc _ _ hap)
    have hlen2 := dok6.len
    refine ⟨_, _, rfl, rfl, d9 _, _, rfl, 1, rfl, D, _, _, _, rfl, rfl, SqL.of (s710 _ _ hD7), atI_last _ _, pd, _, 0, _, rfl, rfl, SqT.of hpd10, at_of (j := 0) rfl rfl, ?_⟩
    refine ⟨_, _, _, _, d6.1, rfl, LL7.to s710, rfl, rfl, trivial, fun H11 w11 y11 s11 r11 p11 => ?_⟩
    have s711 := s710.trans s11
    -- numbers
    refine ⟨_, rfl, _, rfl, _, rfl, _, _, rfl, rfl, .inl ⟨by decide, by decide⟩, ?_⟩
    refine ⟨_, _, _, _, ns, st, 16 * n, rfl, LL7.to s711, (tScr K).mono s711.cut ra7, rfl, by show V.int _ = V.int _; congr 1, ⟨h1000, hs0, hs1, by omega⟩, fun H12 w12 xs s12 r12 p12 => ?_⟩
    have s712 := s711.trans s12
    obtain ⟨ax, ux, rfl, hax, rx⟩ := id r12
    have hax := cut_at hax
    obtain rfl := rs_int rx
    -- cells
    refine ⟨_, rfl, ax, _, rfl, .inl (SqL.of hax), _, rfl, by rw [List.length_map]; omega, by rw [List.length_map]; omega, fun D2 nD2 => ?_⟩
    refine lc_fmap (walk_range (lo := 0)) (u := tInt) (ls := t :: D :: ls) (fun j => decide (V.int ((0 + ((j : Nat) : Int)) % ((n : Nat) : Int)) = V.int (0 + ((i : Nat) : Int)))) (fun j => xs.getD j 0) nD2 (LL7.to s712) (by rw [List.length_map]; omega) (fun _ _ => trivial) ?_ ?_
    · rintro j x H13 H14 R1 R2 hj s13 sc L2 ⟨rfl, rfl⟩ h1 h2
      rw [List.length_map] at hj
      have hj : j < xs.length := by omega
      refine ⟨rfl, _, rfl, _, rfl, _, _, rfl, rfl, by omega, _, rfl, rfl, _, rfl, ?_⟩
      refine ite2 (fun q => ?_) (fun q => ?_)
      · refine ⟨_, rfl, _, rfl, ax, _, _, _, rfl, rfl, SqL.of (s13 _ _ hax), at_of (j := j) (by omega) (by rw [List.getElem?_map, List.getElem?_eq_getElem hj]; rfl), h1 q _ _ (Same.refl _) ?_⟩
        show V.int _ = V.int _
        rw [List.getD_eq_getElem?_getD, List.getElem?_eq_getElem hj]; rfl
      · exact h2 (by cases e : decide (V.int ((0 + ((j : Nat) : Int)) % ((n : Nat) : Int)) = V.int (0 + ((i : Nat) : Int))) with | false => rfl | true => exact absurd e q) _ (Same.refl _)
    intro H13 s13 rC
    obtain ⟨D2', ux2, e, hC, rC2⟩ := rC
    cases e
    have hC := cut_at hC
    obtain rfl := rs_int rC2
    have hcl : ∀ l : List Nat, (l.map fun j => xs.getD j 0).length ≤ 48 → (((l.map fun j => xs.getD j 0).map V.int).length ≤ 48) := fun l h => by rw [List.length_map]; exact h
    generalize hcells : ((List.range _).filter (fun j : Nat => decide (V.int ((0 + ((j : Nat) : Int)) % ((n : Nat) : Int)) = V.int (0 + ((i : Nat) : Int))))).map (fun j => xs.getD j 0) = cells at hC
    have hc48 : cells.length ≤ 48 := by
      rw [← hcells, List.length_map]
      refine Nat.le_trans (List.length_filter_le _ _) ?_
      rw [List.length_range, List.length_map]
      omega
    have s713 := s712.trans s13
    have hD13 := s713 _ _ hD7
    have ccd : Same (cut H7 (t :: D :: ls)) (cut H13 (t :: D :: ls)) := s713.cut
    have rd13 := rd7.mono ccd
    have cc13 : Same (cut H6 (t :: D :: ls)) (cut H13 (t :: D :: ls)) := by rw [← c67]; exact ccd
    have hpd13 := cut_at (cc13 _ _ hpd)
    have hap13 := cut_at (cc13 _ _ hap)
    have rcols13 := (tLst tNat).mono (show Same (cut H9 (t :: D :: ls)) (cut H13 (t :: D :: ls)) from ((s10.trans s11).trans (s12.trans s13)).cut) r9
    have hlast : (doms ++ [d6])[f + i]? = some d6 := by rw [← dl, List.getElem?_append_right (Nat.le_refl _), Nat.sub_self]; rfl
    have dokA : ∀ d ∈ doms ++ [d6], LDOk d := fun d hd => by
      rcases List.mem_append.mp hd with m | m
      · exact dok d m
      · rw [List.mem_singleton.mp m]; exact dok6
    -- rows
    refine ⟨_, rfl, D2, rfl, ⟨_, SqL.of hC⟩, fun D3 nD3 => ?_⟩
    refine lc_mapR (walk_list (K := K) (a := D2) (xs := cells.map V.int)) (u := tLR) (ls := t :: D :: ls) (fun _ r => BitsOk cols (doms ++ [d6]) r.1 ∧ r.2 < d6.2.1.length - 1) nD3 (LL7.to s713) (by rw [List.length_map]; omega) (fun H' s' => SqL.of (s' _ _ hC)) ?_ ?_
    · rintro j x H14 H15 R hj s14 sc L2 ⟨rfl, hx⟩ hR
      rw [List.getElem?_map] at hx
      obtain ⟨z, hz, rfl⟩ := Option.map_eq_some_iff.mp hx
      refine ⟨rfl, _, rfl, _, rfl, _, rfl, _, rfl, 1, rfl, D, _, _, _, rfl, rfl, SqL.of (s14 _ _ hD13), atI_last _ _, pd, _, 1, _, rfl, rfl, SqT.of (s14 _ _ hpd13), at_of (j := 1) rfl rfl, ap, _, rfl, .inl (SqL.of (s14 _ _ hap13)), _, _, rfl, rfl, ?_⟩
      have e1 : V.int (((up.length : Nat) : Int) - 1) = V.int ((d6.2.1.length - 1 : Nat) : Int) := by
        congr 1
        omega
      refine ⟨D3 :: t :: D :: ls, z, w9, D, ud ++ [_], d6.2.1.length - 1, cols, doms ++ [d6], ?_, L2, (tLst tNat).mono sc rcols13, s14 _ _ hD13, rd13.mono sc, ⟨cl3, fun c hc => ?_, dokA, by omega⟩, fun H16 w16 r16 s16 q16 p16 => hR _ _ r16 s16 q16 p16⟩
      · show [V.int z, w9, V.ref D, V.int (((up.length : Nat) : Int) - 1)] ++ [] = _
        rw [e1]; rfl
      · have := clt c hc
        rw [List.length_append]
        show c < doms.length + 1
        omega
    intro H14 ur rws s14 hD3 rrw lrw prw
    have s714 := s713.trans s14
    -- tables.append(..)
    refine ⟨_, rfl, .inl ⟨rfl, _, SqL.of (s714 _ _ ht7)⟩, _, rfl, _, rfl, _, rfl, szl 3, fun p np => ⟨t, _, _, rfl, rfl, Same.upd np _ _ (s714 _ _ ht7), small1000 (by omega), ?_⟩⟩
    have s15 : Same H14 (upd H14 p (.tup [w9, .str y11.nm, .ref D3])) := Same.upd np
    obtain rfl : w11 = .str y11.nm := r11
    have s715 := s714.trans s15
    have hD15 := s715 _ _ hD7
    have c715 := s715.cut (ls := t :: D :: ls)
    have c1415 := s15.cut (ls := t :: D :: ls)
    have npL := ((LL7.to s714)).no np
    have hp15 : cut (upd H14 p (.tup [w9, .str y11.nm, .ref D3])) (t :: D :: ls) p = some (.tup [w9, .str y11.nm, .ref D3]) := at_cut npL upd_same
    have nD3L : D3 ∉ t :: D :: ls := (LL7.to s713).no nD3
    have hD3' : cut (upd H14 p (.tup [w9, .str y11.nm, .ref D3])) (t :: D :: ls) D3 = some (.lst ur) := at_cut nD3L (s15 _ _ hD3)
    have rT : tLT.rep (cut (upd H14 p (.tup [w9, .str y11.nm, .ref D3])) (t :: D :: ls)) (.ref p) (cols, y11, rws) :=
      ⟨p, _, _, _, rfl, hp15, (tLst tNat).mono (s14.trans s15).cut rcols13, rfl, D3, ur, rfl, hD3', rrw.mono ((Same.less1 (H := H14) (l := D3) (ls := t :: D :: ls)).trans c1415)⟩
    have s0 : Same H (upd H14 p (.tup [w9, .str y11.nm, .ref D3])) := s7.trans s715
    have newT : LTOk f (doms ++ [d6]) i (cols, y11, rws) := by
      refine ⟨cnd, clt, ⟨cl1, cl3⟩, fun d hd hw => ?_, ?_, fun r hr => ?_⟩
      · rw [hlast] at hd
        cases hd
        exact p11 hw
      · show rws.length ≤ 48
        rw [lrw, List.length_map]; exact hc48
      · obtain ⟨j, hj⟩ := List.mem_iff_getElem?.mp hr
        refine ⟨(prw j r hj).1, fun d hd => ?_⟩
        rw [hlast] at hd
        cases hd
        exact (prw j r hj).2
    refine ⟨⟨_, _, _, _, _, _, _, _, rfl⟩, s0.mut nt0, ud ++ [_], ut ++ [.ref p], doms ++ [d6], tabs ++ [(cols, y11, rws)], by rw [upd_ne (Ne.symm ntD)]; exact hD15, upd_same, ?_, ?_, ?_, ?_, dokA, ?_, ?_⟩
    · rw [cut_upd List.mem_cons_self]; exact rd7.mono c715
    · rw [cut_upd List.mem_cons_self]; exact (rt7.mono c715).snoc rT
    · rw [List.length_append, dl]; rfl
    · rw [List.length_append, tl_]; rfl
    · intro j d hj hd
      by_cases q : j < doms.length
      · rw [List.getElem?_append_left q] at hd; exact dco j d hj hd
      · have hj2 := (List.getElem?_eq_some_iff.mp hd).1
        rw [List.length_append] at hj2
        have hj2 : j < doms.length + 1 := hj2
        have e : j = f + i := by omega
        rw [e, hlast] at hd
        cases hd
        exact dco6
    · intro j x hx
      by_cases q : j < tabs.length
      · rw [List.getElem?_append_left q] at hx
        exact (tok j x hx).more (by omega) d6
      · have hj2 := (List.getElem?_eq_some_iff.mp hx).1
        rw [List.length_append] at hj2
        have hj2 : j < tabs.length + 1 := hj2
        have e : j = tabs.length := by omega
        rw [e, List.getElem?_append_right (Nat.le_refl _), Nat.sub_self] at hx
        have e2 : (cols, y11, rws) = x := Option.some.inj hx
        rw [← e2, e, tl_]
        exact newT
  · rintro σ H4 ⟨⟨y1, y2, y3, y4, y5, y6, y7, y8, rfl⟩, s4, ud, ut, doms, tabs, hD4, ht4, rd, rt, dl, tl_, dok, dco, tok⟩
    rw [Int.toNat_natCast] at dl tl_
    refine ⟨_, rfl, _, rfl, _, rfl, szl 3, fun p np => ?_⟩
    have c5 : Same (cut H4 (t :: D :: ls)) (cut (upd H4 p (.tup [.int (f : Nat), .ref D, .ref t])) ls) := (Same.less1.trans Same.less1).trans (Same.upd np).cut
    refine k _ _ (f, doms, tabs) (s4.trans (Same.upd np)) ⟨p, _, _, _, rfl, at_cut (L.no (s4.free np)) upd_same, rfl, ⟨D, ud, rfl, at_cut (L.no nD0) (Same.upd np _ _ hD4), rd.mono c5⟩, ⟨t, ut, rfl, at_cut (L.no nt0) (Same.upd np _ _ ht4), rt.mono c5⟩⟩ ⟨⟨hf1, hf3⟩, ⟨by show 1 ≤ tabs.length; omega, by show tabs.length ≤ 3; omega⟩, by show doms.length = f + tabs.length; omega, dok, dco, tok⟩
end
end Rk
set_option Elab.async false
set_option linter.all false
set_option maxRecDepth 100000
set_option maxHeartbeats 1000000
namespace Rk
open PySem PySem.Spec PyProof.Rows L2
open TL
/-! ### the texts of the law -/
def domOf (d : LD) : Dom := if d.1 = true then .words d.2.2 else .num (d.2.1.headD 0) (d.2.1.getLastD 0 - 1)
def pieceF (d : LD) (k : Nat) : Pt := if d.1 = true then .word (d.2.2.getD k "") else if d.2.1.getD (k + 1) 0 - d.2.1.getD k 0 = 1 then .one (d.2.1.getD k 0) else .ab (d.2.1.getD k 0) (d.2.1.getD (k + 1) 0 - 1)
def bitN (b k : Nat) : Bool := decide (b / 2 ^ k % 2 = 1)
def fieldF (d : LD) (b : Nat) : Fl := if b = 2 ^ (d.2.1.length - 1) - 1 then .all else if b = 0 then .none else .parts (((List.range (d.2.1.length - 1)).filter (bitN b)).map (pieceF d))
theorem small_log {i : Int} (h : i.natAbs < 10 ^ 60) : i.natAbs.log2 < 1920 := by
  by_cases h0 : i.natAbs = 0
  · rw [h0]; decide
  · rw [Nat.log2_lt h0]
    exact Nat.lt_of_lt_of_le h (by decide)
theorem LDOk.sm {d : LD} (h : LDOk d) {p : Int} (m : p ∈ d.2.1) : p.natAbs < 10 ^ 60 ∧ (p - 1).natAbs < 10 ^ 60 := by
  have := h.small p m
  have e1 : (10 : Nat) ^ 59 = 100000000000000000000000000000000000000000000000000000000000 := by decide
  have e2 : (10 : Nat) ^ 60 = 1000000000000000000000000000000000000000000000000000000000000 := by decide
  rw [e1] at this
  rw [e2]
  omega
theorem numS_of (i : Int) : V.str (Str.ofString (toString i)) = V.str (numS i) := rfl
theorem getD_of {A : Type} {l : List A} {k : Nat} {x d : A} (h : l[k]? = some x) : l.getD k d = x := by rw [List.getD_eq_getElem?_getD, h]; rfl
section
variable {P : Program} {w : World} {K : PySem.W.Frag} {mg : Str → Option Value} {base : Heap}
abbrev n_law_piece : List Str := ["dom", "k"]
theorem sc_law_piece : FnScope n_law_piece ["dom", "k"] (defScope s_law_piece) := ⟨rfl, rfl, rfl, by decide +kernel, rfl, by decide +kernel, by decide +kernel⟩
theorem ok_law_piece (T : Tx K mg) : Def P w K mg base "_law_piece" ["dom", "k"] 1 (Sp2 tLD tNat tStr fun d k s => LDOk d ∧ k + 1 < d.2.1.length ∧ s = ptS (pieceF d k)) := by
  refine ⟨?_, T.g_law_piece, T.f_law_piece.kp, T.f_law_piece.bindsN fun _ _ _ _ _ _ us hl => match us, hl with | [_, _], _ => rfl⟩
  refine fn_body T.f_law_piece sc_law_piece (fun _ _ _ _ h => len2 h) fun cdv A outer s H vs Q E hr h => ?_
  obtain ⟨ls, v, vk, d, kk, s, rfl, L, ⟨p, v1, v2, v3, rfl, hp, e1, ⟨ap, up, e2, hap, rp⟩, ⟨aw, uw, e3, haw, rw_⟩⟩, rfl, ⟨ok, hk, rfl⟩, k⟩ := h
  obtain rfl : v1 = .bl d.1 := e1
  obtain rfl : v2 = .ref ap := e2
  obtain rfl : v3 = .ref aw := e3
  have hp := cut_at hp
  have hap := cut_at hap
  have haw := cut_at haw
  obtain rfl := rs_int rp
  obtain rfl := rs_str rw_
  have k : ∀ H' w, Same H H' → w = V.str (ptS (pieceF d kk)) → Q w H' := k
  unfold pieceF at k
  have hk0 : kk < d.2.1.length := by omega
  have g0 : d.2.1[kk]? = some d.2.1[kk] := List.getElem?_eq_getElem hk0
  have g1 : d.2.1[kk + 1]? = some d.2.1[kk + 1] := List.getElem?_eq_getElem hk
  have m0 := ok.sm (List.mem_of_getElem? g0)
  have m1 := ok.sm (List.mem_of_getElem? g1)
  rw [getD_of g0, getD_of g1] at k
  have at0 : atI (d.2.1.map V.int) (kk : Nat) = some (.int d.2.1[kk]) := atI_nat (by rw [List.getElem?_map, g0]; rfl)
  have at1 : atI (d.2.1.map V.int) ((kk : Nat) + 1) = some (.int d.2.1[kk + 1]) := at_of (j := kk + 1) (by omega) (by rw [List.getElem?_map, g1]; rfl)
  generalize d.2.1[kk] = x0 at g0 m0 at0 k
  generalize d.2.1[kk + 1] = x1 at g1 m1 at1 k
  refine ⟨_, pss_cons (ps_if (pt_val (pe_ix ix_tup (pv 0) pe_int (fun _ _ => rfl))) (pss_one (ps_ret (pe_ix ix_list (pe_ix ix_tup (pv 0) pe_int (fun _ _ => rfl)) (pv 1) (fun _ _ => rfl)))) pss_nil)
  (pss_cons (ps_if (pt_cmpR op_eq (pe_op op_sub (pe_ix ix_list (pe_ix ix_tup (pv 0) pe_int (fun _ _ => rfl)) (pe_op op_add (pv 1) pe_int) (fun _ _ => rfl)) (pe_ix ix_list (pe_ix ix_tup (pv 0) pe_int (fun _ _ => rfl)) (pv 1) (fun _ _ => rfl))) pe_int (nomark _)) (pss_one (ps_ret (pe_callTy call_str_int (by rfl) T.n_str (by decide +kernel) (pa_cons (pe_ix ix_list (pe_ix ix_tup (pv 0) pe_int (fun _ _ => rfl)) (pv 1) (fun _ _ => rfl)) pa_nil)))) pss_nil)
  (pss_one (ps_ret (pe_op op_add_str (pe_op op_add_str (pe_callTy call_str_int (by rfl) T.n_str (by decide +kernel) (pa_cons (pe_ix ix_list (pe_ix ix_tup (pv 0) pe_int (fun _ _ => rfl)) (pv 1) (fun _ _ => rfl)) pa_nil)) pe_str) (pe_callTy call_str_int (by rfl) T.n_str (by decide +kernel) (pa_cons (pe_op op_sub (pe_ix ix_list (pe_ix ix_tup (pv 0) pe_int (fun _ _ => rfl)) (pe_op op_add (pv 1) pe_int) (fun _ _ => rfl)) pe_int) pa_nil)))))), ?_⟩
  refine ⟨_, rfl, p, _, 0, _, rfl, rfl, SqT.of hp, at_of (j := 0) rfl rfl, _, rfl, ?_⟩
  cases hd : d.1 with
  | true =>
    have hwl := (ok.w hd).1
    have gw : d.2.2[kk]? = some (d.2.2[kk]'(by omega)) := by simp
    rw [if_pos hd, getD_of gw] at k
    refine iteT ⟨_, rfl, p, _, 2, _, rfl, rfl, SqT.of hp, at_of (j := 2) rfl rfl, _, rfl, aw, _, _, _, rfl, rfl, SqL.of haw, atI_nat (by rw [List.getElem?_map, gw]; rfl), k _ _ (Same.refl _) rfl⟩
  | false =>
    rw [if_neg (by rw [hd]; exact Bool.false_ne_true)] at k
    refine iteF ⟨_, rfl, p, _, 1, _, rfl, rfl, SqT.of hp, at_of (j := 1) rfl rfl, _, rfl, _, _, rfl, rfl, ap, _, _, _, rfl, rfl, SqL.of hap, at1, _, rfl, p, _, 1, _, rfl, rfl, SqT.of hp, at_of (j := 1) rfl rfl, _, rfl, ap, _, _, _, rfl, rfl, SqL.of hap, at0, _, _, rfl, rfl, rfl, _, rfl, ?_⟩
    refine ite2 (fun c => ?_) (fun c => ?_)
    · have c := V.int.inj (ydec c)
      rw [if_pos c] at k
      exact ⟨_, rfl, p, _, 1, _, rfl, rfl, SqT.of hp, at_of (j := 1) rfl rfl, _, rfl, ap, _, _, _, rfl, rfl, SqL.of hap, at0, _, rfl, small_log m0.1, k _ _ (Same.refl _) rfl⟩
    · have c : ¬ x1 - x0 = 1 := fun z => ndec c (congrArg V.int z)
      rw [if_neg c] at k
      have l0 := numS_len m0.1
      have l1 := numS_len m1.2
      refine ⟨_, rfl, p, _, 1, _, rfl, rfl, SqT.of hp, at_of (j := 1) rfl rfl, _, rfl, ap, _, _, _, rfl, rfl, SqL.of hap, at0, _, rfl, small_log m0.1, _, _, rfl, rfl, szl _ (by rw [dd_len]; show (numS x0).length + 2 ≤ 1000; omega), ?_⟩
      refine ⟨_, rfl, p, _, 1, _, rfl, rfl, SqT.of hp, at_of (j := 1) rfl rfl, _, rfl, _, _, rfl, rfl, ap, _, _, _, rfl, rfl, SqL.of hap, at1, _, _, rfl, rfl, _, rfl, small_log m1.2, _, _, rfl, rfl, szl _ (by rw [app_len, dd_len]; show (numS x0).length + 2 + (numS (x1 - 1)).length ≤ 1000; omega), k _ _ (Same.refl _) rfl⟩
abbrev n_law_domain_text : List Str := ["dom"]
theorem sc_law_domain_text : FnScope n_law_domain_text ["dom"] (defScope s_law_domain_text) := ⟨rfl, rfl, rfl, by decide +kernel, rfl, by decide +kernel, by decide +kernel⟩
theorem ok_law_domain_text (T : Tx K mg) : Def P w K mg base "_law_domain_text" ["dom"] 1 (Sp1 tLD tStr fun d s => LDOk d ∧ s = domS (domOf d)) := by
  refine ⟨?_, T.g_law_domain_text, T.f_law_domain_text.kp, T.f_law_domain_text.bindsN fun _ _ _ _ _ _ us hl => match us, hl with | [_], _ => rfl⟩
  refine fn_body T.f_law_domain_text sc_law_domain_text (fun _ _ _ _ h => len1 h) fun cdv A outer s H vs Q E hr h => ?_
  obtain ⟨ls, v, d, s, rfl, L, ⟨p, v1, v2, v3, rfl, hp, e1, ⟨ap, up, e2, hap, rp⟩, ⟨aw, uw, e3, haw, rw_⟩⟩, ⟨ok, rfl⟩, k⟩ := h
  obtain rfl : v1 = .bl d.1 := e1
  obtain rfl : v2 = .ref ap := e2
  obtain rfl : v3 = .ref aw := e3
  have hp := cut_at hp
  have hap := cut_at hap
  have haw := cut_at haw
  obtain rfl := rs_int rp
  obtain rfl := rs_str rw_
  have k : ∀ H' w, Same H H' → w = V.str (domS (domOf d)) → Q w H' := k
  unfold domOf at k
  refine ⟨_, pss_cons (ps_if (pt_val (pe_ix ix_tup (pv 0) pe_int (fun _ _ => rfl))) (pss_one (ps_ret (pe_join pe_str (pe_ix ix_tup (pv 0) pe_int (fun _ _ => rfl))))) pss_nil)
  (pss_one (ps_ret (pe_op op_add_str (pe_op op_add_str (pe_callTy call_str_int (by rfl) T.n_str (by decide +kernel) (pa_cons (pe_ix ix_list (pe_ix ix_tup (pv 0) pe_int (fun _ _ => rfl)) pe_int (fun _ _ => rfl)) pa_nil)) pe_str) (pe_callTy call_str_int (by rfl) T.n_str (by decide +kernel) (pa_cons (pe_op op_sub (pe_ix ix_list (pe_ix ix_tup (pv 0) pe_int (fun _ _ => rfl)) (pe_un un_neg pe_int) (fun _ _ => rfl)) pe_int) pa_nil))))), ?_⟩
  refine ⟨_, rfl, p, _, 0, _, rfl, rfl, SqT.of hp, at_of (j := 0) rfl rfl, _, rfl, ?_⟩
  cases hd : d.1 with
  | true =>
    rw [if_pos hd] at k
    obtain ⟨_, _, hw, _⟩ := ok.w hd
    have hl := (ok.w hd).1
    have hlen := ok.len
    refine iteT ⟨⟨_, rfl⟩, _, rfl, p, _, 2, _, rfl, rfl, SqT.of hp, at_of (j := 2) rfl rfl, _, aw, d.2.2, rfl, rfl, .inl (SqL.of haw), ?_, k _ _ (Same.refl _) rfl⟩
    have := join_le ", " (ps := d.2.2) (k := 12) fun p hp => (isWord_len (hw p hp)).2
    have : d.2.2.length * (12 + (", " : Str).length) ≤ 40 * 14 := Nat.mul_le_mul (by omega) (by decide +kernel)
    omega
  | false =>
    rw [if_neg (by rw [hd]; exact Bool.false_ne_true)] at k
    have hlen := ok.len
    have g0 : d.2.1[0]? = some (d.2.1[0]'(by omega)) := by simp
    have gl : d.2.1[d.2.1.length - 1]? = some (d.2.1[d.2.1.length - 1]'(by omega)) := by simp
    have e0 : d.2.1.headD 0 = d.2.1[0]'(by omega) := by rw [List.headD_eq_head?_getD, List.head?_eq_getElem?, g0]; rfl
    have e1 : d.2.1.getLastD 0 = d.2.1[d.2.1.length - 1]'(by omega) := by rw [List.getLastD_eq_getLast?, List.getLast?_eq_getElem?, gl]; rfl
    have m0 := ok.sm (List.mem_of_getElem? g0)
    have m1 := ok.sm (List.mem_of_getElem? gl)
    rw [e0, e1] at k
    have hne : d.2.1 ≠ [] := fun e => by rw [e] at hlen; exact absurd hlen.1 (by decide)
    have at0 : atI (d.2.1.map V.int) 0 = some (.int (d.2.1[0]'(by omega))) := at_of (j := 0) rfl (by rw [List.getElem?_map, g0]; rfl)
    have at1 : atI (d.2.1.map V.int) (-1) = some (.int (d.2.1[d.2.1.length - 1]'(by omega))) := by
      obtain ⟨pre, x, epre⟩ : ∃ pre x, d.2.1 = pre ++ [x] := by
        rcases List.eq_nil_or_concat d.2.1 with e | ⟨t, y, e⟩
        · exact absurd e hne
        · exact ⟨t, y, by rw [e, List.concat_eq_append]⟩
      have ex : d.2.1[d.2.1.length - 1]? = some x := by rw [epre, List.length_append]; simp
      rw [ex] at gl
      rw [← Option.some.inj gl, epre, List.map_append]
      exact atI_last _ _
    generalize d.2.1[0]'(by omega) = x0 at g0 m0 at0 k
    generalize d.2.1[d.2.1.length - 1]'(by omega) = x1 at gl m1 at1 k
    have l0 := numS_len m0.1
    have l1 := numS_len m1.2
    refine iteF ⟨_, rfl, p, _, 1, _, rfl, rfl, SqT.of hp, at_of (j := 1) rfl rfl, ap, _, _, _, rfl, rfl, SqL.of hap, at0, _, rfl, small_log m0.1, _, _, rfl, rfl, szl _ (by rw [dd_len]; show (numS x0).length + 2 ≤ 1000; omega), ?_⟩
    refine ⟨_, rfl, p, _, 1, _, rfl, rfl, SqT.of hp, at_of (j := 1) rfl rfl, 1, rfl, ap, _, _, _, rfl, rfl, SqL.of hap, at1, _, _, rfl, rfl, _, rfl, small_log m1.2, _, _, rfl, rfl, szl _ (by rw [app_len, dd_len]; show (numS x0).length + 2 + (numS (x1 - 1)).length ≤ 1000; omega), k _ _ (Same.refl _) rfl⟩
end
end Rk
set_option Elab.async false
set_option linter.all false
set_option maxRecDepth 100000
set_option maxHeartbeats 1000000
namespace Rk
open PySem PySem.Spec PyProof.Rows L2
open TL
theorem bit_and (b j : Nat) : Builtin.bitAnd (((b : Nat) : Int) / 2 ^ (((j : Nat) : Int)).toNat) 1 = ((b / 2 ^ j % 2 : Nat) : Int) := by
  have e := Bits.bitAnd_mask (x := ((b : Nat) : Int) / 2 ^ (((j : Nat) : Int)).toNat) 1 (Int.ediv_nonneg (by omega) (Int.pow_nonneg (by decide)))
  have e2 : ((2 : Int) ^ 1 - 1) = 1 := by decide
  rw [e2] at e
  rw [e, Int.toNat_natCast]
  simp
theorem piece_len {d : LD} (ok : LDOk d) {k : Nat} (hk : k + 1 < d.2.1.length) : (ptS (pieceF d k)).length ≤ 124 := by
  have hk0 : k < d.2.1.length := by omega
  have g0 : d.2.1[k]? = some d.2.1[k] := List.getElem?_eq_getElem hk0
  have g1 : d.2.1[k + 1]? = some d.2.1[k + 1] := List.getElem?_eq_getElem hk
  have m0 := ok.sm (List.mem_of_getElem? g0)
  have m1 := ok.sm (List.mem_of_getElem? g1)
  unfold pieceF
  split
  · rename_i hd
    have hwl := (ok.w hd).1
    have gw : d.2.2[k]? = some (d.2.2[k]'(by omega)) := by simp
    rw [getD_of gw]
    have := (isWord_len ((ok.w hd).2.2.1 _ (List.mem_of_getElem? gw))).2
    show (d.2.2[k]'(by omega)).length ≤ 124
    omega
  · rw [getD_of g0, getD_of g1]
    have l0 := numS_len m0.1
    have l1 := numS_len m1.2
    split
    · show (numS _).length ≤ 124; omega
    · show (numS _ ++ ".." ++ numS _).length ≤ 124
      rw [app_len, app_len, dd_len]; omega
section
variable {P : Program} {w : World} {K : PySem.W.Frag} {mg : Str → Option Value} {base : Heap}
abbrev n_law_field : List Str := ["dom", "bits", "size", "k"]
theorem sc_law_field : FnScope n_law_field ["dom", "bits"] (defScope s_law_field) := ⟨rfl, rfl, rfl, by decide +kernel, rfl, by decide +kernel, by decide +kernel⟩
theorem ok_law_field (T : Tx K mg) : Def P w K mg base "_law_field" ["dom", "bits"] 2 (Sp2 tLD tNat tStr fun d b s => LDOk d ∧ s = flS (fieldF d b)) := by
  refine ⟨?_, T.g_law_field, T.f_law_field.kp, T.f_law_field.bindsN fun _ _ _ _ _ _ us hl => match us, hl with | [_, _], _ => rfl⟩
  refine fn_body T.f_law_field sc_law_field (fun _ _ _ _ h => len2 h) fun cdv A outer s H vs Q E hr h => ?_
  obtain ⟨ls, v, vb, d, b, s, rfl, L, rld, rfl, ⟨ok, rfl⟩, k⟩ := h
  obtain ⟨p, v1, v2, v3, rfl, hp, e1, ⟨ap, up, e2, hap, rp⟩, ⟨aw, uw, e3, haw, rw_⟩⟩ := id rld
  obtain rfl : v1 = .bl d.1 := e1
  obtain rfl : v2 = .ref ap := e2
  obtain rfl : v3 = .ref aw := e3
  have hp := cut_at hp
  have hap := cut_at hap
  have lp := rp.len
  have hlen := ok.len
  have k : ∀ H' w, Same H H' → w = V.str (flS (fieldF d b)) → Q w H' := k
  unfold fieldF at k
  obtain ⟨sz, esz⟩ : ∃ sz : Nat, d.2.1.length = sz + 1 := ⟨d.2.1.length - 1, by omega⟩
  rw [esz, Nat.add_sub_cancel] at k
  have csh : CPow 1 (sz : Nat) := ⟨by omega, by omega, by decide⟩
  have psh : (1 : Int) * 2 ^ (((sz : Nat) : Int)).toNat = ((2 ^ sz : Nat) : Int) := by rw [Int.one_mul, Int.toNat_natCast]; simp
  have hpow : 0 < 2 ^ sz := Nat.pow_pos (by decide)
  refine ⟨_, pss_cons (ps_set (i := 2) sc_law_field.nd rfl (.inl rfl) (pe_op op_sub (pe_callB call_len_seq (by rfl) T.n_len PySem.boot_len (pa_cons (pe_ix ix_tup (pv 0) pe_int (fun _ _ => rfl)) pa_nil)) pe_int))
  (pss_cons (ps_if (pt_cmpR op_eq (pv 1) (pe_op op_sub (pe_op op_shl pe_int (pv 2)) pe_int) (nomark _)) (pss_one (ps_ret pe_str)) pss_nil)
  (pss_cons (ps_if (pt_cmpR op_eq (pv 1) pe_int (nomark _)) (pss_one (ps_ret pe_str)) pss_nil)
  (pss_one (ps_ret (pe_join pe_str (pe_lc (own := [("k", 3)]) (g := gName 3) rfl sc_law_field.nd (pi_range1 (by rfl) T.n_range (pa_cons (pv 2) pa_nil)) (blkOk_by (own := [("k", 3)]) (N := n_law_field) (sc := defScope s_law_field) (by decide +kernel)) (fun _ _ _ _ _ => (pg_name (i := 3) sc_law_field.nd rfl (.inl rfl))) (fun _ _ _ _ _ => (pts_one (pt_cmpR op_eq (pe_op op_and (pe_op op_shr (pv 1) (pv 3)) pe_int) pe_int (nomark _)))) (fun _ _ _ _ _ => (pe_cD (ok_law_piece T) hr (pa_cons (pv 0) (pa_cons (pv 3) pa_nil)))))))))), ?_⟩
  refine ⟨_, rfl, p, _, 1, _, rfl, rfl, SqT.of hp, at_of (j := 1) rfl rfl, ap, _, rfl, .inl (SqL.of hap), _, _, rfl, rfl, ?_⟩
  show gName 2 (V.int (((up.length : Nat) : Int) - 1)) _ _ _
  rw [show ((up.length : Nat) : Int) - 1 = (sz : Nat) by omega]
  refine ⟨_, rfl, _, rfl, _, _, rfl, rfl, csh, _, _, rfl, rfl, rfl, _, rfl, ?_⟩
  show if decide (V.int ((b : Nat) : Int) = V.int (1 * 2 ^ (((sz : Nat) : Int)).toNat - 1)) = true then _ else _
  rw [psh]
  refine ite2 (fun c => ?_) (fun c => ?_)
  · have c := V.int.inj (ydec c)
    rw [if_pos (show b = 2 ^ sz - 1 by omega)] at k
    exact k _ _ (Same.refl _) rfl
  have c : ¬ b = 2 ^ sz - 1 := fun z => ndec c (congrArg V.int (by omega))
  rw [if_neg c] at k
  refine ⟨_, rfl, rfl, _, rfl, ?_⟩
  refine ite2 (fun c => ?_) (fun c => ?_)
  · have c := V.int.inj (ydec c)
    rw [if_pos (show b = 0 by omega)] at k
    exact k _ _ (Same.refl _) rfl
  have c : ¬ b = 0 := fun z => ndec c (congrArg V.int (by omega))
  rw [if_neg c] at k
  refine ⟨⟨_, rfl⟩, _, rfl, _, rfl, by omega, by omega, fun D nD => ?_⟩
  refine lc_fmap (walk_range (lo := 0)) (u := tStr) (ls := ls) (bitN b) (fun j => ptS (pieceF d j)) nD L (by omega) (fun _ _ => trivial) ?_ ?_
  · rintro j x H3 H4 R1 R2 hj s3 sc L2 ⟨rfl, rfl⟩ h1 h2
    rw [Int.toNat_natCast] at hj
    refine ⟨rfl, _, rfl, _, rfl, _, _, rfl, rfl, (show (0 : Int) ≤ 0 + ((j : Nat) : Int) by omega), _, _, rfl, rfl, rfl, _, rfl, ?_⟩
    show if decide (V.int (Builtin.bitAnd (((b : Nat) : Int) / 2 ^ (0 + ((j : Nat) : Int)).toNat) 1) = V.int 1) = true then _ else _
    rw [Int.zero_add, bit_and]
    have eb : decide (V.int ((b / 2 ^ j % 2 : Nat) : Int) = V.int 1) = bitN b j := by
      unfold bitN
      exact decide_eq_decide.mpr ⟨fun e => by have := V.int.inj e; omega, fun e => by rw [e]; rfl⟩
    rw [eb]
    refine ite2 (fun q => ?_) (fun q => ?_)
    · refine ⟨_, rfl, _, rfl, _, _, _, d, j, _, rfl, L2, tLD.mono sc rld, ?_, ⟨ok, by omega, rfl⟩, fun H5 w5 s5 r5 => h1 q _ _ s5 r5⟩
      show V.int _ = V.int _
      rw [Int.zero_add]
    · exact h2 (by cases e : bitN b j with | false => rfl | true => exact absurd e q) _ (Same.refl _)
  · rintro H3 s3 ⟨D', us, e, hD, rs⟩
    cases e
    obtain rfl := rs_str rs
    have hm : ∀ x ∈ ((List.range (((sz : Nat) : Int)).toNat).filter (bitN b)).map (fun j => ptS (pieceF d j)), x.length ≤ 124 := by
      intro x hx
      obtain ⟨j, hj, rfl⟩ := List.mem_map.mp hx
      have := List.mem_range.mp (List.mem_filter.mp hj).1
      rw [Int.toNat_natCast] at this
      exact piece_len ok (by omega)
    have hl : (((List.range (((sz : Nat) : Int)).toNat).filter (bitN b)).map (fun j => ptS (pieceF d j))).length ≤ 10 := by
      rw [List.length_map]
      refine Nat.le_trans (List.length_filter_le _ _) ?_
      rw [List.length_range, Int.toNat_natCast]; omega
    have hj := join_le ", " hm
    have hmm : (((List.range (((sz : Nat) : Int)).toNat).filter (bitN b)).map (fun j => ptS (pieceF d j))).length * (124 + (", " : Str).length) ≤ 10 * 126 := Nat.mul_le_mul hl (by decide +kernel)
    refine ⟨_, D, _, rfl, rfl, .inl (SqL.of (cut_at hD)), by omega, k _ _ s3 ?_⟩
    show V.str (Txt.join ", " _) = V.str (Txt.join ", " _)
    rw [List.map_map, Int.toNat_natCast]
    rfl
end
end Rk
set_option Elab.async false
set_option linter.all false
set_option maxRecDepth 100000
set_option maxHeartbeats 1000000
namespace Rk
open PySem PySem.Spec PyProof.Rows L2
open TL
def dfl : LD := (false, [], [])
def valI (d : LD) (c : Nat) : Int := if d.1 = true then (c : Nat) else d.2.1.getD c 0
def lawR (doms : List LD) (cols : List Nat) (out : LD) (r : LR) : List Fl × Int := ((List.range cols.length).map fun k => fieldF (doms.getD (cols.getD k 0) dfl) (r.1.getD k 0), valI out r.2)
def lawT (names : List Str) (f : Nat) (doms : List LD) (i : Nat) (t : LT) : TbT := ⟨names.getD (f + i) "", t.1.map (fun c => names.getD c ""), domOf (doms.getD (f + i) dfl), t.2.1, t.2.2.map (lawR doms t.1 (doms.getD (f + i) dfl))⟩
def lawTs (names : List Str) (m : LM) : List TbT := (List.range m.2.2.length).map fun i => lawT names m.1 m.2.1 i (m.2.2.getD i ([], .first, []))
def lawSrc (names : List Str) (m : LM) (turn : Int) : Src := ⟨(List.range m.1).map fun k => (names.getD k "", domOf (m.2.1.getD k dfl)), if turn % 2 = 1 then (lawTs names m).reverse else lawTs names m, decide (turn / 2 % 2 = 1)⟩
section
variable {P : Program} {w : World} {K : PySem.W.Frag} {mg : Str → Option Value} {base : Heap}
abbrev n_law_table_lines : List Str := ["names", "facts", "doms", "tables", "i", "columns", "way", "rows", "dom", "head", "lines", "bits", "code", "fields", "value", "column", "k"]
theorem sc_law_table_lines : FnScope n_law_table_lines ["names", "facts", "doms", "tables", "i"] (defScope s_law_table_lines) := ⟨rfl, rfl, rfl, by decide +kernel, rfl, by decide +kernel, by decide +kernel⟩
theorem ok_law_table_lines (T : Tx K mg) : Def P w K mg base "_law_table_lines" ["names", "facts", "doms", "tables", "i"] 3 (Sp5 (tLst tStr) tNat (tLst tLD) (tLst tLT) tNat (tLst tStr) fun names f doms tabs i r => LMOk (f, doms, tabs) ∧ names.length = 6 ∧ ∃ t, tabs[i]? = some t ∧ (∀ p ∈ tabP (lawT names f doms i t), LnOk p) ∧ r = (tabP (lawT names f doms i t)).map lnS) := by
  refine ⟨?_, T.g_law_table_lines, T.f_law_table_lines.kp, T.f_law_table_lines.bindsN fun _ _ _ _ _ _ us hl => match us, hl with | [_, _, _, _, _], _ => rfl⟩
  refine fn_body T.f_law_table_lines sc_law_table_lines (fun _ _ _ _ h => len5 h) fun cdv A outer s H vs Q E hr h => ?_
  obtain ⟨ls, v1, v2, v3, v4, v5, names, f, doms, tabs, i, r, rfl, L, ⟨an, un, rfl, han, rn⟩, rfl, ⟨ad, ud, rfl, had, rd⟩, ⟨at_, ut, rfl, hat, rt⟩, rfl, ⟨ok, h6, t, hti, hln, rfl⟩, k⟩ := h
  have han := cut_at han
  have had := cut_at had
  have hat := cut_at hat
  obtain rfl := rs_str rn
  have hit := (List.getElem?_eq_some_iff.mp hti).1
  obtain ⟨vt, hvt, pt, w1, w2, w3, rfl, hpt, ⟨ac, uc, rfl, hac, rc⟩, hw2, ⟨ar, ur, rfl, har, rr⟩⟩ := rt.at_ hti
  obtain rfl : w2 = .str t.2.1.nm := hw2
  have hpt := cut_at hpt
  have hac := cut_at hac
  have har := cut_at har
  obtain rfl := rs_nat rc
  have tok := ok.tabs i t hti
  have hf := ok.f
  have hn := ok.n
  have hf : 1 ≤ f ∧ f ≤ 3 := hf
  have hn : 1 ≤ tabs.length ∧ tabs.length ≤ 3 := hn
  have hdl : doms.length = f + tabs.length := ok.len
  have hfi : f + i < doms.length := by omega
  have hdo : doms[f + i]? = some doms[f + i] := List.getElem?_eq_getElem hfi
  obtain ⟨vd, hvd, rvd⟩ := rd.at_ hdo
  have dok := ok.doms _ (List.mem_of_getElem? hdo)
  have hgd : doms.getD (f + i) dfl = doms[f + i] := getD_of hdo
  generalize hdef : doms[f + i] = d at hdo rvd dok hgd
  obtain ⟨pd, x1, x2, x3, rfl, hpd, f1, ⟨ap, up, f2, hap, rp⟩, ⟨aw, uw, f3, haw, rw_⟩⟩ := id rvd
  obtain rfl : x1 = .bl d.1 := f1
  obtain rfl : x2 = .ref ap := f2
  obtain rfl : x3 = .ref aw := f3
  have hpd := cut_at hpd
  have hap := cut_at hap
  have haw := cut_at haw
  obtain rfl := rs_int rp
  obtain rfl := rs_str rw_
  have hcl := tok.len
  have hst : atI ut ((i : Nat) : Int) = some (.ref pt) := atI_nat hvt
  have hsd : atI ud ((f : Nat) + (i : Nat) : Int) = some (.ref pd) := at_of (j := f + i) (by omega) hvd
  have hnm : names[f + i]? = some (names[f + i]'(by omega)) := by simp
  have hname : atI (names.map V.str) ((f : Nat) + (i : Nat) : Int) = some (.str (names.getD (f + i) "")) := at_of (j := f + i) (by omega) (by rw [List.getElem?_map, hnm, getD_of hnm]; rfl)
  have hhead := hln (headP (lawT names f doms i t)) List.mem_cons_self
  have hz := ln_len hhead
  obtain ⟨g1, g2, g3, g4, g5, g6, g7⟩ := hhead
  refine ⟨_, pss_cons (ps_asg (pe_ix ix_list (pv 3) (pv 4) (fun _ _ => rfl)) (pg_tup (by rfl) (pgs_cons (pg_name (i := 5) sc_law_table_lines.nd rfl (.inr rfl)) (pgs_cons (pg_name (i := 6) sc_law_table_lines.nd rfl (.inl rfl)) (pgs_cons (pg_name (i := 7) sc_law_table_lines.nd rfl (.inl rfl)) pgs_nil)))))
  (pss_cons (ps_set (i := 8) sc_law_table_lines.nd rfl (.inl rfl) (pe_ix ix_list (pv 2) (pe_op op_add (pv 1) (pv 4)) (fun _ _ => rfl)))
  (pss_cons (ps_set (i := 9) sc_law_table_lines.nd rfl (.inl rfl) (pe_op op_add_str (pe_op op_add_str (pe_op op_add_str pe_str (pe_ix ix_list (pv 0) (pe_op op_add (pv 1) (pv 4)) (fun _ _ => rfl))) pe_str) (pe_join pe_str (pe_lc (own := [("column", 15)]) (g := gName 15) rfl sc_law_table_lines.nd (pi_list (pv 5)) (blkOk_by (own := [("column", 15)]) (N := n_law_table_lines) (sc := defScope s_law_table_lines) (by decide +kernel)) (fun _ _ _ _ _ => (pg_name (i := 15) sc_law_table_lines.nd rfl (.inl rfl))) (fun _ _ _ _ _ => pts_nil) (fun _ _ _ _ _ => (pe_ix (ixL (K := K)) (pv 0) (pv 15) (fun _ _ => rfl)))))))
  (pss_cons (ps_set (i := 10) sc_law_table_lines.nd rfl (.inl rfl) (pe_lst (pa_cons (pe_op op_add_str (pe_op op_add_str (pe_op op_add_str (pe_op op_add_str (pv 9) pe_str) (pe_cD (ok_law_domain_text T) hr (pa_cons (pv 8) pa_nil))) pe_str) (pv 6)) pa_nil)))
  (pss_cons (ps_for PassesOwn.never rfl (pi_list (pv 7)) (pg_tup (by rfl) (pgs_cons (pg_name (i := 11) sc_law_table_lines.nd rfl (.inr rfl)) (pgs_cons (pg_name (i := 12) sc_law_table_lines.nd rfl (.inl rfl)) pgs_nil)))
  (pss_cons (ps_setLc (i := 13) (own := [("k", 16)]) (g := gName 16) rfl sc_law_table_lines.nd rfl rfl (sw_true rfl rfl rfl (by decide +kernel)) (pi_range1 (by rfl) T.n_range (pa_cons (pe_callB call_len_seq (by rfl) T.n_len PySem.boot_len (pa_cons (pv 5) pa_nil)) pa_nil)) (blkOk_by (own := [("k", 16)]) (N := n_law_table_lines) (sc := defScope s_law_table_lines) (by decide +kernel)) (fun _ _ _ _ _ => (pg_name (i := 16) sc_law_table_lines.nd rfl (.inl rfl))) (fun _ _ _ _ _ => pts_nil) (fun _ _ _ _ _ => (pe_cD (ok_law_field T) hr (pa_cons (pe_ix (ixL (K := K)) (pv 2) (pe_ix (ixL (K := K)) (pv 5) (pv 16) (fun _ _ => rfl)) (fun _ _ => rfl)) (pa_cons (pe_ix (ixL (K := K)) (pv 11) (pv 16) (fun _ _ => rfl)) pa_nil)))))
  (pss_cons (ps_set (i := 14) sc_law_table_lines.nd rfl (.inl rfl) (pe_callTy call_str_int (by rfl) T.n_str (by decide +kernel) (pa_cons (pe_ix ix_list (pe_ix ix_tup (pv 8) pe_int (fun _ _ => rfl)) (pv 12) (fun _ _ => rfl)) pa_nil)))
  (Evl.pss_cut (ps_if (pt_val (pe_ix ix_tup (pv 8) pe_int (fun _ _ => rfl))) (pss_one (ps_set (i := 14) sc_law_table_lines.nd rfl (.inl rfl) (pe_ix ix_list (pe_ix ix_tup (pv 8) pe_int (fun _ _ => rfl)) (pv 12) (fun _ _ => rfl)))) pss_nil)
  (pss_one (ps_expr (pe_bm PySem.F.plainAttrs_list PySem.F.slot_list_append PySem.F.type_list_append mt_append (pv 10) (pa_cons (pe_op op_add_str (pe_op op_add_str (pe_op op_add_str pe_str (pe_join pe_str (pv 13))) pe_str) (pv 14)) pa_nil))))))))
  (pss_one (ps_ret (pv 10))))))), ?_⟩
  refine ⟨_, rfl, _, rfl, at_, _, _, _, rfl, rfl, SqL.of hat, hst, ?_⟩
  refine ⟨pt, _, rfl, SqT.of hpt, rfl, _, _, rfl, _, _, rfl, _, _, rfl, rfl, ?_⟩
  refine ⟨_, rfl, _, rfl, _, rfl, _, _, rfl, rfl, ad, _, _, _, rfl, rfl, SqL.of had, hsd, ?_⟩
  have hwd : ∀ c ∈ t.1.map (fun c => names.getD c ""), isWord c = true := g4
  have ecl : (t.1.map (fun c => names.getD c "")).length = t.1.length := List.length_map _
  have l1 : ("table " : Str).length = 6 := by decide +kernel
  have l2 : (": " : Str).length = 2 := by decide +kernel
  have l3 : (" -> " : Str).length = 4 := by decide +kernel
  have l4 : (" by " : Str).length = 4 := by decide +kernel
  have l5 : ("when " : Str).length = 5 := by decide +kernel
  have hnl := (isWord_len (show isWord (names.getD (f + i) "") = true from g1)).2
  have hdl2 : (domS (domOf d)).length ≤ 600 := by rw [← hgd]; exact g5
  have hwl : t.2.1.nm.length ≤ 10 := g7
  have hj := join_most ", " (ps := t.1.map (fun c => names.getD c "")) (k := 12) fun c hc => (isWord_len (hwd c hc)).2
  have hjj := join_le ", " (ps := t.1.map (fun c => names.getD c "")) (k := 12) fun c hc => (isWord_len (hwd c hc)).2
  have hm : (t.1.map (fun c => names.getD c "")).length * (12 + (", " : Str).length) ≤ 4 * 14 := Nat.mul_le_mul (by rw [ecl]; omega) (by decide +kernel)
  refine ⟨_, rfl, _, rfl, _, rfl, _, _, rfl, rfl, an, _, _, _, rfl, rfl, SqL.of han, hname, _, _, rfl, rfl, szl _ (by omega), _, _, rfl, rfl, szl _ (by rw [app_len]; omega), ?_⟩
  refine ⟨⟨_, rfl⟩, _, rfl, ac, rfl, ⟨_, SqL.of hac⟩, fun D nD => ?_⟩
  refine lc_map (walk_list (K := K) (a := ac) (xs := t.1.map fun n => V.int (n : Nat))) (u := tStr) (ls := ls) (t.1.map (fun c => names.getD c "")) nD L (by rw [List.length_map]; omega) (by rw [List.length_map, List.length_map]) (fun H' s' => SqL.of (s' _ _ hac)) ?_ ?_
  · rintro j x y H2 H3 R hy s2 sc L2 ⟨rfl, hx⟩ hR
    rw [List.getElem?_map] at hx hy
    obtain ⟨c, hc, rfl⟩ := Option.map_eq_some_iff.mp hx
    rw [hc] at hy
    cases hy
    have := tok.lt c (List.mem_of_getElem? hc)
    have hcn : names[c]? = some (names[c]'(by omega)) := by simp
    exact ⟨rfl, _, rfl, _, rfl, an, _, _, _, rfl, rfl, SqL.of (s2 _ _ han), atI_nat (by rw [List.getElem?_map, hcn]; rfl), hR _ _ (Same.refl _) (by show V.str _ = V.str (names.getD c ""); rw [getD_of hcn])⟩
  rintro H1 s1 ⟨D', us, e, hD, rs⟩
  cases e
  obtain rfl := rs_str rs
  refine ⟨_, D, _, rfl, rfl, .inl (SqL.of (cut_at hD)), by omega, _, _, rfl, rfl, szl _ (by rw [app_len, app_len]; omega), ?_⟩
  refine ⟨_, rfl, _, _, rfl, rfl, szl _ (by simp only [app_len]; omega), _, rfl, ls, _, d, _, rfl, L.to s1, tLD.mono s1.cut rvd, ⟨dok, rfl⟩, fun H2 w2 s2 e2 => ?_⟩
  obtain rfl : w2 = .str (domS (domOf d)) := e2
  refine ⟨_, _, rfl, rfl, szl _ (by simp only [app_len]; omega), _, _, rfl, rfl, szl _ (by simp only [app_len]; omega), _, rfl, _, _, rfl, rfl, szl _ (by simp only [app_len]; omega), szl 1, fun l nl => ?_⟩
  have ehead : "table " ++ names.getD (f + i) "" ++ ": " ++ Txt.join ", " (t.1.map (fun c => names.getD c "")) ++ " -> " ++ domS (domOf d) ++ " by " ++ t.2.1.nm = lnS (headP (lawT names f doms i t)) := by
    refine ext_tl ?_
    show _ = tl ("table " ++ (names.getD (f + i) "" ++ ": " ++ (Txt.join ", " (t.1.map (fun c => names.getD c "")) ++ " -> " ++ (domS (domOf (doms.getD (f + i) dfl)) ++ " by " ++ t.2.1.nm))))
    rw [hgd]
    simp only [tl_append, List.append_assoc]
  rw [ehead]
  have s12 := s1.trans s2
  have s3 := s12.trans (Same.upd (o := .lst [.str (lnS (headP (lawT names f doms i t)))]) nl)
  have nl0 := s12.free nl
  have hrl := rr.len
  have hmost := tok.most
  refine ⟨_, rfl, ar, rfl, ⟨_, SqL.of (s3 _ _ har)⟩, for_list (K := K) (a := ar) (xs := ur) (fun j σ H' => (∃ y1 y2 y3 y4 y5 y6 y7, σ = [some (.ref an), some (.int (f : Nat)), some (.ref ad), some (.ref at_), some (.int (i : Nat)), some (.ref ac), some (.str t.2.1.nm), some (.ref ar), some (.ref pd), y7, some (.ref l), y1, y2, y3, y4, y5, y6]) ∧ Same H H' ∧ H' l = some (.lst ((lnS (headP (lawT names f doms i t)) :: ((t.2.2.take j).map fun r => lnS (rowP (domOf d) (lawR doms t.1 d r)))).map V.str))) ⟨⟨_, _, _, _, _, _, _, rfl⟩, s3, by rw [List.take_zero]; exact upd_same⟩ (fun j σ H' _ p => SqL.of (p.2.1 _ _ har)) ?_ ?_⟩
  · rintro j x σ H3 hx ⟨⟨y1, y2, y3, y4, y5, y6, y7, rfl⟩, s3, hl⟩
    obtain ⟨r, hr, pr, u1, u2, rfl, hpr, ⟨ab, ub, rfl, hab, rb⟩, ec⟩ := rr.get hx
    obtain rfl : u2 = .int (r.2 : Nat) := ec
    have hpr := s3 _ _ (cut_at hpr)
    have hab := s3 _ _ (cut_at hab)
    obtain rfl := rs_nat rb
    have hj := (List.getElem?_eq_some_iff.mp hr).1
    obtain ⟨⟨hbl, hbo⟩, hcode⟩ := tok.rows r (List.mem_of_getElem? hr)
    have hcode := hcode d hdo
    have hlr : LnOk (rowP (domOf d) (lawR doms t.1 d r)) := by
      have := hln (rowP (domOf (doms.getD (f + i) dfl)) (lawR doms t.1 (doms.getD (f + i) dfl) r)) (List.mem_cons_of_mem _ (List.mem_map.mpr ⟨_, List.mem_map.mpr ⟨r, List.mem_of_getElem? hr, rfl⟩, rfl⟩))
      rw [hgd] at this
      exact this
    refine ⟨pr, _, rfl, SqT.of hpr, rfl, _, _, rfl, _, _, rfl, rfl, ?_⟩
    refine ⟨_, rfl, ac, _, rfl, .inl (SqL.of (s3 _ _ hac)), _, rfl, by rw [List.length_map]; omega, by rw [List.length_map]; omega, fun D2 nD2 => ?_⟩
    refine lc_map (walk_range (lo := 0)) (u := tStr) (ls := l :: ls) ((lawR doms t.1 d r).1.map flS) nD2 (Live.cons hl (L.to s3)) (by rw [List.length_map]; omega) (by unfold lawR; rw [List.length_map, List.length_map, List.length_range, List.length_map]; omega) (fun _ _ => trivial) ?_ ?_
    · rintro q z y H4 H5 R hy s4 sc L2 ⟨rfl, rfl⟩ hR
      unfold lawR at hy
      rw [List.getElem?_map, List.getElem?_map] at hy
      obtain ⟨z1, hz1, rfl⟩ := Option.map_eq_some_iff.mp hy
      obtain ⟨q', hq', rfl⟩ := Option.map_eq_some_iff.mp hz1
      obtain ⟨hq1, hq2⟩ := List.getElem?_eq_some_iff.mp hq'
      rw [List.getElem_range] at hq2
      subst hq2
      rw [List.length_range] at hq1
      have hcq : t.1[q]? = some t.1[q] := List.getElem?_eq_getElem hq1
      have hcl := tok.lt t.1[q] (List.getElem_mem hq1)
      have hdq : doms[t.1[q]]? = some (doms[t.1[q]]'(by omega)) := by simp
      obtain ⟨vq, hvq, rvq⟩ := rd.at_ hdq
      have dokq := ok.doms _ (List.mem_of_getElem? hdq)
      have hbq : r.1[q]? = some (r.1[q]'(by omega)) := by simp
      have scc := (s3.more1 nl0).trans sc
      rw [getD_of hcq, getD_of hdq, getD_of hbq] at hR
      refine ⟨rfl, _, rfl, _, rfl, _, rfl, ac, _, _, _, rfl, rfl, SqL.of (s4 _ _ (s3 _ _ hac)), at_of (j := q) (by omega) (by rw [List.getElem?_map, hcq]; rfl), ad, _, _, _, rfl, rfl, SqL.of (s4 _ _ (s3 _ _ had)), atI_nat hvq, _, rfl, _, rfl, ab, _, _, _, rfl, rfl, SqL.of (s4 _ _ hab), at_of (j := q) (by omega) (by rw [List.getElem?_map, hbq]; rfl), ?_⟩
      exact ⟨_, _, _, _, _, _, rfl, L2, tLD.mono scc rvq, rfl, ⟨dokq, rfl⟩, fun H6 w6 s6 r6 => hR _ _ s6 r6⟩
    · rintro H4 s4 ⟨D', us2, e, hD2, rs2⟩
      cases e
      obtain rfl := rs_str rs2
      have hD2 := cut_at hD2
      have gp : d.2.1[r.2]? = some (d.2.1[r.2]'(by omega)) := by simp
      have mp := dok.sm (List.mem_of_getElem? gp)
      have lp := numS_len mp.1
      have s34 := s3.trans s4
      have hl4 := s4 _ _ hl
      refine ⟨_, rfl, pd, _, 1, _, rfl, rfl, SqT.of (s34 _ _ hpd), at_of (j := 1) rfl rfl, _, rfl, ap, _, _, _, rfl, rfl, SqL.of (s34 _ _ hap), atI_nat (by rw [List.getElem?_map, gp]; rfl), _, rfl, small_log mp.1, ?_⟩
      have e1 : lnS (rowP (domOf d) (lawR doms t.1 d r)) = "when " ++ (Txt.join " | " ((lawR doms t.1 d r).1.map flS) ++ " -> " ++ valS (domOf d) (valI d r.2)) := rfl
      have hz2 := ln_len hlr
      have hfl := hlr.2.2.1
      have hjj2 := join_le " | " (ps := (lawR doms t.1 d r).1.map flS) (k := 12600) fun x hx => (hfl x hx).2.2
      have hm2 : ((lawR doms t.1 d r).1.map flS).length * (12600 + (" | " : Str).length) ≤ 4 * 12603 := Nat.mul_le_mul hlr.2.1 (by decide +kernel)
      have e2 : (lnS (rowP (domOf d) (lawR doms t.1 d r))).length = ("when " : Str).length + ((Txt.join " | " ((lawR doms t.1 d r).1.map flS)).length + (" -> " : Str).length + (valS (domOf d) (valI d r.2)).length) := by rw [e1]; simp only [app_len]
      refine ⟨fun σ H5 => (∃ y5 y6, σ = [some (.ref an), some (.int (f : Nat)), some (.ref ad), some (.ref at_), some (.int (i : Nat)), some (.ref ac), some (.str t.2.1.nm), some (.ref ar), some (.ref pd), y7, some (.ref l), some (.ref ab), some (.int (r.2 : Nat)), some (.ref D2), some (.str (valS (domOf d) (valI d r.2))), y5, y6]) ∧ H5 = H4, ?_, ?_⟩
      · refine ⟨_, rfl, pd, _, 0, _, rfl, rfl, SqT.of (s34 _ _ hpd), at_of (j := 0) rfl rfl, _, rfl, ?_⟩
        cases hd1 : d.1 with
        | true =>
          have hwl2 := (dok.w hd1).1
          have gw : d.2.2[r.2]? = some (d.2.2[r.2]'(by omega)) := by simp
          have ev : valS (domOf d) (valI d r.2) = d.2.2[r.2]'(by omega) := by
            unfold domOf valI
            rw [if_pos hd1, if_pos hd1]
            show wordAt d.2.2 _ = _
            unfold wordAt
            rw [Int.toNat_natCast, getD_of gw]
          rw [ev]
          exact iteT ⟨_, rfl, pd, _, 2, _, rfl, rfl, SqT.of (s34 _ _ hpd), at_of (j := 2) rfl rfl, _, rfl, aw, _, _, _, rfl, rfl, SqL.of (s34 _ _ haw), atI_nat (by rw [List.getElem?_map, gw]; rfl), ⟨_, _, rfl⟩, rfl⟩
        | false =>
          have ev : valS (domOf d) (valI d r.2) = numS (d.2.1[r.2]'(by omega)) := by
            unfold domOf valI
            rw [if_neg (by rw [hd1]; exact Bool.false_ne_true), if_neg (by rw [hd1]; exact Bool.false_ne_true), getD_of gp]
            rfl
          rw [ev]
          exact iteF ⟨⟨_, _, rfl⟩, rfl⟩
      rintro σ H5 ⟨⟨y5, y6, rfl⟩, rfl⟩
      have hvl := hlr.2.2.2
      have hvl : (valS (domOf d) (valI d r.2)).length ≤ 100 := hvl
      refine ⟨_, rfl, .inl ⟨rfl, _, SqL.of hl4⟩, ⟨_, rfl⟩, _, rfl, _, D2, (lawR doms t.1 d r).1.map flS, rfl, rfl, .inl (SqL.of hD2), by omega, _, _, rfl, rfl, szb _ (by omega), _, _, rfl, rfl, szb _ (by simp only [app_len]; omega), _, rfl, _, _, rfl, rfl, szb _ (by simp only [app_len]; omega), l, _, _, rfl, rfl, hl4, ?_, ⟨_, _, _, _, _, _, _, rfl⟩, s34.mut nl0, ?_⟩
      · rw [List.length_map, List.length_cons, List.length_map, List.length_take]
        exact small1000 (by omega)
      · have e3 : "when " ++ Txt.join " | " ((lawR doms t.1 d r).1.map flS) ++ " -> " ++ valS (domOf d) (valI d r.2) = lnS (rowP (domOf d) (lawR doms t.1 d r)) := ext_tl (by rw [e1]; simp only [tl_append, List.append_assoc])
        rw [e3, take_snoc hr, upd_same]
        simp only [List.map_append, List.map_cons, List.map_nil, List.cons_append]
  · rintro σ H3 ⟨⟨y1, y2, y3, y4, y5, y6, y7, rfl⟩, s3, hl⟩
    rw [hrl, List.take_length] at hl
    refine ⟨_, rfl, k _ _ s3 ⟨l, _, rfl, at_cut (L.no nl0) hl, ?_⟩⟩
    have e : (tabP (lawT names f doms i t)).map lnS = lnS (headP (lawT names f doms i t)) :: (t.2.2.map fun r => lnS (rowP (domOf d) (lawR doms t.1 d r))) := by
      show lnS _ :: ((t.2.2.map (lawR doms t.1 (doms.getD (f + i) dfl))).map (rowP (domOf (doms.getD (f + i) dfl)))).map lnS = _
      rw [List.map_map, List.map_map, hgd]
      rfl
    rw [e]
    exact str_rs
end
end Rk
set_option Elab.async false
set_option linter.all false
set_option maxRecDepth 100000
set_option maxHeartbeats 1000000
namespace Rk
open PySem PySem.Spec PyProof.Rows L2
open TL
def tlN (names : List Str) (m : LM) (j : Nat) : List Str := (tabP (lawT names m.1 m.2.1 j (m.2.2.getD j ([], .first, [])))).map lnS
def accF (names : List Str) (m : LM) (turn : Int) (i : Nat) : List Str := if turn % 2 = 1 then (List.range i).reverse.flatMap (tlN names m) else (List.range i).flatMap (tlN names m)
theorem acc_succ (names : List Str) (m : LM) (turn : Int) (i : Nat) : accF names m turn (i + 1) = if turn % 2 = 1 then tlN names m i ++ accF names m turn i else accF names m turn i ++ tlN names m i := by
  unfold accF
  split
  · rw [List.range_succ, List.reverse_append]; rfl
  · rw [List.range_succ, List.flatMap_append, List.flatMap_cons, List.flatMap_nil, List.append_nil]
def abvF (names : List Str) (m : LM) : List Str := (List.range m.1).map fun k => lnS (factP (names.getD k "", domOf (m.2.1.getD k dfl)))
theorem law_lines (names : List Str) (m : LM) (turn : Int) : (srcP (lawSrc names m turn)).map lnS = if turn / 2 % 2 = 1 then accF names m turn m.2.2.length ++ abvF names m else abvF names m ++ accF names m turn m.2.2.length := by
  have e1 : ((lawSrc names m turn).facts.map factP).map lnS = abvF names m := by
    unfold lawSrc abvF
    rw [List.map_map, List.map_map]
    rfl
  have e2 : (tabsP (lawSrc names m turn).tabs).map lnS = accF names m turn m.2.2.length := by
    unfold tabsP accF
    rw [List.map_flatMap]
    show (if turn % 2 = 1 then (lawTs names m).reverse else lawTs names m).flatMap _ = _
    unfold lawTs
    split
    · rw [← List.map_reverse, List.flatMap_map]; rfl
    · rw [List.flatMap_map]; rfl
  unfold srcP
  have e3 : (lawSrc names m turn).low = decide (turn / 2 % 2 = 1) := rfl
  by_cases q : turn / 2 % 2 = 1
  · rw [if_pos q, e3, if_pos (decide_eq_true q), List.map_append, e1, e2]
  · rw [if_neg q, e3, if_neg (by rw [decide_eq_true_eq]; exact q), List.map_append, e1, e2]
section
variable {P : Program} {w : World} {K : PySem.W.Frag} {mg : Str → Option Value} {base : Heap}
abbrev n_law_text : List Str := ["names", "model", "turn", "facts", "doms", "tables", "above", "lines", "i", "k"]
theorem sc_law_text : FnScope n_law_text ["names", "model", "turn"] (defScope s_law_text) := ⟨rfl, rfl, rfl, by decide +kernel, rfl, by decide +kernel, by decide +kernel⟩
theorem ok_law_text (T : Tx K mg) : Def P w K mg base "_law_text" ["names", "model", "turn"] 4 (Sp3 (tLst tStr) tLM tInt tStr fun names m turn s => LMOk m ∧ names.length = 6 ∧ SrcOk (lawSrc names m turn) ∧ s = srcS (lawSrc names m turn)) := by
  refine ⟨?_, T.g_law_text, T.f_law_text.kp, T.f_law_text.bindsN fun _ _ _ _ _ _ us hl => match us, hl with | [_, _, _], _ => rfl⟩
  refine fn_body T.f_law_text sc_law_text (fun _ _ _ _ h => len3 h) fun cdv A outer s H vs Q E hr h => ?_
  obtain ⟨ls, v1, v2, v3, names, m, turn, s, rfl, L, rn0, ⟨pm, x1, x2, x3, rfl, hpm, e1, rdl, rtl⟩, rfl, ⟨ok, h6, sok, rfl⟩, k⟩ := h
  obtain rfl : x1 = .int (m.1 : Nat) := e1
  obtain ⟨an, un, rfl, han, rn⟩ := id rn0
  obtain ⟨ad, ud, rfl, had, rd⟩ := id rdl
  obtain ⟨at_, ut, rfl, hat, rt⟩ := id rtl
  have hpm := cut_at hpm
  have han := cut_at han
  have had := cut_at had
  have hat := cut_at hat
  obtain rfl := rs_str rn
  have e2 := rt.len
  have hf := ok.f
  have hn := ok.n
  have hdl := ok.len
  have hlines := src_lines sok
  have few := sok.few
  have eall := law_lines names m turn
  have d2 : CDiv turn 2 := ⟨by decide, by decide⟩
  have m2 : (0 : Int) < 2 := by decide
  have tsz : ∀ j, j < m.2.2.length → (tlN names m j).length ≤ 49 := by
    intro j hj
    have hjt : m.2.2[j]? = some m.2.2[j] := List.getElem?_eq_getElem hj
    have := (ok.tabs j _ hjt).most
    unfold tlN
    rw [getD_of hjt]
    unfold tabP lawT
    rw [List.length_map, List.length_cons, List.length_map, List.length_map]
    omega
  have hmemT : ∀ j, j < m.2.2.length → ∀ p ∈ tabP (lawT names m.1 m.2.1 j (m.2.2.getD j ([], .first, []))), p ∈ srcP (lawSrc names m turn) := by
    intro j hj p hp
    have ht : p ∈ tabsP (lawSrc names m turn).tabs := by
      refine List.mem_flatMap.mpr ⟨_, ?_, hp⟩
      have : lawT names m.1 m.2.1 j (m.2.2.getD j ([], .first, [])) ∈ lawTs names m := List.mem_map.mpr ⟨j, List.mem_range.mpr hj, rfl⟩
      show _ ∈ (if turn % 2 = 1 then (lawTs names m).reverse else lawTs names m)
      split
      · exact List.mem_reverse.mpr this
      · exact this
    unfold srcP
    split
    · exact List.mem_append_left _ ht
    · exact List.mem_append_right _ ht
  have hmemF : ∀ k, k < m.1 → factP (names.getD k "", domOf (m.2.1.getD k dfl)) ∈ srcP (lawSrc names m turn) := by
    intro k hk
    have hf : factP (names.getD k "", domOf (m.2.1.getD k dfl)) ∈ (lawSrc names m turn).facts.map factP := List.mem_map.mpr ⟨_, List.mem_map.mpr ⟨k, List.mem_range.mpr hk, rfl⟩, rfl⟩
    unfold srcP
    split
    · exact List.mem_append_right _ hf
    · exact List.mem_append_left _ hf
  refine ⟨_, pss_cons (ps_asg (pv 1) (pg_tup (by rfl) (pgs_cons (pg_name (i := 3) sc_law_text.nd rfl (.inl rfl)) (pgs_cons (pg_name (i := 4) sc_law_text.nd rfl (.inr rfl)) (pgs_cons (pg_name (i := 5) sc_law_text.nd rfl (.inl rfl)) pgs_nil)))))
  (pss_cons (ps_setLc (i := 6) (own := [("k", 9)]) (g := gName 9) rfl sc_law_text.nd rfl rfl (sw_true rfl rfl rfl (by decide +kernel)) (pi_range1 (by rfl) T.n_range (pa_cons (pv 3) pa_nil)) (blkOk_by (own := [("k", 9)]) (N := n_law_text) (sc := defScope s_law_text) (by decide +kernel)) (fun _ _ _ _ _ => (pg_name (i := 9) sc_law_text.nd rfl (.inl rfl))) (fun _ _ _ _ _ => pts_nil) (fun _ _ _ _ _ => (pe_op op_add_str (pe_op op_add_str (pe_op op_add_str pe_str (pe_ix (ixL (K := K)) (pv 0) (pv 9) (fun _ _ => rfl))) pe_str) (pe_cD (ok_law_domain_text T) hr (pa_cons (pe_ix (ixL (K := K)) (pv 4) (pv 9) (fun _ _ => rfl)) pa_nil)))))
  (pss_cons (ps_set (i := 7) sc_law_text.nd rfl (.inl rfl) (pe_lst pa_nil))
  (pss_cons (ps_for PassesOwn.never rfl (pi_range1 (by rfl) T.n_range (pa_cons (pe_callB call_len_seq (by rfl) T.n_len PySem.boot_len (pa_cons (pv 5) pa_nil)) pa_nil)) (pg_name (i := 8) sc_law_text.nd rfl (.inl rfl))
  (pss_one (ps_if (pt_cmpR op_eq (pe_op op_mod (pv 2) pe_int) pe_int (nomark _)) (pss_one (ps_set (i := 7) sc_law_text.nd rfl (.inl rfl) (pe_op op_cat (pe_cD (ok_law_table_lines T) hr (pa_cons (pv 0) (pa_cons (pv 3) (pa_cons (pv 4) (pa_cons (pv 5) (pa_cons (pv 8) pa_nil)))))) (pv 7)))) (pss_one (ps_set (i := 7) sc_law_text.nd rfl (.inl rfl) (pe_op op_cat (pv 7) (pe_cD (ok_law_table_lines T) hr (pa_cons (pv 0) (pa_cons (pv 3) (pa_cons (pv 4) (pa_cons (pv 5) (pa_cons (pv 8) pa_nil))))))))))))
  (pss_cons (ps_if (pt_cmpR op_eq (pe_op op_mod (pe_op op_fdiv (pv 2) pe_int) pe_int) pe_int (nomark _)) (pss_one (ps_ret (pe_join pe_str (pe_op op_cat (pv 7) (pv 6))))) pss_nil)
  (pss_one (ps_ret (pe_join pe_str (pe_op op_cat (pv 6) (pv 7))))))))), ?_⟩
  refine ⟨_, rfl, pm, _, rfl, SqT.of hpm, rfl, _, _, rfl, _, _, rfl, _, _, rfl, rfl, ?_⟩
  refine ⟨_, rfl, _, rfl, by omega, by omega, fun D nD => ?_⟩
  refine lc_map (walk_range (lo := 0)) (u := tStr) (ls := ls) (abvF names m) nD L (by omega) (by unfold abvF; rw [List.length_map, List.length_range]; omega) (fun _ _ => trivial) ?_ ?_
  · rintro q z y H4 H5 R hy s4 sc L2 ⟨rfl, rfl⟩ hR
    unfold abvF at hy
    rw [List.getElem?_map] at hy
    obtain ⟨q', hq', rfl⟩ := Option.map_eq_some_iff.mp hy
    obtain ⟨hq1, hq2⟩ := List.getElem?_eq_some_iff.mp hq'
    rw [List.getElem_range] at hq2
    subst hq2
    rw [List.length_range] at hq1
    have hnq : names[q]? = some (names[q]'(by omega)) := by simp
    have hdq : m.2.1[q]? = some (m.2.1[q]'(by omega)) := by simp
    obtain ⟨vq, hvq, rvq⟩ := rd.at_ hdq
    have dokq := ok.doms _ (List.mem_of_getElem? hdq)
    have hz := ln_len (hlines _ (hmemF q hq1)).1
    rw [getD_of hnq, getD_of hdq] at hR hz
    have ez : lnS (factP ((names[q]'(by omega)), domOf (m.2.1[q]'(by omega)))) = "fact " ++ ((names[q]'(by omega)) ++ " " ++ domS (domOf (m.2.1[q]'(by omega)))) := rfl
    rw [ez] at hR hz
    simp only [app_len] at hz
    refine ⟨rfl, _, rfl, _, rfl, an, _, _, _, rfl, rfl, SqL.of (s4 _ _ han), at_of (j := q) (by omega) (by rw [List.getElem?_map, hnq]; rfl), _, _, rfl, rfl, szb _ (by omega), _, _, rfl, rfl, szb _ (by simp only [app_len]; omega), ?_⟩
    refine ⟨_, rfl, _, rfl, ad, _, _, _, rfl, rfl, SqL.of (s4 _ _ had), at_of (j := q) (by omega) hvq, ?_⟩
    refine ⟨_, _, _, _, rfl, L2, tLD.mono sc rvq, ⟨dokq, rfl⟩, fun H6 w6 s6 e6 => ?_⟩
    obtain rfl : w6 = .str (domS (domOf (m.2.1[q]'(by omega)))) := e6
    refine ⟨_, _, rfl, rfl, szb _ (by simp only [app_len]; omega), hR _ _ s6 ?_⟩
    refine congrArg V.str (ext_tl ?_)
    simp only [tl_append, List.append_assoc]
  intro H1 s1 rA
  refine ⟨Nat.zero_le _, fun l nl => ?_⟩
  have s2 := s1.trans (Same.upd (o := .lst []) nl)
  refine ⟨_, rfl, at_, _, rfl, .inl (SqL.of (s2 _ _ hat)), _, rfl, by omega, by omega, ?_⟩
  refine for_range (lo := 0) (fun i σ H' => (∃ vl y1 y2, σ = [some (.ref an), some (.ref pm), some (.int turn), some (.int (m.1 : Nat)), some (.ref ad), some (.ref at_), some (.ref D), some vl, y1, y2] ∧ (tLst tStr).rep (cut H' ls) vl (accF names m turn i)) ∧ Same H1 H' ∧ (accF names m turn i).length ≤ 49 * i) ⟨⟨.ref l, _, _, rfl, l, [], rfl, at_cut (L.no (s1.free nl)) upd_same, by unfold accF; split <;> exact trivial⟩, Same.upd nl, by unfold accF; split <;> exact Nat.le_refl _⟩ ?_ ?_
  · rintro i σ H4 hi ⟨⟨vl, y1, y2, rfl, rl⟩, s4, hsz⟩
    have hin : i < m.2.2.length := by omega
    have hti : m.2.2[i]? = some m.2.2[i] := List.getElem?_eq_getElem hin
    have s14 := s1.trans s4
    have hts := tsz i hin
    have es := acc_succ names m turn i
    have call : ∀ (H5 : Hp) (s5 : Same H4 H5) (Q' : VK), (∀ H' w, Same H5 H' → (tLst tStr).rep (cut H' ls) w (tlN names m i) → Q' w H') → Sp5 (tLst tStr) tNat (tLst tLD) (tLst tLT) tNat (tLst tStr) (fun names f doms tabs i r => LMOk (f, doms, tabs) ∧ names.length = 6 ∧ ∃ t, tabs[i]? = some t ∧ (∀ p ∈ tabP (lawT names f doms i t), LnOk p) ∧ r = (tabP (lawT names f doms i t)).map lnS) [.ref an, .int (m.1 : Nat), .ref ad, .ref at_, .int (0 + ((i : Nat) : Int))] H5 Q' E0 := fun H5 s5 Q' k' => by
      have s15 := (s14.trans s5).cut (ls := ls)
      refine ⟨ls, _, _, _, _, _, names, m.1, m.2.1, m.2.2, i, _, rfl, L.to (s14.trans s5), (tLst tStr).mono s15 rn0, rfl, (tLst tLD).mono s15 rdl, (tLst tLT).mono s15 rtl, by show V.int _ = V.int _; rw [Int.zero_add], ⟨ok, h6, _, hti, fun p hp => ?_, rfl⟩, fun H' w s6 r6 => k' H' w s6 ?_⟩
      · refine (hlines p (hmemT i hin p ?_)).1
        rw [getD_of hti]; exact hp
      · unfold tlN
        rw [getD_of hti]; exact r6
    refine ⟨_, rfl, _, _, rfl, rfl, m2, rfl, _, rfl, ?_⟩
    refine ite2 (fun c => ?_) (fun c => ?_)
    · have c := V.int.inj (ydec c)
      rw [if_pos c] at es
      refine ⟨_, rfl, _, rfl, _, rfl, _, rfl, _, rfl, call _ (Same.refl _) _ fun H5 w5 s5 r5 => ?_⟩
      obtain ⟨aw, uw, rfl, haw, ruw⟩ := r5
      obtain ⟨al, ul, rfl, hal, rul⟩ := (tLst tStr).mono s5.cut rl
      have g1 := ruw.len
      have g2 := rul.len
      refine ⟨_, rfl, aw, al, _, _, rfl, rfl, cut_at haw, cut_at hal, szb _ (by omega), fun q nq => ⟨⟨.ref q, _, _, rfl, q, _, rfl, at_cut (L.no ((s14.trans s5).free nq)) upd_same, ?_⟩, s4.trans (s5.trans (Same.upd nq)), ?_⟩⟩
      · rw [es]; exact (ruw.app rul).mono (Same.upd nq).cut
      · rw [es, List.length_append]; omega
    · have c : ¬ turn % 2 = 1 := fun z => ndec c (congrArg V.int z)
      rw [if_neg c] at es
      refine ⟨_, rfl, _, rfl, _, rfl, _, rfl, _, rfl, _, rfl, call _ (Same.refl _) _ fun H5 w5 s5 r5 => ?_⟩
      obtain ⟨aw, uw, rfl, haw, ruw⟩ := r5
      obtain ⟨al, ul, rfl, hal, rul⟩ := (tLst tStr).mono s5.cut rl
      have g1 := ruw.len
      have g2 := rul.len
      refine ⟨al, aw, _, _, rfl, rfl, cut_at hal, cut_at haw, szb _ (by omega), fun q nq => ⟨⟨.ref q, _, _, rfl, q, _, rfl, at_cut (L.no ((s14.trans s5).free nq)) upd_same, ?_⟩, s4.trans (s5.trans (Same.upd nq)), ?_⟩⟩
      · rw [es]; exact (rul.app ruw).mono (Same.upd nq).cut
      · rw [es, List.length_append]; omega
  · rintro σ H4 ⟨⟨vl, y1, y2, rfl, rl⟩, s4, hsz⟩
    have en : (((ut.length : Nat) : Int)).toNat = m.2.2.length := by omega
    rw [en] at rl hsz
    have s14 := s1.trans s4
    obtain ⟨aA, uA, e, hA, rA⟩ := (tLst tStr).mono s4.cut rA
    cases e
    obtain ⟨al, ul, rfl, hal, rul⟩ := rl
    obtain rfl := rs_str rA
    obtain rfl := rs_str rul
    have hmem : ∀ x ∈ (srcP (lawSrc names m turn)).map lnS, x.length ≤ 60000 := by
      intro x hx
      obtain ⟨p, hp, rfl⟩ := List.mem_map.mp hx
      exact ln_len (hlines p hp).1
    have hj := join_le "\n" hmem
    have hmm : ((srcP (lawSrc names m turn)).map lnS).length * (60000 + ("\n" : Str).length) ≤ 200 * 60001 := Nat.mul_le_mul (by rw [List.length_map]; exact few) (by decide +kernel)
    have hab : (abvF names m).length ≤ 3 := by unfold abvF; rw [List.length_map, List.length_range]; omega
    refine ⟨_, rfl, _, _, rfl, rfl, d2, _, _, rfl, rfl, m2, rfl, _, rfl, ?_⟩
    refine ite2 (fun c => ?_) (fun c => ?_)
    · have c := V.int.inj (ydec c)
      rw [if_pos c] at eall
      refine ⟨⟨_, rfl⟩, _, rfl, _, rfl, al, D, _, _, rfl, rfl, cut_at hal, cut_at hA, szb _ (by rw [List.length_map, List.length_map]; omega), fun q nq => ⟨_, q, accF names m turn m.2.2.length ++ abvF names m, rfl, rfl, .inl (SqL.of (by rw [upd_same, List.map_append])), by rw [← eall]; omega, k _ _ (s14.trans (Same.upd nq)) ?_⟩⟩
      show V.str _ = V.str (Txt.join "\n" _)
      rw [eall]
    · have c : ¬ turn / 2 % 2 = 1 := fun z => ndec c (congrArg V.int z)
      rw [if_neg c] at eall
      refine ⟨⟨_, rfl⟩, _, rfl, _, rfl, D, al, _, _, rfl, rfl, cut_at hA, cut_at hal, szb _ (by rw [List.length_map, List.length_map]; omega), fun q nq => ⟨_, q, abvF names m ++ accF names m turn m.2.2.length, rfl, rfl, .inl (SqL.of (by rw [upd_same, List.map_append])), by rw [← eall]; omega, k _ _ (s14.trans (Same.upd nq)) ?_⟩⟩
      show V.str _ = V.str (Txt.join "\n" _)
      rw [eall]
end
end Rk
set_option Elab.async false
set_option linter.all false
set_option maxRecDepth 100000
set_option maxHeartbeats 1000000
namespace Rk
open PySem PySem.Spec PyProof.Rows L2
open TL
def valueF (d : LD) (k : Nat) (e : Int) : RVal := if d.1 = true then .str (d.2.2.getD k "") else .int (d.2.1.getD k 0 + e % (d.2.1.getD (k + 1) 0 - d.2.1.getD k 0))
def fitB (r : LR) (spot : List Nat) : Bool := (List.range spot.length).all fun k => bitN (r.1.getD k 0) (spot.getD k 0)
def fitF (rows : List LR) (spot : List Nat) : List Nat := (rows.filter fun r => fitB r spot).map (·.2)
def fitP (r : LR) (spot : List Nat) (i : Nat) : Bool := (List.range i).all fun k => bitN (r.1.getD k 0) (spot.getD k 0)
theorem fitP_succ (r : LR) (spot : List Nat) (i : Nat) : fitP r spot (i + 1) = (fitP r spot i && bitN (r.1.getD i 0) (spot.getD i 0)) := by
  unfold fitP
  rw [List.range_succ, List.all_append]
  simp
section
variable {P : Program} {w : World} {K : PySem.W.Frag} {mg : Str → Option Value} {base : Heap}
abbrev n_law_value : List Str := ["dom", "k", "extra"]
theorem sc_law_value : FnScope n_law_value ["dom", "k", "extra"] (defScope s_law_value) := ⟨rfl, rfl, rfl, by decide +kernel, rfl, by decide +kernel, by decide +kernel⟩
theorem ok_law_value (T : Tx K mg) : Def P w K mg base "_law_value" ["dom", "k", "extra"] 1 (Sp3 tLD tNat tInt tVal fun d k e r => LDOk d ∧ k + 1 < d.2.1.length ∧ r = valueF d k e) := by
  refine ⟨?_, T.g_law_value, T.f_law_value.kp, T.f_law_value.bindsN fun _ _ _ _ _ _ us hl => match us, hl with | [_, _, _], _ => rfl⟩
  refine fn_body T.f_law_value sc_law_value (fun _ _ _ _ h => len3 h) fun cdv A outer s H vs Q E hr h => ?_
  obtain ⟨ls, v, vk, ve, d, kk, e, r, rfl, L, ⟨p, v1, v2, v3, rfl, hp, e1, ⟨ap, up, e2, hap, rp⟩, ⟨aw, uw, e3, haw, rw_⟩⟩, rfl, rfl, ⟨ok, hk, rfl⟩, k⟩ := h
  obtain rfl : v1 = .bl d.1 := e1
  obtain rfl : v2 = .ref ap := e2
  obtain rfl : v3 = .ref aw := e3
  have hp := cut_at hp
  have hap := cut_at hap
  have haw := cut_at haw
  obtain rfl := rs_int rp
  obtain rfl := rs_str rw_
  unfold valueF at k
  have hk0 : kk < d.2.1.length := by omega
  have g0 : d.2.1[kk]? = some d.2.1[kk] := List.getElem?_eq_getElem hk0
  have g1 : d.2.1[kk + 1]? = some d.2.1[kk + 1] := List.getElem?_eq_getElem hk
  have hlt : d.2.1[kk] < d.2.1[kk + 1] := List.pairwise_iff_getElem.mp ok.asc kk (kk + 1) hk0 hk (by omega)
  rw [getD_of g0, getD_of g1] at k
  have at0 : atI (d.2.1.map V.int) (kk : Nat) = some (.int d.2.1[kk]) := atI_nat (by rw [List.getElem?_map, g0]; rfl)
  have at1 : atI (d.2.1.map V.int) ((kk : Nat) + 1) = some (.int d.2.1[kk + 1]) := at_of (j := kk + 1) (by omega) (by rw [List.getElem?_map, g1]; rfl)
  generalize d.2.1[kk] = x0 at g0 at0 k hlt
  generalize d.2.1[kk + 1] = x1 at g1 at1 k hlt
  refine ⟨_, pss_cons (ps_if (pt_val (pe_ix ix_tup (pv 0) pe_int (fun _ _ => rfl))) (pss_one (ps_ret (pe_ix ix_list (pe_ix ix_tup (pv 0) pe_int (fun _ _ => rfl)) (pv 1) (fun _ _ => rfl)))) pss_nil)
  (pss_one (ps_ret (pe_op op_add (pe_ix ix_list (pe_ix ix_tup (pv 0) pe_int (fun _ _ => rfl)) (pv 1) (fun _ _ => rfl)) (pe_op op_mod (pv 2) (pe_op op_sub (pe_ix ix_list (pe_ix ix_tup (pv 0) pe_int (fun _ _ => rfl)) (pe_op op_add (pv 1) pe_int) (fun _ _ => rfl)) (pe_ix ix_list (pe_ix ix_tup (pv 0) pe_int (fun _ _ => rfl)) (pv 1) (fun _ _ => rfl))))))), ?_⟩
  refine ⟨_, rfl, p, _, 0, _, rfl, rfl, SqT.of hp, at_of (j := 0) rfl rfl, _, rfl, ?_⟩
  cases hd : d.1 with
  | true =>
    have hwl := (ok.w hd).1
    have gw : d.2.2[kk]? = some (d.2.2[kk]'(by omega)) := by simp
    rw [if_pos hd, getD_of gw] at k
    exact iteT ⟨_, rfl, p, _, 2, _, rfl, rfl, SqT.of hp, at_of (j := 2) rfl rfl, _, rfl, aw, _, _, _, rfl, rfl, SqL.of haw, atI_nat (by rw [List.getElem?_map, gw]; rfl), k _ _ (Same.refl _) rfl⟩
  | false =>
    rw [if_neg (by rw [hd]; exact Bool.false_ne_true)] at k
    exact iteF ⟨_, rfl, p, _, 1, _, rfl, rfl, SqT.of hp, at_of (j := 1) rfl rfl, _, rfl, ap, _, _, _, rfl, rfl, SqL.of hap, at0, _, rfl, _, rfl, p, _, 1, _, rfl, rfl, SqT.of hp, at_of (j := 1) rfl rfl, _, rfl, _, _, rfl, rfl, ap, _, _, _, rfl, rfl, SqL.of hap, at1, _, rfl, p, _, 1, _, rfl, rfl, SqT.of hp, at_of (j := 1) rfl rfl, _, rfl, ap, _, _, _, rfl, rfl, SqL.of hap, at0, _, _, rfl, rfl, _, _, rfl, rfl, (show (0 : Int) < x1 - x0 by omega), _, _, rfl, rfl, k _ _ (Same.refl _) rfl⟩
abbrev n_law_whole : List Str := ["found"]
theorem sc_law_whole : FnScope n_law_whole ["found"] (defScope s_law_whole) := ⟨rfl, rfl, rfl, by decide +kernel, rfl, by decide +kernel, by decide +kernel⟩
theorem ok_law_whole (T : Tx K mg) : Def P w K mg base "_law_whole" ["found"] 1 (Sp1 tInt tBool fun _ r => r = true) := by
  refine ⟨?_, T.g_law_whole, T.f_law_whole.kp, T.f_law_whole.bindsN fun _ _ _ _ _ _ us hl => match us, hl with | [_], _ => rfl⟩
  refine fn_body T.f_law_whole sc_law_whole (fun _ _ _ _ h => len1 h) fun cdv A outer s H vs Q E hr h => ?_
  obtain ⟨ls, v, n, r, rfl, L, rfl, rfl, k⟩ := h
  refine ⟨_, pss_one (ps_ret (pe_and (pe_callB call_isi (by rfl) T.n_isinstance (by decide +kernel) (pa_cons (pv 0) (pa_cons (pe_bltn (v := .ty "int") (by rfl) T.n_int (by decide +kernel) rfl) pa_nil))) (pe_one (pe_not (pe_callB call_isi (by rfl) T.n_isinstance (by decide +kernel) (pa_cons (pv 0) (pa_cons (pe_bltn (v := .ty "bool") (by rfl) T.n_bool (by decide +kernel) rfl) pa_nil))))))), ?_⟩
  refine ⟨_, rfl, _, _, _, _, _, rfl, .ty _, .base (.int n), kit_ty (a := "int") (b := "int") (r := true) (by decide +kernel), _, rfl, iteT ?_⟩
  exact ⟨_, rfl, _, _, _, _, _, rfl, .ty _, .base (.int n), kit_ty (a := "int") (b := "bool") (r := false) (by decide +kernel), _, rfl, k _ _ (Same.refl _) rfl⟩
abbrev n_law_fitting : List Str := ["rows", "spot", "told", "bits", "code", "good", "k"]
theorem sc_law_fitting : FnScope n_law_fitting ["rows", "spot"] (defScope s_law_fitting) := ⟨rfl, rfl, rfl, by decide +kernel, rfl, by decide +kernel, by decide +kernel⟩
theorem ok_law_fitting (T : Tx K mg) : Def P w K mg base "_law_fitting" ["rows", "spot"] 1 (Sp2 (tLst tLR) (tLst tNat) (tLst tNat) fun rows spot r => rows.length ≤ 100 ∧ spot.length ≤ 100 ∧ (∀ x ∈ rows, x.1.length = spot.length) ∧ r = fitF rows spot) := by
  refine ⟨?_, T.g_law_fitting, T.f_law_fitting.kp, T.f_law_fitting.bindsN fun _ _ _ _ _ _ us hl => match us, hl with | [_, _], _ => rfl⟩
  refine fn_body T.f_law_fitting sc_law_fitting (fun _ _ _ _ h => len2 h) fun cdv A outer s H vs Q E hr h => ?_
  obtain ⟨ls, v, vs, rows, spot, r, rfl, L, ⟨ar, ur, rfl, har, rr⟩, ⟨as_, us, rfl, has, rs⟩, ⟨h100, h101, hlen, rfl⟩, k⟩ := h
  have har := cut_at har
  have has := cut_at has
  obtain rfl := rs_nat rs
  have e1 := rr.len
  refine ⟨_, pss_cons (ps_set (i := 2) sc_law_fitting.nd rfl (.inl rfl) (pe_lst pa_nil))
  (pss_cons (ps_for PassesOwn.never rfl (pi_list (pv 0)) (pg_tup (by rfl) (pgs_cons (pg_name (i := 3) sc_law_fitting.nd rfl (.inl rfl)) (pgs_cons (pg_name (i := 4) sc_law_fitting.nd rfl (.inl rfl)) pgs_nil)))
  (pss_cons (ps_set (i := 5) sc_law_fitting.nd rfl (.inl rfl) pe_bl)
  (pss_cons (ps_for PassesOwn.never rfl (pi_range1 (by rfl) T.n_range (pa_cons (pe_callB call_len_seq (by rfl) T.n_len PySem.boot_len (pa_cons (pv 1) pa_nil)) pa_nil)) (pg_name (i := 6) sc_law_fitting.nd rfl (.inl rfl))
  (pss_one (ps_if (pt_cmpR op_eq (pe_op op_and (pe_op op_shr (pe_ix ix_list (pv 3) (pv 6) (fun _ _ => rfl)) (pe_ix ix_list (pv 1) (pv 6) (fun _ _ => rfl))) pe_int) pe_int (nomark _)) (pss_one (ps_set (i := 5) sc_law_fitting.nd rfl (.inl rfl) pe_bl)) pss_nil)))
  (pss_one (ps_if (pt_val (pv 5)) (pss_one (ps_expr (pe_bm PySem.F.plainAttrs_list PySem.F.slot_list_append PySem.F.type_list_append mt_append (pv 2) (pa_cons (pv 4) pa_nil)))) pss_nil)))))
  (pss_one (ps_ret (pv 2)))), ?_⟩
  refine ⟨Nat.zero_le _, fun l nl => ?_⟩
  have s0 : Same H (upd H l (.lst [])) := Same.upd nl
  refine ⟨_, rfl, ar, rfl, ⟨_, SqL.of (s0 _ _ har)⟩, for_list (K := K) (a := ar) (xs := ur) (fun i σ H' => (∃ a b c d, σ = [some (.ref ar), some (.ref as_), some (.ref l), a, b, c, d]) ∧ Same H H' ∧ H' l = some (.lst ((fitF (rows.take i) spot).map fun n => V.int (n : Nat))) ∧ (fitF (rows.take i) spot).length ≤ i) ⟨⟨_, _, _, _, rfl⟩, s0, by rw [List.take_zero]; exact upd_same, by rw [List.take_zero]; exact Nat.le_refl _⟩ (fun i σ H' _ p => SqL.of (p.2.1 _ _ har)) ?_ ?_⟩
  · rintro i x σ H1 hx ⟨⟨a, b, c, d, rfl⟩, s1, hl, hsz⟩
    obtain ⟨row, hrow, pr, u1, u2, rfl, hpr, ⟨ab, ub, rfl, hab, rb⟩, ec⟩ := rr.get hx
    obtain rfl : u2 = .int (row.2 : Nat) := ec
    have hi := (List.getElem?_eq_some_iff.mp hrow).1
    have hpr := s1 _ _ (cut_at hpr)
    have hab := s1 _ _ (cut_at hab)
    obtain rfl := rs_nat rb
    have hbl := hlen row (List.mem_of_getElem? hrow)
    refine ⟨pr, _, rfl, SqT.of hpr, rfl, _, _, rfl, _, _, rfl, rfl, ?_⟩
    refine ⟨_, rfl, as_, _, rfl, .inl (SqL.of (s1 _ _ has)), _, rfl, by rw [List.length_map]; omega, by rw [List.length_map]; omega, ?_⟩
    refine for_range (lo := 0) (fun j σ H' => (∃ d, σ = [some (.ref ar), some (.ref as_), some (.ref l), some (.ref ab), some (.int (row.2 : Nat)), some (.bl (fitP row spot j)), d]) ∧ H' = H1) ⟨⟨_, rfl⟩, rfl⟩ ?_ ?_
    · rintro j σ H2 hj ⟨⟨d, rfl⟩, rfl⟩
      rw [List.length_map, Int.toNat_natCast] at hj
      have g1 : row.1[j]? = some (row.1[j]'(by omega)) := by simp
      have g2 : spot[j]? = some (spot[j]'(by omega)) := by simp
      have es := fitP_succ row spot j
      rw [getD_of g1, getD_of g2] at es
      refine ⟨_, rfl, _, rfl, ab, _, _, _, rfl, rfl, SqL.of hab, at_of (j := j) (by omega) (by rw [List.getElem?_map, g1]; first | done | rfl), _, rfl, _, rfl, as_, _, _, _, rfl, rfl, SqL.of (s1 _ _ has), at_of (j := j) (by omega) (by rw [List.getElem?_map, g2]; first | done | rfl), _, _, rfl, rfl, Int.natCast_nonneg _, _, _, rfl, rfl, rfl, _, rfl, ?_⟩
      show if decide (V.int (Builtin.bitAnd (((row.1[j]'(by omega) : Nat) : Int) / 2 ^ (((spot[j]'(by omega) : Nat) : Int)).toNat) 1) = V.int 0) = true then _ else _
      rw [bit_and]
      generalize row.1[j]'(by omega) = bb at es ⊢
      generalize spot[j]'(by omega) = ss at es ⊢
      refine ite2 (fun q => ?_) (fun q => ?_)
      · have q := V.int.inj (ydec q)
        refine ⟨⟨some (.int (0 + ((j : Nat) : Int))), ?_⟩, rfl⟩
        rw [es, show bitN bb ss = false from decide_eq_false (by omega), Bool.and_false]
        rfl
      · have q : ¬ ((bb / 2 ^ ss % 2 : Nat) : Int) = 0 := fun z => ndec q (congrArg V.int z)
        refine ⟨⟨some (.int (0 + ((j : Nat) : Int))), ?_⟩, rfl⟩
        rw [es, show bitN bb ss = true from decide_eq_true (by omega), Bool.and_true]
        rfl
    · rintro σ H2 ⟨⟨d, rfl⟩, rfl⟩
      have e : fitP row spot ((((spot.map fun n => V.int ((n : Nat) : Int)).length : Nat) : Int)).toNat = fitB row spot := by
        rw [List.length_map, Int.toNat_natCast]; rfl
      rw [e]
      have et : fitF (rows.take (i + 1)) spot = fitF (rows.take i) spot ++ (if fitB row spot = true then [row.2] else []) := by
        unfold fitF
        rw [take_snoc hrow, List.filter_append, List.map_append]
        congr 1
        cases hb : fitB row spot with
        | true => simp [hb]
        | false => simp [hb]
      refine ⟨_, rfl, _, rfl, ?_⟩
      cases hb : fitB row spot with
      | true =>
        rw [hb, if_pos rfl] at et
        refine iteT ⟨_, rfl, .inl ⟨rfl, _, SqL.of hl⟩, _, rfl, l, _, _, rfl, rfl, hl, by rw [List.length_map]; exact szl _ (by omega), ⟨_, _, _, _, rfl⟩, s1.mut nl, ?_, ?_⟩
        · rw [et, List.map_append]; exact upd_same
        · rw [et, List.length_append]; exact Nat.succ_le_succ hsz
      | false =>
        rw [hb, if_neg Bool.false_ne_true, List.append_nil] at et
        exact iteF ⟨⟨_, _, _, _, rfl⟩, s1, by rw [et]; exact hl, by rw [et]; omega⟩
  · rintro σ H1 ⟨⟨a, b, c, d, rfl⟩, s1, hl, hsz⟩
    rw [e1, List.take_length] at hl
    exact ⟨_, rfl, k _ _ s1 ⟨l, _, rfl, at_cut (L.no nl) hl, nat_rs⟩⟩
end
end Rk
set_option Elab.async false
set_option linter.all false
set_option maxRecDepth 100000
set_option maxHeartbeats 1000000
namespace Rk
open PySem PySem.Spec PyProof.Rows L2
open TL
theorem clamp_mm {lo hi z : Int} (h : lo ≤ hi) : (if (if z < hi then z else hi) > lo then (if z < hi then z else hi) else lo) = clampF lo hi z := by
  unfold clampF
  split <;> split <;> split <;> split <;> omega
theorem like_mm {c0 : Int} {cs : List Int} {m M : Int} (hm : m ∈ c0 :: cs) (hle : ∀ y ∈ c0 :: cs, m ≤ y) (hM : M ∈ c0 :: cs) (hge : ∀ y ∈ c0 :: cs, y ≤ M) : ((c0 :: cs).all fun c => decide (c = c0)) = decide (m = M) := by
  rw [Bool.eq_iff_iff, List.all_eq_true, decide_eq_true_eq]
  constructor
  · intro h
    have a := of_decide_eq_true (h m hm)
    have b := of_decide_eq_true (h M hM)
    rw [a, b]
  · intro e c hc
    have h1 := hle c hc
    have h2 := hge c hc
    have h3 := hle c0 List.mem_cons_self
    have h4 := hge c0 List.mem_cons_self
    exact decide_eq_true (by omega)
def verD (v : Ver) : PyData := .tuple [.str v.1, .int v.2]
theorem dp_ver {K : PySem.W.Frag} {H : Hp} {x : V} {v : Ver} (h : tVer.rep H x v) : Dp K H x (verD v) := by
  obtain ⟨t, u1, u2, rfl, ht, rfl, rfl⟩ := h
  exact .tup (SqT.of ht) (.cons (.str _) (.cons (.int _) .nil))
theorem eqv_ver (v : Ver) : PyData.eqv (verD v) (verD v) = true := by
  show ((v.1 == v.1) && ((v.2 == v.2) && true)) = true
  simp
theorem shaped_ver {v : Ver} (h : v.1 = "say" ∨ v.1 = "none" ∨ v.1 = "clash") : SeqAt.shaped (verD v) = true := by
  have e : PyData.strOk v.1 = true := by rcases h with e | e | e <;> rw [e] <;> decide +kernel
  unfold SeqAt.shaped
  refine Bool.and_eq_true_iff.mpr ⟨?_, decide_eq_true ?_⟩
  · show (PyData.strOk v.1 && _) = true
    rw [e]; rfl
  · exact Nat.le_of_ble_eq_true rfl
section
variable {P : Program} {w : World} {K : PySem.W.Frag} {mg : Str → Option Value} {base : Heap}
abbrev n_law_due : List Str := ["codes", "way", "points"]
theorem sc_law_due : FnScope n_law_due ["codes", "way", "points"] (defScope s_law_due) := ⟨rfl, rfl, rfl, by decide +kernel, rfl, by decide +kernel, by decide +kernel⟩
theorem ok_law_due (T : Tx K mg) : Def P w K mg base "_law_due" ["codes", "way", "points"] 1 (Sp3 (tLst tInt) tWy (tLst tInt) tVer fun cs y pts r => pts ≠ [] ∧ pts.headD 0 ≤ pts.getLastD 0 - 1 ∧ r = verdictF y cs (pts.headD 0) (pts.getLastD 0 - 1)) := by
  refine ⟨?_, T.g_law_due, T.f_law_due.kp, T.f_law_due.bindsN fun _ _ _ _ _ _ us hl => match us, hl with | [_, _, _], _ => rfl⟩
  refine fn_body T.f_law_due sc_law_due (fun _ _ _ _ h => len3 h) fun cdv A outer s H vs Q E hr h => ?_
  obtain ⟨ls, v, vy, vp, cs, y, pts, r, rfl, L, ⟨l, us, rfl, hl, rs⟩, rfl, ⟨ap, up, rfl, hap, rp⟩, ⟨hne, hle, rfl⟩, k⟩ := h
  have hl := cut_at hl
  have hap := cut_at hap
  obtain rfl := rs_int rs
  obtain rfl := rs_int rp
  have at0 : atI (pts.map V.int) 0 = some (.int (pts.headD 0)) := by
    cases pts with
    | nil => exact absurd rfl hne
    | cons a r => exact at_of (j := 0) rfl rfl
  have at1 : atI (pts.map V.int) (-1) = some (.int (pts.getLastD 0)) := by
    rcases List.eq_nil_or_concat pts with e | ⟨t, x, e⟩
    · exact absurd e hne
    · rw [e, List.concat_eq_append, List.map_append]
      have : (t ++ [x]).getLastD 0 = x := by rw [List.getLastD_eq_getLast?, List.getLast?_concat]; rfl
      rw [this]
      exact atI_last _ _
  generalize pts.headD 0 = lo at at0 k hle
  generalize pts.getLastD 0 = hi at at1 k hle
  have k : ∀ H' w, Same H H' → tVer.rep (cut H' ls) w (verdictF y cs lo (hi - 1)) → Q w H' := k
  unfold verdictF at k
  refine ⟨_, pss_cons (ps_if (pt_cmpR op_eq (pe_callB call_len_seq (by rfl) T.n_len PySem.boot_len (pa_cons (pv 0) pa_nil)) pe_int (nomark _)) (pss_one (ps_ret (pe_tup (pa_cons pe_str (pa_cons pe_int pa_nil))))) pss_nil)
  (pss_cons (ps_if (pt_cmpR op_eq (pv 1) pe_str (nomark _)) (pss_one (ps_ret (pe_tup (pa_cons pe_str (pa_cons (pe_callB (cr_min rfl) (by rfl) T.n_min (by decide +kernel) (pa_cons (pv 0) pa_nil)) pa_nil))))) pss_nil)
  (pss_cons (ps_if (pt_cmpR op_eq (pv 1) pe_str (nomark _)) (pss_one (ps_ret (pe_tup (pa_cons pe_str (pa_cons (pe_callB (cr_max rfl) (by rfl) T.n_max (by decide +kernel) (pa_cons (pv 0) pa_nil)) pa_nil))))) pss_nil)
  (pss_cons (ps_if (pt_cmpR op_eq (pv 1) pe_str (nomark _)) (pss_one (ps_ret (pe_tup (pa_cons pe_str (pa_cons (pe_callB (call_max2 rfl) (by rfl) T.n_max (by decide +kernel) (pa_cons (pe_ix ix_list (pv 2) pe_int (fun _ _ => rfl)) (pa_cons (pe_callB (call_min2 rfl) (by rfl) T.n_min (by decide +kernel) (pa_cons (pe_op op_sub (pe_ix ix_list (pv 2) (pe_un un_neg pe_int) (fun _ _ => rfl)) pe_int) (pa_cons (pe_callB (cr_sum rfl) (by rfl) T.n_sum (by decide +kernel) (pa_cons (pv 0) pa_nil)) pa_nil))) pa_nil))) pa_nil))))) pss_nil)
  (pss_cons (ps_if (PW.pt (pw_and (pt_cmpR op_eq (pv 1) pe_str (nomark _)) (pw_and1 (pt_cmpR op_gt (pe_callB call_len_seq (by rfl) T.n_len PySem.boot_len (pa_cons (pv 0) pa_nil)) pe_int (nomark _))))) (pss_one (ps_ret (pe_tup (pa_cons pe_str (pa_cons pe_int pa_nil))))) pss_nil)
  (pss_cons (ps_if (PW.pt (pw_and (pt_cmpR op_eq (pv 1) pe_str (nomark _)) (pw_and1 (pt_cmpR op_ne (pe_callB (cr_min rfl) (by rfl) T.n_min (by decide +kernel) (pa_cons (pv 0) pa_nil)) (pe_callB (cr_max rfl) (by rfl) T.n_max (by decide +kernel) (pa_cons (pv 0) pa_nil)) (nomark _))))) (pss_one (ps_ret (pe_tup (pa_cons pe_str (pa_cons pe_int pa_nil))))) pss_nil)
  (pss_one (ps_ret (pe_tup (pa_cons pe_str (pa_cons (pe_ix ix_list (pv 0) pe_int (fun _ _ => rfl)) pa_nil)))))))))), ?_⟩
  refine ⟨_, rfl, l, _, rfl, .inl (SqL.of hl), rfl, _, rfl, ?_⟩
  cases cs with
  | nil =>
    rw [if_pos (show ([] : List Int).length = 0 from rfl)] at k
    exact ifY rfl ⟨szl 2, say_new L k⟩
  | cons c0 cs =>
  rw [if_neg (show ¬ (c0 :: cs).length = 0 from Nat.succ_ne_zero _)] at k
  have n0 : ¬ V.int ((((c0 :: cs).map V.int).length : Nat) : Int) = V.int 0 := fun z => by
    have := V.int.inj z
    rw [List.length_map, List.length_cons] at this
    omega
  refine ifN n0 ?_
  have h0 : atI ((c0 :: cs).map V.int) 0 = some (.int c0) := at_of (j := 0) rfl rfl
  cases y with
  | low =>
    refine ⟨_, rfl, rfl, _, rfl, ifY rfl ⟨_, rfl, l, c0 :: cs, rfl, SqL.of hl, Nat.succ_pos _, fun m hm hle => ⟨szl 2, say_new L ?_⟩⟩⟩
    rw [minL_eq hm hle]
    exact k
  | high =>
    refine ⟨_, rfl, rfl, _, rfl, ifN (strI (by decide +kernel)) ⟨_, rfl, rfl, _, rfl, ifY rfl ⟨_, rfl, l, c0 :: cs, rfl, SqL.of hl, Nat.succ_pos _, fun m hm hle => ⟨szl 2, say_new L ?_⟩⟩⟩⟩
    rw [maxL_eq hm hle]
    exact k
  | sum =>
    refine ⟨_, rfl, rfl, _, rfl, ifN (strI (by decide +kernel)) ⟨_, rfl, rfl, _, rfl, ifN (strI (by decide +kernel)) ⟨_, rfl, rfl, _, rfl, ifY rfl ?_⟩⟩⟩
    refine ⟨_, rfl, ap, _, _, _, rfl, rfl, SqL.of hap, at0, _, rfl, 1, rfl, ap, _, _, _, rfl, rfl, SqL.of hap, at1, _, _, rfl, rfl, _, rfl, l, c0 :: cs, rfl, SqL.of hl, _, _, rfl, _, _, rfl, szl 2, say_new L ?_⟩
    have k : ∀ H' w, Same H H' → tVer.rep (cut H' ls) w ("say", clampF lo (hi - 1) (c0 :: cs).sum) → Q w H' := k
    rw [← clamp_mm hle] at k
    exact k
  | only =>
    refine ⟨_, rfl, rfl, _, rfl, ifN (strI (by decide +kernel)) ⟨_, rfl, rfl, _, rfl, ifN (strI (by decide +kernel)) ⟨_, rfl, rfl, _, rfl, ifN (strI (by decide +kernel)) ⟨_, rfl, rfl, _, rfl, ifY rfl ?_⟩⟩⟩⟩
    refine ⟨_, rfl, l, _, rfl, .inl (SqL.of hl), _, _, rfl, rfl, _, rfl, ?_⟩
    have k : ∀ H' w, Same H H' → tVer.rep (cut H' ls) w (if (c0 :: cs).length > 1 then ("clash", 0) else ("say", c0)) → Q w H' := k
    refine ite2 (fun c => ?_) (fun c => ?_)
    · have c := ydec c
      rw [if_pos (by rw [List.length_map] at c; omega)] at k
      exact ⟨szl 2, say_new L k⟩
    · have c := ndec c
      rw [if_neg (by rw [List.length_map] at c; omega)] at k
      exact ⟨_, rfl, rfl, _, rfl, ifN (strI (by decide +kernel)) ⟨_, rfl, l, _, _, _, rfl, rfl, SqL.of hl, h0, szl 2, say_new L k⟩⟩
  | like =>
    refine ⟨_, rfl, rfl, _, rfl, ifN (strI (by decide +kernel)) ⟨_, rfl, rfl, _, rfl, ifN (strI (by decide +kernel)) ⟨_, rfl, rfl, _, rfl, ifN (strI (by decide +kernel)) ⟨_, rfl, rfl, _, rfl, ifN (strI (by decide +kernel)) ⟨_, rfl, rfl, _, rfl, ifY rfl ?_⟩⟩⟩⟩⟩
    refine ⟨_, rfl, l, c0 :: cs, rfl, SqL.of hl, Nat.succ_pos _, fun m hm hle => ⟨_, rfl, l, c0 :: cs, rfl, SqL.of hl, Nat.succ_pos _, fun M hM hge => ⟨rfl, _, rfl, ?_⟩⟩⟩
    have k : ∀ H' w, Same H H' → tVer.rep (cut H' ls) w (if ((c0 :: cs).all fun c => decide (c = c0)) = true then ("say", c0) else ("clash", 0)) → Q w H' := k
    rw [like_mm hm hle hM hge] at k
    by_cases q : m = M
    · rw [if_pos (decide_eq_true q)] at k
      refine iteNS (congrArg V.int q) ?_
      exact ⟨_, rfl, l, _, _, _, rfl, rfl, SqL.of hl, h0, szl 2, say_new L k⟩
    · rw [if_neg (by rw [decide_eq_true_eq]; exact q)] at k
      refine iteNT (fun z => q (V.int.inj z)) ?_
      exact ⟨szl 2, say_new L k⟩
  | first =>
    exact ⟨_, rfl, rfl, _, rfl, ifN (strI (by decide +kernel)) ⟨_, rfl, rfl, _, rfl, ifN (strI (by decide +kernel)) ⟨_, rfl, rfl, _, rfl, ifN (strI (by decide +kernel)) ⟨_, rfl, rfl, _, rfl, ifN (strI (by decide +kernel)) ⟨_, rfl, rfl, _, rfl, ifN (strI (by decide +kernel)) ⟨_, rfl, l, _, _, _, rfl, rfl, SqL.of hl, h0, szl 2, say_new L k⟩⟩⟩⟩⟩⟩
abbrev n_law_is : List Str := ["found", "due"]
theorem sc_law_is : FnScope n_law_is ["found", "due"] (defScope s_law_is) := ⟨rfl, rfl, rfl, by decide +kernel, rfl, by decide +kernel, by decide +kernel⟩
theorem ok_law_is (T : Tx K mg) : Def P w K mg base "_law_is" ["found", "due"] 2 (Sp2 tVer tVer tBool fun a b r => a = b ∧ (a.1 = "say" ∨ a.1 = "none" ∨ a.1 = "clash") ∧ r = true) := by
  refine ⟨?_, T.g_law_is, T.f_law_is.kp, T.f_law_is.bindsN fun _ _ _ _ _ _ us hl => match us, hl with | [_, _], _ => rfl⟩
  refine fn_body T.f_law_is sc_law_is (fun _ _ _ _ h => len2 h) fun cdv A outer s H vs Q E hr h => ?_
  obtain ⟨ls, v, v2, a, b, r, rfl, L, ra, rb, ⟨rfl, hs, rfl⟩, k⟩ := h
  have raH := tVer.mono cut_sub ra
  have rbH := tVer.mono cut_sub rb
  obtain ⟨t, u1, u2, rfl, ht, e1, e2⟩ := id raH
  obtain rfl : u1 = .str a.1 := e1
  obtain rfl : u2 = .int a.2 := e2
  refine ⟨_, pss_cons (ps_if (PW.pt (pw_or (pt_not (pt_val (pe_callB call_isi (by rfl) T.n_isinstance (by decide +kernel) (pa_cons (pv 0) (pa_cons (pe_bltn (v := .ty "tuple") (by rfl) T.n_tuple (by decide +kernel) rfl) pa_nil))))) (pw_or1 (pt_cmpR op_ne (pe_callB call_len_seq (by rfl) T.n_len PySem.boot_len (pa_cons (pv 0) pa_nil)) pe_int (nomark _))))) (pss_one (ps_ret pe_bl)) pss_nil)
  (pss_one (ps_ret (pe_and (pe_callB call_isi (by rfl) T.n_isinstance (by decide +kernel) (pa_cons (pe_ix ix_tup (pv 0) pe_int (fun _ _ => rfl)) (pa_cons (pe_bltn (v := .ty "str") (by rfl) T.n_str (by decide +kernel) rfl) pa_nil))) (pe_and (pe_cD (ok_law_whole T) hr (pa_cons (pe_ix ix_tup (pv 0) pe_int (fun _ _ => rfl)) pa_nil)) (pe_one (pe_cmpR (op_eqD hr.units) (pv 0) (pv 1) (nomark _))))))), ?_⟩
  refine ⟨_, rfl, _, _, _, _, _, rfl, .ty _, .base (.tup ht), kit_ty (a := "tuple") (b := "tuple") (r := true) (by decide +kernel), _, rfl, iteF ?_⟩
  refine ⟨_, rfl, t, _, rfl, .inr (SqT.of ht), rfl, _, rfl, iteNS rfl ?_⟩
  refine ⟨_, rfl, t, _, 0, _, rfl, rfl, SqT.of ht, at_of (j := 0) rfl rfl, _, _, _, _, _, rfl, .ty _, .base (.str _), kit_ty (a := "str") (b := "str") (r := true) (by decide +kernel), _, rfl, iteT ?_⟩
  refine ⟨_, rfl, t, _, 1, _, rfl, rfl, SqT.of ht, at_of (j := 1) rfl rfl, ls, _, a.2, true, rfl, L, rfl, rfl, fun H1 w1 s1 e => ?_⟩
  obtain rfl : w1 = .bl true := e
  refine ⟨_, rfl, iteT ⟨_, rfl, _, rfl, _, _, dp_ver (tVer.mono s1 raH), dp_ver (tVer.mono s1 rbH), shaped_ver hs, shaped_ver hs, ?_⟩⟩
  rw [eqv_ver]
  exact k _ _ s1 rfl
end
end Rk
set_option Elab.async false
set_option linter.all false
set_option maxRecDepth 100000
set_option maxHeartbeats 1000000
namespace Rk
open PySem PySem.Spec PyProof.Rows L2
open TL
/-- a place: one piece of each fact's domain -/
def PlOk (doms : List LD) (n : Nat) (at_ : List Nat) : Prop := at_.length = n ∧ ∀ (k a : Nat) d, at_[k]? = some a → doms[k]? = some d → a + 1 < d.2.1.length
theorem pl_snoc {doms : List LD} {n a : Nat} {at_ : List Nat} {d : LD} (h : PlOk doms n at_) (hd : doms[n]? = some d) (ha : a + 1 < d.2.1.length) : PlOk doms (n + 1) (at_ ++ [a]) := by
  refine ⟨by rw [List.length_append, h.1]; rfl, fun k x d' h1 h2 => ?_⟩
  by_cases q : k < at_.length
  · rw [List.getElem?_append_left q] at h1
    exact h.2 k x d' h1 h2
  · have hk := (List.getElem?_eq_some_iff.mp h1).1
    rw [List.length_append] at hk
    have hk : k < at_.length + 1 := hk
    have e : k = at_.length := by omega
    subst e
    rw [List.getElem?_append_right (Nat.le_refl _), Nat.sub_self] at h1
    have e1 : a = x := Option.some.inj h1
    rw [h.1, hd] at h2
    cases h2
    rw [← e1]; exact ha
section
variable {P : Program} {w : World} {K : PySem.W.Frag} {mg : Str → Option Value} {base : Heap}
abbrev n_law_places : List Str := ["doms", "facts", "told", "dom", "longer", "at", "k"]
theorem sc_law_places : FnScope n_law_places ["doms", "facts"] (defScope s_law_places) := ⟨rfl, rfl, rfl, by decide +kernel, rfl, by decide +kernel, by decide +kernel⟩
theorem ok_law_places (T : Tx K mg) : Def P w K mg base "_law_places" ["doms", "facts"] 1 (SpR2 (tLst tLD) tNat (tLst (tLst tNat)) (fun doms f => f ≤ 3 ∧ f ≤ doms.length ∧ ∀ d ∈ doms, LDOk d) fun doms f r => 1 ≤ r.length ∧ r.length ≤ 1000 ∧ ∀ at_ ∈ r, PlOk doms f at_) := by
  refine ⟨?_, T.g_law_places, T.f_law_places.kp, T.f_law_places.bindsN fun _ _ _ _ _ _ us hl => match us, hl with | [_, _], _ => rfl⟩
  refine fn_body T.f_law_places sc_law_places (fun _ _ _ _ h => lenR2 h) fun cdv A outer s H vs Q E hr h => ?_
  obtain ⟨ls, v, vf, doms, f, rfl, L, ⟨ad, ud, rfl, had, rd⟩, rfl, ⟨hf3, hfl, hok⟩, k⟩ := h
  have had := cut_at had
  have e1 := rd.len
  refine ⟨_, pss_cons (ps_set (i := 2) sc_law_places.nd rfl (.inl rfl) (pe_lst (pa_cons (pe_lst pa_nil) pa_nil)))
  (pss_cons (ps_for PassesOwn.never rfl (pi_list (pe_slice sl_list (pv 0) po_none (po_some (pv 1)))) (pg_name (i := 3) sc_law_places.nd rfl (.inl rfl))
  (pss_cons (ps_set (i := 4) sc_law_places.nd rfl (.inl rfl) (pe_lst pa_nil))
  (pss_cons (ps_for PassesOwn.never rfl (pi_list (pv 2)) (pg_name (i := 5) sc_law_places.nd rfl (.inl rfl))
  (pss_one (ps_for PassesOwn.never rfl (pi_range1 (by rfl) T.n_range (pa_cons (pe_op op_sub (pe_callB call_len_seq (by rfl) T.n_len PySem.boot_len (pa_cons (pe_ix ix_tup (pv 3) pe_int (fun _ _ => rfl)) pa_nil)) pe_int) pa_nil)) (pg_name (i := 6) sc_law_places.nd rfl (.inl rfl))
  (pss_one (ps_expr (pe_bm PySem.F.plainAttrs_list PySem.F.slot_list_append PySem.F.type_list_append mt_append (pv 4) (pa_cons (pe_op op_cat (pv 5) (pe_lst (pa_cons (pv 6) pa_nil))) pa_nil)))))))
  (pss_one (ps_set (i := 2) sc_law_places.nd rfl (.inl rfl) (pv 4))))))
  (pss_one (ps_ret (pv 2)))), ?_⟩
  refine ⟨Nat.zero_le _, fun a na => ⟨szl 1, fun b nb => ?_⟩⟩
  have nab : a ≠ b := fun e => by rw [← e, upd_same] at nb; cases nb
  have sb : Same H (upd (upd H a (.lst [])) b (.lst [.ref a])) := (Same.upd na).trans (Same.upd nb)
  have nb0 : H b = none := (Same.upd na).free nb
  refine ⟨_, rfl, _, rfl, f, rfl, ad, ud, rfl, SqL.of (sb _ _ had), fun q nq => ?_⟩
  have sq := sb.trans (Same.upd (o := .lst (cutV ud none (some (f : Nat)))) nq)
  have hq : upd (upd (upd H a (.lst [])) b (.lst [.ref a])) q (.lst (cutV ud none (some ((f : Nat) : Int)))) q = some (.lst (cutV ud none (some ((f : Nat) : Int)))) := upd_same
  have ecut : cutV ud none (some ((f : Nat) : Int)) = ud.take f := by
    unfold cutV
    rw [HT.sIx_nat, HT.sIx_none, List.drop_zero, Nat.sub_zero, Nat.min_eq_left (by omega)]
  rw [ecut] at sq hq ⊢
  have hb : upd (upd H a (.lst [])) b (.lst [.ref a]) b = some (.lst [.ref a]) := upd_same
  have ha : upd (upd H a (.lst [])) b (.lst [.ref a]) a = some (.lst []) := by rw [upd_ne nab]; exact upd_same
  generalize upd (upd H a (.lst [])) b (.lst [.ref a]) = Hb at sb nq sq hq hb ha
  have hb2 := (Same.upd (o := .lst (ud.take f)) nq) _ _ hb
  have ha2 := (Same.upd (o := .lst (ud.take f)) nq) _ _ ha
  generalize upd Hb q (.lst (ud.take f)) = Hq at sq hq hb2 ha2
  refine ⟨q, rfl, ⟨_, SqL.of hq⟩, for_list (K := K) (a := q) (xs := ud.take f) (fun i σ H' => (∃ vt c1 c2 c3 c4, ∃ tl_ : List (List Nat), σ = [some (.ref ad), some (.int (f : Nat)), some vt, c1, c2, c3, c4] ∧ (tLst (tLst tNat)).rep (cut H' ls) vt tl_ ∧ 1 ≤ tl_.length ∧ tl_.length ≤ 10 ^ i ∧ ∀ x ∈ tl_, PlOk doms i x) ∧ Same Hq H') ⟨⟨.ref b, _, _, _, _, [[]], rfl, ⟨b, [.ref a], rfl, at_cut (L.no nb0) hb2, ⟨a, [], rfl, at_cut (L.no na) ha2, trivial⟩, trivial⟩, Nat.le_refl _, Nat.le_refl _, fun x hx => by rw [List.mem_singleton.mp hx]; exact ⟨rfl, fun k a d h => by simp at h⟩⟩, Same.refl _⟩ (fun i σ H' _ p => SqL.of (p.2 _ _ hq)) ?_ ?_⟩
  · rintro i x σ H1 hx ⟨⟨vt, c1, c2, c3, c4, tl_, rfl, rtl, hn1, hn10, hpl⟩, s1⟩
    have hif : i < f := by
      have := (List.getElem?_eq_some_iff.mp hx).1
      rw [List.length_take] at this
      omega
    rw [List.getElem?_take, if_pos hif] at hx
    obtain ⟨d, hd, rdv⟩ := rd.get hx
    have dok := hok d (List.mem_of_getElem? hd)
    have hdl := dok.len
    obtain ⟨pd, v1, v2, v3, rfl, hpd, _, ⟨ap, up, e2, hap, rp⟩, _⟩ := id rdv
    obtain rfl : v2 = .ref ap := e2
    have s01 := sq.trans s1
    have hpd := s01 _ _ (cut_at hpd)
    have hap := s01 _ _ (cut_at hap)
    have lp := rp.len
    obtain ⟨sz, esz⟩ : ∃ sz : Nat, d.2.1.length = sz + 1 := ⟨d.2.1.length - 1, by omega⟩
    obtain ⟨at_, ut, rfl, hat, rt⟩ := id rtl
    have lt := rt.len
    have htl : tl_.length ≤ 100 := by
      have : 10 ^ i ≤ 10 ^ 2 := Nat.pow_le_pow_right (by decide) (by omega)
      omega
    refine ⟨Nat.zero_le _, fun l nl => ?_⟩
    have nl0 := s01.free nl
    have s2 : Same H1 (upd H1 l (.lst [])) := Same.upd nl
    have hsz : ∀ j, j ≤ tl_.length → sz * j ≤ 1000 := fun j hj => Nat.le_trans (Nat.mul_le_mul (show sz ≤ 10 by omega) (show j ≤ 100 by omega)) (by decide)
    refine ⟨_, rfl, at_, rfl, ⟨_, SqL.of (s2 _ _ (cut_at hat))⟩, for_list (K := K) (a := at_) (xs := ut) (fun j σ H' => (∃ c3 c4, σ = [some (.ref ad), some (.int (f : Nat)), some (.ref at_), some (.ref pd), some (.ref l), c3, c4]) ∧ Same H1 H' ∧ ∃ ul lo, H' l = some (.lst ul) ∧ Rs (tLst tNat) (cut H' (l :: ls)) ul lo ∧ lo.length = sz * j ∧ ∀ x ∈ lo, PlOk doms (i + 1) x) ⟨⟨_, _, rfl⟩, s2, [], [], upd_same, trivial, rfl, fun x hx => by cases hx⟩ (fun j σ H' _ p => SqL.of (p.2.1 _ _ (cut_at hat))) ?_ ?_⟩
    · rintro j y σ H2 hy ⟨⟨c3, c4, rfl⟩, s3, ul, lo, hl, rlo, llo, plo⟩
      obtain ⟨at0, hat0, aa, ua, rfl, haa, raa⟩ := rt.get hy
      have hj := (List.getElem?_eq_some_iff.mp hat0).1
      obtain rfl := rs_nat raa
      have haa := cut_at haa
      have pl0 := hpl at0 (List.mem_of_getElem? hat0)
      have hsj := hsz (j + 1) (by omega)
      rw [Nat.mul_succ] at hsj
      refine ⟨_, rfl, pd, _, 1, _, rfl, rfl, SqT.of (s3 _ _ hpd), at_of (j := 1) rfl rfl, ap, _, rfl, .inl (SqL.of (s3 _ _ hap)), _, _, rfl, rfl, _, rfl, by omega, by omega, ?_⟩
      refine for_range (lo := 0) (fun z σ H' => (∃ c4, σ = [some (.ref ad), some (.int (f : Nat)), some (.ref at_), some (.ref pd), some (.ref l), some (.ref aa), c4]) ∧ Same H1 H' ∧ ∃ ul lo, H' l = some (.lst ul) ∧ Rs (tLst tNat) (cut H' (l :: ls)) ul lo ∧ lo.length = sz * j + z ∧ ∀ x ∈ lo, PlOk doms (i + 1) x) ⟨⟨_, rfl⟩, s3, ul, lo, hl, rlo, llo, plo⟩ ?_ ?_
      · rintro z σ H3 hz ⟨⟨c4, rfl⟩, s4, ul, lo, hl, rlo, llo, plo⟩
        have hz : z < sz := by omega
        have lul := rlo.len
        have pl1 := pl_snoc (a := z) pl0 hd (by omega)
        have la0 : at0.length = i := pl0.1
        refine ⟨_, rfl, .inl ⟨rfl, _, SqL.of hl⟩, _, rfl, _, rfl, szl 1, fun p np => ?_⟩
        have s5 : Same H3 (upd H3 p (.lst [.int (0 + ((z : Nat) : Int))])) := Same.upd np
        refine ⟨aa, p, _, _, rfl, rfl, s5 _ _ (s4 _ _ haa), upd_same, szb _ (by rw [List.length_map]; show at0.length + 1 ≤ 100000; omega), fun y ny => ?_⟩
        have s6 := s5.trans (Same.upd (o := .lst ((at0.map fun n => V.int (n : Nat)) ++ [.int (0 + ((z : Nat) : Int))])) ny)
        refine ⟨l, _, _, rfl, rfl, s6 _ _ hl, small1000 (by omega), ⟨_, rfl⟩, (s4.trans s6).mut nl, ul ++ [.ref y], lo ++ [at0 ++ [z]], upd_same, ?_, ?_, ?_⟩
        · rw [cut_upd List.mem_cons_self]
          refine (rlo.mono s6.cut).snoc ⟨y, _, rfl, at_cut ((Live.cons hl (L.to (s01.trans s4))).no (s5.free ny)) upd_same, ?_⟩
          have := nat_rs (H := cut (upd (upd H3 p (.lst [.int (0 + ((z : Nat) : Int))])) y (.lst ((at0.map fun n => V.int (n : Nat)) ++ [.int (0 + ((z : Nat) : Int))]))) (l :: ls)) (xs := at0 ++ [z])
          rw [List.map_append] at this
          rw [Int.zero_add] at this ⊢
          exact this
        · rw [List.length_append, llo]; rfl
        · intro x hx
          rcases List.mem_append.mp hx with mm | mm
          · exact plo x mm
          · rw [List.mem_singleton.mp mm]; exact pl1
      · rintro σ H3 ⟨⟨c4, rfl⟩, s4, ul, lo, hl, rlo, llo, plo⟩
        refine ⟨⟨_, _, rfl⟩, s4, ul, lo, hl, rlo, ?_, plo⟩
        rw [Nat.mul_succ, llo]
        omega
    · rintro σ H2 ⟨⟨c3, c4, rfl⟩, s3, ul, lo, hl, rlo, llo, plo⟩
      rw [lt] at llo
      refine ⟨_, rfl, ⟨.ref l, _, _, _, _, lo, rfl, ⟨l, ul, rfl, at_cut (L.no nl0) hl, rlo.mono Same.less1⟩, ?_, ?_, plo⟩, s1.trans s3⟩
      · rw [llo]; exact Nat.mul_pos (by omega) hn1
      · rw [llo, Nat.pow_succ, Nat.mul_comm]
        exact Nat.mul_le_mul hn10 (by omega)
  · rintro σ H1 ⟨⟨vt, c1, c2, c3, c4, tl_, rfl, rtl, hn1, hn10, hpl⟩, s1⟩
    have el : (ud.take f).length = f := by rw [List.length_take]; omega
    rw [el] at hn10 hpl
    refine ⟨_, rfl, k _ _ tl_ (sq.trans s1) rtl ⟨hn1, ?_, hpl⟩⟩
    have : 10 ^ f ≤ 10 ^ 3 := Nat.pow_le_pow_right (by decide) hf3
    omega
end
end Rk
set_option Elab.async false
set_option linter.all false
set_option maxRecDepth 100000
set_option maxHeartbeats 1000000
namespace Rk
open PySem PySem.Spec PyProof.Rows L2
open TL
def stopC (f : Nat) (told : List Ver) (c : Nat) : Option Ver := if c < f then none else if (told.getD (c - f) ("", 0)).1 = "say" then none else some (told.getD (c - f) ("", 0))
def spotC (f : Nat) (doms : List LD) (at_ : List Nat) (told : List Ver) (c : Nat) : Nat := if c < f then at_.getD c 0 else ((told.getD (c - f) ("", 0)).2 - (doms.getD c dfl).2.1.headD 0).toNat
def stopV (f : Nat) (told : List Ver) (cols : List Nat) : Option Ver := cols.findSome? (stopC f told)
def spotV (f : Nat) (doms : List LD) (at_ : List Nat) (told : List Ver) (cols : List Nat) : List Nat := (cols.filter fun c => (stopC f told c).isNone).map (spotC f doms at_ told)
def verdI (m : LM) (at_ : List Nat) (told : List Ver) (i : Nat) (t : LT) : Ver := match stopV m.1 told t.1 with
  | some v => v
  | none => verdictF t.2.1 ((fitF t.2.2 (spotV m.1 m.2.1 at_ told t.1)).map fun c => (m.2.1.getD (m.1 + i) dfl).2.1.headD 0 + ((c : Nat) : Int)) ((m.2.1.getD (m.1 + i) dfl).2.1.headD 0) ((m.2.1.getD (m.1 + i) dfl).2.1.getLastD 0 - 1)
def verdN (m : LM) (at_ : List Nat) : Nat → List Ver
  | 0 => []
  | i + 1 => verdN m at_ i ++ [verdI m at_ (verdN m at_ i) i (m.2.2.getD i ([], .first, []))]
theorem verdN_len (m : LM) (at_ : List Nat) : ∀ n, (verdN m at_ n).length = n
  | 0 => rfl
  | n + 1 => by
    show (verdN m at_ n ++ [_]).length = n + 1
    rw [List.length_append, verdN_len m at_ n]; rfl
/-- what is said lies in the outcome -/
def SayOk (f : Nat) (doms : List LD) (told : List Ver) : Prop := ∀ (j : Nat) v d, told[j]? = some v → v.1 = "say" → doms[f + j]? = some d → d.2.1.headD 0 ≤ v.2 ∧ v.2 ≤ d.2.1.getLastD 0 - 1
theorem say_in {y : Wy} {cs : List Int} {lo hi : Int} (h : ∀ c ∈ cs, lo ≤ c ∧ c ≤ hi) (hle : lo ≤ hi) (hs : (verdictF y cs lo hi).1 = "say") : lo ≤ (verdictF y cs lo hi).2 ∧ (verdictF y cs lo hi).2 ≤ hi := by
  unfold verdictF at hs ⊢
  cases cs with
  | nil => exact absurd hs (by show ¬ ("none" : Str) = "say"; decide +kernel)
  | cons c cs =>
    rw [if_neg (show ¬ (c :: cs).length = 0 from Nat.succ_ne_zero _)] at hs ⊢
    have hc := h c List.mem_cons_self
    cases y with
    | first => exact hc
    | only =>
      have hs : (if (c :: cs).length > 1 then (("clash", 0) : Ver) else ("say", c)).1 = "say" := hs
      show lo ≤ (if (c :: cs).length > 1 then (("clash", 0) : Ver) else ("say", c)).2 ∧ (if (c :: cs).length > 1 then (("clash", 0) : Ver) else ("say", c)).2 ≤ hi
      by_cases q : (c :: cs).length > 1
      · rw [if_pos q] at hs; exact absurd hs (by show ¬ ("clash" : Str) = "say"; decide +kernel)
      · rw [if_neg q]; exact hc
    | like =>
      have hs : (if ((c :: cs).all fun x => decide (x = c)) = true then (("say", c) : Ver) else ("clash", 0)).1 = "say" := hs
      show lo ≤ (if ((c :: cs).all fun x => decide (x = c)) = true then (("say", c) : Ver) else ("clash", 0)).2 ∧ (if ((c :: cs).all fun x => decide (x = c)) = true then (("say", c) : Ver) else ("clash", 0)).2 ≤ hi
      by_cases q : ((c :: cs).all fun x => decide (x = c)) = true
      · rw [if_pos q]; exact hc
      · rw [if_neg q] at hs; exact absurd hs (by show ¬ ("clash" : Str) = "say"; decide +kernel)
    | low =>
      have := minL_spec (c :: cs) c
      obtain ⟨h1, h2, h3⟩ := this
      show lo ≤ minL (c :: cs) ∧ minL (c :: cs) ≤ hi
      rcases h1 with e | e
      · have e : minL (c :: cs) = c := e
        rw [e]; exact hc
      · exact h _ e
    | high =>
      have := maxL_spec (c :: cs) c
      obtain ⟨h1, h2, h3⟩ := this
      show lo ≤ maxL (c :: cs) ∧ maxL (c :: cs) ≤ hi
      rcases h1 with e | e
      · have e : maxL (c :: cs) = c := e
        rw [e]; exact hc
      · exact h _ e
    | sum =>
      show lo ≤ clampF lo hi _ ∧ clampF lo hi _ ≤ hi
      unfold clampF
      split <;> split <;> omega
theorem LDOk.ends {d : LD} (ok : LDOk d) : d.2.1.headD 0 ≤ d.2.1.getLastD 0 - 1 ∧ d.2.1 ≠ [] := by
  have hl := ok.len
  have hne : d.2.1 ≠ [] := fun e => by rw [e] at hl; exact absurd hl.1 (by decide)
  refine ⟨?_, hne⟩
  have g0 : d.2.1[0]? = some (d.2.1[0]'(by omega)) := by simp
  have gl : d.2.1[d.2.1.length - 1]? = some (d.2.1[d.2.1.length - 1]'(by omega)) := by simp
  have e0 : d.2.1.headD 0 = d.2.1[0]'(by omega) := by rw [List.headD_eq_head?_getD, List.head?_eq_getElem?, g0]; rfl
  have e1 : d.2.1.getLastD 0 = d.2.1[d.2.1.length - 1]'(by omega) := by rw [List.getLastD_eq_getLast?, List.getLast?_eq_getElem?, gl]; rfl
  have := List.pairwise_iff_getElem.mp ok.asc 0 (d.2.1.length - 1) (by omega) (by omega) (by omega)
  omega
theorem cons_last {d : LD} (ok : LDOk d) (c : Cons d) : d.2.1.getLastD 0 - 1 = d.2.1.headD 0 + ((d.2.1.length - 1 : Nat) : Int) - 1 := by
  have hl := ok.len
  have gl : d.2.1[d.2.1.length - 1]? = some (d.2.1[d.2.1.length - 1]'(by omega)) := by simp
  have e1 : d.2.1.getLastD 0 = d.2.1[d.2.1.length - 1]'(by omega) := by rw [List.getLastD_eq_getLast?, List.getLast?_eq_getElem?, gl]; rfl
  rw [e1, c _ _ gl]
theorem stop_none {f : Nat} {told : List Ver} {cols : List Nat} (h : stopV f told cols = none) : (cols.filter fun c => (stopC f told c).isNone) = cols := by
  unfold stopV at h
  rw [List.findSome?_eq_none_iff] at h
  exact List.filter_eq_self.mpr fun c hc => by rw [h c hc]; rfl
theorem fit_mem {rows : List LR} {spot : List Nat} {c : Nat} (h : c ∈ fitF rows spot) : ∃ r ∈ rows, c = r.2 := by
  unfold fitF at h
  obtain ⟨r, hr, rfl⟩ := List.mem_map.mp h
  exact ⟨r, (List.mem_filter.mp hr).1, rfl⟩
theorem say_snoc {m : LM} (ok : LMOk m) {at_ : List Nat} {told : List Ver} {i : Nat} {t : LT} (hl : told.length = i) (h : SayOk m.1 m.2.1 told) (ht : m.2.2[i]? = some t) : SayOk m.1 m.2.1 (told ++ [verdI m at_ told i t]) := by
  intro j v d hv hs hd
  by_cases q : j < told.length
  · rw [List.getElem?_append_left q] at hv
    exact h j v d hv hs hd
  · have hj := (List.getElem?_eq_some_iff.mp hv).1
    rw [List.length_append] at hj
    have hj : j < told.length + 1 := hj
    have e : j = told.length := by omega
    subst e
    rw [List.getElem?_append_right (Nat.le_refl _), Nat.sub_self] at hv
    have ev : verdI m at_ told i t = v := Option.some.inj hv
    have dok := ok.doms d (List.mem_of_getElem? hd)
    rw [hl] at hd
    have gd : m.2.1.getD (m.1 + i) dfl = d := getD_of hd
    unfold verdI at ev
    cases es : stopV m.1 told t.1 with
    | some w =>
      rw [es] at ev
      have ev : w = v := ev
      obtain ⟨c, hc, e2⟩ := List.exists_of_findSome?_eq_some es
      unfold stopC at e2
      split at e2
      · cases e2
      · split at e2
        · cases e2
        · rename_i hn
          have e3 := Option.some.inj e2
          rw [e3, ev] at hn
          exact absurd hs hn
    | none =>
      rw [es, gd] at ev
      have ev : verdictF t.2.1 ((fitF t.2.2 (spotV m.1 m.2.1 at_ told t.1)).map fun c => d.2.1.headD 0 + ((c : Nat) : Int)) (d.2.1.headD 0) (d.2.1.getLastD 0 - 1) = v := ev
      rw [← ev] at hs ⊢
      refine say_in (fun c hc => ?_) dok.ends.1 hs
      obtain ⟨x, hx, rfl⟩ := List.mem_map.mp hc
      obtain ⟨r, hr, rfl⟩ := fit_mem hx
      have := ((ok.tabs i t ht).rows r hr).2 d hd
      rw [cons_last dok (ok.outs (m.1 + i) d (by omega) hd)]
      omega
theorem verdN_say {m : LM} (ok : LMOk m) (at_ : List Nat) : ∀ n, n ≤ m.2.2.length → SayOk m.1 m.2.1 (verdN m at_ n)
  | 0, _ => fun j v d h => by
    have h : ([] : List Ver)[j]? = some v := h
    simp at h
  | n + 1, h => by
    have hn : m.2.2[n]? = some (m.2.2[n]'(by omega)) := by simp
    have := say_snoc ok (at_ := at_) (verdN_len m at_ n) (verdN_say ok at_ n (by omega)) hn
    show SayOk m.1 m.2.1 (verdN m at_ n ++ [verdI m at_ (verdN m at_ n) n (m.2.2.getD n ([], .first, []))])
    rw [getD_of hn]
    exact this
end Rk
set_option Elab.async false
set_option linter.all false
set_option maxRecDepth 100000
set_option maxHeartbeats 1000000
namespace Rk
open PySem PySem.Spec PyProof.Rows L2
open TL
theorem stop_snoc {f : Nat} {told : List Ver} {cols : List Nat} {j c : Nat} (h : cols[j]? = some c) : stopV f told (cols.take (j + 1)) = (stopV f told (cols.take j)).or (stopC f told c) := by
  unfold stopV
  rw [take_snoc h, List.findSome?_append, List.findSome?_cons, List.findSome?_nil]
  cases stopC f told c <;> rfl
theorem spot_snoc {f : Nat} {doms : List LD} {at_ : List Nat} {told : List Ver} {cols : List Nat} {j c : Nat} (h : cols[j]? = some c) : spotV f doms at_ told (cols.take (j + 1)) = spotV f doms at_ told (cols.take j) ++ (if (stopC f told c).isNone = true then [spotC f doms at_ told c] else []) := by
  unfold spotV
  rw [take_snoc h, List.filter_append, List.map_append]
  congr 1
  cases hb : (stopC f told c).isNone with
  | true => simp [hb]
  | false => simp [hb]
section
variable {P : Program} {w : World} {K : PySem.W.Frag} {mg : Str → Option Value} {base : Heap}
abbrev n_law_verdicts : List Str := ["model", "at", "facts", "doms", "tables", "told", "i", "columns", "way", "rows", "spot", "stop", "column", "points", "code"]
theorem sc_law_verdicts : FnScope n_law_verdicts ["model", "at"] (defScope s_law_verdicts) := ⟨rfl, rfl, rfl, by decide +kernel, rfl, by decide +kernel, by decide +kernel⟩
theorem ok_law_verdicts (T : Tx K mg) : Def P w K mg base "_law_verdicts" ["model", "at"] 2 (Sp2 tLM (tLst tNat) (tLst tVer) fun m at_ r => LMOk m ∧ PlOk m.2.1 m.1 at_ ∧ r = verdN m at_ m.2.2.length) := by
  refine ⟨?_, T.g_law_verdicts, T.f_law_verdicts.kp, T.f_law_verdicts.bindsN fun _ _ _ _ _ _ us hl => match us, hl with | [_, _], _ => rfl⟩
  refine fn_body T.f_law_verdicts sc_law_verdicts (fun _ _ _ _ h => len2 h) fun cdv A outer s H vs Q E hr h => ?_
  obtain ⟨ls, v1, v2, m, at0, r, rfl, L, ⟨pm, x1, x2, x3, rfl, hpm, e1, ⟨ad, ud, rfl, had, rd⟩, ⟨att, ut, rfl, hat, rt⟩⟩, ⟨aa, ua, rfl, haa, raa⟩, ⟨ok, pl, rfl⟩, k⟩ := h
  obtain rfl : x1 = .int (m.1 : Nat) := e1
  have hpm := cut_at hpm
  have had := cut_at had
  have hat := cut_at hat
  have haa := cut_at haa
  obtain rfl := rs_nat raa
  have e2 := rt.len
  have hf := ok.f
  have hn := ok.n
  have hdl := ok.len
  refine ⟨_, pss_cons (ps_asg (pv 0) (pg_tup (by rfl) (pgs_cons (pg_name (i := 2) sc_law_verdicts.nd rfl (.inl rfl)) (pgs_cons (pg_name (i := 3) sc_law_verdicts.nd rfl (.inl rfl)) (pgs_cons (pg_name (i := 4) sc_law_verdicts.nd rfl (.inl rfl)) pgs_nil)))))
  (pss_cons (ps_set (i := 5) sc_law_verdicts.nd rfl (.inl rfl) (pe_lst pa_nil))
  (pss_cons (ps_for PassesOwn.never rfl (pi_range1 (by rfl) T.n_range (pa_cons (pe_callB call_len_seq (by rfl) T.n_len PySem.boot_len (pa_cons (pv 4) pa_nil)) pa_nil)) (pg_name (i := 6) sc_law_verdicts.nd rfl (.inl rfl))
  (pss_cons (ps_asg (pe_ix ix_list (pv 4) (pv 6) (fun _ _ => rfl)) (pg_tup (by rfl) (pgs_cons (pg_name (i := 7) sc_law_verdicts.nd rfl (.inl rfl)) (pgs_cons (pg_name (i := 8) sc_law_verdicts.nd rfl (.inl rfl)) (pgs_cons (pg_name (i := 9) sc_law_verdicts.nd rfl (.inl rfl)) pgs_nil)))))
  (pss_cons (ps_set (i := 10) sc_law_verdicts.nd rfl (.inl rfl) (pe_lst pa_nil))
  (pss_cons (ps_set (i := 11) sc_law_verdicts.nd rfl (.inl rfl) pe_non)
  (pss_cons (ps_for PassesOwn.never rfl (pi_list (pv 7)) (pg_name (i := 12) sc_law_verdicts.nd rfl (.inl rfl))
  (pss_one (ps_if (pt_cmpR op_lt (pv 12) (pv 2) (nomark _)) (pss_one (ps_expr (pe_bm PySem.F.plainAttrs_list PySem.F.slot_list_append PySem.F.type_list_append mt_append (pv 10) (pa_cons (pe_ix ix_list (pv 1) (pv 12) (fun _ _ => rfl)) pa_nil)))) (pss_one (ps_if (pt_cmpR op_eq (pe_ix ix_tup (pe_ix ix_list (pv 5) (pe_op op_sub (pv 12) (pv 2)) (fun _ _ => rfl)) pe_int (fun _ _ => rfl)) pe_str (nomark _)) (pss_one (ps_expr (pe_bm PySem.F.plainAttrs_list PySem.F.slot_list_append PySem.F.type_list_append mt_append (pv 10) (pa_cons (pe_op op_sub (pe_ix ix_tup (pe_ix ix_list (pv 5) (pe_op op_sub (pv 12) (pv 2)) (fun _ _ => rfl)) pe_int (fun _ _ => rfl)) (pe_ix ix_list (pe_ix ix_tup (pe_ix ix_list (pv 3) (pv 12) (fun _ _ => rfl)) pe_int (fun _ _ => rfl)) pe_int (fun _ _ => rfl))) pa_nil)))) (pss_one (ps_if (pt_cmpR op_isN (pv 11) pe_non (nomark _)) (pss_one (ps_set (i := 11) sc_law_verdicts.nd rfl (.inl rfl) (pe_ix ix_list (pv 5) (pe_op op_sub (pv 12) (pv 2)) (fun _ _ => rfl)))) pss_nil)))))))
  (pss_cons (ps_set (i := 13) sc_law_verdicts.nd rfl (.inr rfl) (pe_ix ix_tup (pe_ix ix_list (pv 3) (pe_op op_add (pv 2) (pv 6)) (fun _ _ => rfl)) pe_int (fun _ _ => rfl)))
  (Evl.pss_cut (ps_if (pt_cmpR op_isN (pv 11) pe_non (nomark _)) (pss_one (ps_set (i := 11) sc_law_verdicts.nd rfl (.inl rfl) (pe_cD (ok_law_due T) hr (pa_cons (pe_lc (own := [("code", 14)]) (g := gName 14) rfl sc_law_verdicts.nd (pi_list (pe_cD (ok_law_fitting T) hr (pa_cons (pv 9) (pa_cons (pv 10) pa_nil)))) (blkOk_by (own := [("code", 14)]) (N := n_law_verdicts) (sc := defScope s_law_verdicts) (by decide +kernel)) (fun _ _ _ _ _ => (pg_name (i := 14) sc_law_verdicts.nd rfl (.inl rfl))) (fun _ _ _ _ _ => pts_nil) (fun _ _ _ _ _ => (pe_op op_add (pe_ix (ixL (K := K)) (pv 13) pe_int (fun _ _ => rfl)) (pv 14)))) (pa_cons (pv 8) (pa_cons (pv 13) pa_nil)))))) pss_nil)
  (pss_one (ps_expr (pe_bm PySem.F.plainAttrs_list PySem.F.slot_list_append PySem.F.type_list_append mt_append (pv 5) (pa_cons (pv 11) pa_nil)))))))))))
  (pss_one (ps_ret (pv 5))))), ?_⟩
  refine ⟨_, rfl, pm, _, rfl, SqT.of hpm, rfl, _, _, rfl, _, _, rfl, _, _, rfl, rfl, ?_⟩
  refine ⟨Nat.zero_le _, fun l nl => ?_⟩
  have s0 : Same H (upd H l (.lst [])) := Same.upd nl
  refine ⟨_, rfl, att, _, rfl, .inl (SqL.of (s0 _ _ hat)), _, rfl, by omega, by omega, ?_⟩
  refine for_range (lo := 0) (fun i σ H' => (∃ y1 y2 y3 y4 y5 y6 y7 y8 y9, σ = [some (.ref pm), some (.ref aa), some (.int (m.1 : Nat)), some (.ref ad), some (.ref att), some (.ref l), y1, y2, y3, y4, y5, y6, y7, y8, y9]) ∧ Same H H' ∧ ∃ ul, H' l = some (.lst ul) ∧ Rs tVer (cut H' (l :: ls)) ul (verdN m at0 i)) ⟨⟨_, _, _, _, _, _, _, _, _, rfl⟩, s0, [], upd_same, trivial⟩ ?_ ?_
  · rintro i σ H1 hi ⟨⟨y1, y2, y3, y4, y5, y6, y7, y8, y9, rfl⟩, s1, ul, hl, rul⟩
    have hin : i < m.2.2.length := by omega
    have hti : m.2.2[i]? = some m.2.2[i] := List.getElem?_eq_getElem hin
    have etold : verdN m at0 (i + 1) = verdN m at0 i ++ [verdI m at0 (verdN m at0 i) i m.2.2[i]] := by
      show verdN m at0 i ++ [verdI m at0 (verdN m at0 i) i (m.2.2.getD i ([], .first, []))] = _
      rw [getD_of hti]
    have tok := ok.tabs i _ hti
    have hsay := verdN_say ok at0 i (by omega)
    have hlen := verdN_len m at0 i
    generalize m.2.2[i] = t at hti etold tok
    generalize verdN m at0 i = told at etold hsay hlen rul
    have hul := rul.len
    obtain ⟨vt, hvt, pt, w1, w2, w3, rfl, hpt, ⟨ac, uc, rfl, hac, rc⟩, hw2, ⟨ar, ur, rfl, har, rr⟩⟩ := rt.at_ hti
    obtain rfl : w2 = .str t.2.1.nm := hw2
    have rrows : (tLst tLR).rep (cut H ls) (.ref ar) t.2.2 := ⟨ar, ur, rfl, har, rr⟩
    have hpt := s1 _ _ (cut_at hpt)
    have hac := s1 _ _ (cut_at hac)
    obtain rfl := rs_nat rc
    have hdo : m.2.1[m.1 + i]? = some (m.2.1[m.1 + i]'(by omega)) := by simp
    obtain ⟨vd, hvd, rvd⟩ := rd.at_ hdo
    have dok := ok.doms _ (List.mem_of_getElem? hdo)
    generalize m.2.1[m.1 + i]'(by omega) = d at hdo rvd dok
    have gd : m.2.1.getD (m.1 + i) dfl = d := getD_of hdo
    obtain ⟨pd, q1, q2, q3, rfl, hpd, f1, ⟨ap, up, f2, hap, rp⟩, _⟩ := id rvd
    obtain rfl : q2 = .ref ap := f2
    have rpts : (tLst tInt).rep (cut H ls) (.ref ap) d.2.1 := ⟨ap, up, rfl, hap, rp⟩
    have hpd := cut_at hpd
    have hap := cut_at hap
    obtain rfl := rs_int rp
    refine ⟨_, rfl, _, rfl, att, _, _, _, rfl, rfl, SqL.of (s1 _ _ hat), at_of (j := i) (by omega) hvt, ?_⟩
    refine ⟨pt, _, rfl, SqT.of hpt, rfl, _, _, rfl, _, _, rfl, _, _, rfl, rfl, ?_⟩
    refine ⟨Nat.zero_le _, fun sp nsp => ?_⟩
    have nspl : sp ≠ l := fun e => by rw [e, hl] at nsp; cases nsp
    have nsp0 := s1.free nsp
    have s2 : Same H1 (upd H1 sp (.lst [])) := Same.upd nsp
    refine ⟨_, rfl, ac, rfl, ⟨_, SqL.of (s2 _ _ hac)⟩, for_list (K := K) (a := ac) (xs := t.1.map fun n => V.int (n : Nat)) (fun j σ H' => (∃ vs y7 y8 y9, σ = [some (.ref pm), some (.ref aa), some (.int (m.1 : Nat)), some (.ref ad), some (.ref att), some (.ref l), some (.int (0 + ((i : Nat) : Int))), some (.ref ac), some (.str t.2.1.nm), some (.ref ar), some (.ref sp), some vs, y7, y8, y9] ∧ (match stopV m.1 told (t.1.take j) with | none => vs = .non | some v => tVer.rep (cut H' (sp :: l :: ls)) vs v)) ∧ Same H1 H' ∧ H' sp = some (.lst ((spotV m.1 m.2.1 at0 told (t.1.take j)).map fun n => V.int (n : Nat)))) ⟨⟨.non, _, _, _, rfl, by rw [List.take_zero]; rfl⟩, s2, by rw [List.take_zero]; exact upd_same⟩ (fun j σ H' _ p => SqL.of (p.2.1 _ _ hac)) ?_ ?_⟩
    · rintro j x σ H2 hx ⟨⟨vs, y7, y8, y9, rfl, hvs⟩, s3, hsp⟩
      rw [List.getElem?_map] at hx
      obtain ⟨c, hc, rfl⟩ := Option.map_eq_some_iff.mp hx
      have hcm := List.mem_of_getElem? hc
      have hclt := tok.lt c hcm
      have es := stop_snoc (f := m.1) (told := told) hc
      have ep := spot_snoc (f := m.1) (doms := m.2.1) (at_ := at0) (told := told) hc
      have hspl : (spotV m.1 m.2.1 at0 told (t.1.take j)).length ≤ j := by
        unfold spotV
        rw [List.length_map]
        exact Nat.le_trans (List.length_filter_le _ _) (by rw [List.length_take]; exact Nat.min_le_left _ _)
      have hj3 : j < 3 := by
        have := (List.getElem?_eq_some_iff.mp hc).1
        have := tok.len
        omega
      refine ⟨_, rfl, _, rfl, _, _, rfl, rfl, _, rfl, ?_⟩
      refine ite2 (fun q => ?_) (fun q => ?_)
      · have q := ydec q
        have q : c < m.1 := by omega
        have hsc : stopC m.1 told c = none := by unfold stopC; rw [if_pos q]
        have hpc : spotC m.1 m.2.1 at0 told c = at0.getD c 0 := by unfold spotC; rw [if_pos q]
        rw [hsc, Option.or_none] at es
        rw [hsc, hpc, if_pos (show (none : Option Ver).isNone = true from rfl)] at ep
        have ga : at0[c]? = some (at0[c]'(by rw [pl.1]; exact q)) := by simp [pl.1, q]
        rw [getD_of ga] at ep
        refine ⟨_, rfl, .inl ⟨rfl, _, SqL.of hsp⟩, _, rfl, _, rfl, aa, _, _, _, rfl, rfl, SqL.of (s3 _ _ (s1 _ _ haa)), atI_nat (by rw [List.getElem?_map, ga]; rfl), sp, _, _, rfl, rfl, hsp, szl _ (by rw [List.length_map]; omega), ⟨vs, _, _, _, rfl, ?_⟩, s3.mut nsp, ?_⟩
        · rw [es, cut_upd List.mem_cons_self]; exact hvs
        · rw [ep, List.map_append]; exact upd_same
      · have q := ndec q
        have q : ¬ c < m.1 := by omega
        have hcl : c - m.1 < told.length := by omega
        have gt : told[c - m.1]? = some (told[c - m.1]'hcl) := by simp
        obtain ⟨vv, hvv, rvv⟩ := rul.at_ gt
        have hsay2 := fun d hs hd => hsay (c - m.1) _ d gt hs hd
        have hsc : stopC m.1 told c = if (told[c - m.1]'hcl).1 = "say" then none else some (told[c - m.1]'hcl) := by unfold stopC; rw [if_neg q, getD_of gt]
        have hpc : spotC m.1 m.2.1 at0 told c = ((told[c - m.1]'hcl).2 - (m.2.1.getD c dfl).2.1.headD 0).toNat := by unfold spotC; rw [if_neg q, getD_of gt]
        generalize told[c - m.1]'hcl = tv at gt rvv hsay2 hsc hpc
        obtain ⟨ptv, t1, t2, rfl, hptv, f3, f4⟩ := id rvv
        obtain rfl : t1 = .str tv.1 := f3
        obtain rfl : t2 = .int tv.2 := f4
        have hptv := s3 _ _ (cut_at hptv)
        have hl2 := s3 _ _ hl
        have hatv : atI ul (((c : Nat) : Int) - ((m.1 : Nat) : Int)) = some (.ref ptv) := at_of (j := c - m.1) (by omega) hvv
        refine ⟨_, rfl, _, rfl, _, rfl, _, _, rfl, rfl, l, _, _, _, rfl, rfl, SqL.of hl2, hatv, ptv, _, 0, _, rfl, rfl, SqT.of hptv, at_of (j := 0) rfl rfl, rfl, _, rfl, ?_⟩
        by_cases hs : tv.1 = "say"
        · rw [if_pos hs] at hsc
          rw [hsc, Option.or_none] at es
          rw [hsc, hpc, if_pos (show (none : Option Ver).isNone = true from rfl)] at ep
          have hdc : m.2.1[c]? = some (m.2.1[c]'(by omega)) := by simp
          obtain ⟨vc, hvc, rvc⟩ := rd.at_ hdc
          have dokc := ok.doms _ (List.mem_of_getElem? hdc)
          have gdc : m.2.1.getD c dfl = m.2.1[c]'(by omega) := getD_of hdc
          have hs2 := hsay2 (m.2.1[c]'(by omega)) hs (by rw [show m.1 + (c - m.1) = c by omega]; exact hdc)
          rw [gdc] at ep
          generalize m.2.1[c]'(by omega) = dc at hdc rvc dokc hs2 ep
          obtain ⟨pc, z1, z2, z3, rfl, hpc2, _, ⟨apc, upc, f5, hapc, rpc⟩, _⟩ := id rvc
          obtain rfl : z2 = .ref apc := f5
          have hpc2 := s3 _ _ (s1 _ _ (cut_at hpc2))
          have hapc := s3 _ _ (s1 _ _ (cut_at hapc))
          obtain rfl := rs_int rpc
          have at0c : atI (dc.2.1.map V.int) 0 = some (.int (dc.2.1.headD 0)) := by
            cases hdd : dc.2.1 with
            | nil => exact absurd hdd dokc.ends.2
            | cons a r => exact at_of (j := 0) rfl rfl
          refine ifY (congrArg V.str hs) ?_
          refine ⟨_, rfl, .inl ⟨rfl, _, SqL.of hsp⟩, _, rfl, _, rfl, _, rfl, _, _, rfl, rfl, l, _, _, _, rfl, rfl, SqL.of hl2, hatv, ptv, _, 1, _, rfl, rfl, SqT.of hptv, at_of (j := 1) rfl rfl, _, rfl, _, rfl, ad, _, _, _, rfl, rfl, SqL.of (s3 _ _ (s1 _ _ had)), atI_nat hvc, pc, _, 1, _, rfl, rfl, SqT.of hpc2, at_of (j := 1) rfl rfl, apc, _, _, _, rfl, rfl, SqL.of hapc, at0c, _, _, rfl, rfl, sp, _, _, rfl, rfl, hsp, szl _ (by rw [List.length_map]; omega), ⟨vs, _, _, _, rfl, ?_⟩, s3.mut nsp, ?_⟩
          · rw [es, cut_upd List.mem_cons_self]; exact hvs
          · rw [ep, List.map_append, upd_same]
            show some (HO.lst (_ ++ [V.int (tv.2 - dc.2.1.headD 0)])) = some (HO.lst (_ ++ [V.int (((tv.2 - dc.2.1.headD 0).toNat : Nat) : Int)]))
            rw [Int.toNat_of_nonneg (by omega)]
        · rw [if_neg hs] at hsc
          rw [hsc] at es
          rw [hsc, if_neg (show ¬ (some tv).isNone = true from Bool.false_ne_true), List.append_nil] at ep
          refine ifN (strI hs) ?_
          refine ⟨_, rfl, rfl, _, rfl, ?_⟩
          cases est : stopV m.1 told (t.1.take j) with
          | none =>
            rw [est] at hvs es
            have hvs : vs = .non := hvs
            subst hvs
            refine ifY rfl ⟨_, rfl, _, rfl, _, rfl, _, _, rfl, rfl, l, _, _, _, rfl, rfl, SqL.of hl2, hatv, ⟨_, _, _, _, rfl, ?_⟩, s3, by rw [ep]; exact hsp⟩
            rw [es]
            exact tVer.mono (s3.more1 nsp) rvv
          | some u =>
            rw [est] at hvs es
            have hne : ¬ vs = .non := fun e => by
              obtain ⟨_, _, _, e3, _⟩ := (show tVer.rep _ vs u from hvs)
              rw [e] at e3; cases e3
            refine ifN hne ⟨⟨vs, _, _, _, rfl, ?_⟩, s3, by rw [ep]; exact hsp⟩
            rw [es]
            exact hvs
    · rintro σ H2 ⟨⟨vs, y7, y8, y9, rfl, hvs⟩, s3, hsp⟩
      rw [List.length_map, List.take_length] at hvs hsp
      have s13 := s1.trans s3
      have hvI : verdI m at0 told i t = match stopV m.1 told t.1 with
        | some v => v
        | none => verdictF t.2.1 ((fitF t.2.2 (spotV m.1 m.2.1 at0 told t.1)).map fun c => d.2.1.headD 0 + ((c : Nat) : Int)) (d.2.1.headD 0) (d.2.1.getLastD 0 - 1) := by unfold verdI; rw [gd]; try (cases stopV m.1 told t.1 <;> rfl)
      have pts0 : atI (d.2.1.map V.int) 0 = some (.int (d.2.1.headD 0)) := by
        cases hdd : d.2.1 with
        | nil => exact absurd hdd dok.ends.2
        | cons a r => exact at_of (j := 0) rfl rfl
      have hl2 := s3 _ _ hl
      refine ⟨_, rfl, _, rfl, _, rfl, _, _, rfl, rfl, ad, _, _, _, rfl, rfl, SqL.of (s13 _ _ had), at_of (j := m.1 + i) (by omega) hvd, pd, _, 1, _, rfl, rfl, SqT.of (s13 _ _ hpd), at_of (j := 1) rfl rfl, ?_⟩
      refine ⟨fun σ H' => (∃ vs y7 y9, σ = [some (.ref pm), some (.ref aa), some (.int (m.1 : Nat)), some (.ref ad), some (.ref att), some (.ref l), some (.int (0 + ((i : Nat) : Int))), some (.ref ac), some (.str t.2.1.nm), some (.ref ar), some (.ref sp), some vs, y7, some (.ref ap), y9] ∧ tVer.rep (cut H' (l :: ls)) vs (verdI m at0 told i t)) ∧ Same H2 H', ?_, ?_⟩
      · refine ⟨_, rfl, rfl, _, rfl, ?_⟩
        cases est : stopV m.1 told t.1 with
        | some u =>
          rw [est] at hvs hvI
          have hne : ¬ vs = .non := fun e => by
            obtain ⟨_, _, _, e3, _⟩ := (show tVer.rep _ vs u from hvs)
            rw [e] at e3; cases e3
          refine ifN hne ⟨⟨vs, _, _, rfl, ?_⟩, Same.refl _⟩
          rw [hvI]
          exact tVer.mono Same.less1 (show tVer.rep _ vs u from hvs)
        | none =>
          rw [est] at hvs hvI
          have hvs : vs = .non := hvs
          subst hvs
          have LL : Live H2 (l :: ls) := Live.cons hl2 (L.to s13)
          have nspL : sp ∉ l :: ls := (Live.cons hl (L.to s1)).no nsp
          have nl0 : H l = none := nl
          have hsl : (spotV m.1 m.2.1 at0 told t.1).length = t.1.length := by unfold spotV; rw [List.length_map, stop_none est]
          have htl := tok.len
          refine ifY rfl ⟨_, rfl, _, rfl, l :: ls, _, _, t.2.2, spotV m.1 m.2.1 at0 told t.1, _, rfl, LL, (tLst tLR).mono (s13.more1 nl0) rrows, ⟨sp, _, rfl, at_cut nspL hsp, nat_rs⟩, ⟨by have := tok.most; omega, by omega, fun x hx => by rw [hsl]; exact (tok.rows x hx).1.1, rfl⟩, fun H3 w3 s4 r3 => ?_⟩
          obtain ⟨af, uf, rfl, haf, rf⟩ := r3
          have haf := cut_at haf
          obtain rfl := rs_nat rf
          have hfl : (fitF t.2.2 (spotV m.1 m.2.1 at0 told t.1)).length ≤ 48 := by
            unfold fitF
            rw [List.length_map]
            exact Nat.le_trans (List.length_filter_le _ _) tok.most
          have s14 := s13.trans s4
          refine ⟨af, rfl, ⟨_, SqL.of haf⟩, fun D nD => ?_⟩
          refine lc_map (walk_list (K := K) (a := af) (xs := (fitF t.2.2 (spotV m.1 m.2.1 at0 told t.1)).map fun n => V.int (n : Nat))) (u := tInt) (ls := l :: ls) ((fitF t.2.2 (spotV m.1 m.2.1 at0 told t.1)).map fun c => d.2.1.headD 0 + ((c : Nat) : Int)) nD (LL.to s4) (by rw [List.length_map]; omega) (by rw [List.length_map, List.length_map]) (fun H' s' => SqL.of (s' _ _ haf)) ?_ ?_
          · rintro j x y H4 H5 R hy s5 sc L2 ⟨rfl, hx⟩ hR
            rw [List.getElem?_map] at hx hy
            obtain ⟨c, hc, rfl⟩ := Option.map_eq_some_iff.mp hx
            rw [hc] at hy
            cases hy
            exact ⟨rfl, _, rfl, ap, _, _, _, rfl, rfl, SqL.of (s5 _ _ (s14 _ _ hap)), pts0, _, rfl, _, _, rfl, rfl, hR _ _ (Same.refl _) rfl⟩
          · intro H4 s5 rD
            refine ⟨_, rfl, _, rfl, l :: ls, _, _, _, _, t.2.1, d.2.1, _, rfl, (LL.to s4).to s5, rD, rfl, (tLst tInt).mono ((s14.trans s5).more1 nl0) rpts, ⟨dok.ends.2, dok.ends.1, rfl⟩, fun H5 w5 s6 r5 => ⟨⟨w5, _, _, rfl, ?_⟩, (s4.trans s5).trans s6⟩⟩
            rw [hvI]
            exact r5
      · rintro σ H3 ⟨⟨vs, y7, y9, rfl, rvs⟩, s4⟩
        refine ⟨_, rfl, .inl ⟨rfl, _, SqL.of (s4 _ _ hl2)⟩, _, rfl, l, _, _, rfl, rfl, s4 _ _ hl2, small1000 (by omega), ⟨_, _, _, _, _, _, _, _, _, rfl⟩, (s13.trans s4).mut nl, _, upd_same, ?_⟩
        rw [cut_upd List.mem_cons_self, etold]
        exact (rul.mono (s3.trans s4).cut).snoc rvs
  · rintro σ H1 ⟨⟨y1, y2, y3, y4, y5, y6, y7, y8, y9, rfl⟩, s1, ul, hl, rul⟩
    rw [e2] at rul
    exact ⟨_, rfl, k _ _ s1 ⟨l, ul, rfl, at_cut (L.no nl) hl, rul.mono Same.less1⟩⟩
end
end Rk
set_option Elab.async false
set_option linter.all false
set_option maxRecDepth 100000
set_option maxHeartbeats 1000000
namespace Rk
open PySem PySem.Spec PyProof.Rows L2
open TL
/-! ### points and pieces -/
def pN (d : LD) (k : Nat) : Int := d.2.1.getD k 0
theorem pN_get {d : LD} {k : Nat} (h : k < d.2.1.length) : pN d k = d.2.1[k] := by
  unfold pN; rw [List.getD_eq_getElem?_getD, List.getElem?_eq_getElem h]; rfl
theorem pN_lt {d : LD} (ok : LDOk d) {j k : Nat} (h : j < k) (hk : k < d.2.1.length) : pN d j < pN d k := by
  rw [pN_get hk, pN_get (by omega)]
  exact List.pairwise_iff_getElem.mp ok.asc j k (by omega) hk h
theorem pN_le {d : LD} (ok : LDOk d) {j k : Nat} (h : j ≤ k) (hk : k < d.2.1.length) : pN d j ≤ pN d k := by
  by_cases e : j = k
  · rw [e]; exact Int.le_refl _
  · have := pN_lt ok (show j < k by omega) hk; omega
theorem headD_pN {d : LD} (ok : LDOk d) : d.2.1.headD 0 = pN d 0 := by
  have := ok.len
  rw [pN_get (by omega), List.headD_eq_head?_getD, List.head?_eq_getElem?, List.getElem?_eq_getElem (by omega)]
  rfl
theorem lastD_pN {d : LD} (ok : LDOk d) : d.2.1.getLastD 0 = pN d (d.2.1.length - 1) := by
  have := ok.len
  rw [pN_get (by omega), List.getLastD_eq_getLast?, List.getLast?_eq_getElem?, List.getElem?_eq_getElem (by omega)]
  rfl
theorem pN_word {d : LD} (ok : LDOk d) (hd : d.1 = true) {k : Nat} (h : k < d.2.1.length) : pN d k = (k : Nat) := by
  have e := (ok.w hd).2.1
  have g : (upTo d.2.1.length)[k]? = some d.2.1[k] := by rw [← e]; exact List.getElem?_eq_getElem h
  rw [pN_get h]
  exact (upTo_get g).1
theorem dom_lo {d : LD} (ok : LDOk d) : (domOf d).lo = pN d 0 := by
  have := ok.len
  unfold domOf
  split
  · rename_i hd
    rw [pN_word ok hd (by omega)]; rfl
  · show d.2.1.headD 0 = _
    exact headD_pN ok
theorem dom_hi {d : LD} (ok : LDOk d) : (domOf d).hi = pN d (d.2.1.length - 1) - 1 := by
  have := ok.len
  unfold domOf
  split
  · rename_i hd
    rw [pN_word ok hd (by omega)]
    have := (ok.w hd).1
    show (d.2.2.length : Int) - 1 = _
    omega
  · show d.2.1.getLastD 0 - 1 = _
    rw [lastD_pN ok]
theorem dom_ok {d : LD} (ok : LDOk d) : (domOf d).Ok := by
  have hl := ok.len
  constructor
  · intro lo hi e
    have h1 := dom_lo ok
    have h2 := dom_hi ok
    rw [e] at h1 h2
    have h1 : lo = pN d 0 := h1
    have h2 : hi = pN d (d.2.1.length - 1) - 1 := h2
    have := pN_lt ok (show 0 < d.2.1.length - 1 by omega) (by omega)
    refine ⟨by omega, ?_, ?_⟩
    · rw [h1, pN_get (by omega)]
      exact (ok.sm (List.getElem_mem _)).1
    · rw [h2, pN_get (by omega)]
      exact (ok.sm (List.getElem_mem _)).2
  · intro ws e
    unfold domOf at e
    split at e
    · rename_i hd
      have e := Dom.words.inj e
      obtain ⟨g1, g2, g3, g4⟩ := ok.w hd
      rw [← e]
      exact ⟨by omega, by omega, g3, g4⟩
    · cases e
theorem piece_V {d : LD} (ok : LDOk d) {k : Nat} (h : k + 1 < d.2.1.length) : PtOk (domOf d) (pieceF d k) ∧ ptV (domOf d) (pieceF d k) = (pN d k, pN d (k + 1) - 1) := by
  have hlo := dom_lo ok
  have hhi := dom_hi ok
  have l0 := pN_le ok (Nat.zero_le k) (by omega)
  have l1 := pN_lt ok (show k < k + 1 by omega) h
  have l2 := pN_le ok (show k + 1 ≤ d.2.1.length - 1 by omega) (by omega)
  by_cases hd : d.1 = true
  · have ed : domOf d = .words d.2.2 := by unfold domOf; rw [if_pos hd]
    have ep : pieceF d k = .word (d.2.2.getD k "") := by unfold pieceF; rw [if_pos hd]
    obtain ⟨g1, g2, g3, g4⟩ := ok.w hd
    have hk : k < d.2.2.length := by omega
    have ew : d.2.2.getD k "" = d.2.2[k] := by rw [List.getD_eq_getElem?_getD, List.getElem?_eq_getElem hk]; rfl
    rw [ed, ep, pN_word ok hd (by omega), pN_word ok hd h, ew]
    refine ⟨List.getElem_mem hk, ?_⟩
    show (((d.2.2.idxOf d.2.2[k] : Nat) : Int), ((d.2.2.idxOf d.2.2[k] : Nat) : Int)) = _
    rw [g4.idxOf_getElem _ hk]
    refine Prod.ext rfl ?_
    show ((k : Nat) : Int) = ((k + 1 : Nat) : Int) - 1
    omega
  · have ed : domOf d = .num (d.2.1.headD 0) (d.2.1.getLastD 0 - 1) := by unfold domOf; rw [if_neg hd]
    rw [ed] at hlo hhi ⊢
    have hlo : d.2.1.headD 0 = pN d 0 := hlo
    have hhi : d.2.1.getLastD 0 - 1 = pN d (d.2.1.length - 1) - 1 := hhi
    have ep : pieceF d k = if pN d (k + 1) - pN d k = 1 then .one (pN d k) else .ab (pN d k) (pN d (k + 1) - 1) := by unfold pieceF; rw [if_neg hd]; rfl
    rw [ep]
    split
    · refine ⟨⟨by omega, by omega⟩, ?_⟩
      show (pN d k, pN d k) = _
      exact Prod.ext rfl (by show pN d k = pN d (k + 1) - 1; omega)
    · exact ⟨⟨by omega, by omega, by omega⟩, rfl⟩
/-- a code lies in a piece -/
def InPc (d : LD) (k : Nat) (c : Int) : Prop := k + 1 < d.2.1.length ∧ pN d k ≤ c ∧ c < pN d (k + 1)
theorem InPc.uni {d : LD} (ok : LDOk d) {j k : Nat} {c : Int} (h1 : InPc d j c) (h2 : InPc d k c) : j = k := by
  obtain ⟨a1, a2, a3⟩ := h1
  obtain ⟨b1, b2, b3⟩ := h2
  rcases Nat.lt_trichotomy j k with q | q | q
  · have := pN_le ok (show j + 1 ≤ k by omega) (by omega); omega
  · exact q
  · have := pN_le ok (show k + 1 ≤ j by omega) (by omega); omega
theorem value_in {d : LD} (ok : LDOk d) {k : Nat} (h : k + 1 < d.2.1.length) (e : Int) : bearsF (domOf d) (valueF d k e) = true ∧ InPc d k (placeF (domOf d) (valueF d k e)) := by
  have l0 := pN_le ok (Nat.zero_le k) (by omega)
  have l1 := pN_lt ok (show k < k + 1 by omega) h
  have l2 := pN_le ok (show k + 1 ≤ d.2.1.length - 1 by omega) (by omega)
  by_cases hd : d.1 = true
  · have ed : domOf d = .words d.2.2 := by unfold domOf; rw [if_pos hd]
    have ep : valueF d k e = .str (d.2.2.getD k "") := by unfold valueF; rw [if_pos hd]
    obtain ⟨g1, g2, g3, g4⟩ := ok.w hd
    have hk : k < d.2.2.length := by omega
    have ew : d.2.2.getD k "" = d.2.2[k] := by rw [List.getD_eq_getElem?_getD, List.getElem?_eq_getElem hk]; rfl
    rw [ed, ep, ew]
    refine ⟨decide_eq_true (List.getElem_mem hk), h, ?_⟩
    show pN d k ≤ ((d.2.2.idxOf d.2.2[k] : Nat) : Int) ∧ ((d.2.2.idxOf d.2.2[k] : Nat) : Int) < pN d (k + 1)
    rw [g4.idxOf_getElem _ hk, pN_word ok hd (by omega), pN_word ok hd h]
    omega
  · have ed : domOf d = .num (d.2.1.headD 0) (d.2.1.getLastD 0 - 1) := by unfold domOf; rw [if_neg hd]
    have ep : valueF d k e = .int (pN d k + e % (pN d (k + 1) - pN d k)) := by unfold valueF; rw [if_neg hd]; rfl
    have m1 := Int.emod_nonneg e (show pN d (k + 1) - pN d k ≠ 0 by omega)
    have m2 := Int.emod_lt_of_pos e (show 0 < pN d (k + 1) - pN d k by omega)
    rw [ed, ep]
    refine ⟨?_, h, ?_, ?_⟩
    · show (decide _ && decide _) = true
      rw [headD_pN ok, lastD_pN ok, decide_eq_true (show pN d 0 ≤ pN d k + e % (pN d (k + 1) - pN d k) by omega), decide_eq_true (show pN d k + e % (pN d (k + 1) - pN d k) ≤ pN d (d.2.1.length - 1) - 1 by omega)]
      rfl
    · show pN d k ≤ pN d k + _; omega
    · show pN d k + _ < _; omega
/-! ### what is merged holds the same -/
theorem held_app (a b : Spans) (n : Int) : heldB (a ++ b) n = (heldB a n || heldB b n) := List.any_append
theorem held_one (p : Int × Int) (n : Int) : heldB [p] n = (decide (p.1 ≤ n) && decide (n ≤ p.2)) := by
  unfold heldB; rw [List.any_cons, List.any_nil, Bool.or_false]
theorem merge_inv (lo hi : Int) : ∀ (ps acc : Spans), Tidy acc → Asc ps → (∀ a ∈ acc, ∀ p ∈ ps, a.2 < p.1) → (∀ q ∈ acc, lo ≤ q.1 ∧ q.2 ≤ hi) → (∀ q ∈ ps, lo ≤ q.1 ∧ q.2 ≤ hi) →
    Tidy (ps.foldl mstep acc) ∧ (∀ n, heldB (ps.foldl mstep acc) n = (heldB acc n || heldB ps n)) ∧ (∀ q ∈ ps.foldl mstep acc, lo ≤ q.1 ∧ q.2 ≤ hi) ∧ (ps.foldl mstep acc).length ≤ acc.length + ps.length
  | [], acc, ht, _, _, hb, _ => ⟨ht, fun n => by show heldB acc n = (heldB acc n || false); rw [Bool.or_false], hb, Nat.le_refl _⟩
  | p :: ps, acc, ht, ha, hlt, hb, hb2 => by
    rw [List.foldl_cons]
    have hp := ha.2 p List.mem_cons_self
    have ha1 := List.pairwise_cons.mp ha.1
    have hasc : Asc ps := ⟨ha1.2, fun q m => ha.2 q (List.mem_cons_of_mem _ m)⟩
    have hbp := hb2 p List.mem_cons_self
    have key : Tidy (mstep acc p) ∧ (∀ n, heldB (mstep acc p) n = (heldB acc n || heldB [p] n)) ∧ (∀ q ∈ mstep acc p, lo ≤ q.1 ∧ q.2 ≤ hi) ∧ (∀ q ∈ mstep acc p, ∀ r ∈ ps, q.2 < r.1) ∧ (mstep acc p).length ≤ acc.length + 1 := by
      rcases List.eq_nil_or_concat acc with e | ⟨t, l, e⟩
      · rw [e, mstep_nil]
        refine ⟨⟨List.pairwise_singleton _ _, fun q m => by rw [List.mem_singleton.mp m]; exact hp⟩, fun n => rfl, fun q m => by rw [List.mem_singleton.mp m]; exact hbp, fun q m r hr => by rw [List.mem_singleton.mp m]; exact ha1.1 r hr, Nat.le_refl _⟩
      · rw [List.concat_eq_append] at e
        rw [e] at ht hlt hb ⊢
        rw [mstep_snoc]
        have hl := ht.2 l (List.mem_append_right _ (List.mem_singleton.mpr rfl))
        have htl := List.pairwise_append.mp ht.1
        have hlp := hlt l (List.mem_append_right _ (List.mem_singleton.mpr rfl)) p List.mem_cons_self
        have hbl := hb l (List.mem_append_right _ (List.mem_singleton.mpr rfl))
        split
        · rename_i hc
          rw [if_pos (show p.2 > l.2 by omega)]
          refine ⟨⟨List.pairwise_append.mpr ⟨htl.1, List.pairwise_singleton _ _, fun a ha' b hb' => ?_⟩, fun q m => ?_⟩, fun n => ?_, fun q m => ?_, fun q m r hr => ?_, ?_⟩
          · rw [List.mem_singleton.mp hb']
            exact htl.2.2 a ha' l (List.mem_singleton.mpr rfl)
          · rcases List.mem_append.mp m with m | m
            · exact ht.2 q (List.mem_append_left _ m)
            · rw [List.mem_singleton.mp m]; show l.1 ≤ p.2; omega
          · rw [held_app, held_app, held_one, held_one, held_one, Bool.or_assoc]
            congr 1
            show (decide (l.1 ≤ n) && decide (n ≤ p.2)) = _
            by_cases q1 : l.1 ≤ n
            · by_cases q2 : n ≤ l.2
              · rw [decide_eq_true q1, decide_eq_true q2, decide_eq_true (show n ≤ p.2 by omega)]; rfl
              · rw [decide_eq_true q1, decide_eq_false q2, decide_eq_true (show p.1 ≤ n by omega)]; rfl
            · rw [decide_eq_false q1, decide_eq_false (show ¬ p.1 ≤ n by omega)]; rfl
          · rcases List.mem_append.mp m with m | m
            · exact hb q (List.mem_append_left _ m)
            · rw [List.mem_singleton.mp m]; exact ⟨hbl.1, hbp.2⟩
          · rcases List.mem_append.mp m with m | m
            · exact hlt q (List.mem_append_left _ m) r (List.mem_cons_of_mem _ hr)
            · rw [List.mem_singleton.mp m]; exact ha1.1 r hr
          · rw [List.length_append, List.length_append]; show t.length + 1 ≤ t.length + 1 + 1; omega
        · rename_i hc
          refine ⟨⟨List.pairwise_append.mpr ⟨ht.1, List.pairwise_singleton _ _, fun a ha' b hb' => ?_⟩, fun q m => ?_⟩, fun n => ?_, fun q m => ?_, fun q m r hr => ?_, ?_⟩
          · rw [List.mem_singleton.mp hb']
            rcases List.mem_append.mp ha' with m | m
            · have := htl.2.2 a m l (List.mem_singleton.mpr rfl)
              omega
            · rw [List.mem_singleton.mp m]; omega
          · rcases List.mem_append.mp m with m | m
            · exact ht.2 q m
            · rw [List.mem_singleton.mp m]; exact hp
          · rw [held_app]
          · rcases List.mem_append.mp m with m | m
            · exact hb q m
            · rw [List.mem_singleton.mp m]; exact hbp
          · rcases List.mem_append.mp m with m | m
            · exact hlt q m r (List.mem_cons_of_mem _ hr)
            · rw [List.mem_singleton.mp m]; exact ha1.1 r hr
          · rw [List.length_append]; exact Nat.le_refl _
    obtain ⟨k1, k2, k3, k4, k5⟩ := key
    obtain ⟨r1, r2, r3, r4⟩ := merge_inv lo hi ps (mstep acc p) k1 hasc k4 k3 (fun q m => hb2 q (List.mem_cons_of_mem _ m))
    refine ⟨r1, fun n => ?_, r3, by rw [List.length_cons]; omega⟩
    rw [r2, k2, Bool.or_assoc]
    congr 1
    exact (held_app [p] ps n).symm
theorem bit_test (b k : Nat) : bitN b k = b.testBit k := by
  unfold bitN
  rw [Nat.testBit_eq_decide_div_mod_eq]
theorem bit_all {n k : Nat} (h : k < n) : bitN (2 ^ n - 1) k = true := by
  rw [bit_test, Nat.testBit_two_pow_sub_one]
  exact decide_eq_true h
theorem bit_none (k : Nat) : bitN 0 k = false := by
  rw [bit_test, Nat.zero_testBit]
theorem bit_some {b n : Nat} (h : b ≠ 0) (hn : b < 2 ^ n) : ∃ k, k < n ∧ bitN b k = true := by
  obtain ⟨i, hi⟩ := Nat.exists_testBit_of_ne_zero h
  refine ⟨i, ?_, by rw [bit_test]; exact hi⟩
  by_cases q : i < n
  · exact q
  · have : b < 2 ^ i := Nat.lt_of_lt_of_le hn (Nat.pow_le_pow_right (by decide) (by omega))
    rw [Nat.testBit_lt_two_pow this] at hi
    cases hi
def pcs (d : LD) (b : Nat) : List Nat := (List.range (d.2.1.length - 1)).filter (bitN b)
theorem pcs_mem {d : LD} {b k : Nat} : k ∈ pcs d b ↔ k < d.2.1.length - 1 ∧ bitN b k = true := by
  unfold pcs; rw [List.mem_filter, List.mem_range]
theorem pcs_V {d : LD} (ok : LDOk d) (b : Nat) : ((pcs d b).map (pieceF d)).map (ptV (domOf d)) = (pcs d b).map fun k => (pN d k, pN d (k + 1) - 1) := by
  rw [List.map_map]
  refine List.map_congr_left fun k hk => ?_
  have := (pcs_mem.mp hk).1
  exact (piece_V ok (by omega)).2
theorem pcs_asc {d : LD} (ok : LDOk d) (b : Nat) : Asc ((pcs d b).map fun k => (pN d k, pN d (k + 1) - 1)) := by
  refine ⟨?_, fun p hp => ?_⟩
  · rw [List.pairwise_map]
    have hr : (pcs d b).Pairwise (· < ·) := List.pairwise_lt_range.filter _
    refine List.Pairwise.imp_of_mem (fun {j k} hj hk h => ?_) hr
    have h1 := (pcs_mem.mp hj).1
    have h2 := (pcs_mem.mp hk).1
    have := pN_le ok (show j + 1 ≤ k by omega) (by omega)
    show pN d (j + 1) - 1 < pN d k
    omega
  · obtain ⟨k, hk, rfl⟩ := List.mem_map.mp hp
    have h1 := (pcs_mem.mp hk).1
    have := pN_lt ok (show k < k + 1 by omega) (by omega)
    show pN d k ≤ pN d (k + 1) - 1
    omega
theorem pcs_len (d : LD) (b : Nat) : (pcs d b).length ≤ d.2.1.length - 1 := by
  unfold pcs
  refine Nat.le_trans (List.length_filter_le _ _) ?_
  rw [List.length_range]; exact Nat.le_refl _
theorem field_parts {d : LD} {b : Nat} (h1 : b ≠ 2 ^ (d.2.1.length - 1) - 1) (h2 : b ≠ 0) : fieldF d b = .parts ((pcs d b).map (pieceF d)) := by
  unfold fieldF; rw [if_neg h1, if_neg h2]; rfl
theorem field_ok {d : LD} (ok : LDOk d) {b : Nat} (hb : b < 2 ^ (d.2.1.length - 1)) : FlOk (domOf d) (fieldF d b) := by
  have hl := ok.len
  by_cases h1 : b = 2 ^ (d.2.1.length - 1) - 1
  · unfold fieldF; rw [if_pos h1]; exact trivial
  by_cases h2 : b = 0
  · unfold fieldF; rw [if_neg h1, if_pos h2]; exact trivial
  rw [field_parts h1 h2]
  refine ⟨fun e => ?_, ?_, fun p hp => ?_, ?_⟩
  · obtain ⟨k, hk, hbk⟩ := bit_some h2 hb
    have : k ∈ pcs d b := pcs_mem.mpr ⟨hk, hbk⟩
    rw [List.map_eq_nil_iff.mp e] at this
    cases this
  · rw [List.length_map]
    have := pcs_len d b
    omega
  · obtain ⟨k, hk, rfl⟩ := List.mem_map.mp hp
    have := (pcs_mem.mp hk).1
    exact (piece_V ok (by omega)).1
  · rw [pcs_V ok]; exact pcs_asc ok b
theorem field_V {d : LD} (ok : LDOk d) {b : Nat} : Tidy (flV (domOf d) (fieldF d b)) ∧ InDom (domOf d) (flV (domOf d) (fieldF d b)) ∧ (flV (domOf d) (fieldF d b)).length ≤ 100 ∧ ∀ k c, InPc d k c → heldB (flV (domOf d) (fieldF d b)) c = bitN b k := by
  have hl := ok.len
  have hlo := dom_lo ok
  have hhi := dom_hi ok
  by_cases h1 : b = 2 ^ (d.2.1.length - 1) - 1
  · have e : flV (domOf d) (fieldF d b) = [((domOf d).lo, (domOf d).hi)] := by unfold fieldF; rw [if_pos h1]; rfl
    rw [e]
    have := pN_lt ok (show 0 < d.2.1.length - 1 by omega) (by omega)
    refine ⟨⟨List.pairwise_singleton _ _, fun q m => by rw [List.mem_singleton.mp m]; show (domOf d).lo ≤ (domOf d).hi; omega⟩, fun q m => by rw [List.mem_singleton.mp m]; exact ⟨Int.le_refl _, Int.le_refl _⟩, by show 1 ≤ 100; omega, fun k c hk => ?_⟩
    obtain ⟨g1, g2, g3⟩ := hk
    have m1 := pN_le ok (Nat.zero_le k) (by omega)
    have m2 := pN_le ok (show k + 1 ≤ d.2.1.length - 1 by omega) (by omega)
    rw [held_one, h1, bit_all (by omega)]
    show (decide ((domOf d).lo ≤ c) && decide (c ≤ (domOf d).hi)) = true
    rw [decide_eq_true (show (domOf d).lo ≤ c by omega), decide_eq_true (show c ≤ (domOf d).hi by omega)]
    rfl
  by_cases h2 : b = 0
  · have e : flV (domOf d) (fieldF d b) = [] := by unfold fieldF; rw [if_neg h1, if_pos h2]; rfl
    rw [e, h2]
    exact ⟨⟨List.Pairwise.nil, fun q m => (by cases m)⟩, fun q m => (by cases m), by show 0 ≤ 100; omega, fun k c hk => (bit_none k).symm⟩
  have e : flV (domOf d) (fieldF d b) = mergeS ((pcs d b).map fun k => (pN d k, pN d (k + 1) - 1)) := by
    rw [field_parts h1 h2]
    show mergeS _ = _
    rw [pcs_V ok]
  have hin : ∀ q ∈ (pcs d b).map fun k => (pN d k, pN d (k + 1) - 1), (domOf d).lo ≤ q.1 ∧ q.2 ≤ (domOf d).hi := by
    intro q hq
    obtain ⟨k, hk, rfl⟩ := List.mem_map.mp hq
    have h1 := (pcs_mem.mp hk).1
    have m1 := pN_le ok (Nat.zero_le k) (by omega)
    have m2 := pN_le ok (show k + 1 ≤ d.2.1.length - 1 by omega) (by omega)
    show (domOf d).lo ≤ pN d k ∧ pN d (k + 1) - 1 ≤ (domOf d).hi
    omega
  obtain ⟨k1, k2, k3, k4⟩ := merge_inv (domOf d).lo (domOf d).hi _ [] ⟨List.Pairwise.nil, fun q m => (by cases m)⟩ (pcs_asc ok b) (fun a m => by cases m) (fun q m => by cases m) hin
  rw [e]
  refine ⟨k1, k3, ?_, fun k c hk => ?_⟩
  · refine Nat.le_trans k4 ?_
    have := pcs_len d b
    rw [List.length_map]
    show 0 + _ ≤ 100
    omega
  · have k2 := k2 c
    have k2 : heldB (mergeS ((pcs d b).map fun k => (pN d k, pN d (k + 1) - 1))) c = (false || heldB ((pcs d b).map fun k => (pN d k, pN d (k + 1) - 1)) c) := k2
    rw [k2, Bool.false_or]
    cases eb : bitN b k with
    | true =>
      refine List.any_eq_true.mpr ⟨_, List.mem_map.mpr ⟨k, pcs_mem.mpr ⟨by have := hk.1; omega, eb⟩, rfl⟩, ?_⟩
      have h1 := hk.2.1
      have h2 := hk.2.2
      show (decide (pN d k ≤ c) && decide (c ≤ pN d (k + 1) - 1)) = true
      rw [decide_eq_true h1, decide_eq_true (show c ≤ pN d (k + 1) - 1 by omega)]
      rfl
    | false =>
      refine List.any_eq_false.mpr fun q hq => ?_
      obtain ⟨j, hj, rfl⟩ := List.mem_map.mp hq
      intro h
      have h : (decide (pN d j ≤ c) && decide (c ≤ pN d (j + 1) - 1)) = true := h
      rw [Bool.and_eq_true] at h
      have h1 := of_decide_eq_true h.1
      have h2 := of_decide_eq_true h.2
      obtain ⟨hj1, hj2⟩ := pcs_mem.mp hj
      have := InPc.uni ok (j := j) (k := k) (c := c) ⟨by omega, h1, by omega⟩ hk
      rw [this, eb] at hj2
      cases hj2
theorem val_out {d : LD} (ok : LDOk d) (co : Cons d) {c : Nat} (h : c < d.2.1.length - 1) : valI d c = d.2.1.headD 0 + (c : Nat) ∧ (domOf d).lo ≤ valI d c ∧ valI d c ≤ (domOf d).hi := by
  have hlo := dom_lo ok
  have hhi := dom_hi ok
  have hc : d.2.1[c]? = some d.2.1[c] := List.getElem?_eq_getElem (by omega)
  have e := co c _ hc
  have ep : pN d c = d.2.1.headD 0 + (c : Nat) := by rw [pN_get (by omega)]; exact e
  have ev : valI d c = pN d c := by
    unfold valI
    split
    · rename_i hd
      rw [pN_word ok hd (by omega)]
    · rfl
  have m1 := pN_le ok (Nat.zero_le c) (by omega)
  have m2 := pN_lt ok (show c < d.2.1.length - 1 by omega) (by omega)
  exact ⟨by rw [ev, ep], by omega, by omega⟩
theorem cons_pc {d : LD} (ok : LDOk d) (co : Cons d) {v : Int} (h1 : d.2.1.headD 0 ≤ v) (h2 : v ≤ d.2.1.getLastD 0 - 1) : InPc d (v - d.2.1.headD 0).toNat v := by
  have hl := ok.len
  have hc := cons_last ok co
  have key : ∀ k, k < d.2.1.length → pN d k = d.2.1.headD 0 + (k : Nat) := fun k hk => by
    rw [pN_get hk]; exact co k _ (List.getElem?_eq_getElem hk)
  have hk : (v - d.2.1.headD 0).toNat + 1 < d.2.1.length := by omega
  refine ⟨hk, ?_, ?_⟩
  · rw [key _ (by omega)]; omega
  · rw [key _ hk]; omega
end Rk
set_option Elab.async false
set_option linter.all false
set_option maxRecDepth 100000
set_option maxHeartbeats 1000000
namespace Rk
open PySem PySem.Spec PyProof.Rows L2
open TL
def valsN (names : List Str) (m : LM) (at_ : List Nat) (extra c : Int) : List (Str × RVal) := ("nobody", .int c) :: (List.range m.1).map fun k => (names.getD k "", valueF (m.2.1.getD k dfl) (at_.getD k 0) extra)
structure NmOk (names : List Str) : Prop where
  len : names.length = 6
  nd : names.Nodup
  wd : ∀ n ∈ names, isWord n = true
  nb : ∀ n ∈ names, n.length = 3
def bookN (names : List Str) (m : LM) (turn : Int) : Bk := srcB (lawSrc names m turn)
/-! ### the law's book -/
theorem nm_get {names : List Str} (nm : NmOk names) {i : Nat} (h : i < 6) : ∃ x, names[i]? = some x ∧ names.getD i "" = x ∧ x ∈ names := by
  have hl := nm.len
  exact ⟨names[i]'(by omega), List.getElem?_eq_getElem _, getD_of (List.getElem?_eq_getElem _), List.getElem_mem _⟩
theorem nm_inj {names : List Str} (nm : NmOk names) {i j : Nat} (hi : i < 6) (hj : j < 6) (e : names.getD i "" = names.getD j "") : i = j := by
  have hl := nm.len
  rw [getD_of (List.getElem?_eq_getElem (show i < names.length by omega)), getD_of (List.getElem?_eq_getElem (show j < names.length by omega))] at e
  exact (List.getElem_inj nm.nd).mp e
theorem nm_word {names : List Str} (nm : NmOk names) {i : Nat} (h : i < 6) : isWord (names.getD i "") = true := by
  obtain ⟨x, _, e, m⟩ := nm_get nm h
  rw [e]; exact nm.wd x m
theorem nd_map_on {A B : Type} {f : A → B} : ∀ {l : List A}, l.Nodup → (∀ x ∈ l, ∀ y ∈ l, f x = f y → x = y) → (l.map f).Nodup
  | [], _, _ => List.nodup_nil
  | a :: l, h, hf => by
    obtain ⟨h1, h2⟩ := List.nodup_cons.mp h
    rw [List.map_cons, List.nodup_cons]
    refine ⟨fun m => ?_, nd_map_on h2 fun x hx y hy => hf x (List.mem_cons_of_mem _ hx) y (List.mem_cons_of_mem _ hy)⟩
    obtain ⟨b, hb, e⟩ := List.mem_map.mp m
    rw [hf b (List.mem_cons_of_mem _ hb) a List.mem_cons_self e] at hb
    exact h1 hb
theorem nd_names {names : List Str} (nm : NmOk names) {l : List Nat} (h : l.Nodup) (hl : ∀ c ∈ l, c < 6) : (l.map fun c => names.getD c "").Nodup :=
  nd_map_on h fun x hx y hy e => nm_inj nm (hl x hx) (hl y hy) e
/-- all the names of the law: those of the facts, then those of the tables, in an order of their own -/
def tix (m : LM) (turn : Int) : List Nat := if turn % 2 = 1 then (List.range m.2.2.length).reverse else List.range m.2.2.length
theorem tix_mem {m : LM} {turn : Int} {i : Nat} : i ∈ tix m turn ↔ i < m.2.2.length := by
  unfold tix
  split
  · rw [List.mem_reverse, List.mem_range]
  · rw [List.mem_range]
theorem nd_range (n : Nat) : (List.range n).Nodup := (List.pairwise_lt_range (n := n)).imp fun {a b} h => Nat.ne_of_lt h
theorem tix_nd (m : LM) (turn : Int) : (tix m turn).Nodup := by
  unfold tix
  split
  · exact List.pairwise_reverse.mpr ((nd_range _).imp fun {a b} h => Ne.symm h)
  · exact nd_range _
theorem tix_len (m : LM) (turn : Int) : (tix m turn).length = m.2.2.length := by
  unfold tix
  split
  · rw [List.length_reverse, List.length_range]
  · rw [List.length_range]
def tI (m : LM) (i : Nat) : LT := m.2.2.getD i ([], .first, [])
def dI (m : LM) (c : Nat) : LD := m.2.1.getD c dfl
theorem src_tabs (names : List Str) (m : LM) (turn : Int) : (lawSrc names m turn).tabs = (tix m turn).map fun i => lawT names m.1 m.2.1 i (tI m i) := by
  show (if turn % 2 = 1 then (lawTs names m).reverse else lawTs names m) = _
  unfold lawTs tix
  split
  · rw [List.map_reverse]; rfl
  · rfl
theorem src_facts_ (names : List Str) (m : LM) (turn : Int) : (lawSrc names m turn).facts = (List.range m.1).map fun k => (names.getD k "", domOf (dI m k)) := rfl
theorem tI_get {m : LM} {i : Nat} (h : i < m.2.2.length) : m.2.2[i]? = some (tI m i) := by
  unfold tI; rw [List.getD_eq_getElem?_getD, List.getElem?_eq_getElem h]; rfl
theorem dI_get {m : LM} {c : Nat} (h : c < m.2.1.length) : m.2.1[c]? = some (dI m c) := by
  unfold dI; rw [List.getD_eq_getElem?_getD, List.getElem?_eq_getElem h]; rfl
theorem dI_ok {m : LM} (ok : LMOk m) {c : Nat} (h : c < m.1 + m.2.2.length) : LDOk (dI m c) := ok.doms _ (List.mem_of_getElem? (dI_get (by rw [ok.len]; exact h)))
theorem tI_ok {m : LM} (ok : LMOk m) {i : Nat} (h : i < m.2.2.length) : LTOk m.1 m.2.1 i (tI m i) := ok.tabs i _ (tI_get h)
theorem dI_cons {m : LM} (ok : LMOk m) {i : Nat} (h : i < m.2.2.length) : Cons (dI m (m.1 + i)) := ok.outs (m.1 + i) _ (by omega) (dI_get (by rw [ok.len]; omega))
theorem le6 {m : LM} (ok : LMOk m) : m.1 + m.2.2.length ≤ 6 := by have := ok.f; have := ok.n; omega
def allix (m : LM) (turn : Int) : List Nat := List.range m.1 ++ (tix m turn).map fun i => m.1 + i
theorem allix_mem {m : LM} {turn : Int} {c : Nat} : c ∈ allix m turn ↔ c < m.1 + m.2.2.length := by
  unfold allix
  rw [List.mem_append, List.mem_range, List.mem_map]
  constructor
  · rintro (h | ⟨i, hi, rfl⟩)
    · omega
    · have := tix_mem.mp hi; omega
  · intro h
    by_cases q : c < m.1
    · exact .inl q
    · exact .inr ⟨c - m.1, tix_mem.mpr (by omega), by omega⟩
theorem allix_nd (m : LM) (turn : Int) : (allix m turn).Nodup := by
  unfold allix
  refine List.nodup_append.mpr ⟨nd_range _, nd_map_on (tix_nd m turn) fun x _ y _ e => by omega, fun a ha b hb e => ?_⟩
  have := List.mem_range.mp ha
  obtain ⟨i, _, rfl⟩ := List.mem_map.mp hb
  omega
theorem src_D (names : List Str) (m : LM) (turn : Int) : srcD (lawSrc names m turn) = (allix m turn).map fun c => (names.getD c "", domOf (dI m c)) := by
  unfold srcD allix
  rw [src_tabs, src_facts_, List.map_append, List.map_map, List.map_map]
  rfl
theorem src_keys (names : List Str) (m : LM) (turn : Int) : (srcD (lawSrc names m turn)).map (·.1) = (allix m turn).map fun c => names.getD c "" := by
  rw [src_D, List.map_map]; rfl
theorem src_keys_nd {names : List Str} (nm : NmOk names) {m : LM} (ok : LMOk m) (turn : Int) : ((srcD (lawSrc names m turn)).map (·.1)).Nodup := by
  rw [src_keys]
  exact nd_names nm (allix_nd m turn) fun c hc => by have := allix_mem.mp hc; have := le6 ok; omega
theorem src_look {names : List Str} (nm : NmOk names) {m : LM} (ok : LMOk m) (turn : Int) {c : Nat} (h : c < m.1 + m.2.2.length) : look (srcD (lawSrc names m turn)) (names.getD c "") = some (domOf (dI m c)) := by
  refine look_mem (src_keys_nd nm ok turn) ?_
  rw [src_D]
  exact List.mem_map.mpr ⟨c, allix_mem.mpr h, rfl⟩
/-- a table as it is read -/
def rowL (m : LM) (i : Nat) (r : LR) : Row := ((List.range (tI m i).1.length).map fun k => flV (domOf (dI m ((tI m i).1.getD k 0))) (fieldF (dI m ((tI m i).1.getD k 0)) (r.1.getD k 0)), valI (dI m (m.1 + i)) r.2)
def tabL (names : List Str) (m : LM) (i : Nat) : Tab := ⟨names.getD (m.1 + i) "", (tI m i).1.map (fun c => names.getD c ""), (tI m i).1.map (fun c => domOf (dI m c)), domOf (dI m (m.1 + i)), (tI m i).2.1, (tI m i).2.2.map (rowL m i)⟩
theorem doms_L {names : List Str} (nm : NmOk names) {m : LM} (ok : LMOk m) (turn : Int) {i : Nat} (h : i < m.2.2.length) : domsOf (srcD (lawSrc names m turn)) (lawT names m.1 m.2.1 i (tI m i)) = (tI m i).1.map fun c => domOf (dI m c) := by
  unfold domsOf
  show ((tI m i).1.map _).map _ = _
  rw [List.map_map]
  refine List.map_congr_left fun c hc => ?_
  have := (tI_ok ok h).lt c hc
  show (look _ (names.getD c "")).getD _ = _
  rw [src_look nm ok turn (by omega)]
  rfl
theorem cells_L {m : LM} {i : Nat} {out : LD} (r : LR) : cellsF ((tI m i).1.map fun c => domOf (dI m c)) (lawR m.2.1 (tI m i).1 out r) = (List.range (tI m i).1.length).map fun k => flV (domOf (dI m ((tI m i).1.getD k 0))) (fieldF (dI m ((tI m i).1.getD k 0)) (r.1.getD k 0)) := by
  unfold cellsF lawR
  apply List.ext_getElem?
  intro k
  rw [List.getElem?_map, List.getElem?_map]
  by_cases hk : k < (tI m i).1.length
  · have e1 : (List.range (tI m i).1.length)[k]? = some k := by rw [List.getElem?_range hk]
    have e2 : ((tI m i).1.map fun c => domOf (dI m c))[k]? = some (domOf (dI m ((tI m i).1.getD k 0))) := by
      rw [List.getElem?_map, List.getElem?_eq_getElem hk, getD_of (List.getElem?_eq_getElem hk)]
      rfl
    have e3 : ((List.range (tI m i).1.length).map fun k => fieldF (m.2.1.getD ((tI m i).1.getD k 0) dfl) (r.1.getD k 0))[k]? = some (fieldF (dI m ((tI m i).1.getD k 0)) (r.1.getD k 0)) := by
      rw [List.getElem?_map, e1]; rfl
    rw [e1, show (((List.range (tI m i).1.length).map fun k => fieldF (m.2.1.getD ((tI m i).1.getD k 0) dfl) (r.1.getD k 0)).zip ((tI m i).1.map fun c => domOf (dI m c)))[k]? = some (_, _) from List.getElem?_zip_eq_some.mpr ⟨e3, e2⟩]
    rfl
  · rw [List.getElem?_eq_none_iff.mpr (by rw [List.length_zip, List.length_map, List.length_range, List.length_map]; omega), List.getElem?_eq_none_iff.mpr (by rw [List.length_range]; omega)]
    rfl
theorem tab_L {names : List Str} (nm : NmOk names) {m : LM} (ok : LMOk m) (turn : Int) {i : Nat} (h : i < m.2.2.length) : tabOf (srcD (lawSrc names m turn)) (lawT names m.1 m.2.1 i (tI m i)) = tabL names m i := by
  unfold tabOf
  rw [doms_L nm ok turn h]
  unfold tabL
  have e : ((lawT names m.1 m.2.1 i (tI m i)).rows.map fun r => (cellsF ((tI m i).1.map fun c => domOf (dI m c)) r, r.2)) = (tI m i).2.2.map (rowL m i) := by
    show ((tI m i).2.2.map (lawR m.2.1 (tI m i).1 (dI m (m.1 + i)))).map _ = _
    rw [List.map_map]
    refine List.map_congr_left fun r _ => ?_
    show (cellsF _ (lawR m.2.1 (tI m i).1 (dI m (m.1 + i)) r), valI (dI m (m.1 + i)) r.2) = _
    rw [cells_L]
    rfl
  rw [e]
  rfl
theorem book_tabs {names : List Str} (nm : NmOk names) {m : LM} (ok : LMOk m) (turn : Int) : (bookN names m turn).tabs = (tix m turn).map (tabL names m) := by
  show ((lawSrc names m turn).tabs).map _ = _
  rw [src_tabs, List.map_map]
  exact List.map_congr_left fun i hi => tab_L nm ok turn (tix_mem.mp hi)
theorem book_facts (names : List Str) (m : LM) (turn : Int) : (bookN names m turn).facts = (List.range m.1).map fun k => (names.getD k "", domOf (dI m k)) := rfl
theorem book_names {names : List Str} (nm : NmOk names) {m : LM} (ok : LMOk m) (turn : Int) : namesOf (bookN names m turn).facts (bookN names m turn).tabs = srcD (lawSrc names m turn) := by
  unfold namesOf
  rw [book_tabs nm ok, book_facts, src_D]
  unfold allix
  rw [List.map_append, List.map_map, List.map_map]
  rfl
theorem row_L {names : List Str} {m : LM} (ok : LMOk m) {i : Nat} (h : i < m.2.2.length) {r : LR} (hr : r ∈ (tI m i).2.2) : RowOk ((tI m i).1.map fun c => domOf (dI m c)) (domOf (dI m (m.1 + i))) (rowL m i r) := by
  have tok := tI_ok ok h
  obtain ⟨⟨hb1, hb2⟩, hc⟩ := tok.rows r hr
  have hc := hc _ (dI_get (by rw [ok.len]; omega))
  refine ⟨by unfold rowL; rw [List.length_map, List.length_range, List.length_map], fun k sp d h1 h2 => ?_, ?_⟩
  · unfold rowL at h1
    rw [List.getElem?_map] at h1 h2
    obtain ⟨k', hk', rfl⟩ := Option.map_eq_some_iff.mp h1
    obtain ⟨hk1, hk2⟩ := List.getElem?_eq_some_iff.mp hk'
    rw [List.getElem_range] at hk2
    subst hk2
    obtain ⟨c, hc1, rfl⟩ := Option.map_eq_some_iff.mp h2
    have hlt := tok.lt c (List.mem_of_getElem? hc1)
    rw [getD_of hc1]
    obtain ⟨g1, g2, g3, _⟩ := field_V (dI_ok ok (show c < m.1 + m.2.2.length by omega)) (b := r.1.getD k 0)
    exact ⟨g1, g2, g3⟩
  · exact (val_out (dI_ok ok (by omega)) (dI_cons ok h) hc).2
theorem tab_ok {names : List Str} (nm : NmOk names) {m : LM} (ok : LMOk m) {i : Nat} (h : i < m.2.2.length) : TabOk (tabL names m i) := by
  have tok := tI_ok ok h
  have h6 := le6 ok
  have hl := tok.len
  refine ⟨nm_word nm (by omega), fun c hc => ?_, ?_, ?_, ?_, fun d hd => ?_, dom_ok (dI_ok ok (by omega)), fun hs => ?_, ?_, fun r' hr' => ?_⟩
  · obtain ⟨x, hx, rfl⟩ := List.mem_map.mp (show c ∈ (tI m i).1.map _ from hc)
    have := tok.lt x hx
    exact nm_word nm (by omega)
  · have : (((m.1 + i) :: (tI m i).1).map fun c => names.getD c "").Nodup := nd_names nm (List.nodup_cons.mpr ⟨fun mm => by have := tok.lt _ mm; omega, tok.nd⟩) fun c hc => by
      rcases List.mem_cons.mp hc with e | e
      · omega
      · have := tok.lt c e; omega
    exact this
  · show 1 ≤ ((tI m i).1.map _).length ∧ ((tI m i).1.map _).length ≤ 4
    rw [List.length_map]; omega
  · show ((tI m i).1.map _).length = ((tI m i).1.map _).length
    rw [List.length_map, List.length_map]
  · obtain ⟨x, hx, rfl⟩ := List.mem_map.mp (show d ∈ (tI m i).1.map _ from hd)
    have := tok.lt x hx
    exact dom_ok (dI_ok ok (by omega))
  · have := tok.way _ (dI_get (by rw [ok.len]; omega))
    have hs : (tI m i).2.1 = .sum := hs
    have : ¬ (dI m (m.1 + i)).1 = true := fun q => this q hs
    exact ⟨_, _, by show domOf _ = _; unfold domOf; rw [if_neg this]⟩
  · show ((tI m i).2.2.map _).length ≤ 200
    have := tok.most
    rw [List.length_map]; omega
  · obtain ⟨r, hr, rfl⟩ := List.mem_map.mp (show r' ∈ (tI m i).2.2.map _ from hr')
    exact row_L (names := names) ok h hr
theorem idx_nm {names : List Str} (nm : NmOk names) {c : Nat} (h : c < 6) : names.idxOf (names.getD c "") = c := by
  have hl := nm.len
  rw [getD_of (List.getElem?_eq_getElem (show c < names.length by omega))]
  exact nm.nd.idxOf_getElem _ _
def rankL (names : List Str) (m : LM) (s : Str) : Nat := min 2 (names.idxOf s - m.1)
theorem tn_iff {names : List Str} (nm : NmOk names) {m : LM} (ok : LMOk m) (turn : Int) {c : Nat} (h : c < 6) : names.getD c "" ∈ tabNames (bookN names m turn) ↔ m.1 ≤ c ∧ c < m.1 + m.2.2.length := by
  unfold tabNames
  rw [book_tabs nm ok, List.map_map, List.mem_map]
  have h6 := le6 ok
  constructor
  · rintro ⟨i, hi, e⟩
    have hi := tix_mem.mp hi
    have := nm_inj nm (show m.1 + i < 6 by omega) h e
    omega
  · rintro ⟨h1, h2⟩
    exact ⟨c - m.1, tix_mem.mpr (by omega), by show names.getD (m.1 + (c - m.1)) "" = _; rw [show m.1 + (c - m.1) = c by omega]⟩
theorem book_rank {names : List Str} (nm : NmOk names) {m : LM} (ok : LMOk m) (turn : Int) : Ranked (rankL names m) (bookN names m turn).tabs ∧ ∀ n, rankL names m n ≤ 2 := by
  refine ⟨fun t ht c hc hn => ?_, fun n => Nat.min_le_left _ _⟩
  have h6 := le6 ok
  have hn3 := ok.n
  rw [book_tabs nm ok] at ht
  obtain ⟨i, hi, rfl⟩ := List.mem_map.mp ht
  have hi := tix_mem.mp hi
  obtain ⟨x, hx, rfl⟩ := List.mem_map.mp (show c ∈ (tI m i).1.map _ from hc)
  have hlt := (tI_ok ok hi).lt x hx
  have := (tn_iff nm ok turn (c := x) (by omega)).mp hn
  show rankL names m (names.getD x "") < rankL names m (names.getD (m.1 + i) "")
  unfold rankL
  rw [idx_nm nm (by omega), idx_nm nm (by omega)]
  omega
theorem book_ok {names : List Str} (nm : NmOk names) {m : LM} (ok : LMOk m) (turn : Int) : BkOk (bookN names m turn) := by
  have h6 := le6 ok
  have hf := ok.f
  have hn := ok.n
  refine ⟨fun p hp => ?_, ?_, ?_, fun t ht => ?_, fun t ht k c d h1 h2 => ?_, rankL names m, book_rank nm ok turn⟩
  · rw [book_facts] at hp
    obtain ⟨k, hk, rfl⟩ := List.mem_map.mp hp
    have := List.mem_range.mp hk
    exact ⟨nm_word nm (by omega), dom_ok (dI_ok ok (by omega))⟩
  · rw [book_names nm ok]; exact src_keys_nd nm ok turn
  · rw [book_facts, book_tabs nm ok, List.length_map, List.length_map, List.length_range, tix_len]; omega
  · rw [book_tabs nm ok] at ht
    obtain ⟨i, hi, rfl⟩ := List.mem_map.mp ht
    exact tab_ok nm ok (tix_mem.mp hi)
  · rw [book_tabs nm ok] at ht
    obtain ⟨i, hi, rfl⟩ := List.mem_map.mp ht
    have hi := tix_mem.mp hi
    rw [book_names nm ok]
    have h1 : ((tI m i).1.map _)[k]? = some c := h1
    have h2 : ((tI m i).1.map _)[k]? = some d := h2
    rw [List.getElem?_map] at h1 h2
    obtain ⟨x, hx, rfl⟩ := Option.map_eq_some_iff.mp h1
    rw [hx] at h2
    have h2 : some (domOf (dI m x)) = some d := h2
    have hlt := (tI_ok ok hi).lt x (List.mem_of_getElem? hx)
    rw [src_look nm ok turn (by omega), h2]
theorem flat_len {A B : Type} {f : A → List B} {k : Nat} : ∀ {l : List A}, (∀ t ∈ l, (f t).length ≤ k) → (l.flatMap f).length ≤ k * l.length
  | [], _ => Nat.zero_le _
  | t :: l, h => by
    rw [List.flatMap_cons, List.length_append, List.length_cons, Nat.mul_succ]
    have := h t List.mem_cons_self
    have := flat_len (l := l) fun t m => h t (List.mem_cons_of_mem _ m)
    omega
theorem few_lines {s : Src} (hf : s.facts.length ≤ 3) (ht : s.tabs.length ≤ 3) (hr : ∀ t ∈ s.tabs, t.rows.length ≤ 48) : (srcP s).length ≤ 200 := by
  have h := flat_len (f := tabP) (k := 49) (l := s.tabs) fun t m => by
    have := hr t m
    show (_ :: List.map _ _).length ≤ 49
    rw [List.length_cons, List.length_map]; omega
  have e : (srcP s).length = (tabsP s.tabs).length + s.facts.length := by
    unfold srcP
    split
    · rw [List.length_append, List.length_map]
    · rw [List.length_append, List.length_map]; omega
  have h : (tabsP s.tabs).length ≤ 49 * s.tabs.length := h
  have : 49 * s.tabs.length ≤ 49 * 3 := Nat.mul_le_mul_left _ ht
  omega
theorem some_lines {s : Src} (hf : 1 ≤ s.facts.length) : srcP s ≠ [] := by
  intro e
  have e := congrArg List.length e
  unfold srcP at e
  split at e
  · rw [List.length_append, List.length_map] at e
    have e : _ = 0 := e
    omega
  · rw [List.length_append, List.length_map] at e
    have e : _ = 0 := e
    omega
theorem law_src {names : List Str} (nm : NmOk names) {m : LM} (ok : LMOk m) (turn : Int) : SrcOk (lawSrc names m turn) := by
  have hf := ok.f
  have hn := ok.n
  refine ⟨book_ok nm ok turn, fun t ht => ?_, few_lines ?_ ?_ fun t ht => ?_, some_lines ?_⟩
  · rw [src_tabs] at ht
    obtain ⟨i, hi, rfl⟩ := List.mem_map.mp ht
    have hi := tix_mem.mp hi
    have tok := tI_ok ok hi
    refine ⟨fun c hc => ?_, fun r' hr' => ?_, fun r' hr' k f d h1 h2 => ?_⟩
    · obtain ⟨x, hx, rfl⟩ := List.mem_map.mp (show c ∈ (tI m i).1.map _ from hc)
      have hlt := tok.lt x hx
      exact ⟨_, src_look nm ok turn (by omega), dom_ok (dI_ok ok (by omega))⟩
    · obtain ⟨r, hr, rfl⟩ := List.mem_map.mp (show r' ∈ (tI m i).2.2.map _ from hr')
      show ((List.range _).map _).length = ((tI m i).1.map _).length
      rw [List.length_map, List.length_range, List.length_map]
    · obtain ⟨r, hr, rfl⟩ := List.mem_map.mp (show r' ∈ (tI m i).2.2.map _ from hr')
      rw [doms_L nm ok turn hi, List.getElem?_map] at h2
      obtain ⟨c, hc, rfl⟩ := Option.map_eq_some_iff.mp h2
      have h1 : ((List.range (tI m i).1.length).map fun k => fieldF (m.2.1.getD ((tI m i).1.getD k 0) dfl) (r.1.getD k 0))[k]? = some f := h1
      rw [List.getElem?_map] at h1
      obtain ⟨k', hk', rfl⟩ := Option.map_eq_some_iff.mp h1
      obtain ⟨hk1, hk2⟩ := List.getElem?_eq_some_iff.mp hk'
      rw [List.getElem_range] at hk2
      subst hk2
      rw [List.length_range] at hk1
      have hlt := tok.lt c (List.mem_of_getElem? hc)
      obtain ⟨⟨hb1, hb2⟩, _⟩ := tok.rows r hr
      have hbk : r.1[k]? = some (r.1[k]'(by omega)) := List.getElem?_eq_getElem _
      rw [getD_of hc, getD_of hbk]
      exact field_ok (dI_ok ok (by omega)) (hb2 k c _ _ hc (dI_get (by rw [ok.len]; omega)) hbk)
  · rw [src_facts_, List.length_map, List.length_range]; omega
  · rw [src_tabs, List.length_map, tix_len]; omega
  · rw [src_tabs] at ht
    obtain ⟨i, hi, rfl⟩ := List.mem_map.mp ht
    show ((tI m i).2.2.map _).length ≤ 48
    rw [List.length_map]
    exact (tI_ok ok (tix_mem.mp hi)).most
  · rw [src_facts_, List.length_map, List.length_range]; omega
theorem law_again {names : List Str} (nm : NmOk names) {m : LM} (ok : LMOk m) (turn : Int) : SrcOk (showSrc (bookN names m turn)) := by
  have hf := ok.f
  have hn := ok.n
  have e1 : (showSrc (bookN names m turn)).facts.length = m.1 := by
    show (bookN names m turn).facts.length = _
    rw [book_facts, List.length_map, List.length_range]
  have e2 : (showSrc (bookN names m turn)).tabs = ((tix m turn).map (tabL names m)).map showT := by
    show (bookN names m turn).tabs.map showT = _
    rw [book_tabs nm ok]
  refine show_ok (book_ok nm ok turn) (few_lines (by omega) ?_ fun t ht => ?_) (some_lines (by omega))
  · rw [e2, List.length_map, List.length_map, tix_len]; omega
  · rw [e2, List.map_map] at ht
    obtain ⟨i, hi, rfl⟩ := List.mem_map.mp ht
    show (((tI m i).2.2.map _).map _).length ≤ 48
    rw [List.length_map, List.length_map]
    exact (tI_ok ok (tix_mem.mp hi)).most
end Rk
set_option Elab.async false
set_option linter.all false
set_option maxRecDepth 100000
set_option maxHeartbeats 1000000
namespace Rk
open PySem PySem.Spec PyProof.Rows L2
open TL
/-! ### the tables asked, in their order -/
structure Gd (b : Bk) (l : List Str) : Prop where
  nd : l.Nodup
  sub : ∀ x ∈ l, x ∈ tabNames b
  cl : ∀ (i : Nat) x, l[i]? = some x → ∀ c ∈ askedF b x, c ∈ l.take i
theorem gath_fold {b : Bk} {rank : Str → Nat} {f : Nat} {n : Str} (ih : ∀ (a : Str) (told : List Str), a ∈ tabNames b → rank a < f → Gd b told → ∃ r, gathF b f a told = told ++ r ∧ Gd b (told ++ r) ∧ a ∈ told ++ r ∧ ∀ x ∈ r, rank x ≤ rank a) :
    ∀ (l told : List Str), (∀ a ∈ l, a ∈ tabNames b ∧ rank a < f ∧ rank a < rank n) → Gd b told → ∃ r, l.foldl (fun acc a => gathF b f a acc) told = told ++ r ∧ Gd b (told ++ r) ∧ (∀ a ∈ l, a ∈ told ++ r) ∧ ∀ x ∈ r, rank x < rank n
  | [], told, _, g => ⟨[], by rw [List.append_nil]; rfl, by rw [List.append_nil]; exact g, fun a m => (by cases m), fun x m => (by cases m)⟩
  | a :: l, told, h, g => by
    obtain ⟨h1, h2, h3⟩ := h a List.mem_cons_self
    obtain ⟨r, e, g1, m1, k1⟩ := ih a told h1 h2 g
    obtain ⟨r2, e2, g2, m2, k2⟩ := gath_fold ih l (told ++ r) (fun x m => h x (List.mem_cons_of_mem _ m)) g1
    rw [List.append_assoc] at e2 g2 m2
    refine ⟨r ++ r2, by rw [List.foldl_cons, e]; exact e2, g2, fun x m => ?_, fun x m => ?_⟩
    · rcases List.mem_cons.mp m with e3 | m
      · rw [e3, ← List.append_assoc]; exact List.mem_append_left _ m1
      · exact m2 x m
    · rcases List.mem_append.mp m with m | m
      · have := k1 x m; omega
      · exact k2 x m
theorem gath_ok {b : Bk} {rank : Str → Nat} (hr : Ranked rank b.tabs) : ∀ (f : Nat) (n : Str) (told : List Str), n ∈ tabNames b → rank n < f → Gd b told → ∃ r, gathF b f n told = told ++ r ∧ Gd b (told ++ r) ∧ n ∈ told ++ r ∧ ∀ x ∈ r, rank x ≤ rank n
  | 0, _, _, _, h, _ => absurd h (by omega)
  | f + 1, n, told, hn, h, g => by
    unfold gathF
    split
    · rename_i hm
      exact ⟨[], by rw [List.append_nil], by rw [List.append_nil]; exact g, by rw [List.append_nil]; exact hm, fun x m => (by cases m)⟩
    · rename_i hm
      obtain ⟨r, e, g1, m1, k1⟩ := gath_fold (b := b) (rank := rank) (f := f) (n := n) (fun a told ha hra g => gath_ok hr f a told ha hra g) (askedF b n) told (fun a ha => ⟨asked_mem ha, by have := asked_rank hr ha; omega, asked_rank hr ha⟩) g
      have hnew : n ∉ told ++ r := fun m => by
        rcases List.mem_append.mp m with m | m
        · exact hm m
        · have := k1 n m; omega
      refine ⟨r ++ [n], by rw [e, List.append_assoc], ?_, by rw [← List.append_assoc]; exact List.mem_append_right _ (List.mem_singleton.mpr rfl), fun x m => ?_⟩
      · rw [← List.append_assoc]
        refine ⟨List.nodup_append.mpr ⟨g1.nd, by simp, fun a ha c hc e => ?_⟩, fun x m => ?_, fun i x hx c hc => ?_⟩
        · rw [List.mem_singleton.mp hc] at e
          exact hnew (e ▸ ha)
        · rcases List.mem_append.mp m with m | m
          · exact g1.sub x m
          · rw [List.mem_singleton.mp m]; exact hn
        · by_cases q : i < (told ++ r).length
          · rw [List.getElem?_append_left q] at hx
            rw [List.take_append_of_le_length (by omega)]
            exact g1.cl i x hx c hc
          · have hi := (List.getElem?_eq_some_iff.mp hx).1
            rw [List.length_append (as := told ++ r)] at hi
            have hi : i < (told ++ r).length + 1 := hi
            have ei : i = (told ++ r).length := by omega
            rw [ei, List.getElem?_append_right (Nat.le_refl _), Nat.sub_self] at hx
            have ex : n = x := Option.some.inj hx
            rw [ei, List.take_append_of_le_length (Nat.le_refl _), List.take_length]
            rw [← ex] at hc
            exact m1 c hc
      · rcases List.mem_append.mp m with m | m
        · have := k1 x m; omega
        · rw [List.mem_singleton.mp m]; exact Nat.le_refl _
theorem order_ok {b : Bk} {rank : Str → Nat} (hr : Ranked rank b.tabs) (h2 : ∀ n, rank n ≤ 2) {n : Str} (hn : n ∈ tabNames b) : Gd b (orderF b n) ∧ (orderF b n).getLast? = some n := by
  obtain ⟨r, e, g, m, k⟩ := gath_ok hr 3 n [] hn (by have := h2 n; omega) ⟨List.nodup_nil, fun x m => (by cases m), fun i x h => (by simp at h)⟩
  refine ⟨by unfold orderF; rw [e]; exact g, ?_⟩
  unfold orderF gathF
  rw [if_neg (by simp)]
  exact List.getLast?_concat
theorem find_nd {ts : List Tab} {t : Tab} (hnd : (ts.map (·.name)).Nodup) (h : t ∈ ts) : (ts.find? fun x => decide (x.name = t.name)) = some t := by
  induction ts with
  | nil => cases h
  | cons a ts ih =>
    obtain ⟨h1, h2⟩ := List.nodup_cons.mp (show (a.name :: ts.map (·.name)).Nodup from hnd)
    rw [List.find?_cons]
    rcases List.mem_cons.mp h with e | m
    · rw [← e, decide_eq_true rfl]
    · have : ¬ a.name = t.name := fun e => h1 (by rw [e]; exact List.mem_map.mpr ⟨t, m, rfl⟩)
      rw [decide_eq_false this]
      exact ih h2 m
theorem find_L {names : List Str} (nm : NmOk names) {m : LM} (ok : LMOk m) (turn : Int) {i : Nat} (h : i < m.2.2.length) : findTab (bookN names m turn) (names.getD (m.1 + i) "") = some (tabL names m i) := by
  unfold findTab
  have hnd := (book_ok nm ok turn).nd
  rw [names_keys] at hnd
  refine find_nd (t := tabL names m i) (List.nodup_append.mp hnd).2.1 ?_
  rw [book_tabs nm ok]
  exact List.mem_map.mpr ⟨i, tix_mem.mpr h, rfl⟩
theorem tn_ex {names : List Str} (nm : NmOk names) {m : LM} (ok : LMOk m) (turn : Int) {x : Str} (h : x ∈ tabNames (bookN names m turn)) : ∃ i, i < m.2.2.length ∧ x = names.getD (m.1 + i) "" := by
  unfold tabNames at h
  rw [book_tabs nm ok, List.map_map] at h
  obtain ⟨i, hi, rfl⟩ := List.mem_map.mp h
  exact ⟨i, tix_mem.mp hi, rfl⟩
/-! ### what fits -/
theorem look_snoc {A : Type} {l : List (Str × A)} {k x : Str} {v : A} : look (l ++ [(k, v)]) x = match look l x with
    | some z => some z
    | none => if k = x then some v else none := by
  induction l with
  | nil =>
    show look [(k, v)] x = if k = x then some v else none
    rw [look_cons]; rfl
  | cons p l ih =>
    rw [List.cons_append, look_cons, look_cons, ih]
    split
    · rfl
    · rfl
theorem picked_map {rows : List Row} {h : Row → Bool} : picked rows (rows.map h) = (rows.filter h).map (·.2) := by
  unfold picked
  induction rows with
  | nil => rfl
  | cons r rows ih =>
    rw [List.map_cons, List.zip_cons_cons, List.filter_cons, List.filter_cons]
    split
    · rw [List.map_cons, List.map_cons, ih]
    · exact ih
theorem all_zip {A B C : Type} {f : A → B → Bool} {g : Nat → Bool} : ∀ {l : List A} {k : List B}, l.length = k.length → (∀ i a b, l[i]? = some a → k[i]? = some b → f a b = g i) → ((l.zip k).all fun p => f p.1 p.2) = (List.range k.length).all g
  | [], [], _, _ => rfl
  | a :: l, b :: k, hl, h => by
    rw [List.zip_cons_cons, List.all_cons, List.length_cons, List.range_succ_eq_map, List.all_cons, List.all_map]
    rw [h 0 a b rfl rfl, all_zip (C := C) (g := g ∘ Nat.succ) (Nat.succ.inj hl) fun i x y hx hy => h (i + 1) x y hx hy]
  | [], _ :: _, hl, _ => by cases hl
  | _ :: _, [], hl, _ => by cases hl
/-- codes of the columns lie in the pieces of the spot -/
theorem fit_L {m : LM} (ok : LMOk m) {i : Nat} (h : i < m.2.2.length) {own : List Int} {spot : List Nat} (h1 : own.length = (tI m i).1.length) (h2 : spot.length = (tI m i).1.length) (hin : ∀ (k : Nat) c v s, (tI m i).1[k]? = some c → own[k]? = some v → spot[k]? = some s → InPc (dI m c) s v) (r : LR) : fitsF (rowL m i r).1 own = fitB r spot := by
  unfold fitsF fitB
  have hlen : (rowL m i r).1.length = own.length := by
    unfold rowL; rw [List.length_map, List.length_range, h1]
  rw [h2, ← h1]
  refine all_zip (C := Nat) hlen fun k sp v hk hv => ?_
  unfold rowL at hk
  rw [List.getElem?_map] at hk
  obtain ⟨k', hk', rfl⟩ := Option.map_eq_some_iff.mp hk
  obtain ⟨hk1, hk2⟩ := List.getElem?_eq_some_iff.mp hk'
  rw [List.getElem_range] at hk2
  subst hk2
  rw [List.length_range] at hk1
  have hc : (tI m i).1[k]? = some (tI m i).1[k] := List.getElem?_eq_getElem hk1
  have hs : spot[k]? = some (spot[k]'(by omega)) := List.getElem?_eq_getElem _
  have hlt := (tI_ok ok h).lt _ (List.mem_of_getElem? hc)
  have := hin k _ _ _ hc hv hs
  rw [getD_of hc, getD_of hs]
  exact (field_V (dI_ok ok (by omega))).2.2.2 _ _ this
theorem pick_L {m : LM} (ok : LMOk m) {names : List Str} {i : Nat} (h : i < m.2.2.length) {own : List Int} {spot : List Nat} (h1 : own.length = (tI m i).1.length) (h2 : spot.length = (tI m i).1.length) (hin : ∀ (k : Nat) c v s, (tI m i).1[k]? = some c → own[k]? = some v → spot[k]? = some s → InPc (dI m c) s v) :
    picked (tabL names m i).rows (fsOf (tabL names m i) own) = (fitF (tI m i).2.2 spot).map fun c => (dI m (m.1 + i)).2.1.headD 0 + ((c : Nat) : Int) := by
  unfold fsOf
  rw [picked_map]
  show (((tI m i).2.2.map (rowL m i)).filter fun r => fitsF r.1 own).map (·.2) = _
  rw [List.filter_map, List.map_map]
  unfold fitF
  rw [List.map_map]
  have e : (tI m i).2.2.filter ((fun r => fitsF r.1 own) ∘ rowL m i) = (tI m i).2.2.filter fun r => fitB r spot := by
    refine List.filter_congr fun r _ => ?_
    exact fit_L ok h h1 h2 hin r
  rw [e]
  refine List.map_congr_left fun r hr => ?_
  have hr := (List.mem_filter.mp hr).1
  have := ((tI_ok ok h).rows r hr).2 _ (dI_get (by rw [ok.len]; omega))
  exact (val_out (dI_ok ok (by omega)) (dI_cons ok h) this).1
/-- one table's entry is the law's verdict -/
theorem entry_L {names : List Str} {m : LM} (ok : LMOk m) {i : Nat} (h : i < m.2.2.length) {at_ : List Nat} {told : List Ver} (hl : told.length = i) (hsay : SayOk m.1 m.2.1 told) {codes : List (Str × Int)} {acc : List (Str × Ver)}
    (H1 : ∀ c ∈ (tI m i).1, c < m.1 → look acc (names.getD c "") = none ∧ ∃ v, look codes (names.getD c "") = some v ∧ InPc (dI m c) (at_.getD c 0) v)
    (H2 : ∀ c ∈ (tI m i).1, m.1 ≤ c → look acc (names.getD c "") = some (told.getD (c - m.1) ("", 0))) :
    entryF (tabL names m i) codes acc = verdI m at_ told i (tI m i) := by
  have e1 : stopF acc (tabL names m i).names = stopV m.1 told (tI m i).1 := by
    unfold stopF stopV
    show List.findSome? _ ((tI m i).1.map _) = _
    rw [List.findSome?_map]
    have : ∀ l : List Nat, (∀ c ∈ l, c ∈ (tI m i).1) → l.findSome? ((fun c => match look acc c with
        | some v => if v.1 = "say" then none else some v
        | none => none) ∘ fun c => names.getD c "") = l.findSome? (stopC m.1 told) := by
      intro l
      induction l with
      | nil => intro _; rfl
      | cons c l ih =>
        intro hm
        have ih := ih fun x hx => hm x (List.mem_cons_of_mem _ hx)
        have ec : ((fun c => match look acc c with
            | some v => if v.1 = "say" then none else some v
            | none => none) ∘ fun c => names.getD c "") c = stopC m.1 told c := by
          show (match look acc (names.getD c "") with
            | some v => if v.1 = "say" then none else some v
            | none => none) = _
          unfold stopC
          by_cases q : c < m.1
          · rw [(H1 c (hm c List.mem_cons_self) q).1, if_pos q]
          · rw [H2 c (hm c List.mem_cons_self) (by omega), if_neg q]
        rw [List.findSome?_cons, List.findSome?_cons, ec, ih]
    exact this _ fun c hc => hc
  unfold entryF verdI
  rw [e1]
  cases es : stopV m.1 told (tI m i).1 with
  | some v => rfl
  | none =>
    have hst := es
    unfold stopV at hst
    rw [List.findSome?_eq_none_iff] at hst
    have hsp : spotV m.1 m.2.1 at_ told (tI m i).1 = (tI m i).1.map (spotC m.1 m.2.1 at_ told) := by
      unfold spotV; rw [stop_none es]
    have hp := pick_L (names := names) ok h (own := (tabL names m i).names.map (ownC codes acc)) (spot := spotV m.1 m.2.1 at_ told (tI m i).1) (by rw [List.length_map]; exact List.length_map _) (by rw [hsp, List.length_map]) fun k c v s hc hv hs => by
      have hv : (((tI m i).1.map fun c => names.getD c "").map (ownC codes acc))[k]? = some v := hv
      rw [List.getElem?_map, List.getElem?_map, hc] at hv
      have hv : ownC codes acc (names.getD c "") = v := Option.some.inj hv
      rw [hsp, List.getElem?_map, hc] at hs
      have hs : spotC m.1 m.2.1 at_ told c = s := Option.some.inj hs
      have hcm := List.mem_of_getElem? hc
      unfold ownC at hv
      unfold spotC at hs
      by_cases q : c < m.1
      · obtain ⟨g1, z, g2, g3⟩ := H1 c hcm q
        rw [g1, g2] at hv
        have hv : z = v := hv
        rw [if_pos q] at hs
        rw [← hv, ← hs]; exact g3
      · have g := H2 c hcm (by omega)
        rw [g] at hv
        have hv : (told.getD (c - m.1) ("", 0)).2 = v := hv
        rw [if_neg q] at hs
        have hlt := (tI_ok ok h).lt c hcm
        have hst := hst c hcm
        unfold stopC at hst
        rw [if_neg q] at hst
        have ht : told[c - m.1]? = some (told.getD (c - m.1) ("", 0)) := by
          rw [List.getD_eq_getElem?_getD, List.getElem?_eq_getElem (show c - m.1 < told.length by omega)]; rfl
        have hsaid : (told.getD (c - m.1) ("", 0)).1 = "say" := by
          by_cases q2 : (told.getD (c - m.1) ("", 0)).1 = "say"
          · exact q2
          · rw [if_neg q2] at hst; cases hst
        have hd : m.2.1[m.1 + (c - m.1)]? = some (dI m c) := by
          rw [show m.1 + (c - m.1) = c by omega]; exact dI_get (by rw [ok.len]; omega)
        obtain ⟨b1, b2⟩ := hsay _ _ _ ht hsaid hd
        have hco : Cons (dI m c) := by
          have := dI_cons ok (show c - m.1 < m.2.2.length by omega)
          rw [show m.1 + (c - m.1) = c by omega] at this
          exact this
        rw [← hs, ← hv]
        exact cons_pc (dI_ok ok (by omega)) hco b1 b2
    show verdictF (tI m i).2.1 (picked (tabL names m i).rows (fsOf (tabL names m i) ((tabL names m i).names.map (ownC codes acc)))) (domOf (dI m (m.1 + i))).lo (domOf (dI m (m.1 + i))).hi = _
    rw [hp, dom_lo (dI_ok ok (by omega)), dom_hi (dI_ok ok (by omega)), ← headD_pN (dI_ok ok (by omega)), ← lastD_pN (dI_ok ok (by omega))]
    rfl
end Rk
set_option Elab.async false
set_option linter.all false
set_option maxRecDepth 100000
set_option maxHeartbeats 1000000
namespace Rk
open PySem PySem.Spec PyProof.Rows L2
open TL
theorem no_len : ("nobody" : Str).length ≠ 3 := by decide +kernel
theorem verdN_get (m : LM) (at_ : List Nat) : ∀ (n j : Nat), j < n → (verdN m at_ n)[j]? = some (verdI m at_ (verdN m at_ j) j (tI m j))
  | 0, _, h => absurd h (by omega)
  | n + 1, j, h => by
    show (verdN m at_ n ++ [verdI m at_ (verdN m at_ n) n (tI m n)])[j]? = _
    have hl := verdN_len m at_ n
    by_cases q : j < n
    · rw [List.getElem?_append_left (by omega)]
      exact verdN_get m at_ n j q
    · have e : j = n := by omega
      rw [e, List.getElem?_append_right (by omega), hl, Nat.sub_self]
      rfl
def vI (m : LM) (at_ : List Nat) (j : Nat) : Ver := verdI m at_ (verdN m at_ j) j (tI m j)
theorem verdN_getD {m : LM} {at_ : List Nat} {n j : Nat} (h : j < n) : (verdN m at_ n).getD j ("", 0) = vI m at_ j := by
  rw [getD_of (verdN_get m at_ n j h)]; rfl
theorem tag_F (y : Wy) (cs : List Int) (lo hi : Int) : (verdictF y cs lo hi).1 = "say" ∨ (verdictF y cs lo hi).1 = "none" ∨ (verdictF y cs lo hi).1 = "clash" := by
  unfold verdictF
  split
  · exact .inr (.inl rfl)
  · cases y with
    | first => exact .inl rfl
    | only =>
      show (if cs.length > 1 then (("clash", 0) : Ver) else ("say", cs.headD 0)).1 = _ ∨ (if cs.length > 1 then (("clash", 0) : Ver) else ("say", cs.headD 0)).1 = _ ∨ (if cs.length > 1 then (("clash", 0) : Ver) else ("say", cs.headD 0)).1 = _
      split
      · exact .inr (.inr rfl)
      · exact .inl rfl
    | like =>
      show (if cs.all (fun c => decide (c = cs.headD 0)) = true then (("say", cs.headD 0) : Ver) else ("clash", 0)).1 = _ ∨ (if cs.all (fun c => decide (c = cs.headD 0)) = true then (("say", cs.headD 0) : Ver) else ("clash", 0)).1 = _ ∨ (if cs.all (fun c => decide (c = cs.headD 0)) = true then (("say", cs.headD 0) : Ver) else ("clash", 0)).1 = _
      split
      · exact .inl rfl
      · exact .inr (.inr rfl)
    | low => exact .inl rfl
    | high => exact .inl rfl
    | sum => exact .inl rfl
def Tagd (v : Ver) : Prop := v.1 = "say" ∨ v.1 = "none" ∨ v.1 = "clash"
theorem vI_tag {m : LM} (ok : LMOk m) (at_ : List Nat) : ∀ (k j : Nat), j < k → j < m.2.2.length → Tagd (vI m at_ j)
  | 0, _, h, _ => absurd h (by omega)
  | k + 1, j, h, hj => by
    unfold vI verdI
    cases es : stopV m.1 (verdN m at_ j) (tI m j).1 with
    | none => exact tag_F _ _ _ _
    | some w =>
      show Tagd w
      obtain ⟨c, hc, e2⟩ := List.exists_of_findSome?_eq_some (show (tI m j).1.findSome? (stopC m.1 (verdN m at_ j)) = some w from es)
      have hlt := (tI_ok ok hj).lt c hc
      unfold stopC at e2
      split at e2
      · cases e2
      · split at e2
        · cases e2
        · rename_i h1 h2
          have e3 := Option.some.inj e2
          rw [verdN_getD (show c - m.1 < j by omega)] at e3
          rw [← e3]
          exact vI_tag ok at_ k (c - m.1) (by omega) (by omega)
theorem ver_tag {m : LM} (ok : LMOk m) {at_ : List Nat} {i : Nat} {v : Ver} (h : (verdN m at_ m.2.2.length)[i]? = some v) : v.1 = "say" ∨ v.1 = "none" ∨ v.1 = "clash" := by
  have hi := (List.getElem?_eq_some_iff.mp h).1
  rw [verdN_len] at hi
  rw [verdN_get m at_ _ i hi] at h
  have e := Option.some.inj h
  rw [← e]
  exact vI_tag ok at_ (i + 1) i (by omega) hi
/-! ### what is known -/
theorem vals_nd {names : List Str} (nm : NmOk names) {m : LM} (ok : LMOk m) (pl : List Nat) (extra c : Int) (hno : ("nobody" : Str).length ≠ 3) : ((valsN names m pl extra c).map (·.1)).Nodup := by
  have h6 := le6 ok
  unfold valsN
  rw [List.map_cons, List.map_map, List.nodup_cons]
  refine ⟨fun mm => ?_, nd_names nm (nd_range m.1) fun c hc => by have := List.mem_range.mp hc; omega⟩
  obtain ⟨k, hk, e⟩ := List.mem_map.mp mm
  have := List.mem_range.mp hk
  obtain ⟨x, _, e2, hx⟩ := nm_get nm (show k < 6 by omega)
  have e : names.getD k "" = "nobody" := e
  rw [e2] at e
  rw [e] at hx
  exact hno (nm.nb _ hx)
theorem vals_look {names : List Str} (nm : NmOk names) {m : LM} (ok : LMOk m) (pl : List Nat) (extra c : Int) (hno : ("nobody" : Str).length ≠ 3) {k : Nat} (hk : k < m.1) : look (valsN names m pl extra c) (names.getD k "") = some (valueF (dI m k) (pl.getD k 0) extra) := by
  refine look_mem (vals_nd nm ok pl extra c hno) ?_
  unfold valsN
  exact List.mem_cons_of_mem _ (List.mem_map.mpr ⟨k, List.mem_range.mpr hk, rfl⟩)
theorem val_at {m : LM} (ok : LMOk m) {pl : List Nat} (h : PlOk m.2.1 m.1 pl) (extra : Int) {k : Nat} (hk : k < m.1) : bearsF (domOf (dI m k)) (valueF (dI m k) (pl.getD k 0) extra) = true ∧ InPc (dI m k) (pl.getD k 0) (placeF (domOf (dI m k)) (valueF (dI m k) (pl.getD k 0) extra)) := by
  have hl := h.1
  have ha : pl[k]? = some (pl[k]'(by omega)) := List.getElem?_eq_getElem _
  have := h.2 k _ _ ha (dI_get (by rw [ok.len]; omega))
  rw [getD_of ha]
  exact value_in (dI_ok ok (by omega)) this extra
theorem code_look {names : List Str} (nm : NmOk names) {m : LM} (ok : LMOk m) (turn : Int) {pl : List Nat} (extra c : Int) (hno : ("nobody" : Str).length ≠ 3) (n : Str) {k : Nat} (hk : k < m.1) (hn : names.getD k "" ∈ needsF (bookN names m turn) n) :
    look (codesF (bookN names m turn) n (valsN names m pl extra c)) (names.getD k "") = some (placeF (domOf (dI m k)) (valueF (dI m k) (pl.getD k 0) extra)) := by
  have h6 := le6 ok
  unfold codesF
  refine look_mem ?_ ?_
  · rw [List.map_map]
    have hnd := (book_ok nm ok turn).nd
    rw [names_keys] at hnd
    have hnd := (List.nodup_append.mp hnd).1
    have : ((bookN names m turn).facts.filter fun p => decide (p.1 ∈ needsF (bookN names m turn) n)).map (·.1) |>.Nodup := by
      exact List.Nodup.sublist (List.Sublist.map _ (List.filter_sublist)) hnd
    exact this
  · refine List.mem_map.mpr ⟨(names.getD k "", domOf (dI m k)), List.mem_filter.mpr ⟨?_, decide_eq_true hn⟩, ?_⟩
    · rw [book_facts]; exact List.mem_map.mpr ⟨k, List.mem_range.mpr hk, rfl⟩
    · unfold codeF
      show (names.getD k "", placeF (domOf (dI m k)) ((look _ (names.getD k "")).getD _)) = _
      rw [vals_look nm ok pl extra c hno hk]
      rfl
theorem need_in {names : List Str} (nm : NmOk names) {m : LM} (ok : LMOk m) (turn : Int) {n : Str} {j c : Nat} (hj : j < m.2.2.length) (ho : names.getD (m.1 + j) "" ∈ orderF (bookN names m turn) n) (hc : c ∈ (tI m j).1) (hk : c < m.1) : names.getD c "" ∈ needsF (bookN names m turn) n := by
  unfold needsF
  refine List.mem_map.mpr ⟨(names.getD c "", domOf (dI m c)), List.mem_filter.mpr ⟨?_, decide_eq_true ?_⟩, rfl⟩
  · rw [book_facts]; exact List.mem_map.mpr ⟨c, List.mem_range.mpr hk, rfl⟩
  · unfold colsF
    refine List.mem_flatMap.mpr ⟨_, ho, ?_⟩
    rw [find_L nm ok turn hj]
    exact List.mem_map.mpr ⟨c, hc, rfl⟩
theorem asked_L {names : List Str} (nm : NmOk names) {m : LM} (ok : LMOk m) (turn : Int) {j c : Nat} (hj : j < m.2.2.length) (hc : c ∈ (tI m j).1) (hk : m.1 ≤ c) : names.getD c "" ∈ askedF (bookN names m turn) (names.getD (m.1 + j) "") := by
  have h6 := le6 ok
  have hlt := (tI_ok ok hj).lt c hc
  unfold askedF
  rw [find_L nm ok turn hj]
  exact List.mem_filter.mpr ⟨List.mem_map.mpr ⟨c, hc, rfl⟩, decide_eq_true ((tn_iff nm ok turn (by omega)).mpr ⟨hk, by omega⟩)⟩
theorem ask_law {names : List Str} (nm : NmOk names) {m : LM} (ok : LMOk m) (turn : Int) {at_ : List Nat} (pl : PlOk m.2.1 m.1 at_) (extra c : Int) (hno : ("nobody" : Str).length ≠ 3) {i : Nat} (hi : i < m.2.2.length) :
    AskOk (bookN names m turn) (names.getD (m.1 + i) "") (valsN names m at_ extra c) ∧ ∃ ts e, (orderF (bookN names m turn) (names.getD (m.1 + i) "")).map (findTab (bookN names m turn)) = ts.map some ∧ (entsF (codesF (bookN names m turn) (names.getD (m.1 + i) "") (valsN names m at_ extra c)) ts).getLast? = some e ∧ (verdN m at_ m.2.2.length)[i]? = some e.2 := by
  have h6 := le6 ok
  obtain ⟨hr1, hr2⟩ := book_rank nm ok turn
  have hn : names.getD (m.1 + i) "" ∈ tabNames (bookN names m turn) := (tn_iff nm ok turn (by omega)).mpr ⟨by omega, by omega⟩
  obtain ⟨g, glast⟩ := order_ok hr1 hr2 hn
  generalize hb : bookN names m turn = b at *
  generalize hq : names.getD (m.1 + i) "" = q at *
  generalize ho : orderF b q = ord at *
  generalize hcd : codesF b q (valsN names m at_ extra c) = codes at *
  have cl : ∀ k, k < m.1 → names.getD k "" ∈ needsF b q → ∃ v, look codes (names.getD k "") = some v ∧ InPc (dI m k) (at_.getD k 0) v := fun k hk hk2 => by
    refine ⟨_, ?_, (val_at ok pl extra hk).2⟩
    rw [← hcd, ← hb]
    exact code_look nm ok turn extra c hno q hk (by rw [hb]; exact hk2)
  have nd : ∀ (j x : Nat), j < m.2.2.length → names.getD (m.1 + j) "" ∈ ord → x ∈ (tI m j).1 → x < m.1 → names.getD x "" ∈ needsF b q := fun j x hj hjo hx hxm => by
    rw [← hb]
    exact need_in nm ok turn hj (by rw [hb, ho]; exact hjo) hx hxm
  have ex : ∀ x ∈ ord, ∃ j, j < m.2.2.length ∧ x = names.getD (m.1 + j) "" := fun x hx => by
    have := g.sub x hx
    rw [← hb] at this
    exact tn_ex nm ok turn this
  have fd : ∀ j, j < m.2.2.length → findTab b (names.getD (m.1 + j) "") = some (tabL names m j) := fun j hj => by rw [← hb]; exact find_L nm ok turn hj
  have asked : ∀ (j x : Nat), j < m.2.2.length → x ∈ (tI m j).1 → m.1 ≤ x → names.getD x "" ∈ askedF b (names.getD (m.1 + j) "") := fun j x hj hx hxm => by
    rw [← hb]; exact asked_L nm ok turn hj hx hxm
  refine ⟨⟨by rw [← hb]; exact book_ok nm ok turn, hn, fun p hp _ => ?_, by rw [ho]; exact g.nd, fun k x t hk ht y hy => ?_⟩, ?_⟩
  · rw [← hb, book_facts] at hp
    obtain ⟨k, hk, rfl⟩ := List.mem_map.mp hp
    have hk := List.mem_range.mp hk
    exact ⟨_, vals_look nm ok at_ extra c hno hk, (val_at ok pl extra hk).1⟩
  · rw [ho] at hk ⊢
    obtain ⟨j, hj, rfl⟩ := ex x (List.mem_of_getElem? hk)
    rw [fd j hj] at ht
    have e : tabL names m j = t := Option.some.inj ht
    rw [← e] at hy
    obtain ⟨z, hz, rfl⟩ := List.mem_map.mp (show y ∈ (tI m j).1.map _ from hy)
    by_cases qz : z < m.1
    · refine .inr ?_
      obtain ⟨v, hv, _⟩ := cl z qz (nd j z hj (List.mem_of_getElem? hk) hz qz)
      exact ⟨v, by rw [hcd]; exact hv⟩
    · exact .inl (g.cl k _ hk _ (asked j z hj hz (by omega)))
  let jx : Str → Nat := fun x => names.idxOf x - m.1
  have hjx : ∀ j, j < m.2.2.length → jx (names.getD (m.1 + j) "") = j := fun j hj => by
    show names.idxOf (names.getD (m.1 + j) "") - m.1 = j
    rw [idx_nm nm (by omega)]; omega
  let ts : List Tab := ord.map fun x => tabL names m (jx x)
  have hts : ord.map (findTab b) = ts.map some := by
    show _ = (ord.map _).map some
    rw [List.map_map]
    refine List.map_congr_left fun x hx => ?_
    obtain ⟨j, hj, rfl⟩ := ex x hx
    show _ = some (tabL names m (jx _))
    rw [hjx j hj, fd j hj]
  have htn : ∀ p, (ts.take p).map (·.name) = ord.take p := fun p => by
    show ((ord.map _).take p).map _ = _
    rw [← List.map_take, List.map_map]
    refine (List.map_congr_left (g := id) fun x hx => ?_).trans (List.map_id _)
    obtain ⟨j, hj, rfl⟩ := ex x (List.mem_of_mem_take hx)
    show names.getD (m.1 + jx _) "" = _
    rw [hjx j hj]; rfl
  have step : ∀ p j, ord[p]? = some (names.getD (m.1 + j) "") → j < m.2.2.length → (∀ j', j' < m.2.2.length → names.getD (m.1 + j') "" ∈ ord.take p → look (entsF codes (ts.take p)) (names.getD (m.1 + j') "") = some (vI m at_ j')) →
      entsF codes (ts.take (p + 1)) = entsF codes (ts.take p) ++ [(names.getD (m.1 + j) "", vI m at_ j)] := fun p j hp hj ih => by
    have htp : ts[p]? = some (tabL names m j) := by
      show (ord.map _)[p]? = _
      rw [List.getElem?_map, hp]
      show some (tabL names m (jx _)) = _
      rw [hjx j hj]
    rw [ents_snoc htp]
    have e : entryF (tabL names m j) codes (entsF codes (ts.take p)) = vI m at_ j := by
      refine entry_L ok hj (verdN_len m at_ j) (verdN_say ok at_ j (by omega)) (fun x hx hxm => ⟨?_, ?_⟩) fun x hx hxm => ?_
      · rw [look_none, ents_keys, htn]
        intro mm
        have := g.sub _ (List.mem_of_mem_take mm)
        rw [← hb] at this
        have := (tn_iff nm ok turn (by omega)).mp this
        omega
      · exact cl x hxm (nd j x hj (List.mem_of_getElem? hp) hx hxm)
      · have hlt := (tI_ok ok hj).lt x hx
        have hm := g.cl p _ hp _ (asked j x hj hx hxm)
        have := ih (x - m.1) (by omega) (by rw [show m.1 + (x - m.1) = x by omega]; exact hm)
        rw [show m.1 + (x - m.1) = x by omega] at this
        rw [this, verdN_getD (show x - m.1 < j by omega)]
    rw [e]
    rfl
  have inv : ∀ p, p ≤ ord.length → ∀ j', j' < m.2.2.length → names.getD (m.1 + j') "" ∈ ord.take p → look (entsF codes (ts.take p)) (names.getD (m.1 + j') "") = some (vI m at_ j') := by
    intro p
    induction p with
    | zero => intro _ j' _ hm; rw [List.take_zero] at hm; cases hm
    | succ p ih =>
      intro hp j' hj' hm
      have ih := ih (by omega)
      have hx : ord[p]? = some (ord[p]'(by omega)) := List.getElem?_eq_getElem _
      obtain ⟨j, hj, ej⟩ := ex _ (List.mem_of_getElem? hx)
      rw [ej] at hx
      rw [step p j hx hj ih, look_snoc]
      rw [take_snoc hx] at hm
      rcases List.mem_append.mp hm with hm | hm
      · rw [ih j' hj' hm]
      · have e := List.mem_singleton.mp hm
        have e2 : j' = j := by have := nm_inj nm (by omega) (by omega) e; omega
        rw [e2]
        have : look (entsF codes (ts.take p)) (names.getD (m.1 + j) "") = none := by
          rw [look_none, ents_keys, htn]
          intro mm
          exact nd_take (fun x : Str => x) (by rw [List.map_id']; exact g.nd) hx (by rw [List.map_id']; exact mm)
        rw [this]
        exact if_pos rfl
  obtain ⟨pre, epre⟩ := List.getLast?_eq_some_iff.mp glast
  have hlast : ord[pre.length]? = some (names.getD (m.1 + i) "") := by
    rw [epre, List.getElem?_append_right (Nat.le_refl _), Nat.sub_self, hq]; rfl
  have hlen : ord.length = pre.length + 1 := by rw [epre, List.length_append]; rfl
  have e := step pre.length i hlast hi (inv pre.length (by omega))
  have etake : ts.take (pre.length + 1) = ts := by
    refine List.take_of_length_le ?_
    show (ord.map _).length ≤ _
    rw [List.length_map]; omega
  rw [etake] at e
  refine ⟨ts, (names.getD (m.1 + i) "", vI m at_ i), hts, by rw [e]; exact List.getLast?_concat, ?_⟩
  exact verdN_get m at_ _ i hi
end Rk
set_option Elab.async false
set_option linter.all false
set_option maxRecDepth 100000
set_option maxHeartbeats 1000000
namespace Rk
open PySem PySem.Spec PyProof.Rows L2
open TL
def spLaw (K : PySem.W.Frag) : Sp := fun vs H Q _ => ∃ a, ∃ ns : List Int, vs = [.ref a] ∧ SqL K H a (ns.map V.int) ∧ ns.length ≤ 1000 ∧ ∀ H', Q (.bl true) H'
theorem len_law {K : PySem.W.Frag} {vs : List V} {H : Hp} {Q : VK} {X : XK} (h : spLaw K vs H Q X) : vs.length = 1 := by
  obtain ⟨_, _, rfl, _⟩ := h; rfl
theorem ps_self {H : Hp} {ws : List (Key × V)} {xs : List (Str × RVal)} (h : Ps tVal H ws xs) (nd : (xs.map (·.1)).Nodup) : ∀ p ∈ ws, valV ws p.1 = some p.2 ∧ flatB p.2 = true := by
  induction ws generalizing xs with
  | nil => intro p hp; cases hp
  | cons w ws ih => cases xs with
    | nil => exact h.elim
    | cons x xs =>
      obtain ⟨⟨e, r⟩, h2⟩ := h
      rw [List.map_cons, List.nodup_cons] at nd
      intro p hp
      rw [valV_cons]
      rcases List.mem_cons.mp hp with rfl | hp
      · rw [if_pos rfl]
        refine ⟨rfl, ?_⟩
        obtain ⟨k, v⟩ := x
        cases v with
        | int i => have e2 : p.2 = .int i := r
                   rw [e2]; rfl
        | str s => have e2 : p.2 = .str s := r
                   rw [e2]; rfl
      · have hk : ∀ {ws : List (Key × V)} {xs : List (Str × RVal)}, Ps tVal H ws xs → p ∈ ws → ∃ q ∈ xs, p.1 = Sum.inr q.1 := by
          intro ws
          induction ws with
          | nil => intro xs _ m; cases m
          | cons w ws ih => intro xs h m; cases xs with
            | nil => exact h.elim
            | cons x xs =>
              rcases List.mem_cons.mp m with rfl | m
              · exact ⟨x, List.mem_cons_self, h.1.1⟩
              · obtain ⟨q, hq, e⟩ := ih h.2 m
                exact ⟨q, List.mem_cons_of_mem _ hq, e⟩
        obtain ⟨q, hq, e3⟩ := hk h2 hp
        rw [if_neg (fun z => nd.1 (by rw [e, e3] at z; exact List.mem_map.mpr ⟨q, hq, (Sum.inr.inj z).symm⟩))]
        exact ih h2 nd.2 p hp
section
variable {P : Program} {w : World} {K : PySem.W.Frag} {mg : Str → Option Value} {base : Heap}
abbrev n_law : List Str := ["script", "names", "model", "facts", "doms", "tables", "cell", "book", "again", "places", "turn", "at", "values", "k", "handed", "due", "last", "i", "name"]
theorem sc_law : FnScope n_law ["script"] (defScope s_law) := ⟨rfl, rfl, rfl, by decide +kernel, rfl, by decide +kernel, by decide +kernel⟩
theorem ok_law (T : Tx K mg) : Def P w K mg base "law" ["script"] 12 (spLaw K) := by
  refine ⟨?_, T.g_law, T.f_law.kp, T.f_law.bindsN fun _ _ _ _ _ _ us hl => match us, hl with | [_], _ => rfl⟩
  refine fn_body T.f_law sc_law (fun _ _ _ _ h => len_law h) fun cdv A outer s H vs Q E hr h => ?_
  obtain ⟨a, ns, rfl, hs, h63, k⟩ := h
  have ra : (tScr K).rep (cut H []) (.ref a) ns := ⟨a, rfl, by rw [cut_nil]; exact hs⟩
  refine ⟨_, pss_cons (ps_set (i := 1) sc_law.nd rfl (.inl rfl) (pe_cD (ok_law_names T) hr (pa_cons (pv 0) pa_nil)))
  (pss_cons (ps_set (i := 2) sc_law.nd rfl (.inl rfl) (pe_cD (ok_law_model T) hr (pa_cons (pv 0) (pa_cons pe_int pa_nil))))
  (pss_cons (ps_asg (pv 2) (pg_tup (by rfl) (pgs_cons (pg_name (i := 3) sc_law.nd rfl (.inl rfl)) (pgs_cons (pg_name (i := 4) sc_law.nd rfl (.inl rfl)) (pgs_cons (pg_name (i := 5) sc_law.nd rfl (.inl rfl)) pgs_nil)))))
  (pss_cons (ps_set (i := 6) sc_law.nd rfl (.inl rfl) (pe_cD (ok_law_cell T) hr (pa_cons (pv 0) (pa_cons pe_int pa_nil))))
  (pss_cons (ps_set (i := 7) sc_law.nd rfl (.inl rfl) (pe_cD (ok_read_book T) hr (pa_cons (pe_cD (ok_law_text T) hr (pa_cons (pv 1) (pa_cons (pv 2) (pa_cons (pv 6) pa_nil)))) pa_nil)))
  (pss_cons (ps_set (i := 8) sc_law.nd rfl (.inl rfl) (pe_cD (ok_read_book T) hr (pa_cons (pe_cD (ok_show_book T) hr (pa_cons (pv 7) pa_nil)) pa_nil)))
  (pss_cons (ps_set (i := 9) sc_law.nd rfl (.inl rfl) (pe_cD (ok_law_places T) hr (pa_cons (pv 4) (pa_cons (pv 3) pa_nil))))
  (pss_cons (ps_for PassesOwn.never rfl (pi_range1 (by rfl) T.n_range (pa_cons (pe_callB call_len_seq (by rfl) T.n_len PySem.boot_len (pa_cons (pv 9) pa_nil)) pa_nil)) (pg_name (i := 10) sc_law.nd rfl (.inl rfl))
  (pss_cons (ps_set (i := 11) sc_law.nd rfl (.inl rfl) (pe_ix ix_list (pv 9) (pv 10) (fun _ _ => rfl)))
  (pss_cons (ps_set (i := 12) sc_law.nd rfl (.inl rfl) (L2.pe_disp (pps_cons pe_str (pe_op op_mod (pv 6) pe_int) pps_nil) (by rfl) (by rfl) (fun z => by cases z) (by decide)))
  (pss_cons (ps_for PassesOwn.never rfl (pi_range1 (by rfl) T.n_range (pa_cons (pv 3) pa_nil)) (pg_name (i := 13) sc_law.nd rfl (.inl rfl))
  (pss_one (ps_dput (hu_of hr) (pv 12) (pe_ix ix_list (pv 1) (pv 13) (fun _ _ => rfl)) (pe_cD (ok_law_value T) hr (pa_cons (pe_ix ix_list (pv 4) (pv 13) (fun _ _ => rfl)) (pa_cons (pe_ix ix_list (pv 11) (pv 13) (fun _ _ => rfl)) (pa_cons (pe_op op_add (pe_op op_fdiv (pv 6) pe_int) (pe_op op_mul (pe_op op_mul pe_int (pv 10)) (pv 10))) pa_nil)))) rfl)))
  (pss_cons (ps_set (i := 14) sc_law.nd rfl (.inl rfl) (pe_callTy call_dictD (by rfl) T.n_dict (by decide +kernel) (pa_cons (pv 12) pa_nil)))
  (pss_cons (ps_set (i := 15) sc_law.nd rfl (.inl rfl) (pe_cD (ok_law_verdicts T) hr (pa_cons (pv 2) (pa_cons (pv 11) pa_nil))))
  (pss_cons (ps_set (i := 16) sc_law.nd rfl (.inl rfl) (pe_ix ix_list (pv 1) (pe_op op_sub (pe_op op_add (pv 3) (pe_callB call_len_seq (by rfl) T.n_len PySem.boot_len (pa_cons (pv 5) pa_nil))) pe_int) (fun _ _ => rfl)))
  (pss_cons (ps_if (PW.pt (pw_or (pt_not (pt_val (pe_cD (ok_law_is T) hr (pa_cons (pe_cD (ok_ask T) hr (pa_cons (pv 7) (pa_cons (pv 16) (pa_cons (pv 14) pa_nil)))) (pa_cons (pe_ix ix_list (pv 15) (pe_un un_neg pe_int) (fun _ _ => rfl)) pa_nil))))) (pw_or1 (pt_cmpR (op_ne_dictA hr.units0) (pv 14) (pv 12) (nomark _))))) (pss_one (ps_ret pe_bl)) pss_nil)
  (pss_cons (ps_if (pt_cmpR op_ne (pv 10) (pe_op op_mod (pe_op op_fdiv (pv 6) pe_int) (pe_callB call_len_seq (by rfl) T.n_len PySem.boot_len (pa_cons (pv 9) pa_nil))) (nomark _)) (pss_one ps_continue) pss_nil)
  (pss_one (ps_for PassesOwn.never rfl (pi_range1 (by rfl) T.n_range (pa_cons (pe_callB call_len_seq (by rfl) T.n_len PySem.boot_len (pa_cons (pv 5) pa_nil)) pa_nil)) (pg_name (i := 17) sc_law.nd rfl (.inl rfl))
  (pss_cons (ps_set (i := 18) sc_law.nd rfl (.inl rfl) (pe_ix ix_list (pv 1) (pe_op op_add (pv 3) (pv 17)) (fun _ _ => rfl)))
  (pss_one (ps_if (PW.pt (pw_or (pt_not (pt_val (pe_cD (ok_law_is T) hr (pa_cons (pe_cD (ok_ask T) hr (pa_cons (pv 7) (pa_cons (pv 18) (pa_cons (pv 12) pa_nil)))) (pa_cons (pe_ix ix_list (pv 15) (pv 17) (fun _ _ => rfl)) pa_nil))))) (pw_or1 (pt_not (pt_val (pe_cD (ok_law_is T) hr (pa_cons (pe_cD (ok_ask T) hr (pa_cons (pv 8) (pa_cons (pv 18) (pa_cons (pv 12) pa_nil)))) (pa_cons (pe_ix ix_list (pv 15) (pv 17) (fun _ _ => rfl)) pa_nil)))))))) (pss_one (ps_ret pe_bl)) pss_nil))))))))))))))
  (pss_one (ps_ret pe_bl))))))))), ?_⟩
  refine ⟨_, rfl, [], _, ns, rfl, Live.nil, ra, trivial, fun H1 vn names s1 rn ⟨h6, hnd, hw3⟩ => ?_⟩
  have nm : NmOk names := ⟨h6, hnd, fun n h => (hw3 n h).1, fun n h => (hw3 n h).2⟩
  refine ⟨_, rfl, [], _, _, ns, 10, rfl, Live.nil, (tScr K).mono s1.cut ra, rfl, ⟨h63, by decide, by decide⟩, fun H2 vm m s2 rm ok => ?_⟩
  obtain ⟨pm, x1, x2, x3, rfl, hpm, e1, rdl, rtl⟩ := id rm
  obtain rfl : x1 = .int (m.1 : Nat) := e1
  have hpm := cut_at hpm
  refine ⟨_, rfl, pm, _, rfl, SqT.of hpm, rfl, _, _, rfl, _, _, rfl, _, _, rfl, rfl, ?_⟩
  have s12 := s1.trans s2
  refine ⟨_, rfl, ask_cell T _ Live.nil ((tScr K).mono s12.cut ra) (by decide) fun H3 cell s3 => ?_⟩
  have s13 := s12.trans s3
  have src := law_src nm ok cell
  have sag := law_again nm ok cell
  refine ⟨_, rfl, _, rfl, _, rfl, [], _, _, _, names, m, cell, _, rfl, Live.nil, (tLst tStr).mono (s2.trans s3).cut rn, tLM.mono s3.cut rm, rfl, ⟨ok, h6, src, rfl⟩, fun H4 w4 s4 e4 => ?_⟩
  refine ⟨[], _, _, _, rfl, Live.nil, e4, ⟨_, src, rfl, rfl⟩, fun H5 vb s5 rb => ?_⟩
  refine ⟨_, rfl, [], _, _, _, rfl, Live.nil, rb, ⟨src.bk, sag, rfl⟩, fun H6 w6 s6 e6 => ?_⟩
  refine ⟨[], _, _, _, rfl, Live.nil, e6, ⟨_, sag, rfl, rfl⟩, fun H7 vg s7 rg => ?_⟩
  have rg : (tBk K).rep (cut H7 []) vg (bookN names m cell) := by
    rw [show srcB (showSrc (bookN names m cell)) = bookN names m cell from show_bk src.bk] at rg
    exact rg
  have s27 := (((s3.trans s4).trans s5).trans s6).trans s7
  have rb7 : (tBk K).rep (cut H7 []) vb (bookN names m cell) := (tBk K).mono (s6.trans s7).cut rb
  have hf := ok.f
  have hn := ok.n
  have hdl := ok.len
  refine ⟨_, rfl, _, rfl, [], _, _, m.2.1, m.1, rfl, Live.nil, (tLst tLD).mono s27.cut rdl, rfl, ⟨by omega, by omega, ok.doms⟩, fun H8 vp pls s8 rp ⟨p1, p1000, pok⟩ => ?_⟩
  have s28 := s27.trans s8
  obtain ⟨ap, up, rfl, hap, rup⟩ := id rp
  have hap := cut_at hap
  have lp := rup.len
  obtain ⟨an, un, rfl, han, rns⟩ := id ((tLst tStr).mono (s2.trans s28).cut rn)
  have han := cut_at han
  obtain rfl := rs_str rns
  obtain ⟨ad, ud, rfl, had, rd⟩ := id ((tLst tLD).mono s28.cut rdl)
  have had := cut_at had
  obtain ⟨at_, ut, rfl, hat, rt⟩ := id ((tLst tLT).mono s28.cut rtl)
  have hat := cut_at hat
  have lt := rt.len
  have rm8 := tLM.mono s28.cut rm
  refine ⟨_, rfl, ap, _, rfl, .inl (SqL.of hap), _, rfl, by omega, by omega, ?_⟩
  refine for_range (lo := 0) (fun i σ H' => (∃ y1 y2 y3 y4 y5 y6 y7 y8 y9, σ = [some (.ref a), some (.ref an), some (.ref pm), some (.int (m.1 : Nat)), some (.ref ad), some (.ref at_), some (.int cell), some vb, some vg, some (.ref ap), y1, y2, y3, y4, y5, y6, y7, y8, y9]) ∧ Same H8 H') ⟨⟨_, _, _, _, _, _, _, _, _, rfl⟩, Same.refl _⟩ ?_ ?_
  · rintro i σ H9 hi ⟨⟨y1, y2, y3, y4, y5, y6, y7, y8, y9, rfl⟩, s9⟩
    have hip : i < pls.length := by omega
    have hpi : pls[i]? = some pls[i] := List.getElem?_eq_getElem hip
    have plk := pok _ (List.getElem_mem hip)
    generalize pls[i] = pl at hpi plk
    obtain ⟨va, hva, rva⟩ := rup.at_ hpi
    refine ⟨_, rfl, _, rfl, ap, _, _, _, rfl, rfl, SqL.of (s9 _ _ hap), at_of (j := i) (by omega) hva, ?_⟩
    intro pd npd
    refine ⟨_, rfl, _, _, rfl, rfl, (show (0 : Int) < 1000 by decide), upd_same, [(Sum.inr "nobody", .int (cell % 1000))], rfl, Nat.le_of_ble_eq_true rfl, ?_⟩
    show gName 12 (.ref pd) _ (upd (upd H9 pd (.dK [])) pd (.dK [(Sum.inr "nobody", .int (cell % 1000))])) _
    rw [upd_upd]
    have s10 : Same H9 (upd H9 pd (.dK [(Sum.inr "nobody", .int (cell % 1000))])) := Same.upd npd
    have hd10 : upd H9 pd (.dK [(Sum.inr "nobody", .int (cell % 1000))]) pd = some (.dK [(Sum.inr "nobody", .int (cell % 1000))]) := upd_same
    generalize upd H9 pd (.dK [(Sum.inr "nobody", .int (cell % 1000))]) = H10 at s10 hd10
    obtain ⟨aa, ua, rfl, haa, raa⟩ := id rva
    have haa := cut_at haa
    have laa := raa.len
    generalize hex : cell / 4 + 7919 * (0 + ((i : Nat) : Int)) * (0 + ((i : Nat) : Int)) = extra
    have vlen : ∀ j, ((("nobody" : Str), RVal.int (cell % 1000)) :: (List.range j).map fun k => (names.getD k "", valueF (m.2.1.getD k dfl) (pl.getD k 0) extra)).length = j + 1 := fun j => by rw [List.length_cons, List.length_map, List.length_range]
    refine ⟨_, rfl, _, rfl, by omega, by omega, ?_⟩
    refine for_range (lo := 0) (fun j σ H' => (∃ y1 y2 y3 y4 y5 y6, σ = [some (.ref a), some (.ref an), some (.ref pm), some (.int (m.1 : Nat)), some (.ref ad), some (.ref at_), some (.int cell), some vb, some vg, some (.ref ap), some (.int (0 + ((i : Nat) : Int))), some (.ref aa), some (.ref pd), y1, y2, y3, y4, y5, y6]) ∧ Same H9 H' ∧ ∃ ws, H' pd = some (.dK ws) ∧ Ps tVal (cut H' [pd]) ws ((("nobody" : Str), RVal.int (cell % 1000)) :: (List.range j).map fun k => (names.getD k "", valueF (m.2.1.getD k dfl) (pl.getD k 0) extra))) ⟨⟨_, _, _, _, _, _, rfl⟩, s10, _, hd10, ⟨⟨rfl, rfl⟩, trivial⟩⟩ ?_ ?_
    · rintro j σ H11 hj ⟨⟨y1, y2, y3, y4, y5, y6, rfl⟩, s11, ws, hd, hps⟩
      have hjf : j < m.1 := by omega
      have hnj : names[j]? = some (names[j]'(by omega)) := by simp
      have hdj : m.2.1[j]? = some (m.2.1[j]'(by omega)) := by simp
      have hpj : pl[j]? = some (pl[j]'(by rw [plk.1]; exact hjf)) := by simp [plk.1, hjf]
      have dokj := ok.doms _ (List.mem_of_getElem? hdj)
      have hpk := plk.2 j _ _ hpj hdj
      obtain ⟨vdj, hvdj, rdj⟩ := rd.at_ hdj
      obtain ⟨vaj, hvaj, raj⟩ := raa.at_ hpj
      obtain rfl : vaj = _ := raj
      have gn : names.getD j "" = names[j]'(by omega) := getD_of hnj
      have gdd : m.2.1.getD j dfl = m.2.1[j]'(by omega) := getD_of hdj
      have gp : pl.getD j 0 = pl[j]'(by rw [plk.1]; exact hjf) := getD_of hpj
      have s811 := s9.trans s11
      have hlen := hps.len
      rw [vlen] at hlen
      have d4 : CDiv cell 4 := ⟨by decide, by decide⟩
      refine ⟨_, rfl, _, rfl, ad, _, _, _, rfl, rfl, SqL.of (s811 _ _ had), at_of (j := j) (by omega) hvdj, _, rfl, _, rfl, aa, _, _, _, rfl, rfl, SqL.of (s811 _ _ haa), at_of (j := j) (by omega) hvaj, _, rfl, _, _, rfl, rfl, d4, _, rfl, _, _, rfl, rfl, .inl ⟨by decide, by decide⟩, _, rfl, _, _, rfl, rfl, .inr ⟨by omega, by omega⟩, _, _, rfl, rfl, ?_⟩
      refine ⟨[], _, _, _, _, _, extra, valueF (m.2.1.getD j dfl) (pl.getD j 0) extra, rfl, Live.nil, tLD.mono s811.cut rdj, rfl, by rw [← hex]; rfl, ⟨dokj, hpk, by rw [gdd, gp]⟩, fun H12 w12 s12 r12 => ?_⟩
      have hnew : names.getD j "" ∉ ((("nobody" : Str), RVal.int (cell % 1000)) :: (List.range j).map fun k => (names.getD k "", valueF (m.2.1.getD k dfl) (pl.getD k 0) extra)).map (·.1) := by
        intro mm
        rw [List.map_cons, List.map_map] at mm
        rcases List.mem_cons.mp mm with e | mm
        · have h3 := nm.nb _ (List.mem_of_getElem? hnj)
          rw [← gn, e] at h3
          have h3 : ("nobody" : Str).length = 3 := h3
          exact absurd h3 (by decide +kernel)
        · obtain ⟨q, hq, e⟩ := List.mem_map.mp mm
          have hq := List.mem_range.mp hq
          have hnq : names[q]? = some (names[q]'(by omega)) := by simp
          have e : names.getD q "" = names.getD j "" := e
          rw [gn, getD_of hnq] at e
          have := (List.getElem_inj hnd).mp e
          omega
      refine ⟨_, rfl, _, rfl, _, rfl, an, _, _, _, rfl, rfl, SqL.of (s12 _ _ (s811 _ _ han)), at_of (j := j) (by omega) (by rw [List.getElem?_map, hnj]; rfl), pd, _, rfl, DPut.k (k := Sum.inr _) (s12 _ _ hd) (small1000 (by omega)), ⟨_, _, _, _, _, _, rfl⟩, (s11.trans s12).mut npd, _, upd_same, ?_⟩
      rw [cut_upd List.mem_cons_self, ← gn]
      have := Ps.put (names.getD j "") (show tVal.rep (cut H12 [pd]) w12 _ from r12) (hps.mono s12.cut)
      rw [put_new hnew] at this
      rw [List.range_succ, List.map_append]
      exact this
    · rintro σ H11 ⟨⟨y1, y2, y3, y4, y5, y6, rfl⟩, s11, ws, hd, hps⟩
      have ejf : (((m.1 : Nat) : Int)).toNat = m.1 := Int.toNat_natCast _
      rw [ejf] at hps
      have s811 := s9.trans s11
      have hfs : (("nobody" : Str), RVal.int (cell % 1000)) :: ((List.range m.1).map fun k => (names.getD k "", valueF (m.2.1.getD k dfl) (pl.getD k 0) extra)) = valsN names m pl extra (cell % 1000) := rfl
      rw [hfs] at hps
      refine ⟨_, rfl, pd, ws, rfl, .inl hd, fun ph nph => ?_⟩
      have s12 := s11.trans (Same.upd (o := .dK ws) nph)
      have hh12 : upd H11 ph (.dK ws) ph = some (.dK ws) := upd_same
      have hd12 := (Same.upd (o := .dK ws) nph) _ _ hd
      have hps12 : Ps tVal (cut (upd H11 ph (.dK ws)) []) ws (valsN names m pl extra (cell % 1000)) := hps.mono ((Same.less fun _ h => by cases h).trans (Same.upd nph).cut)
      generalize upd H11 ph (.dK ws) = H12 at s12 hh12 hd12 hps12
      have s812 := s9.trans s12
      refine ⟨_, rfl, _, rfl, [], _, _, m, pl, _, rfl, Live.nil, tLM.mono s812.cut rm8, (tLst tNat).mono s812.cut rva, ⟨ok, plk, rfl⟩, fun H13 w13 s13 r13 => ?_⟩
      obtain ⟨al, uv, rfl, hal, ruv⟩ := id r13
      have hal := cut_at hal
      have luv := ruv.len
      rw [verdN_len] at luv
      have s813 := s812.trans s13
      have hnl : m.1 + (m.2.2.length - 1) < names.length := by omega
      have hlastn : names[m.1 + (m.2.2.length - 1)]? = some (names[m.1 + (m.2.2.length - 1)]'hnl) := List.getElem?_eq_getElem hnl
      have glast : names.getD (m.1 + (m.2.2.length - 1)) "" = names[m.1 + (m.2.2.length - 1)]'hnl := getD_of hlastn
      refine ⟨_, rfl, _, rfl, _, rfl, at_, _, rfl, .inl (SqL.of (s813 _ _ hat)), _, _, rfl, rfl, _, _, rfl, rfl, an, _, _, _, rfl, rfl, SqL.of (s813 _ _ han), at_of (j := m.1 + (m.2.2.length - 1)) (by omega) (by rw [List.getElem?_map, hlastn]; rfl), ?_⟩
      obtain ⟨hask, ts, e, er, el, ev⟩ := ask_law nm ok cell plk extra (cell % 1000) no_len (i := m.2.2.length - 1) (by omega)
      have hne : uv ≠ [] := fun z => by rw [z] at luv; simp at luv; omega
      obtain ⟨upre, ulast, eul⟩ : ∃ pre x, uv = pre ++ [x] := by
        rcases List.eq_nil_or_concat uv with z | ⟨t, y, z⟩
        · exact absurd z hne
        · exact ⟨t, y, by rw [z, List.concat_eq_append]⟩
      have hul : uv[m.2.2.length - 1]? = some ulast := by
        have : upre.length = m.2.2.length - 1 := by rw [eul, List.length_append] at luv; simp at luv; omega
        rw [eul, ← this, List.getElem?_append_right (Nat.le_refl _), Nat.sub_self]; rfl
      obtain ⟨dv, hdv, rdv⟩ := ruv.get hul
      rw [ev] at hdv
      obtain rfl : e.2 = dv := Option.some.inj hdv
      have rb13 := (tBk K).mono (s8.trans s813).cut rb7
      have rh13 : (tDic tVal).rep (cut H13 []) (.ref ph) (valsN names m pl extra (cell % 1000)) := ⟨ph, ws, rfl, at_cut (fun h => by cases h) (s13 _ _ hh12), hps12.mono s13.cut⟩
      rw [glast] at hask er el
      refine ⟨_, rfl, _, rfl, _, rfl, [], _, _, _, _, _, _, e.2, rfl, Live.nil, rb13, rfl, rh13, ⟨hask, ts, e, er, el, rfl⟩, fun H14 w14 s14 r14 => ?_⟩
      refine ⟨_, rfl, 1, rfl, al, uv, _, ulast, rfl, rfl, SqL.of (s14 _ _ hal), by rw [eul]; exact atI_last _ _, [], _, _, e.2, e.2, true, rfl, Live.nil, r14, tVer.mono s14.cut rdv, ⟨rfl, ver_tag ok ev, rfl⟩, fun H15 w15 s15 e15 => ?_⟩
      obtain rfl : w15 = .bl true := e15
      refine ⟨_, rfl, iteF ?_⟩
      have s815 := (s813.trans s14).trans s15
      have ndv : ((valsN names m pl extra (cell % 1000)).map (·.1)).Nodup := vals_nd nm ok pl extra (cell % 1000) no_len
      refine ⟨_, rfl, _, rfl, ph, pd, ws, ws, rfl, rfl, s15 _ _ (s14 _ _ (s13 _ _ hh12)), s15 _ _ (s14 _ _ (s13 _ _ hd12)), rfl, ps_self hps12 ndv, _, rfl, iteF ?_⟩
      have d4 : CDiv cell 4 := ⟨by decide, by decide⟩
      refine ⟨_, rfl, _, rfl, _, _, rfl, rfl, d4, _, rfl, ap, _, rfl, .inl (SqL.of (s815 _ _ hap)), _, _, rfl, rfl, by omega, rfl, _, rfl, ?_⟩
      by_cases hq : V.int (0 + ((i : Nat) : Int)) = V.int (cell / 4 % ((up.length : Nat) : Int))
      · refine iteNS hq ?_
        refine ⟨_, rfl, at_, _, rfl, .inl (SqL.of (s815 _ _ hat)), _, rfl, by omega, by omega, ?_⟩
        refine for_range (lo := 0) (fun z σ H' => (∃ y1 y2 y3 y4, σ = [some (.ref a), some (.ref an), some (.ref pm), some (.int (m.1 : Nat)), some (.ref ad), some (.ref at_), some (.int cell), some vb, some vg, some (.ref ap), some (.int (0 + ((i : Nat) : Int))), some (.ref aa), some (.ref pd), y1, some (.ref ph), some (.ref al), y2, y3, y4]) ∧ Same H15 H') ⟨⟨_, _, _, _, rfl⟩, Same.refl _⟩ ?_ ?_
        · rintro z σ H16 hz ⟨⟨y1, y2, y3, y4, rfl⟩, s16⟩
          have hzn : z < m.2.2.length := by omega
          obtain ⟨hask2, ts2, e2, er2, el2, ev2⟩ := ask_law nm ok cell plk extra (cell % 1000) no_len (i := z) hzn
          have hnz : names[m.1 + z]? = some (names[m.1 + z]'(by omega)) := by simp
          have gnz : names.getD (m.1 + z) "" = names[m.1 + z]'(by omega) := getD_of hnz
          obtain ⟨uz, huz, ruz⟩ := ruv.at_ ev2
          rw [gnz] at hask2 er2 el2
          have s816 := s815.trans s16
          have s1316 := (s14.trans s15).trans s16
          have rb16 := (tBk K).mono (s8.trans s816).cut rb7
          have rg16 := (tBk K).mono (s8.trans s816).cut rg
          have rv16 : (tDic tVal).rep (cut H16 []) (.ref pd) (valsN names m pl extra (cell % 1000)) := ⟨pd, ws, rfl, at_cut (fun h => by cases h) (s1316 _ _ (s13 _ _ hd12)), hps12.mono (s13.trans s1316).cut⟩
          have rz16 := tVer.mono s1316.cut ruz
          refine ⟨_, rfl, _, rfl, _, rfl, _, _, rfl, rfl, an, _, _, _, rfl, rfl, SqL.of (s816 _ _ han), at_of (j := m.1 + z) (by omega) (by rw [List.getElem?_map, hnz]; rfl), ?_⟩
          refine ⟨_, rfl, _, rfl, _, rfl, [], _, _, _, _, _, _, e2.2, rfl, Live.nil, rb16, rfl, rv16, ⟨hask2, ts2, e2, er2, el2, rfl⟩, fun H17 w17 s17 r17 => ?_⟩
          refine ⟨_, rfl, _, rfl, al, uv, _, uz, rfl, rfl, SqL.of (s17 _ _ (s1316 _ _ hal)), at_of (j := z) (by omega) huz, [], _, _, e2.2, e2.2, true, rfl, Live.nil, r17, tVer.mono s17.cut rz16, ⟨rfl, ver_tag ok ev2, rfl⟩, fun H18 w18 s18 e18 => ?_⟩
          obtain rfl : w18 = .bl true := e18
          refine ⟨_, rfl, iteF ?_⟩
          have s1618 := s17.trans s18
          refine ⟨_, rfl, _, rfl, _, rfl, [], _, _, _, _, _, _, e2.2, rfl, Live.nil, (tBk K).mono s1618.cut rg16, rfl, (tDic tVal).mono s1618.cut rv16, ⟨hask2, ts2, e2, er2, el2, rfl⟩, fun H19 w19 s19 r19 => ?_⟩
          refine ⟨_, rfl, _, rfl, al, uv, _, uz, rfl, rfl, SqL.of (s19 _ _ (s1618 _ _ (s1316 _ _ hal))), at_of (j := z) (by omega) huz, [], _, _, e2.2, e2.2, true, rfl, Live.nil, r19, tVer.mono (s1618.trans s19).cut rz16, ⟨rfl, ver_tag ok ev2, rfl⟩, fun H20 w20 s20 e20 => ?_⟩
          obtain rfl : w20 = .bl true := e20
          exact ⟨_, rfl, iteF ⟨⟨_, _, _, _, rfl⟩, s16.trans ((s1618.trans s19).trans s20)⟩⟩
        · rintro σ H16 ⟨⟨y1, y2, y3, y4, rfl⟩, s16⟩
          exact ⟨⟨_, _, _, _, _, _, _, _, _, rfl⟩, s815.trans s16⟩
      · exact iteNT hq ⟨⟨_, _, _, _, _, _, _, _, _, rfl⟩, s815⟩
  · rintro σ H9 ⟨⟨y1, y2, y3, y4, y5, y6, y7, y8, y9, rfl⟩, s9⟩
    exact k _
end
end Rk
set_option Elab.async false
set_option linter.all false
set_option maxRecDepth 100000
set_option maxHeartbeats 0
namespace Rk
open PySem PySem.Spec PyProof.Rows L2
theorem law_facts {P : Program} {w : World} {K : PySem.W.Frag} {h : Heap} {mg : Str → Option Value} {f : Addr} (X : K.In h) (G : h.Ns mainGlobals mg) (hfa : mg ("law" : Str) = some (.ref f)) (c : RkH.Says K) :
    ∃ fd : FuncData, (∀ (s : Shared) (v : Value), BindsTo s fd ⟨[v], []⟩ [("script", v)]) ∧ ∀ base : Heap, K.In base → base.Ns mainGlobals mg → FnOk P w K mg base CX0 12 f fd ["script"] (spLaw K) := by
  have T := tx_of X G c
  have e := hfa.symm.trans (ok_law (P := P) (w := w) (base := h) T).g
  cases e
  have b := FunD.bindsA (ps := ["script"]) T.f_law fun _ _ _ _ _ _ us hl => match us, hl with | [_], _ => rfl
  exact ⟨fdOf K (He.ga K "law"), fun s v => b s [v] rfl, fun base _ _ => (ok_law T).ok⟩
end Rk
open PySem PySem.W PySem.Calls PyProof.Rows
theorem PySem.Challenge.cw_rowjudge_k96_whole_text_to_answers_holds : PySem.Challenge.rw_rowjudge_k96_whole_text_to_answers.Holds :=
by
  w_on; o_law
  refine HandSHeadRun.head_any (r := OpenLaw.row PySem.Challenge.rw_rowjudge_k96_whole_text_to_answers) (q := view (OpenLaw.row PySem.Challenge.rw_rowjudge_k96_whole_text_to_answers).prog [127]) (H := RkH.hk) (ob := RkH.ob) (M := 30000) (loose := RkH.loose) (d := HandSHeadRun.topDef (OpenLaw.row PySem.Challenge.rw_rowjudge_k96_whole_text_to_answers).prog 127) (kwd := []) RkH.ob_eq
    (by kernel_rfl) (fun s => by kernel_rfl) RkH.run (by kernel_rfl) (by kernel_rfl) (by kernel_rfl) (by rfl) (by first | assumption | decide +kernel) (by decide +kernel) ⟨rfl, rfl, rfl, rfl, rfl, by decide +kernel⟩ ?hw ?hc
  case hw => w_witness2
  case hc =>
    refine L2.walk_ofE (l := PySem.Challenge.rw_rowjudge_k96_whole_text_to_answers) (n := 63) (k := 12) (x := "script") (CX := L2.CX0) rfl (by decide) (by kernel_rfl) ⟨rfl, by decide, by decide⟩ ?F (fun _ _ _ _ z => z)
    intro w mg fa h Y G hmg0
    obtain ⟨K, KX, c⟩ := Y
    have hmg : mg ("law" : PySem.Str) = some (.ref fa) := by
      have e : (HandSHeadRun.topDef (OpenLaw.row PySem.Challenge.rw_rowjudge_k96_whole_text_to_answers).prog 127).name = ("law" : PySem.Str) := by kernel_rfl
      rw [← e]
      exact hmg0
    obtain ⟨fd, hb, hF⟩ := Rk.law_facts (P := (PySem.Challenge.rw_rowjudge_k96_whole_text_to_answers).prog) (w := w) KX G hmg c
    exact ⟨K, fd, Rk.spLaw K, KX, hb, fun H a ns hl _ hS => ⟨a, ns, rfl, hS, Nat.le_trans hl (by decide), fun _ => rfl⟩, hF⟩
