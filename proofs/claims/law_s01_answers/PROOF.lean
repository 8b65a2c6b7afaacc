import PyProof.Rows.All
import Wide.All
import OpenK.AllK
import Wide.FinOn
import PyProof.EqAt
import PyProof.EqKinds
import PyProof.TupleCall
import KE.KStateDown
import KE.OsGo
import Open.SpecLaws
import HandS.ForSpec
import HandS.Iter
import HandS.Comp
import HandS.Dict
import HandS.More
import HandS.Defaults
import HandS.ExcInit
import HandS.ExcField
import HandS.Head0
import HandS.Head1
import HandS.Head2
import HandS.HeadHook1
import HandS.HeadHook2
import PySem.Challenge.RW_sharesregrets_s01_answers
import HandS.Codes
import HandS.Conv
import HandS.Zip
import HandS.Deep
import HandS.Strs
import HandS.Wide
import HandS.WideBits
import HandS.Small
import HandS.TupAny
import HandS.TupLen
import HandS.NoneIn
import HandS.SortKw
import HandS.SortInts
import KE.GoesEnum
import KE.DatumOrd
import KE.KDictDisplayH
import KE.KDictItemsList
import KE.KDictZip
import HandS.SetFor
import HandS.ListItems
import HandS.Evl
import HandS.Walk
import HandS.Flow
import HandS.Style
import PyVamvsf
import PyFlatLaws
import HandS.Head4
set_option Elab.async false
set_option linter.all false
set_option maxRecDepth 100000
set_option maxHeartbeats 0
/-! # The places of the defs in the row's text, the facts of the head -/
namespace Sr
open PySem PySem.Spec PyProof.Rows L2
def top (i : Nat) : Stmt := PySem.Challenge.pw_sharesregrets_s01_answers.main.body.getD i (.Pass ⟨0, 0, 0, 0⟩)
abbrev s_is_within : Stmt := top 2
abbrev s_read_sizes : Stmt := top 3
abbrev s_all_sizes : Stmt := top 4
abbrev s_with_one_more : Stmt := top 5
abbrev s_all_reads : Stmt := top 6
abbrev s_cost_of : Stmt := top 7
abbrev s_pays_alone : Stmt := top 8
abbrev s_members : Stmt := top 15
abbrev s_orders_behind : Stmt := top 16
abbrev s_share_of : Stmt := top 17
abbrev s_shares_of : Stmt := top 18
abbrev s_unhappy_groups : Stmt := top 19
abbrev s_lowest_terms : Stmt := top 20
abbrev s_Fault_init : Stmt := inClass (top 44) 0
abbrev s_codes : Stmt := top 45
abbrev s_is_digit : Stmt := top 46
abbrev s_is_letter : Stmt := top 47
abbrev s_remark_end : Stmt := top 48
abbrev s_name_end : Stmt := top 49
abbrev s_number_end : Stmt := top 50
abbrev s_name_at : Stmt := top 51
abbrev s_number_at : Stmt := top 52
abbrev s_token_at : Stmt := top 53
abbrev s_tokens_of : Stmt := top 54
abbrev s_Table_init : Stmt := inClass (top 56) 0
abbrev s_Table_how_many_groupings : Stmt := inClass (top 56) 1
abbrev s_Table_columns_in : Stmt := inClass (top 56) 2
abbrev s_Table_size_of : Stmt := inClass (top 56) 3
abbrev s_joined : Stmt := top 57
abbrev s_with_commas : Stmt := top 58
abbrev s_number_bytes : Stmt := top 59
abbrev s_row_line : Stmt := top 60
abbrev s_question_line : Stmt := top 61
abbrev s_one_form : Stmt := top 62
abbrev s_Reader_init : Stmt := inClass (top 78) 0
abbrev s_Reader_here : Stmt := inClass (top 78) 1
abbrev s_Reader_need : Stmt := inClass (top 78) 2
abbrev s_Reader_take : Stmt := inClass (top 78) 3
abbrev s_Reader_is_word : Stmt := inClass (top 78) 4
abbrev s_Reader_is_sign : Stmt := inClass (top 78) 5
abbrev s_Reader_is_name : Stmt := inClass (top 78) 6
abbrev s_Reader_take_word : Stmt := inClass (top 78) 7
abbrev s_Reader_take_sign : Stmt := inClass (top 78) 8
abbrev s_Reader_number : Stmt := inClass (top 78) 9
abbrev s_Reader_column : Stmt := inClass (top 78) 10
abbrev s_Reader_columns : Stmt := inClass (top 78) 11
abbrev s_Reader_row : Stmt := inClass (top 78) 12
abbrev s_Reader_grouped : Stmt := inClass (top 78) 13
abbrev s_Reader_question : Stmt := inClass (top 78) 14
abbrev s_Reader_whole : Stmt := inClass (top 78) 15
abbrev s_read_table : Stmt := top 79
abbrev s_small_sets : Stmt := top 81
abbrev s_Regrets_init : Stmt := inClass (top 82) 0
abbrev s_Regrets_regret_to : Stmt := inClass (top 82) 1
abbrev s_Regrets_greatest : Stmt := inClass (top 82) 2
abbrev s_Regrets_least : Stmt := inClass (top 82) 3
abbrev s_Refused_init : Stmt := inClass (top 92) 0
abbrev s_want : Stmt := top 93
abbrev s_counted : Stmt := top 94
abbrev s_Desk_init : Stmt := inClass (top 95) 0
abbrev s_Desk_load : Stmt := inClass (top 95) 1
abbrev s_Desk_shown : Stmt := inClass (top 95) 2
abbrev s_Desk_tell_readers : Stmt := inClass (top 95) 3
abbrev s_Desk_tell_changes : Stmt := inClass (top 95) 4
abbrev s_Desk_paid_by : Stmt := inClass (top 95) 5
abbrev s_Desk_paid : Stmt := inClass (top 95) 6
abbrev s_Desk_alone : Stmt := inClass (top 95) 7
abbrev s_Desk_shares : Stmt := inClass (top 95) 8
abbrev s_Desk_unhappy : Stmt := inClass (top 95) 9
abbrev s_Desk_tell_bounds : Stmt := inClass (top 95) 10
abbrev s_Desk_regrets : Stmt := inClass (top 95) 11
abbrev s_Desk_regret : Stmt := inClass (top 95) 12
abbrev s_Desk_least : Stmt := inClass (top 95) 13
abbrev s_of_lists : Stmt := top 99
abbrev s_of_others : Stmt := top 100
abbrev s_answer : Stmt := top 101
abbrev s_answers : Stmt := top 102
/-! ## the defs -/
def d_is_within : He.DefD := ⟨("is_within", none), "is_within", "is_within", defArgs s_is_within, defBody s_is_within, defScope s_is_within, [], []⟩
def d_read_sizes : He.DefD := ⟨("read_sizes", none), "read_sizes", "read_sizes", defArgs s_read_sizes, defBody s_read_sizes, defScope s_read_sizes, [], []⟩
def d_all_sizes : He.DefD := ⟨("all_sizes", none), "all_sizes", "all_sizes", defArgs s_all_sizes, defBody s_all_sizes, defScope s_all_sizes, [], []⟩
def d_with_one_more : He.DefD := ⟨("with_one_more", none), "with_one_more", "with_one_more", defArgs s_with_one_more, defBody s_with_one_more, defScope s_with_one_more, [], []⟩
def d_all_reads : He.DefD := ⟨("all_reads", none), "all_reads", "all_reads", defArgs s_all_reads, defBody s_all_reads, defScope s_all_reads, [], []⟩
def d_cost_of : He.DefD := ⟨("cost_of", none), "cost_of", "cost_of", defArgs s_cost_of, defBody s_cost_of, defScope s_cost_of, [], []⟩
def d_pays_alone : He.DefD := ⟨("pays_alone", none), "pays_alone", "pays_alone", defArgs s_pays_alone, defBody s_pays_alone, defScope s_pays_alone, [], []⟩
def d_members : He.DefD := ⟨("members", none), "members", "members", defArgs s_members, defBody s_members, defScope s_members, [], []⟩
def d_orders_behind : He.DefD := ⟨("orders_behind", none), "orders_behind", "orders_behind", defArgs s_orders_behind, defBody s_orders_behind, defScope s_orders_behind, [], []⟩
def d_share_of : He.DefD := ⟨("share_of", none), "share_of", "share_of", defArgs s_share_of, defBody s_share_of, defScope s_share_of, [], []⟩
def d_shares_of : He.DefD := ⟨("shares_of", none), "shares_of", "shares_of", defArgs s_shares_of, defBody s_shares_of, defScope s_shares_of, [], []⟩
def d_unhappy_groups : He.DefD := ⟨("unhappy_groups", none), "unhappy_groups", "unhappy_groups", defArgs s_unhappy_groups, defBody s_unhappy_groups, defScope s_unhappy_groups, [], []⟩
def d_lowest_terms : He.DefD := ⟨("lowest_terms", none), "lowest_terms", "lowest_terms", defArgs s_lowest_terms, defBody s_lowest_terms, defScope s_lowest_terms, [], []⟩
def d_Fault_init : He.DefD := ⟨("Fault", some "__init__"), "__init__", "Fault.__init__", defArgs s_Fault_init, defBody s_Fault_init, defScope s_Fault_init, [], []⟩
def d_codes : He.DefD := ⟨("codes", none), "codes", "codes", defArgs s_codes, defBody s_codes, defScope s_codes, [], []⟩
def d_is_digit : He.DefD := ⟨("is_digit", none), "is_digit", "is_digit", defArgs s_is_digit, defBody s_is_digit, defScope s_is_digit, [], []⟩
def d_is_letter : He.DefD := ⟨("is_letter", none), "is_letter", "is_letter", defArgs s_is_letter, defBody s_is_letter, defScope s_is_letter, [], []⟩
def d_remark_end : He.DefD := ⟨("remark_end", none), "remark_end", "remark_end", defArgs s_remark_end, defBody s_remark_end, defScope s_remark_end, [], []⟩
def d_name_end : He.DefD := ⟨("name_end", none), "name_end", "name_end", defArgs s_name_end, defBody s_name_end, defScope s_name_end, [], []⟩
def d_number_end : He.DefD := ⟨("number_end", none), "number_end", "number_end", defArgs s_number_end, defBody s_number_end, defScope s_number_end, [], []⟩
def d_name_at : He.DefD := ⟨("name_at", none), "name_at", "name_at", defArgs s_name_at, defBody s_name_at, defScope s_name_at, [], []⟩
def d_number_at : He.DefD := ⟨("number_at", none), "number_at", "number_at", defArgs s_number_at, defBody s_number_at, defScope s_number_at, [], []⟩
def d_token_at : He.DefD := ⟨("token_at", none), "token_at", "token_at", defArgs s_token_at, defBody s_token_at, defScope s_token_at, [], []⟩
def d_tokens_of : He.DefD := ⟨("tokens_of", none), "tokens_of", "tokens_of", defArgs s_tokens_of, defBody s_tokens_of, defScope s_tokens_of, [], []⟩
def d_Table_init : He.DefD := ⟨("Table", some "__init__"), "__init__", "Table.__init__", defArgs s_Table_init, defBody s_Table_init, defScope s_Table_init, [], []⟩
def d_Table_how_many_groupings : He.DefD := ⟨("Table", some "how_many_groupings"), "how_many_groupings", "Table.how_many_groupings", defArgs s_Table_how_many_groupings, defBody s_Table_how_many_groupings, defScope s_Table_how_many_groupings, [], []⟩
def d_Table_columns_in : He.DefD := ⟨("Table", some "columns_in"), "columns_in", "Table.columns_in", defArgs s_Table_columns_in, defBody s_Table_columns_in, defScope s_Table_columns_in, [], []⟩
def d_Table_size_of : He.DefD := ⟨("Table", some "size_of"), "size_of", "Table.size_of", defArgs s_Table_size_of, defBody s_Table_size_of, defScope s_Table_size_of, [], []⟩
def d_joined : He.DefD := ⟨("joined", none), "joined", "joined", defArgs s_joined, defBody s_joined, defScope s_joined, [], []⟩
def d_with_commas : He.DefD := ⟨("with_commas", none), "with_commas", "with_commas", defArgs s_with_commas, defBody s_with_commas, defScope s_with_commas, [], []⟩
def d_number_bytes : He.DefD := ⟨("number_bytes", none), "number_bytes", "number_bytes", defArgs s_number_bytes, defBody s_number_bytes, defScope s_number_bytes, [], []⟩
def d_row_line : He.DefD := ⟨("row_line", none), "row_line", "row_line", defArgs s_row_line, defBody s_row_line, defScope s_row_line, [], []⟩
def d_question_line : He.DefD := ⟨("question_line", none), "question_line", "question_line", defArgs s_question_line, defBody s_question_line, defScope s_question_line, [], []⟩
def d_one_form : He.DefD := ⟨("one_form", none), "one_form", "one_form", defArgs s_one_form, defBody s_one_form, defScope s_one_form, [], []⟩
def d_Reader_init : He.DefD := ⟨("Reader", some "__init__"), "__init__", "Reader.__init__", defArgs s_Reader_init, defBody s_Reader_init, defScope s_Reader_init, [], []⟩
def d_Reader_here : He.DefD := ⟨("Reader", some "here"), "here", "Reader.here", defArgs s_Reader_here, defBody s_Reader_here, defScope s_Reader_here, [], []⟩
def d_Reader_need : He.DefD := ⟨("Reader", some "need"), "need", "Reader.need", defArgs s_Reader_need, defBody s_Reader_need, defScope s_Reader_need, [], []⟩
def d_Reader_take : He.DefD := ⟨("Reader", some "take"), "take", "Reader.take", defArgs s_Reader_take, defBody s_Reader_take, defScope s_Reader_take, [], []⟩
def d_Reader_is_word : He.DefD := ⟨("Reader", some "is_word"), "is_word", "Reader.is_word", defArgs s_Reader_is_word, defBody s_Reader_is_word, defScope s_Reader_is_word, [], []⟩
def d_Reader_is_sign : He.DefD := ⟨("Reader", some "is_sign"), "is_sign", "Reader.is_sign", defArgs s_Reader_is_sign, defBody s_Reader_is_sign, defScope s_Reader_is_sign, [], []⟩
def d_Reader_is_name : He.DefD := ⟨("Reader", some "is_name"), "is_name", "Reader.is_name", defArgs s_Reader_is_name, defBody s_Reader_is_name, defScope s_Reader_is_name, [], []⟩
def d_Reader_take_word : He.DefD := ⟨("Reader", some "take_word"), "take_word", "Reader.take_word", defArgs s_Reader_take_word, defBody s_Reader_take_word, defScope s_Reader_take_word, [], []⟩
def d_Reader_take_sign : He.DefD := ⟨("Reader", some "take_sign"), "take_sign", "Reader.take_sign", defArgs s_Reader_take_sign, defBody s_Reader_take_sign, defScope s_Reader_take_sign, [], []⟩
def d_Reader_number : He.DefD := ⟨("Reader", some "number"), "number", "Reader.number", defArgs s_Reader_number, defBody s_Reader_number, defScope s_Reader_number, [], []⟩
def d_Reader_column : He.DefD := ⟨("Reader", some "column"), "column", "Reader.column", defArgs s_Reader_column, defBody s_Reader_column, defScope s_Reader_column, [], []⟩
def d_Reader_columns : He.DefD := ⟨("Reader", some "columns"), "columns", "Reader.columns", defArgs s_Reader_columns, defBody s_Reader_columns, defScope s_Reader_columns, [], []⟩
def d_Reader_row : He.DefD := ⟨("Reader", some "row"), "row", "Reader.row", defArgs s_Reader_row, defBody s_Reader_row, defScope s_Reader_row, [], []⟩
def d_Reader_grouped : He.DefD := ⟨("Reader", some "grouped"), "grouped", "Reader.grouped", defArgs s_Reader_grouped, defBody s_Reader_grouped, defScope s_Reader_grouped, [], []⟩
def d_Reader_question : He.DefD := ⟨("Reader", some "question"), "question", "Reader.question", defArgs s_Reader_question, defBody s_Reader_question, defScope s_Reader_question, [], []⟩
def d_Reader_whole : He.DefD := ⟨("Reader", some "whole"), "whole", "Reader.whole", defArgs s_Reader_whole, defBody s_Reader_whole, defScope s_Reader_whole, [], []⟩
def d_read_table : He.DefD := ⟨("read_table", none), "read_table", "read_table", defArgs s_read_table, defBody s_read_table, defScope s_read_table, [], []⟩
def d_small_sets : He.DefD := ⟨("small_sets", none), "small_sets", "small_sets", defArgs s_small_sets, defBody s_small_sets, defScope s_small_sets, [], []⟩
def d_Regrets_init : He.DefD := ⟨("Regrets", some "__init__"), "__init__", "Regrets.__init__", defArgs s_Regrets_init, defBody s_Regrets_init, defScope s_Regrets_init, [], []⟩
def d_Regrets_regret_to : He.DefD := ⟨("Regrets", some "regret_to"), "regret_to", "Regrets.regret_to", defArgs s_Regrets_regret_to, defBody s_Regrets_regret_to, defScope s_Regrets_regret_to, [], []⟩
def d_Regrets_greatest : He.DefD := ⟨("Regrets", some "greatest"), "greatest", "Regrets.greatest", defArgs s_Regrets_greatest, defBody s_Regrets_greatest, defScope s_Regrets_greatest, [], []⟩
def d_Regrets_least : He.DefD := ⟨("Regrets", some "least"), "least", "Regrets.least", defArgs s_Regrets_least, defBody s_Regrets_least, defScope s_Regrets_least, [], []⟩
def d_Refused_init : He.DefD := ⟨("Refused", some "__init__"), "__init__", "Refused.__init__", defArgs s_Refused_init, defBody s_Refused_init, defScope s_Refused_init, [], []⟩
def d_want : He.DefD := ⟨("want", none), "want", "want", defArgs s_want, defBody s_want, defScope s_want, [], []⟩
def d_counted : He.DefD := ⟨("counted", none), "counted", "counted", defArgs s_counted, defBody s_counted, defScope s_counted, [], []⟩
def d_Desk_init : He.DefD := ⟨("Desk", some "__init__"), "__init__", "Desk.__init__", defArgs s_Desk_init, defBody s_Desk_init, defScope s_Desk_init, [], []⟩
def d_Desk_load : He.DefD := ⟨("Desk", some "load"), "load", "Desk.load", defArgs s_Desk_load, defBody s_Desk_load, defScope s_Desk_load, [], []⟩
def d_Desk_shown : He.DefD := ⟨("Desk", some "shown"), "shown", "Desk.shown", defArgs s_Desk_shown, defBody s_Desk_shown, defScope s_Desk_shown, [], []⟩
def d_Desk_tell_readers : He.DefD := ⟨("Desk", some "tell_readers"), "tell_readers", "Desk.tell_readers", defArgs s_Desk_tell_readers, defBody s_Desk_tell_readers, defScope s_Desk_tell_readers, [], []⟩
def d_Desk_tell_changes : He.DefD := ⟨("Desk", some "tell_changes"), "tell_changes", "Desk.tell_changes", defArgs s_Desk_tell_changes, defBody s_Desk_tell_changes, defScope s_Desk_tell_changes, [], []⟩
def d_Desk_paid_by : He.DefD := ⟨("Desk", some "paid_by"), "paid_by", "Desk.paid_by", defArgs s_Desk_paid_by, defBody s_Desk_paid_by, defScope s_Desk_paid_by, [], []⟩
def d_Desk_paid : He.DefD := ⟨("Desk", some "paid"), "paid", "Desk.paid", defArgs s_Desk_paid, defBody s_Desk_paid, defScope s_Desk_paid, [], []⟩
def d_Desk_alone : He.DefD := ⟨("Desk", some "alone"), "alone", "Desk.alone", defArgs s_Desk_alone, defBody s_Desk_alone, defScope s_Desk_alone, [], []⟩
def d_Desk_shares : He.DefD := ⟨("Desk", some "shares"), "shares", "Desk.shares", defArgs s_Desk_shares, defBody s_Desk_shares, defScope s_Desk_shares, [], []⟩
def d_Desk_unhappy : He.DefD := ⟨("Desk", some "unhappy"), "unhappy", "Desk.unhappy", defArgs s_Desk_unhappy, defBody s_Desk_unhappy, defScope s_Desk_unhappy, [], []⟩
def d_Desk_tell_bounds : He.DefD := ⟨("Desk", some "tell_bounds"), "tell_bounds", "Desk.tell_bounds", defArgs s_Desk_tell_bounds, defBody s_Desk_tell_bounds, defScope s_Desk_tell_bounds, [], []⟩
def d_Desk_regrets : He.DefD := ⟨("Desk", some "regrets"), "regrets", "Desk.regrets", defArgs s_Desk_regrets, defBody s_Desk_regrets, defScope s_Desk_regrets, [], []⟩
def d_Desk_regret : He.DefD := ⟨("Desk", some "regret"), "regret", "Desk.regret", defArgs s_Desk_regret, defBody s_Desk_regret, defScope s_Desk_regret, [], []⟩
def d_Desk_least : He.DefD := ⟨("Desk", some "least"), "least", "Desk.least", defArgs s_Desk_least, defBody s_Desk_least, defScope s_Desk_least, [], []⟩
def d_of_lists : He.DefD := ⟨("of_lists", none), "of_lists", "of_lists", defArgs s_of_lists, defBody s_of_lists, defScope s_of_lists, [], []⟩
def d_of_others : He.DefD := ⟨("of_others", none), "of_others", "of_others", defArgs s_of_others, defBody s_of_others, defScope s_of_others, [], []⟩
def d_answer : He.DefD := ⟨("answer", none), "answer", "answer", defArgs s_answer, defBody s_answer, defScope s_answer, [], []⟩
def d_answers : He.DefD := ⟨("answers", none), "answers", "answers", defArgs s_answers, defBody s_answers, defScope s_answers, [], []⟩
def fnl : List He.DefD := [d_is_within, d_read_sizes, d_all_sizes, d_with_one_more, d_all_reads, d_cost_of, d_pays_alone, d_members, d_orders_behind, d_share_of, d_shares_of, d_unhappy_groups, d_lowest_terms, d_Fault_init, d_codes, d_is_digit, d_is_letter, d_remark_end, d_name_end, d_number_end, d_name_at, d_number_at, d_token_at, d_tokens_of, d_Table_init, d_Table_how_many_groupings, d_Table_columns_in, d_Table_size_of, d_joined, d_with_commas, d_number_bytes, d_row_line, d_question_line, d_one_form, d_Reader_init, d_Reader_here, d_Reader_need, d_Reader_take, d_Reader_is_word, d_Reader_is_sign, d_Reader_is_name, d_Reader_take_word, d_Reader_take_sign, d_Reader_number, d_Reader_column, d_Reader_columns, d_Reader_row, d_Reader_grouped, d_Reader_question, d_Reader_whole, d_read_table, d_small_sets, d_Regrets_init, d_Regrets_regret_to, d_Regrets_greatest, d_Regrets_least, d_Refused_init, d_want, d_counted, d_Desk_init, d_Desk_load, d_Desk_shown, d_Desk_tell_readers, d_Desk_tell_changes, d_Desk_paid_by, d_Desk_paid, d_Desk_alone, d_Desk_shares, d_Desk_unhappy, d_Desk_tell_bounds, d_Desk_regrets, d_Desk_regret, d_Desk_least, d_of_lists, d_of_others, d_answer, d_answers]
def fal : List He.Fa := [.int "CHANGE_COST" (2), .int "READERS" (4), .int "GROUPS" (16), .int "EVERYBODY" (15), .int "ORDERS" (24), .int "NAME" (0), .int "WORD" (1), .int "NUMBER" (2), .int "SIGN" (3), .int "END" (4), .int "REMARK" (35), .int "LINE_END" (10), .int "NOUGHT" (48), .str "COLUMNS" "columns", .str "ROW" "row", .str "ASK" "ask", .str "TIMES" "times", .int "COMMA" (44), .int "COLON" (58), .int "SEMICOLON" (59), .int "MINUS" (45), .int "MOST_LETTERS" (16), .int "MOST_NUMBER" (1000000000), .int "NO_TOKEN" (2), .int "TOO_LONG" (1), .int "CANT_STAND" (3), .int "TOO_MANY_reading" (4), .int "COLUMN_TWICE" (5), .int "GROUPED_TWICE" (6), .int "OUT_OF_BOUNDS" (7), .int "NO_COLUMN" (8), .int "MOST_BYTES" (4096), .int "MOST_COLUMNS" (4), .int "MOST_ROWS" (16), .int "MOST_QUESTIONS" (8), .int "MOST_VALUE" (9), .int "MOST_SUMMED" (1000), .int "MOST_OFTEN_reading" (99), .int "NO_TABLE" (-1), .int "NONE_SUCH" (-2), .int "NOT_AS_TOLD" (-3), .int "NO_CHANGES" (-4), .int "TOO_MANY_desk" (-5), .int "MOST_CHANGES" (1000), .int "MOST_OFTEN_desk" (99), .int "MOST_KEPT" (2), .glo "FACTORIALS", .glo "BLANKS", .glo "WORDS", .glo "SIGNS", .glo "NUMBERS", .glo "LISTS", .free "min", .free "len", .free "range", .free "zip", .free "tuple", .free "list", .free "sum", .free "ord", .free "any", .free "all", .free "enumerate", .free "str", .free "sorted", .free "set", .free "ValueError", .glo "Fault", .glo "Table", .glo "Reader", .glo "Regrets", .glo "Refused", .glo "Desk", .cls "Table", .mkr "Table", .noat "Table" "names", .noat "Table" "rows", .noat "Table" "questions", .cls "Reader", .mkr "Reader", .noat "Reader" "tokens", .noat "Reader" "done", .noat "Reader" "table", .cls "Regrets", .mkr "Regrets", .noat "Regrets" "sets", .noat "Regrets" "reads", .noat "Regrets" "bounds", .noat "Regrets" "changes", .cls "Desk", .mkr "Desk", .noat "Desk" "table", .noat "Desk" "sizes", .noat "Desk" "reads", .noat "Desk" "owners", .noat "Desk" "bounds", .noat "Desk" "changes", .noat "Desk" "known_regrets", .glo "is_within", .glo "read_sizes", .glo "all_sizes", .glo "with_one_more", .glo "all_reads", .glo "cost_of", .glo "pays_alone", .glo "members", .glo "orders_behind", .glo "share_of", .glo "shares_of", .glo "unhappy_groups", .glo "lowest_terms", .glo "codes", .glo "is_digit", .glo "is_letter", .glo "remark_end", .glo "name_end", .glo "number_end", .glo "name_at", .glo "number_at", .glo "token_at", .glo "tokens_of", .meth "Table" "how_many_groupings", .meth "Table" "columns_in", .meth "Table" "size_of", .glo "joined", .glo "with_commas", .glo "number_bytes", .glo "row_line", .glo "question_line", .glo "one_form", .meth "Reader" "here", .meth "Reader" "need", .meth "Reader" "take", .meth "Reader" "is_word", .meth "Reader" "is_sign", .meth "Reader" "is_name", .meth "Reader" "take_word", .meth "Reader" "take_sign", .meth "Reader" "number", .meth "Reader" "column", .meth "Reader" "columns", .meth "Reader" "row", .meth "Reader" "grouped", .meth "Reader" "question", .meth "Reader" "whole", .glo "read_table", .glo "small_sets", .meth "Regrets" "regret_to", .meth "Regrets" "greatest", .meth "Regrets" "least", .glo "want", .glo "counted", .meth "Desk" "load", .meth "Desk" "shown", .meth "Desk" "tell_readers", .meth "Desk" "tell_changes", .meth "Desk" "paid_by", .meth "Desk" "paid", .meth "Desk" "alone", .meth "Desk" "shares", .meth "Desk" "unhappy", .meth "Desk" "tell_bounds", .meth "Desk" "regrets", .meth "Desk" "regret", .meth "Desk" "least", .glo "of_lists", .glo "of_others", .glo "answer", .glo "answers", .exm "Fault" "Fault" true, .exm "Refused" "Refused" true, .exm "Refused" "Fault" false]
/-! ## further looks: tuples, the exceptions' classes -/
def oexB (K : PySem.W.Frag) (C : Addr) : Bool := match K.lookup C with
  | some ⟨.type c, _, .cls cd, sl⟩ => (match cd.mro, sl.toList with
    | .ref C' :: bm, [_, _, _, _, some (.builtin n), _] => decide (c = "type") && (decide (C' = C) && (decide (n = "ValueError.__new__") && (!cd.hasDel && (cd.hasDict && PySem.HandSPX.refsVE bm))))
    | _, _ => false)
  | _ => false
def initOf (K : PySem.W.Frag) (C : Addr) : Addr := He.ma K C "__init__"
def excB (K : PySem.W.Frag) (C : Addr) (fs : List Str) : Bool := oexB K C && (PySem.W.keepIn K (.ref C) && (decide (PySem.W.subIn K (.ref C) (.type "BaseException") = some true) && (decide (PySem.W.typeIn K (.ref C) = some (.type "type")) &&
  (xfB K C && (decide (PySem.W.findIn K (.ref C) "__init__" = some (some (.ref (initOf K C)))) && (decide (PySem.W.typeIn K (.ref (initOf K C)) = some (.type "function")) && (decide (PySem.W.findIn K (.ref C) "__setattr__" = some (some (.builtin "object.__setattr__"))) && fs.all (fun f => decide (PySem.W.findIn K (.ref C) f = some none)))))))))
def exl (K : PySem.W.Frag) : Bool := excB K (He.ga K "Fault") ["code", "place"] && (excB K (He.ga K "Refused") ["refusal"] && ((match PySem.W.findCls K (.type "ValueError") (.type "type") "__init__" with
    | some (.val (.builtin n)) => decide (n = "ValueError.__init__")
    | _ => false) &&
  (He.tupB K "FACTORIALS" [.int 1, .int 1, .int 2, .int 6] && He.tupB K "BLANKS" [.int 32, .int 9, .int 10] && He.tupB K "WORDS" [.str "columns", .str "row", .str "ask", .str "times"] && He.tupB K "SIGNS" [.int (44), .int (58), .int (59), .int (45)] && He.tupB K "NUMBERS" [.int 0, .int 0, .int 0, .int 1, .int 1, .int 0, .int 0, .int 0, .int 0, .int 0] && He.tupB K "LISTS" [.int 1, .int 0, .int 1, .int 0, .int 0, .int 0, .int 0, .int 2, .int 1, .int 0])))
def nm0 : List Str := ["CHANGE_COST", "is_within", "read_sizes", "all_sizes", "with_one_more", "all_reads", "cost_of", "pays_alone", "READERS", "GROUPS", "EVERYBODY", "ORDERS"]
def nm1 : List Str := ["FACTORIALS", "members", "orders_behind", "share_of", "shares_of", "unhappy_groups", "lowest_terms", "NAME", "WORD", "NUMBER", "SIGN", "END"]
def nm2 : List Str := ["BLANKS", "REMARK", "LINE_END", "NOUGHT", "COLUMNS", "ROW", "ASK", "TIMES", "WORDS", "COMMA", "COLON", "SEMICOLON"]
def nm3 : List Str := ["MINUS", "SIGNS", "MOST_LETTERS", "MOST_NUMBER", "NO_TOKEN", "Fault", "codes", "is_digit", "is_letter", "remark_end", "name_end", "number_end"]
def nm4 : List Str := ["name_at", "number_at", "token_at", "tokens_of", "Table", "joined", "with_commas", "number_bytes", "row_line", "question_line", "one_form", "TOO_LONG"]
def nm5 : List Str := ["CANT_STAND", "TOO_MANY_reading", "COLUMN_TWICE", "GROUPED_TWICE", "OUT_OF_BOUNDS", "NO_COLUMN", "MOST_BYTES", "MOST_COLUMNS", "MOST_ROWS", "MOST_QUESTIONS", "MOST_VALUE", "MOST_SUMMED"]
def nm6 : List Str := ["MOST_OFTEN_reading", "Reader", "read_table", "small_sets", "Regrets", "NO_TABLE", "NONE_SUCH", "NOT_AS_TOLD", "NO_CHANGES", "TOO_MANY_desk", "MOST_CHANGES", "MOST_OFTEN_desk"]
def nm7 : List Str := ["MOST_KEPT", "Refused", "want", "counted", "Desk", "NUMBERS", "LISTS", "of_lists", "of_others", "answer"]
def names : List Str := nm0 ++ nm1 ++ nm2 ++ nm3 ++ nm4 ++ nm5 ++ nm6 ++ nm7
def iAns : Nat := 102

/-! ## the Hook -/
abbrev AlM : Type := He.AlD × Bool
def obsM (g : Addr → Option Obj) : AlM := (He.obsDG 5 fal fnl g, exl (He.frG g (He.asD g 5)))
def valM : AlM := (He.valD fnl, true)
def hookM : PySem.W.Hook where
  α := AlM
  obs := fun s => obsM s.heap.get?
  val := fun _ => valM
  says := fun _ h => ∃ K : PySem.W.Frag, K.In h ∧ He.SaysD fal fnl K ∧ exl K = true
  of := fun _ _ e => ⟨_, He.frG_in, congrArg (fun z : AlM => z.1) e, congrArg (fun z : AlM => z.2) e⟩
  keeps := fun _ _ _ ⟨K, hK, c⟩ k => ⟨K, PySem.W.Frag.In.keeps hK k, c⟩
theorem obsM_eq {g : Addr → Option Obj} {s : Shared} (h : ∀ a, g a = s.heap.get? a) : obsM g = hookM.obs s := by
  have e : g = s.heap.get? := funext h
  rw [e] <;> rfl
def obM (s : PySem.W.SharedT) : AlM := obsM (HandSHeadRun.getT s)
theorem obM_eq (s : PySem.W.SharedT) : obM s = hookM.obs s.abs := obsM_eq (HandSHeadRun.getT_eq s)

/-! ## what is known where a def runs -/
structure Gx where
  P : Program
  w : World
  K : PySem.W.Frag
  mg : Str → Option Value
  base : Heap
abbrev Gx.C (g : Gx) (x : Str) : Addr := He.ga g.K x
structure Tx (g : Gx) : Prop where
  kin : g.K.In g.base
  ns : g.base.Ns mainGlobals g.mg
  says : He.SaysD fal fnl g.K
  ex : exl g.K = true
section
variable {g : Gx}
theorem int_gl {x : Str} {i : Int} {mg : Str → Option Value} (h : ∃ t, mg x = some (.int i t)) : ∃ u, mg x = some u ∧ RelV (.int i) u := by
  obtain ⟨t, e⟩ := h
  exact ⟨_, e, t, rfl⟩
theorem str_gl {x z : Str} {mg : Str → Option Value} (h : ∃ t, mg x = some (.str z t)) : ∃ u, mg x = some u ∧ RelV (.str z) u := by
  obtain ⟨t, e⟩ := h
  exact ⟨_, e, t, rfl⟩
theorem Tx.g_CHANGE_COST (T : Tx g) : ∃ u, g.mg "CHANGE_COST" = some u ∧ RelV (.int (2)) u := int_gl (He.int_ok T.kin T.ns (T.says.fact 0 rfl))
theorem Tx.g_READERS (T : Tx g) : ∃ u, g.mg "READERS" = some u ∧ RelV (.int (4)) u := int_gl (He.int_ok T.kin T.ns (T.says.fact 1 rfl))
theorem Tx.g_GROUPS (T : Tx g) : ∃ u, g.mg "GROUPS" = some u ∧ RelV (.int (16)) u := int_gl (He.int_ok T.kin T.ns (T.says.fact 2 rfl))
theorem Tx.g_EVERYBODY (T : Tx g) : ∃ u, g.mg "EVERYBODY" = some u ∧ RelV (.int (15)) u := int_gl (He.int_ok T.kin T.ns (T.says.fact 3 rfl))
theorem Tx.g_ORDERS (T : Tx g) : ∃ u, g.mg "ORDERS" = some u ∧ RelV (.int (24)) u := int_gl (He.int_ok T.kin T.ns (T.says.fact 4 rfl))
theorem Tx.g_NAME (T : Tx g) : ∃ u, g.mg "NAME" = some u ∧ RelV (.int (0)) u := int_gl (He.int_ok T.kin T.ns (T.says.fact 5 rfl))
theorem Tx.g_WORD (T : Tx g) : ∃ u, g.mg "WORD" = some u ∧ RelV (.int (1)) u := int_gl (He.int_ok T.kin T.ns (T.says.fact 6 rfl))
theorem Tx.g_NUMBER (T : Tx g) : ∃ u, g.mg "NUMBER" = some u ∧ RelV (.int (2)) u := int_gl (He.int_ok T.kin T.ns (T.says.fact 7 rfl))
theorem Tx.g_SIGN (T : Tx g) : ∃ u, g.mg "SIGN" = some u ∧ RelV (.int (3)) u := int_gl (He.int_ok T.kin T.ns (T.says.fact 8 rfl))
theorem Tx.g_END (T : Tx g) : ∃ u, g.mg "END" = some u ∧ RelV (.int (4)) u := int_gl (He.int_ok T.kin T.ns (T.says.fact 9 rfl))
theorem Tx.g_REMARK (T : Tx g) : ∃ u, g.mg "REMARK" = some u ∧ RelV (.int (35)) u := int_gl (He.int_ok T.kin T.ns (T.says.fact 10 rfl))
theorem Tx.g_LINE_END (T : Tx g) : ∃ u, g.mg "LINE_END" = some u ∧ RelV (.int (10)) u := int_gl (He.int_ok T.kin T.ns (T.says.fact 11 rfl))
theorem Tx.g_NOUGHT (T : Tx g) : ∃ u, g.mg "NOUGHT" = some u ∧ RelV (.int (48)) u := int_gl (He.int_ok T.kin T.ns (T.says.fact 12 rfl))
theorem Tx.g_COLUMNS (T : Tx g) : ∃ u, g.mg "COLUMNS" = some u ∧ RelV (.str "columns") u := str_gl (He.str_ok T.kin T.ns (T.says.fact 13 rfl))
theorem Tx.g_ROW (T : Tx g) : ∃ u, g.mg "ROW" = some u ∧ RelV (.str "row") u := str_gl (He.str_ok T.kin T.ns (T.says.fact 14 rfl))
theorem Tx.g_ASK (T : Tx g) : ∃ u, g.mg "ASK" = some u ∧ RelV (.str "ask") u := str_gl (He.str_ok T.kin T.ns (T.says.fact 15 rfl))
theorem Tx.g_TIMES (T : Tx g) : ∃ u, g.mg "TIMES" = some u ∧ RelV (.str "times") u := str_gl (He.str_ok T.kin T.ns (T.says.fact 16 rfl))
theorem Tx.g_COMMA (T : Tx g) : ∃ u, g.mg "COMMA" = some u ∧ RelV (.int (44)) u := int_gl (He.int_ok T.kin T.ns (T.says.fact 17 rfl))
theorem Tx.g_COLON (T : Tx g) : ∃ u, g.mg "COLON" = some u ∧ RelV (.int (58)) u := int_gl (He.int_ok T.kin T.ns (T.says.fact 18 rfl))
theorem Tx.g_SEMICOLON (T : Tx g) : ∃ u, g.mg "SEMICOLON" = some u ∧ RelV (.int (59)) u := int_gl (He.int_ok T.kin T.ns (T.says.fact 19 rfl))
theorem Tx.g_MINUS (T : Tx g) : ∃ u, g.mg "MINUS" = some u ∧ RelV (.int (45)) u := int_gl (He.int_ok T.kin T.ns (T.says.fact 20 rfl))
theorem Tx.g_MOST_LETTERS (T : Tx g) : ∃ u, g.mg "MOST_LETTERS" = some u ∧ RelV (.int (16)) u := int_gl (He.int_ok T.kin T.ns (T.says.fact 21 rfl))
theorem Tx.g_MOST_NUMBER (T : Tx g) : ∃ u, g.mg "MOST_NUMBER" = some u ∧ RelV (.int (1000000000)) u := int_gl (He.int_ok T.kin T.ns (T.says.fact 22 rfl))
theorem Tx.g_NO_TOKEN (T : Tx g) : ∃ u, g.mg "NO_TOKEN" = some u ∧ RelV (.int (2)) u := int_gl (He.int_ok T.kin T.ns (T.says.fact 23 rfl))
theorem Tx.g_TOO_LONG (T : Tx g) : ∃ u, g.mg "TOO_LONG" = some u ∧ RelV (.int (1)) u := int_gl (He.int_ok T.kin T.ns (T.says.fact 24 rfl))
theorem Tx.g_CANT_STAND (T : Tx g) : ∃ u, g.mg "CANT_STAND" = some u ∧ RelV (.int (3)) u := int_gl (He.int_ok T.kin T.ns (T.says.fact 25 rfl))
theorem Tx.g_TOO_MANY_reading (T : Tx g) : ∃ u, g.mg "TOO_MANY_reading" = some u ∧ RelV (.int (4)) u := int_gl (He.int_ok T.kin T.ns (T.says.fact 26 rfl))
theorem Tx.g_COLUMN_TWICE (T : Tx g) : ∃ u, g.mg "COLUMN_TWICE" = some u ∧ RelV (.int (5)) u := int_gl (He.int_ok T.kin T.ns (T.says.fact 27 rfl))
theorem Tx.g_GROUPED_TWICE (T : Tx g) : ∃ u, g.mg "GROUPED_TWICE" = some u ∧ RelV (.int (6)) u := int_gl (He.int_ok T.kin T.ns (T.says.fact 28 rfl))
theorem Tx.g_OUT_OF_BOUNDS (T : Tx g) : ∃ u, g.mg "OUT_OF_BOUNDS" = some u ∧ RelV (.int (7)) u := int_gl (He.int_ok T.kin T.ns (T.says.fact 29 rfl))
theorem Tx.g_NO_COLUMN (T : Tx g) : ∃ u, g.mg "NO_COLUMN" = some u ∧ RelV (.int (8)) u := int_gl (He.int_ok T.kin T.ns (T.says.fact 30 rfl))
theorem Tx.g_MOST_BYTES (T : Tx g) : ∃ u, g.mg "MOST_BYTES" = some u ∧ RelV (.int (4096)) u := int_gl (He.int_ok T.kin T.ns (T.says.fact 31 rfl))
theorem Tx.g_MOST_COLUMNS (T : Tx g) : ∃ u, g.mg "MOST_COLUMNS" = some u ∧ RelV (.int (4)) u := int_gl (He.int_ok T.kin T.ns (T.says.fact 32 rfl))
theorem Tx.g_MOST_ROWS (T : Tx g) : ∃ u, g.mg "MOST_ROWS" = some u ∧ RelV (.int (16)) u := int_gl (He.int_ok T.kin T.ns (T.says.fact 33 rfl))
theorem Tx.g_MOST_QUESTIONS (T : Tx g) : ∃ u, g.mg "MOST_QUESTIONS" = some u ∧ RelV (.int (8)) u := int_gl (He.int_ok T.kin T.ns (T.says.fact 34 rfl))
theorem Tx.g_MOST_VALUE (T : Tx g) : ∃ u, g.mg "MOST_VALUE" = some u ∧ RelV (.int (9)) u := int_gl (He.int_ok T.kin T.ns (T.says.fact 35 rfl))
theorem Tx.g_MOST_SUMMED (T : Tx g) : ∃ u, g.mg "MOST_SUMMED" = some u ∧ RelV (.int (1000)) u := int_gl (He.int_ok T.kin T.ns (T.says.fact 36 rfl))
theorem Tx.g_MOST_OFTEN_reading (T : Tx g) : ∃ u, g.mg "MOST_OFTEN_reading" = some u ∧ RelV (.int (99)) u := int_gl (He.int_ok T.kin T.ns (T.says.fact 37 rfl))
theorem Tx.g_NO_TABLE (T : Tx g) : ∃ u, g.mg "NO_TABLE" = some u ∧ RelV (.int (-1)) u := int_gl (He.int_ok T.kin T.ns (T.says.fact 38 rfl))
theorem Tx.g_NONE_SUCH (T : Tx g) : ∃ u, g.mg "NONE_SUCH" = some u ∧ RelV (.int (-2)) u := int_gl (He.int_ok T.kin T.ns (T.says.fact 39 rfl))
theorem Tx.g_NOT_AS_TOLD (T : Tx g) : ∃ u, g.mg "NOT_AS_TOLD" = some u ∧ RelV (.int (-3)) u := int_gl (He.int_ok T.kin T.ns (T.says.fact 40 rfl))
theorem Tx.g_NO_CHANGES (T : Tx g) : ∃ u, g.mg "NO_CHANGES" = some u ∧ RelV (.int (-4)) u := int_gl (He.int_ok T.kin T.ns (T.says.fact 41 rfl))
theorem Tx.g_TOO_MANY_desk (T : Tx g) : ∃ u, g.mg "TOO_MANY_desk" = some u ∧ RelV (.int (-5)) u := int_gl (He.int_ok T.kin T.ns (T.says.fact 42 rfl))
theorem Tx.g_MOST_CHANGES (T : Tx g) : ∃ u, g.mg "MOST_CHANGES" = some u ∧ RelV (.int (1000)) u := int_gl (He.int_ok T.kin T.ns (T.says.fact 43 rfl))
theorem Tx.g_MOST_OFTEN_desk (T : Tx g) : ∃ u, g.mg "MOST_OFTEN_desk" = some u ∧ RelV (.int (99)) u := int_gl (He.int_ok T.kin T.ns (T.says.fact 44 rfl))
theorem Tx.g_MOST_KEPT (T : Tx g) : ∃ u, g.mg "MOST_KEPT" = some u ∧ RelV (.int (2)) u := int_gl (He.int_ok T.kin T.ns (T.says.fact 45 rfl))
theorem Tx.g_FACTORIALS (T : Tx g) : ∃ u, g.mg "FACTORIALS" = some u ∧ RelV (.ref (He.ga g.K "FACTORIALS")) u := ⟨_, He.glo_ok T.kin T.ns (T.says.fact 46 rfl), rfl⟩
theorem Tx.g_BLANKS (T : Tx g) : ∃ u, g.mg "BLANKS" = some u ∧ RelV (.ref (He.ga g.K "BLANKS")) u := ⟨_, He.glo_ok T.kin T.ns (T.says.fact 47 rfl), rfl⟩
theorem Tx.g_WORDS (T : Tx g) : ∃ u, g.mg "WORDS" = some u ∧ RelV (.ref (He.ga g.K "WORDS")) u := ⟨_, He.glo_ok T.kin T.ns (T.says.fact 48 rfl), rfl⟩
theorem Tx.g_SIGNS (T : Tx g) : ∃ u, g.mg "SIGNS" = some u ∧ RelV (.ref (He.ga g.K "SIGNS")) u := ⟨_, He.glo_ok T.kin T.ns (T.says.fact 49 rfl), rfl⟩
theorem Tx.g_NUMBERS (T : Tx g) : ∃ u, g.mg "NUMBERS" = some u ∧ RelV (.ref (He.ga g.K "NUMBERS")) u := ⟨_, He.glo_ok T.kin T.ns (T.says.fact 50 rfl), rfl⟩
theorem Tx.g_LISTS (T : Tx g) : ∃ u, g.mg "LISTS" = some u ∧ RelV (.ref (He.ga g.K "LISTS")) u := ⟨_, He.glo_ok T.kin T.ns (T.says.fact 51 rfl), rfl⟩
theorem Tx.f_min (T : Tx g) : g.mg "min" = none := He.free_ok T.kin T.ns (T.says.fact 52 rfl)
theorem Tx.f_len (T : Tx g) : g.mg "len" = none := He.free_ok T.kin T.ns (T.says.fact 53 rfl)
theorem Tx.f_range (T : Tx g) : g.mg "range" = none := He.free_ok T.kin T.ns (T.says.fact 54 rfl)
theorem Tx.f_zip (T : Tx g) : g.mg "zip" = none := He.free_ok T.kin T.ns (T.says.fact 55 rfl)
theorem Tx.f_tuple (T : Tx g) : g.mg "tuple" = none := He.free_ok T.kin T.ns (T.says.fact 56 rfl)
theorem Tx.f_list (T : Tx g) : g.mg "list" = none := He.free_ok T.kin T.ns (T.says.fact 57 rfl)
theorem Tx.f_sum (T : Tx g) : g.mg "sum" = none := He.free_ok T.kin T.ns (T.says.fact 58 rfl)
theorem Tx.f_ord (T : Tx g) : g.mg "ord" = none := He.free_ok T.kin T.ns (T.says.fact 59 rfl)
theorem Tx.f_any (T : Tx g) : g.mg "any" = none := He.free_ok T.kin T.ns (T.says.fact 60 rfl)
theorem Tx.f_all (T : Tx g) : g.mg "all" = none := He.free_ok T.kin T.ns (T.says.fact 61 rfl)
theorem Tx.f_enumerate (T : Tx g) : g.mg "enumerate" = none := He.free_ok T.kin T.ns (T.says.fact 62 rfl)
theorem Tx.f_str (T : Tx g) : g.mg "str" = none := He.free_ok T.kin T.ns (T.says.fact 63 rfl)
theorem Tx.f_sorted (T : Tx g) : g.mg "sorted" = none := He.free_ok T.kin T.ns (T.says.fact 64 rfl)
theorem Tx.f_set (T : Tx g) : g.mg "set" = none := He.free_ok T.kin T.ns (T.says.fact 65 rfl)
theorem Tx.f_ValueError (T : Tx g) : g.mg "ValueError" = none := He.free_ok T.kin T.ns (T.says.fact 66 rfl)
theorem Tx.c_Fault (T : Tx g) : g.mg "Fault" = some (.ref (g.C "Fault")) := He.glo_ok T.kin T.ns (T.says.fact 67 rfl)
theorem Tx.c_Table (T : Tx g) : g.mg "Table" = some (.ref (g.C "Table")) := He.glo_ok T.kin T.ns (T.says.fact 68 rfl)
theorem Tx.c_Reader (T : Tx g) : g.mg "Reader" = some (.ref (g.C "Reader")) := He.glo_ok T.kin T.ns (T.says.fact 69 rfl)
theorem Tx.c_Regrets (T : Tx g) : g.mg "Regrets" = some (.ref (g.C "Regrets")) := He.glo_ok T.kin T.ns (T.says.fact 70 rfl)
theorem Tx.c_Refused (T : Tx g) : g.mg "Refused" = some (.ref (g.C "Refused")) := He.glo_ok T.kin T.ns (T.says.fact 71 rfl)
theorem Tx.c_Desk (T : Tx g) : g.mg "Desk" = some (.ref (g.C "Desk")) := He.glo_ok T.kin T.ns (T.says.fact 72 rfl)
theorem Tx.cl_Table (T : Tx g) : Cls g.K (g.C "Table") := He.cls_ok (T.says.fact 73 rfl)
theorem Tx.mk_Table (T : Tx g) : Mk g.K (g.C "Table") (He.ma g.K (g.C "Table") "__init__") := He.mkr_ok (T.says.fact 74 rfl)
theorem Tx.na_Table_names (T : Tx g) : NoAttr g.K (g.C "Table") "names" := He.noat_ok (T.says.fact 75 rfl)
theorem Tx.na_Table_rows (T : Tx g) : NoAttr g.K (g.C "Table") "rows" := He.noat_ok (T.says.fact 76 rfl)
theorem Tx.na_Table_questions (T : Tx g) : NoAttr g.K (g.C "Table") "questions" := He.noat_ok (T.says.fact 77 rfl)
theorem Tx.cl_Reader (T : Tx g) : Cls g.K (g.C "Reader") := He.cls_ok (T.says.fact 78 rfl)
theorem Tx.mk_Reader (T : Tx g) : Mk g.K (g.C "Reader") (He.ma g.K (g.C "Reader") "__init__") := He.mkr_ok (T.says.fact 79 rfl)
theorem Tx.na_Reader_tokens (T : Tx g) : NoAttr g.K (g.C "Reader") "tokens" := He.noat_ok (T.says.fact 80 rfl)
theorem Tx.na_Reader_done (T : Tx g) : NoAttr g.K (g.C "Reader") "done" := He.noat_ok (T.says.fact 81 rfl)
theorem Tx.na_Reader_table (T : Tx g) : NoAttr g.K (g.C "Reader") "table" := He.noat_ok (T.says.fact 82 rfl)
theorem Tx.cl_Regrets (T : Tx g) : Cls g.K (g.C "Regrets") := He.cls_ok (T.says.fact 83 rfl)
theorem Tx.mk_Regrets (T : Tx g) : Mk g.K (g.C "Regrets") (He.ma g.K (g.C "Regrets") "__init__") := He.mkr_ok (T.says.fact 84 rfl)
theorem Tx.na_Regrets_sets (T : Tx g) : NoAttr g.K (g.C "Regrets") "sets" := He.noat_ok (T.says.fact 85 rfl)
theorem Tx.na_Regrets_reads (T : Tx g) : NoAttr g.K (g.C "Regrets") "reads" := He.noat_ok (T.says.fact 86 rfl)
theorem Tx.na_Regrets_bounds (T : Tx g) : NoAttr g.K (g.C "Regrets") "bounds" := He.noat_ok (T.says.fact 87 rfl)
theorem Tx.na_Regrets_changes (T : Tx g) : NoAttr g.K (g.C "Regrets") "changes" := He.noat_ok (T.says.fact 88 rfl)
theorem Tx.cl_Desk (T : Tx g) : Cls g.K (g.C "Desk") := He.cls_ok (T.says.fact 89 rfl)
theorem Tx.mk_Desk (T : Tx g) : Mk g.K (g.C "Desk") (He.ma g.K (g.C "Desk") "__init__") := He.mkr_ok (T.says.fact 90 rfl)
theorem Tx.na_Desk_table (T : Tx g) : NoAttr g.K (g.C "Desk") "table" := He.noat_ok (T.says.fact 91 rfl)
theorem Tx.na_Desk_sizes (T : Tx g) : NoAttr g.K (g.C "Desk") "sizes" := He.noat_ok (T.says.fact 92 rfl)
theorem Tx.na_Desk_reads (T : Tx g) : NoAttr g.K (g.C "Desk") "reads" := He.noat_ok (T.says.fact 93 rfl)
theorem Tx.na_Desk_owners (T : Tx g) : NoAttr g.K (g.C "Desk") "owners" := He.noat_ok (T.says.fact 94 rfl)
theorem Tx.na_Desk_bounds (T : Tx g) : NoAttr g.K (g.C "Desk") "bounds" := He.noat_ok (T.says.fact 95 rfl)
theorem Tx.na_Desk_changes (T : Tx g) : NoAttr g.K (g.C "Desk") "changes" := He.noat_ok (T.says.fact 96 rfl)
theorem Tx.na_Desk_known_regrets (T : Tx g) : NoAttr g.K (g.C "Desk") "known_regrets" := He.noat_ok (T.says.fact 97 rfl)
theorem Tx.d_is_within (T : Tx g) : g.mg "is_within" = some (.ref (He.ga g.K "is_within")) := He.glo_ok T.kin T.ns (T.says.fact 98 rfl)
theorem Tx.d_read_sizes (T : Tx g) : g.mg "read_sizes" = some (.ref (He.ga g.K "read_sizes")) := He.glo_ok T.kin T.ns (T.says.fact 99 rfl)
theorem Tx.d_all_sizes (T : Tx g) : g.mg "all_sizes" = some (.ref (He.ga g.K "all_sizes")) := He.glo_ok T.kin T.ns (T.says.fact 100 rfl)
theorem Tx.d_with_one_more (T : Tx g) : g.mg "with_one_more" = some (.ref (He.ga g.K "with_one_more")) := He.glo_ok T.kin T.ns (T.says.fact 101 rfl)
theorem Tx.d_all_reads (T : Tx g) : g.mg "all_reads" = some (.ref (He.ga g.K "all_reads")) := He.glo_ok T.kin T.ns (T.says.fact 102 rfl)
theorem Tx.d_cost_of (T : Tx g) : g.mg "cost_of" = some (.ref (He.ga g.K "cost_of")) := He.glo_ok T.kin T.ns (T.says.fact 103 rfl)
theorem Tx.d_pays_alone (T : Tx g) : g.mg "pays_alone" = some (.ref (He.ga g.K "pays_alone")) := He.glo_ok T.kin T.ns (T.says.fact 104 rfl)
theorem Tx.d_members (T : Tx g) : g.mg "members" = some (.ref (He.ga g.K "members")) := He.glo_ok T.kin T.ns (T.says.fact 105 rfl)
theorem Tx.d_orders_behind (T : Tx g) : g.mg "orders_behind" = some (.ref (He.ga g.K "orders_behind")) := He.glo_ok T.kin T.ns (T.says.fact 106 rfl)
theorem Tx.d_share_of (T : Tx g) : g.mg "share_of" = some (.ref (He.ga g.K "share_of")) := He.glo_ok T.kin T.ns (T.says.fact 107 rfl)
theorem Tx.d_shares_of (T : Tx g) : g.mg "shares_of" = some (.ref (He.ga g.K "shares_of")) := He.glo_ok T.kin T.ns (T.says.fact 108 rfl)
theorem Tx.d_unhappy_groups (T : Tx g) : g.mg "unhappy_groups" = some (.ref (He.ga g.K "unhappy_groups")) := He.glo_ok T.kin T.ns (T.says.fact 109 rfl)
theorem Tx.d_lowest_terms (T : Tx g) : g.mg "lowest_terms" = some (.ref (He.ga g.K "lowest_terms")) := He.glo_ok T.kin T.ns (T.says.fact 110 rfl)
theorem Tx.d_codes (T : Tx g) : g.mg "codes" = some (.ref (He.ga g.K "codes")) := He.glo_ok T.kin T.ns (T.says.fact 111 rfl)
theorem Tx.d_is_digit (T : Tx g) : g.mg "is_digit" = some (.ref (He.ga g.K "is_digit")) := He.glo_ok T.kin T.ns (T.says.fact 112 rfl)
theorem Tx.d_is_letter (T : Tx g) : g.mg "is_letter" = some (.ref (He.ga g.K "is_letter")) := He.glo_ok T.kin T.ns (T.says.fact 113 rfl)
theorem Tx.d_remark_end (T : Tx g) : g.mg "remark_end" = some (.ref (He.ga g.K "remark_end")) := He.glo_ok T.kin T.ns (T.says.fact 114 rfl)
theorem Tx.d_name_end (T : Tx g) : g.mg "name_end" = some (.ref (He.ga g.K "name_end")) := He.glo_ok T.kin T.ns (T.says.fact 115 rfl)
theorem Tx.d_number_end (T : Tx g) : g.mg "number_end" = some (.ref (He.ga g.K "number_end")) := He.glo_ok T.kin T.ns (T.says.fact 116 rfl)
theorem Tx.d_name_at (T : Tx g) : g.mg "name_at" = some (.ref (He.ga g.K "name_at")) := He.glo_ok T.kin T.ns (T.says.fact 117 rfl)
theorem Tx.d_number_at (T : Tx g) : g.mg "number_at" = some (.ref (He.ga g.K "number_at")) := He.glo_ok T.kin T.ns (T.says.fact 118 rfl)
theorem Tx.d_token_at (T : Tx g) : g.mg "token_at" = some (.ref (He.ga g.K "token_at")) := He.glo_ok T.kin T.ns (T.says.fact 119 rfl)
theorem Tx.d_tokens_of (T : Tx g) : g.mg "tokens_of" = some (.ref (He.ga g.K "tokens_of")) := He.glo_ok T.kin T.ns (T.says.fact 120 rfl)
theorem Tx.m_Table_how_many_groupings (T : Tx g) : Meth g.K (g.C "Table") "how_many_groupings" (He.ma g.K (g.C "Table") "how_many_groupings") := He.meth_ok (T.says.fact 121 rfl)
theorem Tx.m_Table_columns_in (T : Tx g) : Meth g.K (g.C "Table") "columns_in" (He.ma g.K (g.C "Table") "columns_in") := He.meth_ok (T.says.fact 122 rfl)
theorem Tx.m_Table_size_of (T : Tx g) : Meth g.K (g.C "Table") "size_of" (He.ma g.K (g.C "Table") "size_of") := He.meth_ok (T.says.fact 123 rfl)
theorem Tx.d_joined (T : Tx g) : g.mg "joined" = some (.ref (He.ga g.K "joined")) := He.glo_ok T.kin T.ns (T.says.fact 124 rfl)
theorem Tx.d_with_commas (T : Tx g) : g.mg "with_commas" = some (.ref (He.ga g.K "with_commas")) := He.glo_ok T.kin T.ns (T.says.fact 125 rfl)
theorem Tx.d_number_bytes (T : Tx g) : g.mg "number_bytes" = some (.ref (He.ga g.K "number_bytes")) := He.glo_ok T.kin T.ns (T.says.fact 126 rfl)
theorem Tx.d_row_line (T : Tx g) : g.mg "row_line" = some (.ref (He.ga g.K "row_line")) := He.glo_ok T.kin T.ns (T.says.fact 127 rfl)
theorem Tx.d_question_line (T : Tx g) : g.mg "question_line" = some (.ref (He.ga g.K "question_line")) := He.glo_ok T.kin T.ns (T.says.fact 128 rfl)
theorem Tx.d_one_form (T : Tx g) : g.mg "one_form" = some (.ref (He.ga g.K "one_form")) := He.glo_ok T.kin T.ns (T.says.fact 129 rfl)
theorem Tx.m_Reader_here (T : Tx g) : Meth g.K (g.C "Reader") "here" (He.ma g.K (g.C "Reader") "here") := He.meth_ok (T.says.fact 130 rfl)
theorem Tx.m_Reader_need (T : Tx g) : Meth g.K (g.C "Reader") "need" (He.ma g.K (g.C "Reader") "need") := He.meth_ok (T.says.fact 131 rfl)
theorem Tx.m_Reader_take (T : Tx g) : Meth g.K (g.C "Reader") "take" (He.ma g.K (g.C "Reader") "take") := He.meth_ok (T.says.fact 132 rfl)
theorem Tx.m_Reader_is_word (T : Tx g) : Meth g.K (g.C "Reader") "is_word" (He.ma g.K (g.C "Reader") "is_word") := He.meth_ok (T.says.fact 133 rfl)
theorem Tx.m_Reader_is_sign (T : Tx g) : Meth g.K (g.C "Reader") "is_sign" (He.ma g.K (g.C "Reader") "is_sign") := He.meth_ok (T.says.fact 134 rfl)
theorem Tx.m_Reader_is_name (T : Tx g) : Meth g.K (g.C "Reader") "is_name" (He.ma g.K (g.C "Reader") "is_name") := He.meth_ok (T.says.fact 135 rfl)
theorem Tx.m_Reader_take_word (T : Tx g) : Meth g.K (g.C "Reader") "take_word" (He.ma g.K (g.C "Reader") "take_word") := He.meth_ok (T.says.fact 136 rfl)
theorem Tx.m_Reader_take_sign (T : Tx g) : Meth g.K (g.C "Reader") "take_sign" (He.ma g.K (g.C "Reader") "take_sign") := He.meth_ok (T.says.fact 137 rfl)
theorem Tx.m_Reader_number (T : Tx g) : Meth g.K (g.C "Reader") "number" (He.ma g.K (g.C "Reader") "number") := He.meth_ok (T.says.fact 138 rfl)
theorem Tx.m_Reader_column (T : Tx g) : Meth g.K (g.C "Reader") "column" (He.ma g.K (g.C "Reader") "column") := He.meth_ok (T.says.fact 139 rfl)
theorem Tx.m_Reader_columns (T : Tx g) : Meth g.K (g.C "Reader") "columns" (He.ma g.K (g.C "Reader") "columns") := He.meth_ok (T.says.fact 140 rfl)
theorem Tx.m_Reader_row (T : Tx g) : Meth g.K (g.C "Reader") "row" (He.ma g.K (g.C "Reader") "row") := He.meth_ok (T.says.fact 141 rfl)
theorem Tx.m_Reader_grouped (T : Tx g) : Meth g.K (g.C "Reader") "grouped" (He.ma g.K (g.C "Reader") "grouped") := He.meth_ok (T.says.fact 142 rfl)
theorem Tx.m_Reader_question (T : Tx g) : Meth g.K (g.C "Reader") "question" (He.ma g.K (g.C "Reader") "question") := He.meth_ok (T.says.fact 143 rfl)
theorem Tx.m_Reader_whole (T : Tx g) : Meth g.K (g.C "Reader") "whole" (He.ma g.K (g.C "Reader") "whole") := He.meth_ok (T.says.fact 144 rfl)
theorem Tx.d_read_table (T : Tx g) : g.mg "read_table" = some (.ref (He.ga g.K "read_table")) := He.glo_ok T.kin T.ns (T.says.fact 145 rfl)
theorem Tx.d_small_sets (T : Tx g) : g.mg "small_sets" = some (.ref (He.ga g.K "small_sets")) := He.glo_ok T.kin T.ns (T.says.fact 146 rfl)
theorem Tx.m_Regrets_regret_to (T : Tx g) : Meth g.K (g.C "Regrets") "regret_to" (He.ma g.K (g.C "Regrets") "regret_to") := He.meth_ok (T.says.fact 147 rfl)
theorem Tx.m_Regrets_greatest (T : Tx g) : Meth g.K (g.C "Regrets") "greatest" (He.ma g.K (g.C "Regrets") "greatest") := He.meth_ok (T.says.fact 148 rfl)
theorem Tx.m_Regrets_least (T : Tx g) : Meth g.K (g.C "Regrets") "least" (He.ma g.K (g.C "Regrets") "least") := He.meth_ok (T.says.fact 149 rfl)
theorem Tx.d_want (T : Tx g) : g.mg "want" = some (.ref (He.ga g.K "want")) := He.glo_ok T.kin T.ns (T.says.fact 150 rfl)
theorem Tx.d_counted (T : Tx g) : g.mg "counted" = some (.ref (He.ga g.K "counted")) := He.glo_ok T.kin T.ns (T.says.fact 151 rfl)
theorem Tx.m_Desk_load (T : Tx g) : Meth g.K (g.C "Desk") "load" (He.ma g.K (g.C "Desk") "load") := He.meth_ok (T.says.fact 152 rfl)
theorem Tx.m_Desk_shown (T : Tx g) : Meth g.K (g.C "Desk") "shown" (He.ma g.K (g.C "Desk") "shown") := He.meth_ok (T.says.fact 153 rfl)
theorem Tx.m_Desk_tell_readers (T : Tx g) : Meth g.K (g.C "Desk") "tell_readers" (He.ma g.K (g.C "Desk") "tell_readers") := He.meth_ok (T.says.fact 154 rfl)
theorem Tx.m_Desk_tell_changes (T : Tx g) : Meth g.K (g.C "Desk") "tell_changes" (He.ma g.K (g.C "Desk") "tell_changes") := He.meth_ok (T.says.fact 155 rfl)
theorem Tx.m_Desk_paid_by (T : Tx g) : Meth g.K (g.C "Desk") "paid_by" (He.ma g.K (g.C "Desk") "paid_by") := He.meth_ok (T.says.fact 156 rfl)
theorem Tx.m_Desk_paid (T : Tx g) : Meth g.K (g.C "Desk") "paid" (He.ma g.K (g.C "Desk") "paid") := He.meth_ok (T.says.fact 157 rfl)
theorem Tx.m_Desk_alone (T : Tx g) : Meth g.K (g.C "Desk") "alone" (He.ma g.K (g.C "Desk") "alone") := He.meth_ok (T.says.fact 158 rfl)
theorem Tx.m_Desk_shares (T : Tx g) : Meth g.K (g.C "Desk") "shares" (He.ma g.K (g.C "Desk") "shares") := He.meth_ok (T.says.fact 159 rfl)
theorem Tx.m_Desk_unhappy (T : Tx g) : Meth g.K (g.C "Desk") "unhappy" (He.ma g.K (g.C "Desk") "unhappy") := He.meth_ok (T.says.fact 160 rfl)
theorem Tx.m_Desk_tell_bounds (T : Tx g) : Meth g.K (g.C "Desk") "tell_bounds" (He.ma g.K (g.C "Desk") "tell_bounds") := He.meth_ok (T.says.fact 161 rfl)
theorem Tx.m_Desk_regrets (T : Tx g) : Meth g.K (g.C "Desk") "regrets" (He.ma g.K (g.C "Desk") "regrets") := He.meth_ok (T.says.fact 162 rfl)
theorem Tx.m_Desk_regret (T : Tx g) : Meth g.K (g.C "Desk") "regret" (He.ma g.K (g.C "Desk") "regret") := He.meth_ok (T.says.fact 163 rfl)
theorem Tx.m_Desk_least (T : Tx g) : Meth g.K (g.C "Desk") "least" (He.ma g.K (g.C "Desk") "least") := He.meth_ok (T.says.fact 164 rfl)
theorem Tx.d_of_lists (T : Tx g) : g.mg "of_lists" = some (.ref (He.ga g.K "of_lists")) := He.glo_ok T.kin T.ns (T.says.fact 165 rfl)
theorem Tx.d_of_others (T : Tx g) : g.mg "of_others" = some (.ref (He.ga g.K "of_others")) := He.glo_ok T.kin T.ns (T.says.fact 166 rfl)
theorem Tx.d_answer (T : Tx g) : g.mg "answer" = some (.ref (He.ga g.K "answer")) := He.glo_ok T.kin T.ns (T.says.fact 167 rfl)
theorem Tx.d_answers (T : Tx g) : g.mg "answers" = some (.ref (He.ga g.K "answers")) := He.glo_ok T.kin T.ns (T.says.fact 168 rfl)
theorem Tx.te_Fault (T : Tx g) : PySem.W.exmOne g.K (.ref (g.C "Fault")) (.ref (g.C "Fault")) = some true := He.exm_ok (T.says.fact 169 rfl)
theorem Tx.te_Refused (T : Tx g) : PySem.W.exmOne g.K (.ref (g.C "Refused")) (.ref (g.C "Refused")) = some true := He.exm_ok (T.says.fact 170 rfl)
theorem Tx.te_RF (T : Tx g) : PySem.W.exmOne g.K (.ref (g.C "Refused")) (.ref (g.C "Fault")) = some false := He.exm_ok (T.says.fact 171 rfl)

end
end Sr
set_option Elab.async false
set_option linter.all false
set_option maxRecDepth 100000
set_option maxHeartbeats 0
namespace Sr
open PySem PySem.W PySem.Calls PyProof.Rows
abbrev Pr : Program := PySem.Challenge.rw_sharesregrets_s01_answers.prog
abbrev qv : Program := view Pr [iAns]
theorem run (w : World) (os : OsState) : (HandSHeadRun.endF (HandSHeadRun.stepQ (HandSHeadRun.denQ HandSHeadRun.tabQ) Pr w) 4500 Pr w os).map (fun s => (HandSHeadRun.looksF Pr (boot_heap w.params) s.abs, HandSHeadRun.seenQ qv names (importedModules Pr.main.body) (fun s => xlAt qv [] s && recOk [] s) s.abs, obM s)) = some (true, openGood qv names, hookM.val w) := by
  kernel_rfl
end Sr
set_option Elab.async false
set_option linter.all false
set_option maxRecDepth 100000
set_option maxHeartbeats 2000000
/-! # Defs by their names, and what they promise -/
namespace Sr
open PySem PySem.Spec PyProof.Rows L2
abbrev Cx.g (X : L2.Cx) : Gx := ⟨X.prog, X.w, X.K, X.mg, X.base⟩
abbrev CXr (g : Gx) : CXT := L2.CX g.P g.w
structure RGl (g : Gx) (CX : CXT) (k : Nat) (x : Str) (sp : Sp) : Prop where
  ex : ∃ (f : Addr) (fd : FuncData) (ps : List Str), FnOk g.P g.w g.K g.mg g.base CX k f fd ps sp ∧ g.mg x = some (.ref f) ∧ PySem.W.keepIn g.K (.ref f) = true ∧ Binds g.K fd ps []
structure RMt (g : Gx) (CX : CXT) (k : Nat) (C : Addr) (m : Str) (sp : Sp) : Prop where
  ex : ∃ (f : Addr) (fd : FuncData) (ps : List Str), Cls g.K C ∧ Meth g.K C m f ∧ FnOk g.P g.w g.K g.mg g.base CX k f fd ps sp ∧ Binds g.K fd ps []
structure RMk (g : Gx) (CX : CXT) (k : Nat) (x : Str) (C : Addr) (sp : Sp) : Prop where
  ex : ∃ (f : Addr) (fd : FuncData) (ps : List Str), Mk g.K C f ∧ FnOk g.P g.w g.K g.mg g.base CX k f fd ps sp ∧ g.mg x = some (.ref C) ∧ Binds g.K fd ps []
section
variable {X : L2.Cx} {CX : CXT} {j k : Nat} {C : Addr} {sp : Sp} {E : XK} {x m : Str} {p pos apos : Pos} {e o : Expr} {es : List Expr} {ta : TE} {t : TA}
theorem pe_gl (c : RGl (Cx.g X) CX k x sp) (hr : Room j X.A) (hk : k ≤ j) (hx : Passes CX X E) (hg : Gl X x) (ha : PA X (e :: es) t)
    (hdb : (x == ("__debug__" : Str)) = false := by decide) (he : starEach (e :: es) X.env = (false, eval e X.env) :: starEach es X.env := by rfl) (hpl : (backTo pos (starEach es X.env)).any (·.1) = false := by rfl) :
    PE X (.Call (.Name x p) (e :: es) [] pos) (tCall sp [] E t) := by
  obtain ⟨f, fd, ps, F, hm, kp, b⟩ := c.ex
  exact pe_call F (hr.mono hk) hg hm kp b .nil hx ha hdb he hpl
theorem pe_glS {E : L2.St → XK} (c : RGl (Cx.g X) CX k x sp) (hr : Room j X.A) (hk : k ≤ j) (hx : ∀ σ, PassesAt CX X σ (E σ)) (hg : Gl X x) (ha : PA X (e :: es) t)
    (hdb : (x == ("__debug__" : Str)) = false := by decide) (he : starEach (e :: es) X.env = (false, eval e X.env) :: starEach es X.env := by rfl) (hpl : (backTo pos (starEach es X.env)).any (·.1) = false := by rfl) :
    PE X (.Call (.Name x p) (e :: es) [] pos) (tCallS sp E t) := by
  obtain ⟨f, fd, ps, F, hm, kp, b⟩ := c.ex
  exact pe_callS F (hr.mono hk) hg hm kp b hx ha hdb he hpl
theorem pe_me {pl : Sem Bool} (c : RMt (Cx.g X) CX k C m sp) (hr : Room j X.A) (hk : k ≤ j) (hx : Passes CX X E) (he : PE X o ta) (ha : PA X (e :: es) t)
    (hst : starEach (e :: es) X.env = (false, eval e X.env) :: starEach es X.env := by rfl) (hpl : (backTo pos (starEach es X.env)).any (·.1) = false := by rfl)
    (ht : eval (.Call (.Attribute o m apos) (e :: es) [] pos) X.env = (do
      let ov ← eval o X.env
      standAt apos.atName
      let (f, first) ← holding [ov] (getMethod ov m pl)
      callWith pos f first (backTo pos (starEach (e :: es) X.env)) (backToKw pos (keywordEach [] X.env))) := by rfl) :
    PE X (.Call (.Attribute o m apos) (e :: es) [] pos) (tMeth C m sp [] E ta t) := by
  obtain ⟨f, fd, ps, hc, hm, F, b⟩ := c.ex
  exact pe_meth (pl := pl) he hc hm F (hr.mono hk) b .nil hx ha hst hpl ht
theorem pe_me0 {pl : Sem Bool} (c : RMt (Cx.g X) CX k C m sp) (hr : Room j X.A) (hk : k ≤ j) (hx : Passes CX X E) (he : PE X o ta)
    (ht : eval (.Call (.Attribute o m apos) [] [] pos) X.env = (do
      let ov ← eval o X.env
      standAt apos.atName
      let (f, first) ← holding [ov] (getMethod ov m pl)
      callWith pos f first (backTo pos (starEach [] X.env)) (backToKw pos (keywordEach [] X.env))) := by rfl) :
    PE X (.Call (.Attribute o m apos) [] [] pos) (tMeth C m sp [] E ta tNil) := by
  obtain ⟨f, fd, ps, hc, hm, F, b⟩ := c.ex
  exact pe_meth0 (pl := pl) he hc hm F (hr.mono hk) b .nil hx ht
theorem pe_mk1 (c : RMk (Cx.g X) CX k x C sp) (hr : Room j X.A) (hk : k + 1 ≤ j) (hx : Passes CX X E) (hg : Gl X x) (ha : PA X (e :: es) t)
    (hdb : (x == ("__debug__" : Str)) = false := by decide) (he : starEach (e :: es) X.env = (false, eval e X.env) :: starEach es X.env := by rfl) (hpl : (backTo pos (starEach es X.env)).any (·.1) = false := by rfl) :
    PE X (.Call (.Name x p) (e :: es) [] pos) (tMake C sp [] E t) := by
  obtain ⟨f, fd, ps, M, F, hm, b⟩ := c.ex
  exact pe_make M F (hr.mono hk) hg hm b .nil hx ha hdb he hpl
theorem pe_mk0 (c : RMk (Cx.g X) CX k x C sp) (hr : Room j X.A) (hk : k + 1 ≤ j) (hx : Passes CX X E) (hg : Gl X x) (hdb : (x == ("__debug__" : Str)) = false := by decide) :
    PE X (.Call (.Name x p) [] [] pos) (tMake C sp [] E tNil) := by
  obtain ⟨f, fd, ps, M, F, hm, b⟩ := c.ex
  exact pe_make0 M F (hr.mono hk) hg hm b .nil hx hdb
end
section
variable {g : Gx} {N ps : List Str} {k : Nat} {sp : Sp} {x m : Str} {qual : Str} {st : Stmt}
/-- how a def's arguments bind -/
def BindsOf (x qual : Str) (st : Stmt) (ps : List Str) : Prop := ∀ (kV doc pm : Value) (an : Option Addr) (cdv ct : Value) (us : List Value), us.length = ps.length → bindArgs (PySem.W.fnOf x qual (defArgs st) (defBody st) (defScope st) .none kV doc pm an cdv ct) ⟨us, []⟩ = pure (ps.zip us)
/-- a body that lets nothing out -/
def Body0 (g : Gx) (N ps : List Str) (k : Nat) (qual : Str) (st : Stmt) (sp : Sp) : Prop := ∀ (f : Addr) (cdv : Value) (A : Around) (outer : List Env) (s : Shared) (H : Hp) (vs : List V) (Q : VK) (E : XK), Room k (A.deeper (envOfC qual (defScope st) s.heap.objs.size f cdv)) → sp vs H Q E →
  ∃ t, PSs (cxOf CX0 g.P g.w g.K g.mg g.base N qual (defScope st) f cdv A outer s H E).nox (defBody st) t ∧ t { nx := fun _ H' => Q .non H', rt := Q } (start N vs) H
/-- a body that may raise -/
def BodyX (g : Gx) (N ps : List Str) (k : Nat) (qual : Str) (st : Stmt) (sp : Sp) : Prop := ∀ (f : Addr) (cdv : Value) (A : Around) (outer : List Env) (s : Shared) (H : Hp) (vs : List V) (Q : VK) (E : XK), Room k (A.deeper (envOfC qual (defScope st) s.heap.objs.size f cdv)) → sp vs H Q E →
  ∃ t, PSs (cxOf (CXr g) g.P g.w g.K g.mg g.base N qual (defScope st) f cdv A outer s H E) (defBody st) t ∧ t { nx := fun _ H' => Q .non H', rt := Q } (start N vs) H
theorem Tx.funD (T : Tx g) (i : Nat) {d : He.DefD} (h : fnl[i]? = some d) : ∃ fd, FunD g.K d.name d.qual d.params d.body d.scope (d.dvs g.K) (d.kws g.K) (He.fAd g.K d.at_) fd := T.says.def_ i h
theorem gl0 (T : Tx g) (i : Nat) (h : fnl[i]? = some ⟨(x, none), x, x, defArgs st, defBody st, defScope st, [], []⟩) (hm : g.mg x = some (.ref (He.ga g.K x))) (S : FnScope N ps (defScope st)) (b : BindsOf x x st ps) (len : ∀ vs H Q E, sp vs H Q E → vs.length = ps.length) (B : Body0 g N ps k x st sp) :
    RGl g CX0 (k + 1) x sp := by
  obtain ⟨fd, F⟩ := Tx.funD T i h
  exact ⟨_, fd, ps, FunD.ok F S len fun cdv A outer s H vs Q E hr hs => let ⟨t, h1, h2⟩ := B _ cdv A outer s H vs Q E hr hs; ⟨t, h1.nox, h2⟩, hm, F.kp, FunD.bindsN F b⟩
theorem glX (T : Tx g) (i : Nat) (h : fnl[i]? = some ⟨(x, none), x, x, defArgs st, defBody st, defScope st, [], []⟩) (hm : g.mg x = some (.ref (He.ga g.K x))) (S : FnScope N ps (defScope st)) (b : BindsOf x x st ps) (len : ∀ vs H Q E, sp vs H Q E → vs.length = ps.length) (B : BodyX g N ps k x st sp) :
    RGl g (CXr g) (k + 1) x sp := by
  obtain ⟨fd, F⟩ := Tx.funD T i h
  exact ⟨_, fd, ps, FunD.ok F S len fun cdv A outer s H vs Q E hr hs => B _ cdv A outer s H vs Q E hr hs, hm, F.kp, FunD.bindsN F b⟩
theorem mt0 (T : Tx g) (i : Nat) {c : Str} (h : fnl[i]? = some ⟨(c, some m), m, qual, defArgs st, defBody st, defScope st, [], []⟩) (hc : Cls g.K (g.C c)) (hm : Meth g.K (g.C c) m (He.ma g.K (g.C c) m)) (S : FnScope N ps (defScope st)) (b : BindsOf m qual st ps) (len : ∀ vs H Q E, sp vs H Q E → vs.length = ps.length)
    (B : Body0 g N ps k qual st sp) : RMt g CX0 (k + 1) (g.C c) m sp := by
  obtain ⟨fd, F⟩ := Tx.funD T i h
  exact ⟨_, fd, ps, hc, hm, FunD.ok F S len fun cdv A outer s H vs Q E hr hs => let ⟨t, h1, h2⟩ := B _ cdv A outer s H vs Q E hr hs; ⟨t, h1.nox, h2⟩, FunD.bindsN F b⟩
theorem mtX (T : Tx g) (i : Nat) {c : Str} (h : fnl[i]? = some ⟨(c, some m), m, qual, defArgs st, defBody st, defScope st, [], []⟩) (hc : Cls g.K (g.C c)) (hm : Meth g.K (g.C c) m (He.ma g.K (g.C c) m)) (S : FnScope N ps (defScope st)) (b : BindsOf m qual st ps) (len : ∀ vs H Q E, sp vs H Q E → vs.length = ps.length)
    (B : BodyX g N ps k qual st sp) : RMt g (CXr g) (k + 1) (g.C c) m sp := by
  obtain ⟨fd, F⟩ := Tx.funD T i h
  exact ⟨_, fd, ps, hc, hm, FunD.ok F S len fun cdv A outer s H vs Q E hr hs => B _ cdv A outer s H vs Q E hr hs, FunD.bindsN F b⟩
theorem mk0 (T : Tx g) (i : Nat) {c : Str} (h : fnl[i]? = some ⟨(c, some "__init__"), "__init__", qual, defArgs st, defBody st, defScope st, [], []⟩) (hm : Mk g.K (g.C c) (He.ma g.K (g.C c) "__init__")) (hg : g.mg c = some (.ref (g.C c))) (S : FnScope N ps (defScope st)) (b : BindsOf "__init__" qual st ps)
    (len : ∀ vs H Q E, sp vs H Q E → vs.length = ps.length) (B : Body0 g N ps k qual st sp) : RMk g CX0 (k + 1) c (g.C c) sp := by
  obtain ⟨fd, F⟩ := Tx.funD T i h
  exact ⟨_, fd, ps, hm, FunD.ok F S len fun cdv A outer s H vs Q E hr hs => let ⟨t, h1, h2⟩ := B _ cdv A outer s H vs Q E hr hs; ⟨t, h1.nox, h2⟩, hg, FunD.bindsN F b⟩
theorem mkX (T : Tx g) (i : Nat) {c : Str} (h : fnl[i]? = some ⟨(c, some "__init__"), "__init__", qual, defArgs st, defBody st, defScope st, [], []⟩) (hm : Mk g.K (g.C c) (He.ma g.K (g.C c) "__init__")) (hg : g.mg c = some (.ref (g.C c))) (S : FnScope N ps (defScope st)) (b : BindsOf "__init__" qual st ps)
    (len : ∀ vs H Q E, sp vs H Q E → vs.length = ps.length) (B : BodyX g N ps k qual st sp) : RMk g (CXr g) (k + 1) c (g.C c) sp := by
  obtain ⟨fd, F⟩ := Tx.funD T i h
  exact ⟨_, fd, ps, hm, FunD.ok F S len fun cdv A outer s H vs Q E hr hs => B _ cdv A outer s H vs Q E hr hs, hg, FunD.bindsN F b⟩
end
theorem u65 {k : Nat} {A : Around} (r : Room k A) : A.units + 65 < PySem.cLine := by have := r.un; omega
theorem u64 {k : Nat} {A : Around} (r : Room k A) : A.units + 64 < PySem.cLine := by have := r.un; omega
theorem u1 {k : Nat} {A : Around} (r : Room k A) : A.units + 1 < PySem.cLine := by have := r.un; omega
/-! ### a first def -/
section
variable {g : Gx}
def spWithin : Sp := fun vs H Q _ => ∃ i j : Int, vs = [.int i, .int j] ∧ Q (.bl (decide (V.int (Builtin.bitAnd i (Builtin.bitNot j)) = V.int 0))) H
theorem ok_is_within (T : Tx g) : RGl g CX0 1 "is_within" spWithin := by
  refine gl0 (N := ["one", "other"]) (ps := ["one", "other"]) (st := s_is_within) T 0 rfl T.d_is_within ⟨rfl, rfl, rfl, by decide +kernel, rfl, by decide +kernel, by decide +kernel⟩ (fun _ _ _ _ _ _ us hl => match us, hl with | [_, _], _ => rfl)
    (fun vs H Q E h => by obtain ⟨i, j, rfl, _⟩ := h; rfl) (fun f cdv A outer s H vs Q E hr h => ?_)
  obtain ⟨i, j, rfl, q⟩ := h
  refine ⟨_, pss_one (ps_ret (pe_cmpR op_eq (pe_op op_and (pv 0) (pe_un un_inv (pv 1))) pe_int (nomark _))), ?_⟩
  refine ⟨_, rfl, _, rfl, _, rfl, _, _, rfl, rfl, rfl, q⟩
end
end Sr
set_option Elab.async false
set_option linter.all false
set_option maxRecDepth 100000
set_option maxHeartbeats 4000000
/-! # zip of two and of three sequences, each a list or a tuple -/
namespace Sr
open PySem PySem.Spec PyProof.Rows L2
/-- a list (true) or a tuple (false) -/
def Sq (K : PySem.W.Frag) (H : Hp) : Bool → Addr → List V → Prop
  | true, a, xs => SqL K H a xs
  | false, a, xs => SqT K H a xs
def SIs (h : Heap) : Bool → Addr → Array Value → Prop
  | true, a, its => h.IsList a its
  | false, a, its => h.IsTuple a its
def SIt (h : Heap) : Bool → Addr → Addr → Nat → Prop
  | true, it, a, i => h.IsListIter it a i
  | false, it, a, i => h.IsTupleIter it a i
def itO : Bool → Addr → Obj
  | true, l => { cls := .type "list_iterator", data := .fields #[.ref l, .int 0 0] }
  | false, t => { cls := .type "tuple_iterator", data := .fields #[.ref t, .int 0 0] }
theorem SIt.start {h : Heap} : ∀ {b : Bool} {it a : Addr}, h.get? it = some (itO b a) → SIt h b it a 0
  | true, _, _, e => ⟨_, e, rfl, rfl⟩
  | false, _, _, e => ⟨_, e, rfl, rfl⟩
theorem SIt.thr {h : Heap} : ∀ {b : Bool} {it a : Addr} {i : Nat}, SIt h b it a i → ∃ o, h.get? it = some o ∧ ∀ v, o.data ≠ .cell v
  | true, _, _, _, ⟨o, e, _, d⟩ => ⟨o, e, fun v z => by rw [d] at z; cases z⟩
  | false, _, _, _, ⟨o, e, _, d⟩ => ⟨o, e, fun v z => by rw [d] at z; cases z⟩
theorem SIt.at_ {h h' : Heap} : ∀ {b : Bool} {it a : Addr} {i : Nat}, SIt h b it a i → (∀ o, h.get? it = some o → h'.get? it = some o) → SIt h' b it a i
  | true, _, _, _, ⟨o, e, c⟩, k => ⟨o, k o e, c⟩
  | false, _, _, _, ⟨o, e, c⟩, k => ⟨o, k o e, c⟩
theorem SIs.lt {h : Heap} : ∀ {b : Bool} {a : Addr} {its : Array Value}, SIs h b a its → a < h.objs.size
  | true, _, _, ⟨_, e, _⟩ => Heap.lt_size e
  | false, _, _, ⟨_, e, _⟩ => Heap.lt_size e
section
variable {X : L2.Cx} {pins : List (Addr × Obj)} {σ : L2.St} {H : Hp} {s : Shared}
theorem Sq.get (I : Inv X pins σ H s) : ∀ {b : Bool} {a : Addr} {xs : List V}, Sq X.K H b a xs → ∃ its : List Value, Vals xs its ∧ SIs s.heap b a its.toArray
  | true, _, _, h => let ⟨its, r, p, _⟩ := I.list h; ⟨its, r, p.isList⟩
  | false, _, _, h => let ⟨its, r, p, _⟩ := I.tuple h; ⟨its, r, p⟩
theorem Sq.inj (I : Inv X pins σ H s) : ∀ {b : Bool} {a : Addr} {xs ys : List V}, Sq X.K H b a xs → Sq X.K H b a ys → xs = ys
  | true, _, _, _, h, h' => I.list_inj h h'
  | false, _, _, _, h, h' => I.tuple_inj h h'
end
theorem drawsS {prog : Program} {w : World} {A : Around} (hh : A.handled = none) : ∀ (b : Bool) (it a : Addr), a ≠ it → ∀ items : Array Value,
    Draws prog w A it [it, a] items.size (fun i v => items[i]? = some v) (fun i h => SIt h b it a i ∧ SIs h b a items)
  | true, it, a, ne, items => Draws.list hh it a ne items
  | false, it, a, ne, items => Draws.tuple hh it a ne items
theorem beginsS : ∀ (b : Bool) (a : Addr) (items : Array Value), Begins (.ref a) (itO b a) (fun h => SIs h b a items)
  | true, a, items => begins_list a items
  | false, a, items => begins_tuple a items
/-! ## two -/
def Itm2 (K : PySem.W.Frag) (b1 b2 : Bool) (a1 a2 : Addr) : It :=
  ⟨fun i H => ∃ (xs ys : List V) (x y : V), Sq K H b1 a1 xs ∧ Sq K H b2 a2 ys ∧ xs[i]? = some x ∧ ys[i]? = some y,
    fun i H v H' => ∃ T x y, v = .ref T ∧ H T = none ∧ H' = upd H T (.tup [x, y]) ∧ (∀ xs, Sq K H b1 a1 xs → xs[i]? = some x) ∧ ∀ ys, Sq K H b2 a2 ys → ys[i]? = some y,
    fun i H => ∃ xs ys : List V, Sq K H b1 a1 xs ∧ Sq K H b2 a2 ys ∧ i = xs.length ∧ i = ys.length⟩
theorem sub4 {b N : Addr} (hb : b ∈ [N + 4, N + 3, N, N + 1]) : b ∈ [N + 4, N + 2, N + 3, N, N + 1] := by
  have e' : b = N + 4 ∨ b = N + 3 ∨ b = N ∨ b = N + 1 := by simpa using hb
  rcases e' with z | z | z | z <;> simp [z]
theorem sub5 {b N : Addr} (hb : b ∈ [N + 5, N + 4, N, N + 1, N + 2]) : b ∈ [N + 5, N + 3, N + 4, N, N + 1, N + 2] := by
  have e' : b = N + 5 ∨ b = N + 4 ∨ b = N ∨ b = N + 1 ∨ b = N + 2 := by simpa using hb
  rcases e' with z | z | z | z | z <;> simp [z]
theorem nlt {a N : Addr} (h : a < N) (k : Nat) : a ≠ N + k := Nat.ne_of_lt (Nat.lt_of_lt_of_le h (Nat.le_add_right _ _))
theorem turn_zipM2 {P : Program} {w : World} {K : PySem.W.Frag} {elts : List Expr} {kk : Nat} {tpos : Pos} {b1 b2 : Bool} {a1 a2 N : Addr} (l1 : a1 < N) (l2 : a2 < N) :
    Turn P w K (.Tuple elts kk tpos) (Itm2 K b1 b2 a1 a2) [N + 4, N + 2, N + 3, N, N + 1] (N + 4)
      (fun i h => IsZip h (N + 4) (N + 2) (N + 3) .none ∧ IsTupOf2 h (N + 2) (.ref N) (.ref (N + 1)) ∧ (∃ x y, IsTupOf2 h (N + 3) x y) ∧ SIt h b1 N a1 i ∧ SIt h b2 (N + 1) a2 i) where
  mem := by simp
  obj := fun i h st c hc => by
    obtain ⟨hz, hTI, ⟨x, y, hTO⟩, h1, h2⟩ := st
    have e' : c = N + 4 ∨ c = N + 2 ∨ c = N + 3 ∨ c = N ∨ c = N + 1 := by simpa using hc
    rcases e' with q | q | q | q | q
    · rw [q]; exact ⟨_, hz, fun v q => nomatch q⟩
    · rw [q]; exact ⟨_, hTI, fun v q => nomatch q⟩
    · rw [q]; exact ⟨_, hTO, fun v q => nomatch q⟩
    · rw [q]; exact h1.thr
    · rw [q]; exact h2.thr
  keep := fun i h h' st k => by
    obtain ⟨hz, hTI, ⟨x, y, hTO⟩, h1, h2⟩ := st
    exact ⟨k _ (by simp) _ hz, k _ (by simp) _ hTI, ⟨x, y, k _ (by simp) _ hTO⟩, h1.at_ fun o q => k _ (by simp) o q, h2.at_ fun o q => k _ (by simp) o q⟩
  item := by
    intro X hP hw hK hc i pins s σ H E I hf st hg
    subst hP hw hK
    obtain ⟨xs, ys, x, y, q1, q2, hx, hy⟩ := hg
    obtain ⟨its1, r1, p1⟩ := Sq.get I q1
    obtain ⟨its2, r2, p2⟩ := Sq.get I q2
    obtain ⟨u1, e1, v1⟩ := r1.get hx
    obtain ⟨u2, e2, v2⟩ := r2.get hy
    have hh : X.A.in1.handled = none := I.ok.hd hc
    have W := WalksT.zipD2 (prog := X.prog) (w := X.w) (A := X.A) (zip_sep2 (N := N) (fp1 := [a1]) (fp2 := [a2]) (fun c hc => by simp at hc; rw [hc]; exact l1) (fun c hc => by simp at hc; rw [hc]; exact l2))
      (drawsS hh b1 N a1 (nlt l1 0) its1.toArray) (drawsS hh b2 (N + 1) a2 (nlt l2 1) its2.toArray)
    obtain ⟨hz, hTI, hTO, h1, h2⟩ := st
    have i1 : i < its1.toArray.size := by have := (List.getElem?_eq_some_iff.mp e1).1; simpa using this
    have i2 : i < its2.toArray.size := by have := (List.getElem?_eq_some_iff.mp e2).1; simpa using this
    refine W.item i s _ E (by omega) ⟨hz, hTI, hTO, ⟨h1, p1⟩, ⟨h2, p2⟩⟩ fun T vals h' tk hv hle hT hm hk => ⟨_, rfl, ?_⟩
    refine W.go elts kk tpos i T ⟨h', s.gens, s.drawn, tk, s.os⟩ _ E hm fun h'' st2 hk2 => ?_
    obtain ⟨w1, w2, hw1, hw2, rfl⟩ := hv
    have z1 : w1 = u1 := by
      have : its1.toArray[i]? = some u1 := by simpa using e1
      rw [hw1] at this
      exact Option.some.inj this
    have z2 : w2 = u2 := by
      have : its2.toArray[i]? = some u2 := by simpa using e2
      rw [hw2] at this
      exact Option.some.inj this
    subst z1 z2
    obtain ⟨oT, eT, cT, nT, dT⟩ := hT
    have hT2 : h''.IsTuple T #[w1, w2] := ⟨oT, hk2 T oT (W.apart i T h' hm) eT, cT, nT, dT⟩
    have new : ObjOk X.prog X.w (upd H T (.tup [x, y])) h'' T (.tup [x, y]) := ⟨by show 2 ≤ sizeLine; decide, [w1, w2], .cons v1 (.cons v2 .nil), hT2⟩
    have I1 : Inv X pins σ (upd H T (.tup [x, y])) ⟨h'', s.gens, s.drawn, tk, s.os⟩ :=
      I.turnedNew (t' := tk) (ch := [N + 4, N + 3, N, N + 1]) (fun c o hb q => hk2 c o hb (hk c o hb q)) (fun b hb => hf b (sub4 hb)) hle new
    obtain ⟨s1, s2, s3, ⟨s4, _⟩, ⟨s5, _⟩⟩ := st2
    refine ⟨.ref T, _, I1, rfl, ⟨T, x, y, rfl, I.hok.fresh hle, rfl, fun l hl => by rw [Sq.inj I hl q1]; exact hx, fun l hl => by rw [Sq.inj I hl q2]; exact hy⟩, ⟨s1, s2, s3, s4, s5⟩, fun c hcm => ?_⟩
    have hlt : c < s.heap.objs.size := by
      have e' : c = N + 4 ∨ c = N + 2 ∨ c = N + 3 ∨ c = N ∨ c = N + 1 := by simpa using hcm
      rcases e' with q | q | q | q | q
      · rw [q]; exact Heap.lt_size hz
      · rw [q]; exact Heap.lt_size hTI
      · rw [q]; obtain ⟨_, _, hTO⟩ := hTO; exact Heap.lt_size hTO
      · rw [q]; obtain ⟨_, e1, _⟩ := h1.thr; exact Heap.lt_size e1
      · rw [q]; obtain ⟨_, e1, _⟩ := h2.thr; exact Heap.lt_size e1
    rw [upd_ne (Nat.ne_of_lt (Nat.lt_of_lt_of_le hlt hle))]
    exact (hf c hcm).1
  done := by
    intro X hP hw hK hc i pins s σ H E I hf st hg
    subst hP hw hK
    obtain ⟨xs, ys, q1, q2, n1, n2⟩ := hg
    obtain ⟨its1, r1, p1⟩ := Sq.get I q1
    obtain ⟨its2, r2, p2⟩ := Sq.get I q2
    have hh : X.A.in1.handled = none := I.ok.hd hc
    have W := WalksT.zipD2 (prog := X.prog) (w := X.w) (A := X.A) (zip_sep2 (N := N) (fp1 := [a1]) (fp2 := [a2]) (fun c hc => by simp at hc; rw [hc]; exact l1) (fun c hc => by simp at hc; rw [hc]; exact l2))
      (drawsS hh b1 N a1 (nlt l1 0) its1.toArray) (drawsS hh b2 (N + 1) a2 (nlt l2 1) its2.toArray)
    obtain ⟨hz, hTI, hTO, h1, h2⟩ := st
    have m1 := r1.length
    have m2 := r2.length
    have en : min its1.toArray.size its2.toArray.size = i := by simp only [List.size_toArray]; omega
    refine W.done s _ E (by rw [en]; exact ⟨hz, hTI, hTO, ⟨h1, p1⟩, ⟨h2, p2⟩⟩) fun h' tk hk => ⟨rfl, ?_⟩
    exact I.turnedL (t' := tk) (ch := [N + 4, N + 3, N, N + 1]) (fun c o hb q => hk c o hb q) (fun b hb => hf b (sub4 hb))
  self := fun A i s Q E st h => wpAny_pyIter_zip st.1 h
def iZipM2 (K : PySem.W.Frag) (b1 b2 : Bool) (ta : TA) : TI := fun σ H R => ta σ H fun vs H1 => ∃ a b xs ys, vs = [.ref a, .ref b] ∧ Sq K H1 b1 a xs ∧ Sq K H1 b2 b ys ∧ R (Itm2 K b1 b2 a b) H1
theorem pi_zipM2 (b1 b2 : Bool) {X : L2.Cx} {e e2 : Expr} {ta : TA} {p pos tpos : Pos} {elts : List Expr} {kk : Nat} (hg : Gl X "zip") (hm : X.mg "zip" = none) (ha : PA X [e, e2] ta)
    (hs : starEach [e, e2] X.env = (false, eval e X.env) :: starEach [e2] X.env := by rfl) (hpl : (backTo pos (starEach [e2] X.env)).any (·.1) = false := by rfl) :
    PI X (.Tuple elts kk tpos) (.Call (.Name "zip" p) [e, e2] [] pos) (iZipM2 X.K b1 b2 ta) := by
  refine ⟨fun pins s σ H R I h => ?_⟩
  refine Call_ (ld_blt I hg hm PyProof.Rows.boot_zip (PyProof.Rows.callWith_type1 (thn (ha.run pos pins s σ H _ I h) fun us s1 ⟨vs, H1, I1, r1, q1⟩ => ?_) hs hpl))
  obtain ⟨a, b, xs, ys, ex, hqx, hqy, q⟩ := q1
  subst ex
  cases r1 with
  | cons r rr =>
    cases rr with
    | cons r' rr =>
      cases rr
      cases r
      cases r'
      obtain ⟨its1, v1, p1⟩ := Sq.get I1 hqx
      obtain ⟨its2, v2, p2⟩ := Sq.get I1 hqy
      have la : a < s1.heap.objs.size := p1.lt
      have lb : b < s1.heap.objs.size := p2.lt
      refine zip_begins2 (beginsS b1 a its1.toArray) (beginsS b2 b its2.toArray) p1 p2 fun h' hz hTI hTO h1 h2 hsz hk => wpAny_pyIter_zip hz ?_
      have I2 : Inv X pins σ H1 { s1 with heap := h' } := I1.kept (t' := s1.toks) hk
      refine ⟨s1.heap.objs.size + 4, [s1.heap.objs.size + 4, s1.heap.objs.size + 2, s1.heap.objs.size + 3, s1.heap.objs.size, s1.heap.objs.size + 1], _, _, H1, rfl, I2, turn_zipM2 la lb, ⟨hz, hTI, ⟨_, _, hTO⟩, .start h1, .start h2⟩, fun c hcm => ?_, q⟩
      have e' : c = s1.heap.objs.size + 4 ∨ c = s1.heap.objs.size + 2 ∨ c = s1.heap.objs.size + 3 ∨ c = s1.heap.objs.size ∨ c = s1.heap.objs.size + 1 := by simpa using hcm
      have hle : s1.heap.objs.size ≤ c := by
        rcases e' with z | z | z | z | z
        · rw [z]; exact Nat.le_add_right _ _
        · rw [z]; exact Nat.le_add_right _ _
        · rw [z]; exact Nat.le_add_right _ _
        · rw [z]; exact Nat.le_refl _
        · rw [z]; exact Nat.le_add_right _ _
      exact I1.fpOk hle (I1.hok.fresh hle)
/-! ## three -/
def Itm3 (K : PySem.W.Frag) (b1 b2 b3 : Bool) (a1 a2 a3 : Addr) : It :=
  ⟨fun i H => ∃ (xs ys zs : List V) (x y z : V), Sq K H b1 a1 xs ∧ Sq K H b2 a2 ys ∧ Sq K H b3 a3 zs ∧ xs[i]? = some x ∧ ys[i]? = some y ∧ zs[i]? = some z,
    fun i H v H' => ∃ T x y z, v = .ref T ∧ H T = none ∧ H' = upd H T (.tup [x, y, z]) ∧ (∀ xs, Sq K H b1 a1 xs → xs[i]? = some x) ∧ (∀ ys, Sq K H b2 a2 ys → ys[i]? = some y) ∧ ∀ zs, Sq K H b3 a3 zs → zs[i]? = some z,
    fun i H => ∃ xs ys zs : List V, Sq K H b1 a1 xs ∧ Sq K H b2 a2 ys ∧ Sq K H b3 a3 zs ∧ i = xs.length ∧ i = ys.length ∧ i = zs.length⟩
theorem turn_zipM3 {P : Program} {w : World} {K : PySem.W.Frag} {elts : List Expr} {kk : Nat} {tpos : Pos} {b1 b2 b3 : Bool} {a1 a2 a3 N : Addr} (l1 : a1 < N) (l2 : a2 < N) (l3 : a3 < N) :
    Turn P w K (.Tuple elts kk tpos) (Itm3 K b1 b2 b3 a1 a2 a3) [N + 5, N + 3, N + 4, N, N + 1, N + 2] (N + 5)
      (fun i h => IsZip h (N + 5) (N + 3) (N + 4) .none ∧ IsTupOf3 h (N + 3) (.ref N) (.ref (N + 1)) (.ref (N + 2)) ∧ (∃ x y z, IsTupOf3 h (N + 4) x y z) ∧ SIt h b1 N a1 i ∧ SIt h b2 (N + 1) a2 i ∧ SIt h b3 (N + 2) a3 i) where
  mem := by simp
  obj := fun i h st c hc => by
    obtain ⟨hz, hTI, ⟨x, y, z, hTO⟩, h1, h2, h3⟩ := st
    have e' : c = N + 5 ∨ c = N + 3 ∨ c = N + 4 ∨ c = N ∨ c = N + 1 ∨ c = N + 2 := by simpa using hc
    rcases e' with q | q | q | q | q | q
    · rw [q]; exact ⟨_, hz, fun v q => nomatch q⟩
    · rw [q]; exact ⟨_, hTI, fun v q => nomatch q⟩
    · rw [q]; exact ⟨_, hTO, fun v q => nomatch q⟩
    · rw [q]; exact h1.thr
    · rw [q]; exact h2.thr
    · rw [q]; exact h3.thr
  keep := fun i h h' st k => by
    obtain ⟨hz, hTI, ⟨x, y, z, hTO⟩, h1, h2, h3⟩ := st
    exact ⟨k _ (by simp) _ hz, k _ (by simp) _ hTI, ⟨x, y, z, k _ (by simp) _ hTO⟩, h1.at_ fun o q => k _ (by simp) o q, h2.at_ fun o q => k _ (by simp) o q, h3.at_ fun o q => k _ (by simp) o q⟩
  item := by
    intro X hP hw hK hc i pins s σ H E I hf st hg
    subst hP hw hK
    obtain ⟨xs, ys, zs, x, y, z, q1, q2, q3, hx, hy, hz'⟩ := hg
    obtain ⟨its1, r1, p1⟩ := Sq.get I q1
    obtain ⟨its2, r2, p2⟩ := Sq.get I q2
    obtain ⟨its3, r3, p3⟩ := Sq.get I q3
    obtain ⟨u1, e1, v1⟩ := r1.get hx
    obtain ⟨u2, e2, v2⟩ := r2.get hy
    obtain ⟨u3, e3, v3⟩ := r3.get hz'
    have hh : X.A.in1.handled = none := I.ok.hd hc
    have W := WalksT.zipD3 (prog := X.prog) (w := X.w) (A := X.A) (zip_sep3 (N := N) (fp1 := [a1]) (fp2 := [a2]) (fp3 := [a3]) (fun c hc => by simp at hc; rw [hc]; exact l1) (fun c hc => by simp at hc; rw [hc]; exact l2) (fun c hc => by simp at hc; rw [hc]; exact l3))
      (drawsS hh b1 N a1 (nlt l1 0) its1.toArray) (drawsS hh b2 (N + 1) a2 (nlt l2 1) its2.toArray) (drawsS hh b3 (N + 2) a3 (nlt l3 2) its3.toArray)
    obtain ⟨hz, hTI, hTO, h1, h2, h3⟩ := st
    have i1 : i < its1.toArray.size := by have := (List.getElem?_eq_some_iff.mp e1).1; simpa using this
    have i2 : i < its2.toArray.size := by have := (List.getElem?_eq_some_iff.mp e2).1; simpa using this
    have i3 : i < its3.toArray.size := by have := (List.getElem?_eq_some_iff.mp e3).1; simpa using this
    refine W.item i s _ E (by omega) ⟨hz, hTI, hTO, ⟨h1, p1⟩, ⟨h2, p2⟩, ⟨h3, p3⟩⟩ fun T vals h' tk hv hle hT hm hk => ⟨_, rfl, ?_⟩
    refine W.go elts kk tpos i T ⟨h', s.gens, s.drawn, tk, s.os⟩ _ E hm fun h'' st2 hk2 => ?_
    obtain ⟨w1, w2, w3, hw1, hw2, hw3, rfl⟩ := hv
    have z1 : w1 = u1 := by
      have : its1.toArray[i]? = some u1 := by simpa using e1
      rw [hw1] at this
      exact Option.some.inj this
    have z2 : w2 = u2 := by
      have : its2.toArray[i]? = some u2 := by simpa using e2
      rw [hw2] at this
      exact Option.some.inj this
    have z3 : w3 = u3 := by
      have : its3.toArray[i]? = some u3 := by simpa using e3
      rw [hw3] at this
      exact Option.some.inj this
    subst z1 z2 z3
    obtain ⟨oT, eT, cT, nT, dT⟩ := hT
    have hT2 : h''.IsTuple T #[w1, w2, w3] := ⟨oT, hk2 T oT (W.apart i T h' hm) eT, cT, nT, dT⟩
    have new : ObjOk X.prog X.w (upd H T (.tup [x, y, z])) h'' T (.tup [x, y, z]) := ⟨by show 3 ≤ sizeLine; decide, [w1, w2, w3], .cons v1 (.cons v2 (.cons v3 .nil)), hT2⟩
    have I1 : Inv X pins σ (upd H T (.tup [x, y, z])) ⟨h'', s.gens, s.drawn, tk, s.os⟩ :=
      I.turnedNew (t' := tk) (ch := [N + 5, N + 4, N, N + 1, N + 2]) (fun c o hb q => hk2 c o hb (hk c o hb q)) (fun b hb => hf b (sub5 hb)) hle new
    obtain ⟨s1, s2, s3, ⟨s4, _⟩, ⟨s5, _⟩, ⟨s6, _⟩⟩ := st2
    refine ⟨.ref T, _, I1, rfl, ⟨T, x, y, z, rfl, I.hok.fresh hle, rfl, fun l hl => by rw [Sq.inj I hl q1]; exact hx, fun l hl => by rw [Sq.inj I hl q2]; exact hy, fun l hl => by rw [Sq.inj I hl q3]; exact hz'⟩, ⟨s1, s2, s3, s4, s5, s6⟩, fun c hcm => ?_⟩
    have hlt : c < s.heap.objs.size := by
      have e' : c = N + 5 ∨ c = N + 3 ∨ c = N + 4 ∨ c = N ∨ c = N + 1 ∨ c = N + 2 := by simpa using hcm
      rcases e' with q | q | q | q | q | q
      · rw [q]; exact Heap.lt_size hz
      · rw [q]; exact Heap.lt_size hTI
      · rw [q]; obtain ⟨_, _, _, hTO⟩ := hTO; exact Heap.lt_size hTO
      · rw [q]; obtain ⟨_, e1, _⟩ := h1.thr; exact Heap.lt_size e1
      · rw [q]; obtain ⟨_, e1, _⟩ := h2.thr; exact Heap.lt_size e1
      · rw [q]; obtain ⟨_, e1, _⟩ := h3.thr; exact Heap.lt_size e1
    rw [upd_ne (Nat.ne_of_lt (Nat.lt_of_lt_of_le hlt hle))]
    exact (hf c hcm).1
  done := by
    intro X hP hw hK hc i pins s σ H E I hf st hg
    subst hP hw hK
    obtain ⟨xs, ys, zs, q1, q2, q3, n1, n2, n3⟩ := hg
    obtain ⟨its1, r1, p1⟩ := Sq.get I q1
    obtain ⟨its2, r2, p2⟩ := Sq.get I q2
    obtain ⟨its3, r3, p3⟩ := Sq.get I q3
    have hh : X.A.in1.handled = none := I.ok.hd hc
    have W := WalksT.zipD3 (prog := X.prog) (w := X.w) (A := X.A) (zip_sep3 (N := N) (fp1 := [a1]) (fp2 := [a2]) (fp3 := [a3]) (fun c hc => by simp at hc; rw [hc]; exact l1) (fun c hc => by simp at hc; rw [hc]; exact l2) (fun c hc => by simp at hc; rw [hc]; exact l3))
      (drawsS hh b1 N a1 (nlt l1 0) its1.toArray) (drawsS hh b2 (N + 1) a2 (nlt l2 1) its2.toArray) (drawsS hh b3 (N + 2) a3 (nlt l3 2) its3.toArray)
    obtain ⟨hz, hTI, hTO, h1, h2, h3⟩ := st
    have m1 := r1.length
    have m2 := r2.length
    have m3 := r3.length
    have en : min (min its1.toArray.size its2.toArray.size) its3.toArray.size = i := by simp only [List.size_toArray]; omega
    refine W.done s _ E (by rw [en]; exact ⟨hz, hTI, hTO, ⟨h1, p1⟩, ⟨h2, p2⟩, ⟨h3, p3⟩⟩) fun h' tk hk => ⟨rfl, ?_⟩
    exact I.turnedL (t' := tk) (ch := [N + 5, N + 4, N, N + 1, N + 2]) (fun c o hb q => hk c o hb q) (fun b hb => hf b (sub5 hb))
  self := fun A i s Q E st h => wpAny_pyIter_zip st.1 h
def iZipM3 (K : PySem.W.Frag) (b1 b2 b3 : Bool) (ta : TA) : TI := fun σ H R => ta σ H fun vs H1 => ∃ a b c xs ys zs, vs = [.ref a, .ref b, .ref c] ∧ Sq K H1 b1 a xs ∧ Sq K H1 b2 b ys ∧ Sq K H1 b3 c zs ∧ R (Itm3 K b1 b2 b3 a b c) H1
theorem pi_zipM3 (b1 b2 b3 : Bool) {X : L2.Cx} {e e2 e3 : Expr} {ta : TA} {p pos tpos : Pos} {elts : List Expr} {kk : Nat} (hg : Gl X "zip") (hm : X.mg "zip" = none) (ha : PA X [e, e2, e3] ta)
    (hs : starEach [e, e2, e3] X.env = (false, eval e X.env) :: starEach [e2, e3] X.env := by rfl) (hpl : (backTo pos (starEach [e2, e3] X.env)).any (·.1) = false := by rfl) :
    PI X (.Tuple elts kk tpos) (.Call (.Name "zip" p) [e, e2, e3] [] pos) (iZipM3 X.K b1 b2 b3 ta) := by
  refine ⟨fun pins s σ H R I h => ?_⟩
  refine Call_ (ld_blt I hg hm PyProof.Rows.boot_zip (PyProof.Rows.callWith_type1 (thn (ha.run pos pins s σ H _ I h) fun us s1 ⟨vs, H1, I1, r1, q1⟩ => ?_) hs hpl))
  obtain ⟨a, b, c, xs, ys, zs, ex, hqx, hqy, hqz, q⟩ := q1
  subst ex
  cases r1 with
  | cons r rr =>
    cases rr with
    | cons r' rr =>
      cases rr with
      | cons r'' rr =>
        cases rr
        cases r
        cases r'
        cases r''
        obtain ⟨its1, v1, p1⟩ := Sq.get I1 hqx
        obtain ⟨its2, v2, p2⟩ := Sq.get I1 hqy
        obtain ⟨its3, v3, p3⟩ := Sq.get I1 hqz
        refine zip_begins3 (beginsS b1 a its1.toArray) (beginsS b2 b its2.toArray) (beginsS b3 c its3.toArray) p1 p2 p3 fun h' hz hTI hTO h1 h2 h3 hsz hk => wpAny_pyIter_zip hz ?_
        have I2 : Inv X pins σ H1 { s1 with heap := h' } := I1.kept (t' := s1.toks) hk
        refine ⟨s1.heap.objs.size + 5, [s1.heap.objs.size + 5, s1.heap.objs.size + 3, s1.heap.objs.size + 4, s1.heap.objs.size, s1.heap.objs.size + 1, s1.heap.objs.size + 2], _, _, H1, rfl, I2, turn_zipM3 p1.lt p2.lt p3.lt, ⟨hz, hTI, ⟨_, _, _, hTO⟩, .start h1, .start h2, .start h3⟩, fun c hcm => ?_, q⟩
        have e' : c = s1.heap.objs.size + 5 ∨ c = s1.heap.objs.size + 3 ∨ c = s1.heap.objs.size + 4 ∨ c = s1.heap.objs.size ∨ c = s1.heap.objs.size + 1 ∨ c = s1.heap.objs.size + 2 := by simpa using hcm
        have hle : s1.heap.objs.size ≤ c := by
          rcases e' with z | z | z | z | z | z
          · rw [z]; exact Nat.le_add_right _ _
          · rw [z]; exact Nat.le_add_right _ _
          · rw [z]; exact Nat.le_add_right _ _
          · rw [z]; exact Nat.le_refl _
          · rw [z]; exact Nat.le_add_right _ _
          · rw [z]; exact Nat.le_add_right _ _
        exact I1.fpOk hle (I1.hok.fresh hle)
end Sr
set_option Elab.async false
set_option linter.all false
set_option maxRecDepth 100000
set_option maxHeartbeats 4000000
/-! # Further rules: a < b < c < d; min(.., default=..); extend by a tuple; a dict of one tuple key; set(xs) -/
namespace Sr
open PySem PySem.Spec PyProof.Rows L2
section
variable {X : L2.Cx} {a b c d : Expr} {pos : Pos} {ta tb tc td : TE}
/-! ## three comparisons, one behind another -/
def tChain3 (r r' r'' : R2) (ta tb tc td : TE) : TE := fun σ H Q => ta σ H fun x H1 => tb σ H1 fun y H2 => r x y H2 fun z H3 => ∃ k, z = .bl k ∧
  (if k = true then tc σ H3 fun w' H4 => r' y w' H4 fun z2 H5 => ∃ k2, z2 = .bl k2 ∧ (if k2 = true then td σ H5 fun v H6 => r'' w' v H6 Q else Q (.bl false) H5) else Q (.bl false) H3)
theorem pe_chain3 {op op' op'' : CmpOp} {r r' r'' : R2} (ho : OpR X (compareOp op) r) (ho' : OpR X (compareOp op') r') (ho'' : OpR X (compareOp op'') r'') (ha : PE X a ta) (hb : PE X b tb) (hc : PE X c tc) (hd : PE X d td)
    (hm : lastMarks [op, op', op''] [b, c, d] = false := by with_unfolding_all rfl) : PE X (.Compare a [op, op', op''] [b, c, d] pos) (tChain3 r r' r'' ta tb tc td) := by
  refine ⟨fun pins s σ H Q I h => ?_⟩
  refine Compare_chain (thn (ha.run pins s σ H _ I h) fun v s1 ⟨x, H1, I1, r1, q1⟩ => chain_link (thn (hb.run pins s1 σ H1 _ I1 q1) fun u s2 ⟨y, H2, I2, r2, q2⟩ =>
    thn (ho pins s2 σ H2 x y v u _ I2 r1 r2 q2) fun d' s3 ⟨z, H3, I3, r3, k, e, q3⟩ => ?_)) hm
  subst e
  cases r3
  refine wpAny_truthy_bool ?_
  cases k with
  | false => exact ite_ff ⟨.bl false, H3, I3, rfl, q3⟩
  | true =>
    refine ite_tt (chain_link (thn (hc.run pins s3 σ H3 _ I3 q3) fun w' s4 ⟨y', H4, I4, r4, q4⟩ => thn (ho' pins s4 σ H4 y y' u w' _ I4 r2 r4 q4) fun d'' s5 ⟨z2, H5, I5, r5, k2, e2, q5⟩ => ?_))
    subst e2
    cases r5
    refine wpAny_truthy_bool ?_
    cases k2 with
    | false => exact ite_ff ⟨.bl false, H5, I5, rfl, q5⟩
    | true => exact ite_tt (chain_last (thn (hd.run pins s5 σ H5 _ I5 q5) fun w3 s6 ⟨y3, H6, I6, r6, q6⟩ => ho'' pins s6 σ H6 y' y3 w' w3 Q I6 r4 r6 q6))
end
/-! ## min(xs, default=d) -/
theorem minOf_mem : ∀ (xs : List Int) (x : Int), PySem.W.minOf x xs ∈ x :: xs ∧ ∀ y ∈ x :: xs, PySem.W.minOf x xs ≤ y
  | [], x => ⟨List.mem_cons_self, fun y hy => by
    rcases List.mem_cons.mp hy with e | e
    · rw [e]; exact Int.le_refl _
    · cases e⟩
  | z :: xs, x => by
    have e : PySem.W.minOf x (z :: xs) = PySem.W.minOf (if z < x then z else x) xs := by
      show PySem.W.minOf (if decide (z < x) = true then z else x) xs = _
      simp only [decide_eq_true_eq]
    obtain ⟨h1, h2⟩ := minOf_mem xs (if z < x then z else x)
    rw [e]
    by_cases c : z < x
    · rw [if_pos c] at h1 h2 ⊢
      refine ⟨List.mem_cons_of_mem _ h1, fun y hy => ?_⟩
      have hz := h2 z List.mem_cons_self
      rcases List.mem_cons.mp hy with q | q
      · rw [q]; omega
      · exact h2 y q
    · rw [if_neg c] at h1 h2 ⊢
      refine ⟨?_, fun y hy => ?_⟩
      · rcases List.mem_cons.mp h1 with q | q
        · rw [q]; exact List.mem_cons_self
        · exact List.mem_cons_of_mem _ (List.mem_cons_of_mem _ q)
      · have hx := h2 x List.mem_cons_self
        rcases List.mem_cons.mp hy with q | q
        · rw [q]; exact hx
        · rcases List.mem_cons.mp q with q | q
          · rw [q]; omega
          · exact h2 y (List.mem_cons_of_mem _ q)
theorem dp_ints {K : PySem.W.Frag} {H : Hp} : ∀ ns : List Int, DpAll K H (ns.map V.int) (ns.map PyData.int)
  | [] => .nil
  | n :: ns => .cons (.int n) (dp_ints ns)
def rMinD (K : PySem.W.Frag) : List V → List V → Hp → VK → Prop := fun vs zs H Q => ∃ (a : Addr) (ns : List Int) (d : Int), vs = [V.ref a] ∧ zs = [V.int d] ∧ SqL K H a (ns.map V.int) ∧
  ∀ m, (ns = [] → m = d) → (ns ≠ [] → m ∈ ns ∧ ∀ y ∈ ns, m ≤ y) → Q (.int m) H
theorem call_min_dflt {X : L2.Cx} (hc : X.calm = true) (hu : X.A.units + 1 < PySem.cLine) : CallRK X (.builtin "min") ["default"] (rMinD X.K) := by
  intro pins s σ H vs zs us ws Q I r1 r2 h
  obtain ⟨a, ns, d, rfl, rfl, hs, q⟩ := h
  obtain ⟨its, rv, hl, _⟩ := I.list hs
  obtain ⟨as, hr⟩ := Dp.readsAll I (ns.map PyData.int) (ns.map V.int) its (dp_ints ns) rv
  cases r1 with
  | cons ra rb =>
    cases rb
    cases ra
    cases r2 with
    | cons rc rd =>
      cases rd
      obtain ⟨td, rfl⟩ := rc
      show wpAny _ _ (call (.builtin "min") [.ref a] [(Str.ofString "default", .int d td)]) _ _ _
      refine PySem.W.min_list_datum_default (α := Int) (xs := ns) (I.ok.hd hc) hl.isList ⟨as, (show ReadsAll s.heap its (ns.map PyData.int) as from hr)⟩ (by show X.A.units + 1 + 0 < PySem.cLine; omega) (fun e h' tk hk => ?_) (fun y ys i v h' tk e hi hv hk => ?_)
      · exact ⟨.int d, H, I.kept hk, ⟨td, rfl⟩, q d (fun _ => rfl) fun ne => absurd e ne⟩
      · subst e
        obtain ⟨as2, rd⟩ := hv
        have hv2 : ∃ t, v = Value.int (PySem.W.minOf y ys) t := by
          have e1 : its[i]? = some v := by simpa using hi
          obtain ⟨x, hx, rx⟩ : ∃ x, ((y :: ys).map V.int)[i]? = some x ∧ RelV x v := by
            cases hq : ((y :: ys).map V.int)[i]? with
            | none => rw [rv.none_of hq] at e1; cases e1
            | some x =>
              obtain ⟨u, h1, h2⟩ := rv.get hq
              rw [h1] at e1
              cases e1
              exact ⟨x, rfl, h2⟩
          rw [List.getElem?_map] at hx
          cases hn : (y :: ys)[i]? with
          | none => rw [hn] at hx; cases hx
          | some n =>
            rw [hn] at hx
            cases hx
            obtain ⟨t, rfl⟩ := rx
            refine ⟨t, ?_⟩
            have rd' : Reads h' (Value.int n t) (PyData.int (PySem.W.minOf y ys)) as2 := rd
            cases rd'
            rfl
        obtain ⟨t, rfl⟩ := hv2
        obtain ⟨m1, m2⟩ := minOf_mem ys y
        exact ⟨.int _, H, I.kept hk, ⟨t, rfl⟩, q _ (fun e => by cases e) fun _ => ⟨m1, m2⟩⟩
/-! ## extend by a list or a tuple -/
set_option maxRecDepth 8000 in
theorem ext_tuple (l : Addr) (items : Array Value) (n : Nat) (b : Addr) (od : Option Addr) (items2 : Array Value) (n2 : Nat) (sl : Array (Option Value)) (hs0 : ¬(!items.isEmpty && Builtin.List.listTooLong (items.size + items2.size)) = true) (hs1 : items.size ≤ sizeLine) (hs2 : items.size + items2.size ≤ sizeLine + 1) :
    Meets (Builtin.«list.extend» ⟨[.ref l, .ref b], []⟩) (fun _ R s => s.heap.get? l = some { cls := .type "list", dict := none, data := .seq items n, slots := #[] } ∧ s.heap.get? b = some { cls := .type "tuple", dict := od, data := .seq items2 n2, slots := sl } ∧ R (.ok (.ret Value.none)) { s with heap := s.heap.update l (Obj.mapSeq fun x => x ++ items2), toks := s.toks }) :=
  .of_wp fun prog w A R s h => by
    obtain ⟨hp, g, d, tk, os⟩ := s
    obtain ⟨hl, hb, h⟩ := h
    have f1 := PySem.AutoSeq1.idx_int
    have f2 := PySem.AutoSeq1.sub_tuple_tuple
    have f3 := PySem.AutoSeq1.sub_list_list
    have f4 := PySem.AutoSeq1.sub_tuple_list
    have f5 := PySem.AutoSeq1.sub_list_tuple
    have hz' : (items ++ items2).size ≤ sizeLine + 1 := by rw [Array.size_append]; exact hs2
    wp_walk using (wpAny_updateSeq hl rfl (hz := hs1) (_hz' := hz')), PySem.AutoSeq1.wpAny_loadPart' hl, PySem.AutoSeq1.wpAny_loadPart' hb
    exact ⟨_, rfl, h⟩
def rExtendA : V → List V → Hp → VK → Prop := fun x vs H Q => ∃ l b xs zs, x = .ref l ∧ vs = [.ref b] ∧ H l = some (.lst xs) ∧ (H b = some (.lst zs) ∨ H b = some (.tup zs)) ∧ xs.length + zs.length ≤ sizeLine ∧ Q .non (upd H l (.lst (xs ++ zs)))
theorem mt_extendA {X : L2.Cx} : MtM X "list.extend" rExtendA := by
  intro pins s σ H x vs v us Q I rx rv h
  obtain ⟨l, b, xs, zs, rfl, rfl, hH, hB, hz, q⟩ := h
  rcases hB with hB | hB
  · exact mt_extend pins s σ H _ _ v us Q I rx rv ⟨l, b, xs, zs, rfl, rfl, hH, hB, hz, q⟩
  · cases rx
    obtain ⟨u, rfl, ru⟩ := rv.one
    cases ru
    obtain ⟨z, its, n, r, hl, e⟩ := I.lstM hH
    obtain ⟨its2, r2, ⟨⟨oc, od, odt, osl⟩, e2, c2, n2, d2⟩, z2⟩ := I.tuple (SqT.of hB)
    have hl2 := r2.length
    simp only at c2 d2
    subst c2 d2
    have hsz : its.toArray.size + its2.toArray.size ≤ sizeLine := by rw [List.size_toArray, List.size_toArray]; omega
    have hlong : ¬ (!its.toArray.isEmpty && Builtin.List.listTooLong (its.toArray.size + its2.toArray.size)) = true := by
      rw [notLongL hsz, Bool.and_false]
      exact Bool.false_ne_true
    refine call_meets F.slot_list_extend ⟨_, e, rfl⟩ F.entry_list_extend (F.args_list_extend_2 _ _)
      (ext_tuple l its.toArray n b od its2.toArray n2 osl hlong (by rw [List.size_toArray]; omega) (by omega)) ⟨e, e2, ?_⟩
    refine ⟨.non, _, I.lset (its' := its ++ its2) hH e (by simp) (r.append r2) ?_, rfl, q⟩
    rw [List.length_append]
    omega
/-! ## {key: v}, the key a tuple -/
def tDisp1T (tk tv : TE) : TE := fun σ H Q => ∀ p, H p = none → tPairs [(tk, tv)] σ (upd H p (.dT [])) fun ps H2 => ∃ x y, ps = [(x, y)] ∧ H2 p = some (.dT []) ∧ ∃ (b : Addr) (k : List Key), x = .ref b ∧ H2 b = some (.tup (k.map kV)) ∧ Q (.ref p) (upd H2 p (.dT [(k, y)]))
theorem pe_disp1T {X : L2.Cx} {ke ve : Expr} {pos : Pos} {tk tv : TE} (hu : X.A.units + 2 < PySem.cLine) (hk : PE X ke tk) (hv : PE X ve tv) : PE X (.Dict [some ke] [ve] pos) (tDisp1T tk tv) := by
  refine ⟨fun pins s σ H Q I q => ?_⟩
  have hn := I.hok.fresh (Nat.le_refl s.heap.objs.size)
  have I1 := I.laid (a := s.heap.objs.size) (o := .dT []) (h' := s.heap.push { cls := .type "dict", data := .dict #[] }) (t' := s.toks) (fun _ _ q => Heap.get?_push_of_some _ q) (Nat.le_refl _) (dt_empty s.heap I.big)
  have PP : PPs X pos [some ke] [ve] [(tk, tv)] := pps_cons hk hv pps_nil
  have hsh : (evalEachOpt [some ke] X.env).zip ((evalEach [ve] X.env).map fun v => do let x ← v; standAt pos; pure x) = (pairTrees [some ke] [ve] X.env pos).map fun p => (some p.1, p.2) := rfl
  rw [arm_eval_Dict, hsh, dictDisplay_pairs _ (by show _ :: _ ≠ []; exact fun h => nomatch h) (by show 1 < _; omega)]
  refine wpAny_bind (wpAny_standAt (wpAny_bind (wpAny_subDictH (A := X.A) (knd := tupleKind (mixKind X.prog X.w)) (show X.A.units < cLine by omega) (by show 1 ≤ 15; omega) ?_)))
  refine thn (PP.run pins _ σ _ (fun ps H2 => ∃ x y, ps = [(x, y)] ∧ H2 s.heap.objs.size = some (.dT []) ∧ ∃ (b : Addr) (k : List Key), x = .ref b ∧ H2 b = some (.tup (k.map kV)) ∧ Q (.ref s.heap.objs.size) (upd H2 s.heap.objs.size (.dT [(k, y)]))) I1 ?_) fun ws s2 ⟨ps, H2, I2, rel, x, y, eps, e, b, k, ex, eb, q2⟩ => ?_
  · exact q _ hn
  · subst eps ex
    cases rel with
    | @cons a c as cs r rr =>
      cases rr
      obtain ⟨r1, r2⟩ := r
      obtain ⟨ku, w2⟩ := c
      cases (show ku = Value.ref b from r1)
      obtain ⟨z, hd, xs0, kt0, dd0⟩ := dt_of I2.hok e
      cases kt0
      refine ⟨[(k, b, w2)], ⟨rfl, rfl, key_of I2.hok eb, trivial⟩, dd0, fun h' tk dd' hs => wpAny_pure ⟨.ref s.heap.objs.size, _, ?_, rfl, q2⟩⟩
      obtain ⟨o, es, ep, ho, h2, h3, h4, _, h5⟩ := dd'
      refine d_write I2 (by rw [e]; exact True.intro) hs ⟨o, ho⟩ ⟨by show 1 ≤ sizeLine; decide, hd, [(k, b, w2)], ?_, o, es, ep, ho, h2, h3, h4, h5⟩
      refine .cons ⟨rfl, ?_, r2⟩ .nil
      rw [upd_ne (ne_of eb e (fun z => nomatch z))]
      exact eb
/-! ## list(found.items()), the keys tuples -/
def rItemsLT : V → Hp → VK → Prop := fun x H Q => ∃ (d : Addr) (kvs : List (List Key × V)), x = .ref d ∧ H d = some (.dT kvs) ∧
  ∀ (H' : Hp) (p : Addr) (ts : List Addr), (∀ b o, H b = some o → H' b = some o) → H p = none → H' p = some (.lst (ts.map V.ref)) →
    Paired (fun (t : Addr) (q : List Key × V) => ∃ b, H' t = some (.tup [.ref b, q.2]) ∧ H b = some (.tup (q.1.map kV))) ts kvs → Q (.ref p) H'
def tListItemsT (te : TE) : TE := fun σ H Q => te σ H fun x H1 => rItemsLT x H1 Q
def putX : Hp → List Addr → List (Addr × V) → Hp
  | H, a :: as, p :: kvs => putX (upd H a (.tup [.ref p.1, p.2])) as kvs
  | H, _, _ => H
theorem putX_off {b : Addr} : ∀ (as : List Addr) (kvs : List (Addr × V)) (H : Hp), b ∉ as → putX H as kvs b = H b
  | [], _, _, _ => rfl
  | _ :: _, [], _, _ => rfl
  | a :: as, p :: kvs, H, h => by
    show putX (upd H a (.tup [.ref p.1, p.2])) as kvs b = H b
    rw [putX_off as kvs _ (fun z => h (List.mem_cons_of_mem _ z)), upd_ne (fun z => h (by rw [z]; exact List.mem_cons_self))]
theorem putX_at : ∀ (as : List Addr) (kvs : List (Addr × V)) (H : Hp), as.length = kvs.length → as.Nodup → Paired (fun (t : Addr) (p : Addr × V) => putX H as kvs t = some (.tup [.ref p.1, p.2])) as kvs
  | [], [], _, _, _ => .nil
  | [], _ :: _, _, h, _ => by cases h
  | _ :: _, [], _, h, _ => by cases h
  | a :: as, p :: kvs, H, h, hn => by
    have hn' := List.nodup_cons.mp hn
    have ih := putX_at as kvs (upd H a (.tup [.ref p.1, p.2])) (Nat.succ.inj h) hn'.2
    refine .cons ?_ ih
    show putX (upd H a (.tup [.ref p.1, p.2])) as kvs a = some (.tup [.ref p.1, p.2])
    rw [putX_off as kvs _ hn'.1, upd_same]
section
variable {X : L2.Cx} {e : Expr} {te : TE} {p apos cpos pos : Pos}
theorem itemsT_laid {pins : List (Addr × Obj)} {σ : L2.St} {H : Hp} {s : Shared} {h' : Heap} {tk : Nat} {bvs : List (Addr × V)} {acc : Array Value} {c : Nat} {as : List Addr} (I : Inv X pins σ H s) (hz : bvs.length ≤ sizeLine)
    (hk : ∀ b o, s.heap.get? b = some o → h'.get? b = some o) (hS : h'.get? s.heap.objs.size = some { cls := .type "list", dict := none, data := .seq acc c, slots := #[] }) (hl : as.length = bvs.length)
    (rise : as.Pairwise (· < ·)) (above : ∀ a ∈ as, s.heap.objs.size < a) (pairs : ∀ (j : Nat) (a : Addr), as[j]? = some a → ∀ q, bvs[j]? = some q → ∃ u, RelV q.2 u ∧ h'.get? a = some { cls := .type "tuple", data := .seq #[.ref q.1, u] }) (hacc : acc.toList = as.map Value.ref) :
    ∃ H' : Hp, (∀ b o, H b = some o → H' b = some o) ∧ H s.heap.objs.size = none ∧ H' s.heap.objs.size = some (.lst (as.map V.ref)) ∧ Paired (fun (t : Addr) (q : Addr × V) => H' t = some (.tup [.ref q.1, q.2])) as bvs ∧ Inv X pins σ H' { s with heap := h', toks := tk } := by
  have hSn : s.heap.objs.size ∉ as := fun z => Nat.lt_irrefl _ (above _ z)
  have nd : as.Nodup := List.Pairwise.imp (fun {a b} (h : a < b) => Nat.ne_of_lt h) rise
  have new : ∀ t ∈ as, H t = none := fun t ht => I.hok.fresh (Nat.le_of_lt (above t ht))
  have newS : H s.heap.objs.size = none := I.hok.fresh (Nat.le_refl _)
  have atP := putX_at as bvs (upd H s.heap.objs.size (.lst (as.map V.ref))) hl nd
  have off : ∀ b, b ∉ as → b ≠ s.heap.objs.size → putX (upd H s.heap.objs.size (.lst (as.map V.ref))) as bvs b = H b := fun b h1 h2 => by rw [putX_off as bvs _ h1, upd_ne h2]
  have low : ∀ b o, s.heap.get? b = some o → b ∉ as ∧ b ≠ s.heap.objs.size := fun b o e => ⟨fun z => absurd (Heap.lt_size e) (Nat.not_lt.mpr (Nat.le_of_lt (above b z))), Nat.ne_of_lt (Heap.lt_size e)⟩
  have kp : ∀ b u, H b = some u → (putX (upd H s.heap.objs.size (.lst (as.map V.ref))) as bvs) b = some u := fun b u e => by
    rw [off b (fun z => by rw [new b z] at e; cases e) (fun z => by rw [z, newS] at e; cases e)]
    exact e
  have eS : putX (upd H s.heap.objs.size (.lst (as.map V.ref))) as bvs s.heap.objs.size = some (.lst (as.map V.ref)) := by rw [putX_off as bvs _ hSn, upd_same]
  refine ⟨putX (upd H s.heap.objs.size (.lst (as.map V.ref))) as bvs, kp, newS, eS, atP, ?_⟩
  refine I.call' (ch := []) rfl ⟨fun b o q _ _ _ => hk b o q, fun b o q _ _ _ => ⟨o.slots, hk b o q⟩, fun b o q n _ => ?_, fun b o q _ => ⟨o, hk b o q⟩, fun b xs q => kp b _ q, fun b o u q => kp b _ q, fun b ps q => ⟨#[], by rw [kp b _ q]; simp⟩⟩ (fun b u q => ?_) I.bare fun b z => by simp at z
  · obtain ⟨z1, z2⟩ := low b o q
    rw [off b z1 z2]
    exact n
  · by_cases hb : b ∈ as
    · obtain ⟨j, pk, e1, e2, e3⟩ := LiI.paired_ix atP hb
      rw [e3] at q
      cases q
      obtain ⟨u, f1, f3⟩ := pairs j b e1 pk e2
      exact ⟨by show 2 ≤ sizeLine; decide, [.ref pk.1, u], .cons rfl (.cons f1 .nil), ⟨_, f3, rfl, _, rfl⟩⟩
    · by_cases hb2 : b = s.heap.objs.size
      · rw [hb2] at q ⊢
        rw [eS] at q
        cases q
        refine ⟨by rw [List.length_map]; omega, acc.toList, c, by rw [hacc]; exact LiI.vals_refs as, ?_⟩
        rw [Array.toArray_toList]
        exact hS
      · rw [off b hb hb2] at q
        exact (I.hok b u q).stay (fun d v _ y => hk d v y) (fun d y => kp d _ y) fun d xs y => kp d _ y
theorem paired_to {H : Hp} : ∀ {kvs : List (List Key × V)} {xs : List (List Key × Addr × Value)}, KT H kvs xs → ∃ bvs : List (Addr × V), bvs.length = kvs.length ∧ (∀ (j : Nat) (q : Addr × V), bvs[j]? = some q → ∃ x, xs[j]? = some x ∧ x.2.1 = q.1 ∧ RelV q.2 x.2.2) ∧
    Paired (fun (z : Addr × V) (q : List Key × V) => z.2 = q.2 ∧ H z.1 = some (.tup (q.1.map kV))) bvs kvs
  | [], _, h => ⟨[], rfl, fun j q e => by simp at e, .nil⟩
  | p :: kvs, _, .cons (b := x) h t => by
    obtain ⟨bvs, e1, e2, e3⟩ := paired_to t
    obtain ⟨h1, h2, h3⟩ := h
    refine ⟨(x.2.1, p.2) :: bvs, by rw [List.length_cons, List.length_cons, e1], fun j q e => ?_, .cons ⟨rfl, h2⟩ e3⟩
    cases j with
    | zero => cases e; exact ⟨x, rfl, rfl, h3⟩
    | succ j => exact e2 j q e
theorem paired_comp {α β γ : Type} {F : α → β → Prop} {G : β → γ → Prop} {R : α → γ → Prop} (f : ∀ a b c, F a b → G b c → R a c) : ∀ {as : List α} {bs : List β} {cs : List γ}, Paired F as bs → Paired G bs cs → Paired R as cs
  | _, _, _, .nil, .nil => .nil
  | _, _, _, .cons h t, .cons h' t' => .cons (f _ _ _ h h') (paired_comp f t t')
theorem pe_listItemsT (hc : X.calm = true) (hg : Gl X "list") (hm : X.mg "list" = none) (he : PE X e te) (hv : bootBuiltins "list" = some (.type "list") := by decide +kernel) (hbase : attributeBase e "items" X.env (eval e X.env) = eval e X.env := by rfl) (hline : (apos.endLine == cpos.line) = true := by rfl)
    (hs : starEach [.Call (.Attribute e "items" apos) [] [] cpos] X.env = (false, eval (.Call (.Attribute e "items" apos) [] [] cpos) X.env) :: starEach [] X.env := by rfl) :
    PE X (.Call (.Name "list" p) [.Call (.Attribute e "items" apos) [] [] cpos] [] pos) (tListItemsT te) := by
  refine ⟨fun pins s σ H Q I hq => ?_⟩
  refine wpAny_Call_Name_kw (ld_blt I hg hm hv ?_)
  refine PyProof.Rows.callWith_type1 ?_ hs rfl
  rw [hs]
  show wpAny _ _ (spliced ((false, eval (.Call (.Attribute e "items" apos) [] [] cpos) X.env) :: backTo pos (starEach [] X.env))) _ _ s
  refine Calls.spliced_cons ?_
  refine wpAny_Call_method (T := "dict") (id := "dict.items") hbase rfl hline F.plainAttrs_dict F.slot_dict_items F.type_dict_items (thn (he.run pins s σ H _ I hq) fun u s1 ⟨x, H1, I1, rx, d, kvs, ex, hd, q⟩ => ?_)
  subst ex
  obtain rfl : u = Value.ref d := rx
  obtain ⟨hz, hs0, xs, kt, hdo⟩ := dt_of I1.hok hd
  obtain ⟨o, es, ep, ho, hx, hdt, h4, _, h5⟩ := id hdo
  have raw : s1.heap.DictRaw d es ep := ⟨o, ho, hx, hdt⟩
  have lk : kvs.length = xs.length := Paired.length kt
  have le : es.size = xs.length := size_of_entries h4
  have I2 : Inv X pins σ H1 { s1 with heap := s1.heap.push { cls := .type "dict_items", data := .fields #[.ref d] } } := I1.kept (t' := s1.toks) fun b ob q => Heap.get?_push_of_some _ q
  refine ⟨hdo.typeIs, fun b q => by cases q; exact ⟨o, ho, hx.2.1⟩, ?_⟩
  show wpAny _ _ (callWith cpos (.builtin "dict.items") [.ref d] [] []) _ X.xe s1
  refine method_meetsIn F.slot_dict_items F.entry_dict_items rfl (PySem.evalArgs_none ⟨rfl, hdo.typeIs, F.args_dict_items_1 _, _, meets_dict_items_raw d hs0, ⟨es, ep, raw⟩, ?_⟩)
  refine Calls.spliced_nil ?_
  refine PySem.W.dil_call (es := es) (ep := ep) (I1.ok.hd hc) ⟨_, Heap.get?_push_size _ rfl, rfl, rfl⟩ (raw.at fun o e => Heap.get?_push_of_some _ e) (by omega) fun h' tk acc c as hk hS hl hG hacc => ?_
  obtain ⟨bvs, lb, g1, g2⟩ := paired_to kt
  obtain ⟨H', k1, k2, k5, k6, J⟩ := itemsT_laid (tk := tk) (bvs := bvs) I2 (by omega) hk hS (by omega) hG.rise hG.above (fun j a ea q eq => by
    obtain ⟨hj, e3⟩ := hG.pairs j a ea
    obtain ⟨x, ex, e4, e5⟩ := g1 j q eq
    have en := entry_at h4 j
    rw [ex, Array.getElem?_eq_getElem hj] at en
    cases en2 : es[j] with
    | mk hh kk vv =>
      rw [en2] at en e3
      cases en
      refine ⟨x.2.2, e5, ?_⟩
      rw [← e4]
      exact e3) hacc
  exact ⟨.ref _, H', J, rfl, q H' _ as k1 k2 k5 (paired_comp (fun t z qq h1 h2 => ⟨z.1, by rw [← h2.1]; exact h1, h2.2⟩) k6 g2)⟩
end
/-! ## for .. in found.items(), the keys tuples, the dict locked -/
def ItiT (d : Addr) (o : Obj) (kvs : List (List Key × V)) : It :=
  ⟨fun i H => H d = some (.frz o (.dT kvs)) ∧ i < kvs.length, fun i H x H' => ∃ T b k v, kvs[i]? = some (k, v) ∧ x = .ref T ∧ H b = some (.tup (k.map kV)) ∧ H T = none ∧ H' = upd H T (.tup [.ref b, v]), fun i H => H d = some (.frz o (.dT kvs)) ∧ kvs.length ≤ i⟩
section
variable {X : L2.Cx} {pins : List (Addr × Obj)} {σ : L2.St} {H : Hp} {s : Shared} {d : Addr} {o : Obj}
theorem frzT2 {kvs : List (List Key × V)} (I : Inv X pins σ H s) (h : H d = some (.frz o (.dT kvs))) :
    (d == sysModules) = false ∧ s.heap.get? d = some o ∧ o.ExactDict ∧ ∃ (es : Array DictEntry) (ep : Nat), o.data = .dict es ep ∧ es.size = kvs.length ∧
      ∀ (i : Nat) (k : List Key) (v : V), kvs[i]? = some (k, v) → ∃ (en : DictEntry) (q : Addr), es[i]? = some en ∧ en.key = .ref q ∧ H q = some (.tup (k.map kV)) ∧ RelV v en.val := by
  obtain ⟨hd, z, hs, xs, pr, o', es, ep, ho, hx, hdt, he, _⟩ := I.hok d _ h
  rw [hd] at ho
  cases ho
  refine ⟨hs, hd, hx, es, ep, hdt, ?_, fun i k v e => ?_⟩
  · have l1 : es.size = xs.length := size_of_entries he
    have l2 : kvs.length = xs.length := Paired.length pr
    omega
  · obtain ⟨b, hb, e1, e2, e3⟩ := L2.paired_get pr e
    have q := entry_at he i
    rw [hb] at q
    exact ⟨_, b.2.1, q, rfl, e2, e3⟩
end
section
variable {P : Program} {w : World} {K : PySem.W.Frag} {d : Addr} {o : Obj} {es : Array DictEntry} {ep : Nat}
theorem turn_itemsT {kvs : List (List Key × V)} {elts : List Expr} {kk : Nat} {tpos : Pos} (it : Addr) (hod : o.data = .dict es ep) :
    Turn P w K (.Tuple elts kk tpos) (ItiT d o kvs) [it] it (fun i h => ∃ ok ov, IsItemIter h it d i kvs.length ep ok ov) where
  mem := by simp
  obj := fun i h st b hb => by
    have e : b = it := by simpa using hb
    subst e
    obtain ⟨ok, ov, e⟩ := st
    exact ⟨_, e, fun v z => nomatch z⟩
  keep := fun i h h' st k => let ⟨ok, ov, e⟩ := st; ⟨ok, ov, k it (by simp) _ e⟩
  item := by
    intro X hP hw hK hc i pins s σ H E I hf st hg
    subst hP hw hK
    obtain ⟨hd, hi⟩ := hg
    obtain ⟨hs, hgd, hx, es', ep', hdt, hsz, ent⟩ := frzT2 I hd
    obtain ⟨rfl, rfl⟩ := dict_ep hod hdt
    obtain ⟨⟨k, v⟩, hkv⟩ : ∃ p, kvs[i]? = some p := ⟨kvs[i], List.getElem?_eq_getElem hi⟩
    obtain ⟨en, q, hen, hkey, hq, ru⟩ := ent i k v hkv
    obtain ⟨ok, ov, he⟩ := st
    rw [← hsz] at he
    have hlt : it < s.heap.objs.size := Heap.lt_size he
    obtain ⟨hi2, een⟩ := Array.getElem?_eq_some_iff.mp hen
    refine wpAny_pyNext_items_item_raw he ⟨o, hgd, hx, hdt⟩ hi2 fun h' ho hT hz hk => ?_
    rw [een, hkey] at ho hT
    refine ⟨_, rfl, wpAny_letOwnedTupleGo_items (s := { s with heap := h' }) ho fun h'' he' sb => ?_⟩
    have hT2 : h''.get? s.heap.objs.size = some { cls := .type "tuple", data := .seq #[.ref q, en.val] } := (sb.2 _ (Nat.ne_of_gt hlt)).trans hT
    have new : ObjOk X.prog X.w (upd H s.heap.objs.size (.tup [.ref q, v])) h'' s.heap.objs.size (.tup [.ref q, v]) :=
      ⟨by show 2 ≤ sizeLine; decide, [.ref q, en.val], .cons rfl (.cons ru .nil), ⟨_, hT2, rfl, _, rfl⟩⟩
    have I1 : Inv X pins σ (upd H s.heap.objs.size (.tup [.ref q, v])) { s with heap := h'' } :=
      I.turnedNew (t' := s.toks) (ch := [it]) (fun b ob hb e => (sb.2 b (by simpa using hb)).trans (hk b ob (by simpa using hb) e)) hf (Nat.le_refl _) new
    refine ⟨.ref s.heap.objs.size, _, I1, rfl, ⟨_, q, k, v, hkv, rfl, hq, I.hok.fresh (Nat.le_refl _), rfl⟩, ⟨.ref q, en.val, ?_⟩, fun b hb => ?_⟩
    · rw [← hsz]; exact he'
    · have e : b = it := by simpa using hb
      rw [e, upd_ne (Nat.ne_of_lt hlt)]
      exact (hf it (by simp)).1
  done := by
    intro X hP hw hK hc i pins s σ H E I hf st hg
    subst hP hw hK
    obtain ⟨hd, hi⟩ := hg
    obtain ⟨f0, f1, f2, f3, f4, f5⟩ := hf it (by simp)
    obtain ⟨hs, hgd, hx, es', ep', hdt, hsz, ent⟩ := frzT2 I hd
    obtain ⟨rfl, rfl⟩ := dict_ep hod hdt
    obtain ⟨ok, ov, he⟩ := st
    rw [← hsz] at he
    exact wpAny_pyNext_items_end_raw (I.ok.hd hc) he ⟨o, hgd, hx, hdt⟩ (by omega) fun h' eb => ⟨rfl, I.turned (t' := s.toks) (fun b ob hb e => eb b ob hb e) f0 f1 f3 f4 f5⟩
  self := fun A i s Q E st h => let ⟨_, _, e⟩ := st; PySem.W.kcp_self e h
end
def iItemsT (td : TE) : TI := fun σ H R => td σ H fun x H1 => ∃ d o kvs, x = .ref d ∧ H1 d = some (.frz o (.dT kvs)) ∧ R (ItiT d o kvs) H1
section
variable {X : L2.Cx} {e : Expr} {td : TE} {apos cpos : Pos}
theorem pi_itemsT {elts : List Expr} {kk : Nat} {tpos : Pos} (he : PE X e td) (hbase : attributeBase e "items" X.env (eval e X.env) = eval e X.env := by rfl) (hline : (apos.endLine == cpos.line) = true := by rfl) :
    PI X (.Tuple elts kk tpos) (.Call (.Attribute e "items" apos) [] [] cpos) (iItemsT td) := by
  refine ⟨fun pins s σ H R I h => ?_⟩
  refine wpAny_Call_method (T := "dict") (id := "dict.items") hbase rfl hline F.plainAttrs_dict F.slot_dict_items F.type_dict_items (thn (he.run pins s σ H _ I h) fun u s1 ⟨x, H1, I1, rx, d, o, kvs, ex, hd, q⟩ => ?_)
  subst ex
  obtain rfl : u = Value.ref d := rx
  obtain ⟨hs, hgd, hx, es, ep, hdt, hsz, ent⟩ := frzT2 I1 hd
  have raw : s1.heap.DictRaw d es ep := ⟨o, hgd, hx, hdt⟩
  refine ⟨raw.typeIs, fun b q => by cases q; exact ⟨o, hgd, hx.2.1⟩, ?_⟩
  have I2 : Inv X pins σ H1 { s1 with heap := s1.heap.push { cls := .type "dict_items", data := .fields #[.ref d] } } := I1.kept (t' := s1.toks) fun b ob q => Heap.get?_push_of_some _ q
  have fin : wpAny (model X.prog X.w) X.A (pyIter (.ref s1.heap.objs.size)) (PIE X pins σ (.Tuple elts kk tpos) R) X.xe { s1 with heap := s1.heap.push { cls := .type "dict_items", data := .fields #[.ref d] } } := by
    refine wpAny_pyIter_items_raw (d := d) ⟨_, Heap.get?_push_size _ rfl, rfl, rfl⟩ (raw.at fun o e => Heap.get?_push_of_some _ e) (pi_one (tk := s1.toks) I2 _ (turn_itemsT _ hdt) ⟨.none, .none, ?_⟩ q)
    rw [← hsz]
    exact Heap.get?_push_size _ rfl
  show wpAny _ _ (callWith cpos (.builtin "dict.items") [.ref d] [] []) _ X.xe s1
  exact method_meetsIn F.slot_dict_items F.entry_dict_items rfl (PySem.evalArgs_none ⟨rfl, raw.typeIs, F.args_dict_items_1 _, _, meets_dict_items_raw d hs, ⟨es, ep, raw⟩, fin⟩)
end
end Sr
set_option Elab.async false
set_option linter.all false
set_option maxRecDepth 100000
set_option maxHeartbeats 4000000
/-! # list(zip(a, b)) of two lists; set(list) -/
namespace Sr
open PySem PySem.Spec PyProof.Rows L2
/-! ## a list of new pairs, as the abstract heap has it -/
def putP : Hp → List Addr → List (V × V) → Hp
  | H, a :: as, p :: kvs => putP (upd H a (.tup [p.1, p.2])) as kvs
  | H, _, _ => H
theorem putP_off {b : Addr} : ∀ (as : List Addr) (kvs : List (V × V)) (H : Hp), b ∉ as → putP H as kvs b = H b
  | [], _, _, _ => rfl
  | _ :: _, [], _, _ => rfl
  | a :: as, p :: kvs, H, h => by
    show putP (upd H a (.tup [p.1, p.2])) as kvs b = H b
    rw [putP_off as kvs _ (fun z => h (List.mem_cons_of_mem _ z)), upd_ne (fun z => h (by rw [z]; exact List.mem_cons_self))]
theorem putP_at : ∀ (as : List Addr) (kvs : List (V × V)) (H : Hp), as.length = kvs.length → as.Nodup → Paired (fun (t : Addr) (p : V × V) => putP H as kvs t = some (.tup [p.1, p.2])) as kvs
  | [], [], _, _, _ => .nil
  | [], _ :: _, _, h, _ => by cases h
  | _ :: _, [], _, h, _ => by cases h
  | a :: as, p :: kvs, H, h, hn => by
    have hn' := List.nodup_cons.mp hn
    have ih := putP_at as kvs (upd H a (.tup [p.1, p.2])) (Nat.succ.inj h) hn'.2
    refine .cons ?_ ih
    show putP (upd H a (.tup [p.1, p.2])) as kvs a = some (.tup [p.1, p.2])
    rw [putP_off as kvs _ hn'.1, upd_same]
theorem pairs_laid {X : L2.Cx} {pins : List (Addr × Obj)} {σ : L2.St} {H : Hp} {s : Shared} {h' : Heap} {tk : Nat} {bvs : List (V × V)} {acc : Array Value} {c : Nat} {as : List Addr} {S : Addr} (I : Inv X pins σ H s) (hz : bvs.length ≤ sizeLine) (hSl : s.heap.objs.size ≤ S)
    (hk : ∀ b o, s.heap.get? b = some o → h'.get? b = some o) (hS : h'.get? S = some { cls := .type "list", dict := none, data := .seq acc c, slots := #[] }) (hl : as.length = bvs.length)
    (rise : as.Pairwise (· < ·)) (above : ∀ a ∈ as, S < a) (pairs : ∀ (j : Nat) (a : Addr), as[j]? = some a → ∀ q, bvs[j]? = some q → ∃ u u2, RelV q.1 u ∧ RelV q.2 u2 ∧ h'.get? a = some { cls := .type "tuple", data := .seq #[u, u2] }) (hacc : acc.toList = as.map Value.ref) :
    ∃ H' : Hp, (∀ b o, H b = some o → H' b = some o) ∧ H S = none ∧ H' S = some (.lst (as.map V.ref)) ∧ Paired (fun (t : Addr) (q : V × V) => H' t = some (.tup [q.1, q.2])) as bvs ∧ Inv X pins σ H' { s with heap := h', toks := tk } := by
  have hSn : S ∉ as := fun z => Nat.lt_irrefl _ (above _ z)
  have nd : as.Nodup := List.Pairwise.imp (fun {a b} (h : a < b) => Nat.ne_of_lt h) rise
  have new : ∀ t ∈ as, H t = none := fun t ht => I.hok.fresh (Nat.le_trans hSl (Nat.le_of_lt (above t ht)))
  have newS : H S = none := I.hok.fresh hSl
  have atP := putP_at as bvs (upd H S (.lst (as.map V.ref))) hl nd
  have off : ∀ b, b ∉ as → b ≠ S → putP (upd H S (.lst (as.map V.ref))) as bvs b = H b := fun b h1 h2 => by rw [putP_off as bvs _ h1, upd_ne h2]
  have low : ∀ b o, s.heap.get? b = some o → b ∉ as ∧ b ≠ S := fun b o e => ⟨fun z => absurd (Heap.lt_size e) (Nat.not_lt.mpr (Nat.le_trans hSl (Nat.le_of_lt (above b z)))), Nat.ne_of_lt (Nat.lt_of_lt_of_le (Heap.lt_size e) hSl)⟩
  have kp : ∀ b u, H b = some u → (putP (upd H S (.lst (as.map V.ref))) as bvs) b = some u := fun b u e => by
    rw [off b (fun z => by rw [new b z] at e; cases e) (fun z => by rw [z, newS] at e; cases e)]
    exact e
  have eS : putP (upd H S (.lst (as.map V.ref))) as bvs S = some (.lst (as.map V.ref)) := by rw [putP_off as bvs _ hSn, upd_same]
  refine ⟨putP (upd H S (.lst (as.map V.ref))) as bvs, kp, newS, eS, atP, ?_⟩
  refine I.call' (ch := []) rfl ⟨fun b o q _ _ _ => hk b o q, fun b o q _ _ _ => ⟨o.slots, hk b o q⟩, fun b o q n _ => ?_, fun b o q _ => ⟨o, hk b o q⟩, fun b xs q => kp b _ q, fun b o u q => kp b _ q, fun b ps q => ⟨#[], by rw [kp b _ q]; simp⟩⟩ (fun b u q => ?_) I.bare fun b z => by simp at z
  · obtain ⟨z1, z2⟩ := low b o q
    rw [off b z1 z2]
    exact n
  · by_cases hb : b ∈ as
    · obtain ⟨j, pk, e1, e2, e3⟩ := LiI.paired_ix atP hb
      rw [e3] at q
      cases q
      obtain ⟨u, u2, f1, f2, f3⟩ := pairs j b e1 pk e2
      exact ⟨by show 2 ≤ sizeLine; decide, [u, u2], .cons f1 (.cons f2 .nil), ⟨_, f3, rfl, _, rfl⟩⟩
    · by_cases hb2 : b = S
      · rw [hb2] at q ⊢
        rw [eS] at q
        cases q
        refine ⟨by rw [List.length_map]; omega, acc.toList, c, by rw [hacc]; exact LiI.vals_refs as, ?_⟩
        rw [Array.toArray_toList]
        exact hS
      · rw [off b hb hb2] at q
        exact (I.hok b u q).stay (fun d v _ y => hk d v y) (fun d y => kp d _ y) fun d xs y => kp d _ y
/-! ## the loop -/
theorem zip_no_len : typeLookup (.type "zip") "__len__" = pure none := am_miss_of_fast (by decide +kernel)
theorem zip_no_hint : typeLookup (.type "zip") "__length_hint__" = pure none := am_miss_of_fast (by decide +kernel)
structure ZG (xs ys : Array Value) (lo : Addr) (h : Heap) (as : List Addr) : Prop where
  rise : as.Pairwise (· < ·)
  above : ∀ a ∈ as, lo < a
  pairs : ∀ (j : Nat) (a : Addr), as[j]? = some a → ∃ x y, xs[j]? = some x ∧ ys[j]? = some y ∧ IsPair h a x y
def ZSt (N l1 l2 : Addr) (xs ys : Array Value) (S : Addr) (i : Nat) (h : Heap) : Prop :=
  IsPair h (N + 2) (.ref N) (.ref (N + 1)) ∧ h.IsListIter N l1 i ∧ h.IsListIter (N + 1) l2 i ∧ h.IsList l1 xs ∧ h.IsList l2 ys ∧
    ((IsZip h (N + 4) (N + 2) (N + 3) .none ∧ ∃ a b, IsPair h (N + 3) a b) ∨ ∃ T f oT, IsZipHeld h (N + 4) (N + 2) (N + 3) T f ∧ h.get? T = some oT ∧ T ≠ N + 4 ∧ T ≠ N ∧ T ≠ N + 1 ∧ T ≠ S)
theorem ZSt.frame {N l1 l2 : Addr} {xs ys : Array Value} {S : Addr} {i : Nat} {h h' : Heap} (st : ZSt N l1 l2 xs ys S i h) (hS : N + 4 < S) (hl1 : l1 ≠ S) (hl2 : l2 ≠ S) (hk : ∀ b o, b ≠ S → h.get? b = some o → h'.get? b = some o) : ZSt N l1 l2 xs ys S i h' := by
  obtain ⟨hTI, h1, h2, p1, p2, hz⟩ := st
  have ne : ∀ k : Nat, k ≤ 4 → N + k ≠ S := fun k hk => Nat.ne_of_lt (Nat.lt_of_le_of_lt (Nat.add_le_add_left hk N) hS)
  refine ⟨hk _ _ (ne 2 (by decide)) hTI, h1.at fun o e => hk _ o (ne 0 (by decide)) e, h2.at fun o e => hk _ o (ne 1 (by decide)) e, p1.at fun o e => hk _ o hl1 e, p2.at fun o e => hk _ o hl2 e, ?_⟩
  rcases hz with ⟨hz, a, b, hTO⟩ | ⟨T, f, oT, hz, hT, r1, r2, r3, r4⟩
  · exact .inl ⟨hk _ _ (ne 4 (by decide)) hz, a, b, hk _ _ (ne 3 (by decide)) hTO⟩
  · exact .inr ⟨T, f, oT, hk _ _ (ne 4 (by decide)) hz, hk _ _ r4 hT, r1, r2, r3, r4⟩
section
variable {prog : Program} {w : World} {A : Around} {E : Value → Shared → Prop} {s : Shared} {N l1 l2 S : Addr} {xs ys : Array Value}
theorem zil_item {i : Nat} {x y : Value} {Q : Option Value → Shared → Prop} (D : ZipApart (N + 4) (N + 2) (N + 3) N (N + 1) l1 l2) (hst : ZSt N l1 l2 xs ys S i s.heap) (hS : S < s.heap.objs.size) (ex : xs[i]? = some x) (ey : ys[i]? = some y)
    (hQ : ∀ h', ZSt N l1 l2 xs ys S (i + 1) h' → IsPair h' s.heap.objs.size x y → h'.objs.size = s.heap.objs.size + 1 →
      (∀ b o, b ≠ N + 4 → b ≠ N + 3 → b ≠ N → b ≠ N + 1 → s.heap.get? b = some o → h'.get? b = some o) → Q (some (.ref s.heap.objs.size)) { s with heap := h' }) :
    wpAny (model prog w) A (pyNext (.ref (N + 4))) Q E s := by
  obtain ⟨hTI, h1, h2, hl1, hl2, hz⟩ := hst
  have lt : ∀ {c o}, s.heap.get? c = some o → s.heap.objs.size ≠ c := fun e => Nat.ne_of_gt (Heap.lt_size e)
  have n1 : s.heap.objs.size ≠ N := let ⟨_, e, _⟩ := h1; lt e
  have n2 : s.heap.objs.size ≠ N + 1 := let ⟨_, e, _⟩ := h2; lt e
  rcases hz with ⟨hz, a, b, hTO⟩ | ⟨T, f, oT, hz, hT, r1, r2, r3, r4⟩
  · refine wpAny_pyNext_zip_item D hz hTI hTO h1 h2 hl1 hl2 ex ey fun h' a1 a2 a3 a4 a5 a6 hk => ?_
    exact hQ h' ⟨hk _ _ D.TIz D.TITO D.TIi1 D.TIi2 hTI, a3, a4, hl1.at fun o e => hk _ o D.l1z D.l1TO D.l1i1 D.l1i2 e, hl2.at fun o e => hk _ o D.l2z D.l2TO D.l2i1 D.l2i2 e,
        .inr ⟨s.heap.objs.size, false, _, a1, a5, lt hz, n1, n2, Nat.ne_of_gt hS⟩⟩ a5 a6 fun c o c1 c2 c3 c4 e => hk c o c1 c2 c3 c4 e
  · refine wpAny_pyNext_zip_item_held D hz hT hTI h1 h2 hl1 hl2 ex ey fun h' a1 a3 a4 a5 a6 hk => ?_
    exact hQ h' ⟨hk _ _ D.TIz D.TIi1 D.TIi2 hTI, a3, a4, hl1.at fun o e => hk _ o D.l1z D.l1i1 D.l1i2 e, hl2.at fun o e => hk _ o D.l2z D.l2i1 D.l2i2 e,
        .inr ⟨T, true, oT, a1, hk _ _ r1 r2 r3 hT, r1, r2, r3, r4⟩⟩ a5 a6 fun c o c1 c2 c3 c4 e => hk c o c1 c3 c4 e
theorem zil_done {i : Nat} {Q : Option Value → Shared → Prop} (hh : A.handled = none) (D : ZipApart (N + 4) (N + 2) (N + 3) N (N + 1) l1 l2) (hst : ZSt N l1 l2 xs ys S i s.heap) (hend : xs[i]? = none ∨ ys[i]? = none)
    (hQ : ∀ h', (∀ b o, b ≠ N + 4 → b ≠ N + 3 → b ≠ N → b ≠ N + 1 → s.heap.get? b = some o → h'.get? b = some o) → Q none { s with heap := h' }) :
    wpAny (model prog w) A (pyNext (.ref (N + 4))) Q E s := by
  obtain ⟨hTI, h1, h2, hl1, hl2, hz⟩ := hst
  rcases hz with ⟨hz, a, b, hTO⟩ | ⟨T, f, oT, hz, hT, r1, r2, r3, r4⟩
  · exact wpAny_pyNext_zip_end hh D hz hTI hTO h1 h2 hl1 hl2 hend fun h' hk => hQ h' fun c o c1 c2 c3 c4 e => hk c o c1 c2 c3 c4 e
  · exact wpAny_pyNext_zip_end_held hh D hz hT hTI h1 h2 hl1 hl2 hend fun h' hk => hQ h' fun c o c1 c2 c3 c4 e => hk c o c1 c3 c4 e
end
section
variable {prog : Program} {w : World} {A : Around} {s : Shared} {R : Result → Shared → Prop} {N l1 l2 S : Addr} {xs ys : Array Value}
theorem zil_loop (hh : A.handled = none) (D : ZipApart (N + 4) (N + 2) (N + 3) N (N + 1) l1 l2) (hNS : N + 4 < S) (hl1 : l1 ≠ S) (hl2 : l2 ≠ S) (heq : xs.size = ys.size) (hn : xs.size ≤ sizeLine) (res : Value) {h₁ : Heap}
    (hR : ∀ h' tk acc c as, (∀ b o, b ≠ S → b ≠ N + 4 → b ≠ N + 3 → b ≠ N → b ≠ N + 1 → h₁.get? b = some o → h'.get? b = some o) → h'.get? S = some { cls := .type "list", dict := none, data := .seq acc c, slots := #[] } → as.length = xs.size → ZG xs ys S h' as →
      acc.toList = as.map Value.ref → R (.ok (.ret res)) { s with heap := h', toks := tk }) :
    ∀ (k i : Nat) (h : Heap) (tk c : Nat) (acc : Array Value) (as : List Addr), xs.size - i = k → i ≤ xs.size → ZSt N l1 l2 xs ys S i h → (∀ b o, b ≠ S → b ≠ N + 4 → b ≠ N + 3 → b ≠ N → b ≠ N + 1 → h₁.get? b = some o → h.get? b = some o) →
      h.get? S = some { cls := .type "list", dict := none, data := .seq acc c, slots := #[] } → acc.toList = as.map Value.ref → as.length = i → ZG xs ys S h as → S < h.objs.size →
      codeAny (model prog w) A (.builtin "list.extend.loop" ⟨[.ref S, .ref (N + 4), res], []⟩) R { s with heap := h, toks := tk } := by
  have ne : ∀ k : Nat, k ≤ 4 → S ≠ N + k := fun k hk => Nat.ne_of_gt (Nat.lt_of_le_of_lt (Nat.add_le_add_left hk N) hNS)
  have far : ∀ b, S < b → b ≠ N + 4 ∧ b ≠ N + 3 ∧ b ≠ N ∧ b ≠ N + 1 := fun b hb => ⟨Nat.ne_of_gt (Nat.lt_trans hNS hb), Nat.ne_of_gt (Nat.lt_trans (Nat.lt_trans (Nat.lt_succ_self _) hNS) hb),
    Nat.ne_of_gt (Nat.lt_trans (Nat.lt_of_le_of_lt (Nat.le_add_right N 4) hNS) hb), Nat.ne_of_gt (Nat.lt_trans (Nat.lt_of_le_of_lt (Nat.add_le_add_left (by omega) N) hNS) hb)⟩
  intro k
  induction k with
  | zero =>
    intro i h tk c acc as hk hi hst hkeep hS hacc hal hG hIs
    have hin : i = xs.size := by omega
    refine codeAny_builtin PySem.F.entry_extend_loop ?_
    rw [Around.under_plainId PySem.F.plain_extend_loop _]
    show wpAny _ A.in1 (pyNext (.ref (N + 4)) >>= _) _ _ _
    refine wpAny_bind (zil_done (s := { s with heap := h, toks := tk }) (A := A.in1) hh D hst (.inl (Array.getElem?_eq_none (by omega))) fun h' he => ?_)
    refine wpAny_pure (hR h' tk acc c as (fun b o h1 h2 h3 h4 h5 e => he b o h2 h3 h4 h5 (hkeep b o h1 h2 h3 h4 h5 e)) (he S _ (ne 4 (by decide)) (ne 3 (by decide)) (ne 0 (by decide)) (ne 1 (by decide)) hS) (by omega) ⟨hG.rise, hG.above, fun j a hj => ?_⟩ hacc)
    obtain ⟨x, y, e1, e2, e3⟩ := hG.pairs j a hj
    obtain ⟨f1, f2, f3, f4⟩ := far a (hG.above a (List.mem_of_getElem? hj))
    exact ⟨x, y, e1, e2, he a _ f1 f2 f3 f4 e3⟩
  | succ k ih =>
    intro i h tk c acc as hk hi hst hkeep hS hacc hal hG hIs
    have hlt : i < xs.size := by omega
    have hsz : acc.size = i := by rw [← Array.length_toList, hacc, List.length_map, hal]
    have ex := Array.getElem?_eq_getElem hlt
    have ey := Array.getElem?_eq_getElem (show i < ys.size by omega)
    refine codeAny_builtin PySem.F.entry_extend_loop ?_
    rw [Around.under_plainId PySem.F.plain_extend_loop _]
    show wpAny _ A.in1 (pyNext (.ref (N + 4)) >>= _) _ _ _
    refine wpAny_bind (zil_item (s := { s with heap := h, toks := tk }) (S := S) D hst hIs ex ey fun h' hst' ht hz hkp => ?_)
    dsimp only at ht hz hkp ⊢
    have hS' := hkp S _ (ne 4 (by decide)) (ne 3 (by decide)) (ne 0 (by decide)) (ne 1 (by decide)) hS
    have up : ∀ b o, b ≠ S → h'.get? b = some o → (h'.update S (Obj.mapSeq (·.push (Value.ref h.objs.size)))).get? b = some o := fun b o hb e => (Heap.get?_update_other _ _ (Ne.symm hb)).trans e
    have hSl : S < h.objs.size := Heap.lt_size hS
    show wpAny _ A.in1 (updateSeq S (·.push (Value.ref h.objs.size)) >>= _) _ _ _
    refine wpAny_bind ?_
    refine wpAny_updateSeq hS' rfl (wpAny_pure ⟨plainId_quiet PySem.F.plain_extend_loop _, ih (i + 1) _ tk _ (acc.push (Value.ref h.objs.size)) (as ++ [h.objs.size]) (by omega) hlt (hst'.frame hNS hl1 hl2 up)
      (fun b o h1 h2 h3 h4 h5 e => up b o h1 (hkp b o h2 h3 h4 h5 (hkeep b o h1 h2 h3 h4 h5 e))) (Heap.get?_update_self _ hS' rfl) (by rw [Array.toList_push, hacc, List.map_append]; rfl) (by rw [List.length_append, hal]; rfl) ⟨?_, ?_, ?_⟩ ?_⟩) (by rw [hsz]; omega) (by show (acc.push (Value.ref h.objs.size)).size ≤ sizeLine + 1; rw [Array.size_push, hsz]; omega)
    · refine List.pairwise_append.mpr ⟨hG.rise, List.pairwise_singleton _ _, fun a ha b hb => ?_⟩
      rw [List.mem_singleton.mp hb]
      obtain ⟨j, hj⟩ := List.mem_iff_getElem?.mp ha
      obtain ⟨x, y, e1, e2, e3⟩ := hG.pairs j a hj
      exact Heap.lt_size e3
    · intro a ha
      rcases List.mem_append.mp ha with ha | ha
      · exact hG.above a ha
      · rw [List.mem_singleton.mp ha]; exact hIs
    · intro j b hj
      rcases Nat.lt_trichotomy j as.length with h1 | h1 | h1
      · rw [List.getElem?_append_left h1] at hj
        obtain ⟨x, y, e1, e2, e3⟩ := hG.pairs j b hj
        have hb := hG.above b (List.mem_of_getElem? hj)
        obtain ⟨f1, f2, f3, f4⟩ := far b hb
        exact ⟨x, y, e1, e2, up b _ (Nat.ne_of_gt hb) (hkp b _ f1 f2 f3 f4 e3)⟩
      · subst h1
        have hb : h.objs.size = b := by simpa using hj
        subst hb
        exact ⟨_, _, by rw [hal]; exact ex, by rw [hal]; exact ey, up _ _ (Nat.ne_of_gt hSl) ht⟩
      · have hnone : (as ++ [h.objs.size])[j]? = none := List.getElem?_eq_none (by rw [List.length_append, List.length_singleton]; omega)
        rw [hnone] at hj; cases hj
    · have e : (h'.update S (Obj.mapSeq (·.push (Value.ref h.objs.size)))).get? h.objs.size = _ := up _ _ (Nat.ne_of_gt hSl) ht
      exact Nat.lt_trans hIs (Heap.lt_size e)
end
section
variable {prog : Program} {w : World} {A : Around} {E : Value → Shared → Prop} {s : Shared} {N l1 l2 : Addr} {xs ys : Array Value}
theorem zil_extend {S : Addr} {R : Result → Shared → Prop} (hh : A.handled = none) (D : ZipApart (N + 4) (N + 2) (N + 3) N (N + 1) l1 l2) (hNS : N + 4 < S) (hl1 : l1 ≠ S) (hl2 : l2 ≠ S) (heq : xs.size = ys.size) (hn : xs.size ≤ sizeLine) (hst : ZSt N l1 l2 xs ys S 0 s.heap) (hz0 : IsZip s.heap (N + 4) (N + 2) (N + 3) .none) (res : Value) (c₀ : Nat) (hS : s.heap.get? S = some { cls := .type "list", data := .seq #[] c₀ })
    (hR : ∀ h' tk acc c as, (∀ b o, b ≠ S → b ≠ N + 4 → b ≠ N + 3 → b ≠ N → b ≠ N + 1 → s.heap.get? b = some o → h'.get? b = some o) → h'.get? S = some { cls := .type "list", dict := none, data := .seq acc c, slots := #[] } → as.length = xs.size → ZG xs ys S h' as →
      acc.toList = as.map Value.ref → R (.ok (.ret res)) { s with heap := h', toks := tk }) :
    wpAny (model prog w) A.in1 (Builtin.List.listExtendWith (.ref S) (.ref (N + 4)) res)
      (fun fin s' => match fin with | .done f => R (.ok f) s' | .again c' => c'.quiet = true ∧ codeAny (model prog w) A c' R s') (fun e s' => R (.error e) s') s := by
  have hT : s.TypeIs (.ref (N + 4)) "zip" := ⟨_, hz0, rfl⟩
  have key : ∀ (h : Heap) (c₁ tk : Nat), (∀ b o, b ≠ S → s.heap.get? b = some o → h.get? b = some o) →
      h.get? S = some { cls := .type "list", data := .seq #[] c₁ } → codeAny (model prog w) A (.builtin "list.extend.loop" ⟨[.ref S, .ref (N + 4), res], []⟩) R { s with heap := h, toks := tk } := by
    intro h c₁ tk hk hS₁
    refine zil_loop (s := s) (h₁ := s.heap) hh D hNS hl1 hl2 heq hn res hR xs.size 0 h tk c₁ #[] [] (Nat.sub_zero _) (Nat.zero_le _) (hst.frame hNS hl1 hl2 hk) (fun b o hb _ _ _ _ e => hk b o hb e) hS₁ rfl rfl
      ⟨List.Pairwise.nil, (fun _ ha => nomatch ha), (fun j a hj => by simp at hj)⟩ (Heap.lt_size hS₁)
  unfold Builtin.List.listExtendWith
  refine wpAny_bind (wpAny_typeOf hT ?_)
  have h1 : Builtin.List.listSameRef (.ref S) (.ref (N + 4)) = false := by simp [Builtin.List.listSameRef, Nat.ne_of_gt hNS]
  have h2 : (Value.type "zip" == Value.type "list") = false := by decide
  have h3 : (Value.type "zip" == Value.type "tuple") = false := by decide
  simp only [h1, h2, h3, Bool.or_false, Bool.false_eq_true, if_false]
  refine wpAny_bind (wpAny_pyIter_zip hz0 ?_)
  refine wpAny_bind (wpAny_holding ?_)
  unfold Builtin.List.listLengthHint
  refine wpAny_bind (wpAny_specialOf hT zip_no_len ?_)
  show wpAny _ A.in1 (specialOf (Value.ref (N + 4)) (Str.ofString "__length_hint__") >>= _) _ _ _
  refine wpAny_bind (wpAny_specialOf hT zip_no_hint ?_)
  refine wpAny_pure ?_
  show wpAny _ A.in1 (rule "list.extend.makes-room" >>= fun _ => Builtin.List.listTouch (.ref S) >>= fun _ =>
    again (.builtin "list.extend.loop" ⟨[.ref S, .ref (N + 4), res], []⟩)) _ _ _
  refine wpAny_bind (wpAny_rule ?_)
  refine wpAny_bind ?_
  show wpAny _ A.in1 (updateSeq S (·.push .none) >>= fun _ => updateSeq S (·.pop)) _ _ _
  refine wpAny_bind (wpAny_updateSeq hS rfl ?_)
  have hS₂ := Heap.get?_update_self (Obj.mapSeq (·.push Value.none)) hS rfl
  refine wpAny_updateSeq (hz := by seq_fits) hS₂ rfl ?_
  have hS₃ := Heap.get?_update_self (Obj.mapSeq (·.pop)) hS₂ rfl
  refine wpAny_pure ⟨plainId_quiet PySem.F.plain_extend_loop _, key _ _ _ (fun b o hb e => ?_) hS₃⟩
  exact (Heap.get?_update_other _ _ (Ne.symm hb)).trans ((Heap.get?_update_other _ _ (Ne.symm hb)).trans e)
theorem zil_call {Q : Value → Shared → Prop} (hh : A.handled = none) (D : ZipApart (N + 4) (N + 2) (N + 3) N (N + 1) l1 l2) (hsz : s.heap.objs.size = N + 5) (hl1 : l1 < N) (hl2 : l2 < N) (heq : xs.size = ys.size) (hn : xs.size ≤ sizeLine) (hz0 : IsZip s.heap (N + 4) (N + 2) (N + 3) .none)
    (hTI : IsPair s.heap (N + 2) (.ref N) (.ref (N + 1))) (hTO : ∃ a b, IsPair s.heap (N + 3) a b) (h1 : s.heap.IsListIter N l1 0) (h2 : s.heap.IsListIter (N + 1) l2 0) (p1 : s.heap.IsList l1 xs) (p2 : s.heap.IsList l2 ys)
    (hQ : ∀ h' tk acc c as, (∀ b o, b < N → s.heap.get? b = some o → h'.get? b = some o) → h'.get? (N + 5) = some { cls := .type "list", dict := none, data := .seq acc c, slots := #[] } → as.length = xs.size → ZG xs ys (N + 5) h' as →
      acc.toList = as.map Value.ref → Q (.ref (N + 5)) { s with heap := h', toks := tk }) :
    wpAny (model prog w) A (call (.type "list") [.ref (N + 4)]) Q E s := by
  refine callType_codes (Q₁ := fun obj s₁ => obj = .ref s.heap.objs.size ∧ s₁ = { s with heap := s.heap.push { cls := .type "list", data := .seq #[] } }) PySem.F.called_list (PySem.F.typeCall_list_1 _) PySem.F.entry_list_init
    (code_list_new _ ⟨rfl, rfl⟩) fun obj s₁ h₁ => ?_
  obtain ⟨rfl, rfl⟩ := h₁
  have hS0 : (s.heap.push { cls := .type "list", data := .seq #[] }).get? s.heap.objs.size = some { cls := .type "list", data := .seq #[] } := Heap.get?_push_size _ rfl
  rw [hsz] at hS0 ⊢
  have up : ∀ b o, s.heap.get? b = some o → (s.heap.push { cls := .type "list", data := .seq #[] }).get? b = some o := fun b o e => Heap.get?_push_of_some _ e
  generalize (s.heap.push { cls := .type "list", data := .seq #[] }) = g at hS0 up
  refine ⟨⟨_, hS0, rfl⟩, PySem.F.args_list_init_2 _ _, ?_⟩
  show wpAny _ _ (do let old ← Builtin.List.listItems (.ref (N + 5)); Builtin.List.listUpdate (.ref (N + 5)) (fun _ => #[]); letGo old.toList.reverse; Builtin.List.listExtendWith (.ref (N + 5)) (.ref (N + 4)) .none) _ _ _
  refine wpAny_bind ?_
  unfold Builtin.List.listItems
  refine wpAny_bind (wpAny_seqItems hS0 rfl (wpAny_pure ?_))
  show wpAny _ _ (updateSeq (N + 5) (fun _ => #[]) >>= fun _ => letGo (#[] : Array Value).toList.reverse >>= fun _ => Builtin.List.listExtendWith (.ref (N + 5)) (.ref (N + 4)) .none) _ _ _
  refine wpAny_bind (wpAny_updateSeq hS0 rfl ?_)
  have hS₂ := Heap.get?_update_self (Obj.mapSeq (fun _ => (#[] : Array Value))) hS0 rfl
  have oth : ∀ b o, b ≠ N + 5 → s.heap.get? b = some o → (g.update (N + 5) (Obj.mapSeq (fun _ => (#[] : Array Value)))).get? b = some o :=
    fun b o hb e => (Heap.get?_update_other _ _ (Ne.symm hb)).trans (up b o e)
  refine wpAny_bind (wpAny_letGo ?_)
  have ne5 : ∀ k : Nat, k ≤ 4 → N + k ≠ N + 5 := fun k hk => Nat.ne_of_lt (Nat.add_lt_add_left (by omega) N)
  have nl1 : l1 ≠ N + 5 := Nat.ne_of_lt (Nat.lt_of_lt_of_le hl1 (Nat.le_add_right _ _))
  have nl2 : l2 ≠ N + 5 := Nat.ne_of_lt (Nat.lt_of_lt_of_le hl2 (Nat.le_add_right _ _))
  obtain ⟨a, b, hTO⟩ := hTO
  have hz1 := oth _ _ (ne5 4 (by decide)) hz0
  refine zil_extend (A := A.in1) hh D (Nat.add_lt_add_left (by omega) N) nl1 nl2 heq hn
    ⟨oth _ _ (ne5 2 (by decide)) hTI, h1.at fun o e => oth _ o (ne5 0 (by decide)) e, h2.at fun o e => oth _ o (ne5 1 (by decide)) e, p1.at fun o e => oth _ o nl1 e, p2.at fun o e => oth _ o nl2 e, .inl ⟨hz1, a, b, oth _ _ (ne5 3 (by decide)) hTO⟩⟩ hz1 .none _ hS₂ fun h' tk acc c as hk hS' hl hG hacc => ?_
  refine ⟨rfl, hQ h' tk acc c as (fun b o hb e => ?_) hS' hl hG hacc⟩
  have hb' : ∀ k : Nat, b ≠ N + k := fun k => Nat.ne_of_lt (Nat.lt_of_lt_of_le hb (Nat.le_add_right _ _))
  exact hk b o (hb' 5) (hb' 4) (hb' 3) (hb' 0) (hb' 1) (oth b o (hb' 5) e)
end
def tListZip (K : PySem.W.Frag) (ta : TA) : TE := fun σ H Q => ta σ H fun vs H1 => ∃ (a b : Addr) (xs ys : List V), vs = [.ref a, .ref b] ∧ SqL K H1 a xs ∧ SqL K H1 b ys ∧ xs.length = ys.length ∧
  ∀ (H' : Hp) (p : Addr) (ts : List Addr), (∀ b o, H1 b = some o → H' b = some o) → H1 p = none → H' p = some (.lst (ts.map V.ref)) → Paired (fun (t : Addr) (q : V × V) => H' t = some (.tup [q.1, q.2])) ts (xs.zip ys) → Q (.ref p) H'
section
variable {X : L2.Cx} {e e2 : Expr} {ta : TA} {p p2 cpos pos : Pos}
theorem pe_listZip (hc : X.calm = true) (hg : Gl X "list") (hm : X.mg "list" = none) (hg2 : Gl X "zip") (hm2 : X.mg "zip" = none) (ha : PA X [e, e2] ta) (hv : bootBuiltins "list" = some (.type "list") := by decide +kernel)
    (hs : starEach [.Call (.Name "zip" p2) [e, e2] [] cpos] X.env = (false, eval (.Call (.Name "zip" p2) [e, e2] [] cpos) X.env) :: starEach [] X.env := by rfl)
    (hs2 : starEach [e, e2] X.env = (false, eval e X.env) :: starEach [e2] X.env := by rfl) (hpl : (backTo cpos (starEach [e2] X.env)).any (·.1) = false := by rfl) :
    PE X (.Call (.Name "list" p) [.Call (.Name "zip" p2) [e, e2] [] cpos] [] pos) (tListZip X.K ta) := by
  refine ⟨fun pins s σ H Q I hq => ?_⟩
  refine wpAny_Call_Name_kw (ld_blt I hg hm hv ?_)
  refine PyProof.Rows.callWith_type1 ?_ hs rfl
  rw [hs]
  show wpAny _ _ (spliced ((false, eval (.Call (.Name "zip" p2) [e, e2] [] cpos) X.env) :: backTo pos (starEach [] X.env))) _ _ s
  refine Calls.spliced_cons ?_
  refine Call_ (ld_blt I hg2 hm2 PyProof.Rows.boot_zip (PyProof.Rows.callWith_type1 (thn (ha.run cpos pins s σ H _ I hq) fun us s1 ⟨vs, H1, I1, r1, q1⟩ => ?_) hs2 hpl))
  obtain ⟨a, b, xs, ys, ex, hqx, hqy, hlen, q⟩ := q1
  subst ex
  cases r1 with
  | cons r rr =>
    cases rr with
    | cons r' rr =>
      cases rr
      cases r
      cases r'
      obtain ⟨its, rv, pa, z1⟩ := I1.list hqx
      obtain ⟨its2, rv2, pb, z2⟩ := I1.list hqy
      have la : a < s1.heap.objs.size := pa.lt
      have lb : b < s1.heap.objs.size := pb.lt
      have ll1 := rv.length
      have ll2 := rv2.length
      refine call_zip_2 pa.isList pb.isList fun h' hz hTI hTO h1 h2 hsz hk => ?_
      refine Calls.spliced_nil ?_
      refine zil_call (s := { s1 with heap := h' }) (I1.ok.hd hc) (PySem.W.ktu_apart s1.heap.objs.size a b la lb) hsz la lb (by simp only [List.size_toArray]; omega) (by simp only [List.size_toArray]; omega) hz hTI ⟨_, _, hTO⟩ h1 h2 (pa.isList.at fun o e => hk _ o e) (pb.isList.at fun o e => hk _ o e) fun h'' tk acc c as hk2 hS hl hG hacc => ?_
      obtain ⟨H', k1, k2, k5, k6, J⟩ := pairs_laid (tk := tk) (bvs := xs.zip ys) I1 (by rw [List.length_zip]; omega) (Nat.le_add_right _ 5) (fun b o e => hk2 b o (Heap.lt_size e) (hk b o e)) hS (by rw [hl, List.length_zip]; simp only [List.size_toArray]; omega) hG.rise hG.above (fun j a ea q eq => by
        obtain ⟨x, y, e1, e2, e3⟩ := hG.pairs j a ea
        obtain ⟨qx, qy⟩ := q
        obtain ⟨f1, f2⟩ := List.getElem?_zip_eq_some.mp eq
        obtain ⟨u, g1, g2⟩ := rv.get f1
        obtain ⟨u2, g3, g4⟩ := rv2.get f2
        rw [List.getElem?_toArray] at e1 e2
        rw [g1] at e1
        rw [g3] at e2
        exact ⟨x, y, by rw [← Option.some.inj e1]; exact g2, by rw [← Option.some.inj e2]; exact g4, e3⟩) hacc
      exact ⟨.ref _, H', J, rfl, q H' _ as k1 k2 k5 k6⟩
end
/-! ## set(list of ints) -/
section
variable {P : Program} {w : World} {A : Around} {E : Value → Shared → Prop} {s : Shared}
set_option maxHeartbeats 3200000 in
theorem call_set_lstI {l : Addr} {items : Array Value} (ns : List Int) {Q : Value → Shared → Prop} (hh : A.handled = none) (hl : s.heap.IsList l items) (hit : IntsAre items.toList ns) (hb : ns.length + 1 < scanBound)
    (h : ∀ (h' : Heap) (tk c : Nat), SetR w h' s.heap.objs.size (fun j => decide (j ∈ ns)) c → c ≤ ns.length → (∀ b o, s.heap.get? b = some o → h'.get? b = some o) → Q (.ref s.heap.objs.size) { s with heap := h', toks := tk }) :
    wpAny (model P w) A (call (.type "set") [.ref l]) Q E s := by
  have hisz : items.size = ns.length := by
    have q := IntsAre.length hit
    rw [Array.length_toList] at q
    exact q
  obtain ⟨c, tl, hmro⟩ := F.called_set.mro
  have hmade := F.called_set.made
  have hsub := F.called_set.sub
  refine wpAny_call (codeAny_of_tree ?_)
  show wpAny _ _ (callAny (.type "set") _) _ _ _
  refine wpAny_pure ⟨Code.quiet_builtin _ (by decide +kernel), codeAny_builtin F.entry_type_call ?_⟩
  rw [Around.under_plain (weight_type_call_type "set" [.ref l] []) rfl]
  have h1 := F.called_set.notType
  have h2 := F.called_set.canCreate
  have hct := F.typeCall_set_1 (.ref l)
  repeat (any_goals (first | assumption | wp_step))

  refine codeAny_mono (code_set_led1 (.ref l) (E := E) (Q₁ := fun obj s₁ => obj = .ref s.heap.objs.size ∧ s₁ = { s with heap := s.heap.push { cls := .type "set", dict := none, data := .set #[] 0 (.fresh 0 0 (!w.params.followText "set-order")) } }) ⟨rfl, rfl⟩) fun r s₁ hr => ?_
  cases r with
  | error e => exact hr
  | ok fl =>
    cases fl with
    | ret obj =>
      obtain ⟨rfl, rfl⟩ := hr
      have hS : (s.heap.push { cls := .type "set", dict := none, data := .set #[] 0 (.fresh 0 0 (!w.params.followText "set-order")) }).get? s.heap.objs.size = some { cls := .type "set", dict := none, data := .set #[] 0 (.fresh 0 0 (!w.params.followText "set-order")) } := Heap.get?_push_size _ rfl
      have hT : Shared.TypeIs { s with heap := s.heap.push { cls := .type "set", dict := none, data := .set #[] 0 (.fresh 0 0 (!w.params.followText "set-order")) } } (.ref s.heap.objs.size) "set" := ⟨_, hS, rfl⟩
      have hli := F.called_set.init.lookup
      have hbi := F.called_set.init.bind (.ref s.heap.objs.size)
      repeat (any_goals (first | assumption | wp_step))

      refine codeAny_mono (codeAny_call_builtin (R := wants (fun r s₂ => r = .none ∧ ∃ h' tk c, s₂ = { s with heap := h', toks := tk } ∧ SetR w h' s.heap.objs.size (fun j => decide (j ∈ ns)) c ∧ c ≤ ns.length ∧
          (∀ b o, s.heap.get? b = some o → h'.get? b = some o)) E) F.called_set.init.plain F.entry_set_init (check_set_init_1 hT ?_)) fun r₂ s₂ hr₂ => ?_
      · obtain ⟨ol, hol, hcl, nl, hdl⟩ := hl
        obtain ⟨ocls, odict, odata, oslots⟩ := ol
        simp only at hcl hdl
        subst hcl; subst hdl
        have hol' : (s.heap.push { cls := .type "set", dict := none, data := .set #[] 0 (.fresh 0 0 (!w.params.followText "set-order")) }).get? l = some { cls := .type "list", dict := odict, data := .seq items nl, slots := oslots } := Heap.get?_push_of_some _ hol
        have hsls := F.sub_list_set
        have hslf := F.sub_list_frozenset
        have hne : (Value.type "list" == Value.type "dict") = false := by decide
        have hl1 : (s.heap.push { cls := .type "set", dict := none, data := .set #[] 0 (.fresh 0 0 (!w.params.followText "set-order")) }).IsList l items := ⟨_, hol', rfl, nl, rfl⟩
        unfold Builtin.«set.__init__» noKeywords Builtin.Frozenset.updateFrom
        generalize hPI : pyIter = PI
        wp_walk
        subst hPI

        refine wpAny_pyIter_list hl1 ?_
        refine wpAny_bind (wpAny_runValue ?_)
        have hlS : l < s.heap.objs.size := Heap.lt_size hol
        have hh3 : A.in1.in1.in1.handled = none := by simp [hh]
        have hz1 : (s.heap.push { cls := .type "set", dict := none, data := .set #[] 0 (.fresh 0 0 (!w.params.followText "set-order")) }).objs.size = s.heap.objs.size + 1 := Heap.size_push ..
        have hneI : l ≠ (s.heap.push { cls := .type "set", dict := none, data := .set #[] 0 (.fresh 0 0 (!w.params.followText "set-order")) }).objs.size := by
          rw [Heap.size_push]; exact Nat.ne_of_lt (Nat.lt_succ_of_lt hlS)
        have hSf : s.heap.objs.size ∉ [(s.heap.push { cls := .type "set", dict := none, data := .set #[] 0 (.fresh 0 0 (!w.params.followText "set-order")) }).objs.size, l] := by
          rw [Heap.size_push]; simp only [List.mem_cons, List.mem_singleton, List.not_mem_nil, or_false, not_or]
          exact ⟨Nat.ne_of_lt (Nat.lt_succ_self _), Nat.ne_of_gt hlS⟩
        have hval : ∀ (i : Nat) (v : Value), items[i]? = some v → ∃ k t, ns[i]? = some k ∧ v = .int k t := fun i v hv => by
          have hi : i < ns.length := by rw [← hisz]; exact (Array.getElem?_eq_some_iff.mp hv).1
          obtain ⟨t, e⟩ := PyProof.Rows.IntsAre.int_at hit i v (by rw [Array.getElem?_toList]; exact hv)
          refine ⟨ns[i], t, List.getElem?_eq_getElem hi, ?_⟩
          rw [e, List.getD_eq_getElem?_getD, List.getElem?_eq_getElem hi] <;> rfl
        refine set_update_ints ((Walks.list hh3 _ l hneI items).toS) s.heap.objs.size
          hSf ns hisz hb hval (items.size - 0) 0 _ (by omega) (Nat.zero_le _)
          ⟨⟨_, Heap.get?_push_size _ rfl, rfl, rfl⟩, (hl1.push _)⟩ ?hS0 ?hR
        case hS0 =>
          have hget : ((s.heap.push { cls := .type "set", dict := none, data := .set #[] 0 (.fresh 0 0 (!w.params.followText "set-order")) }).push { cls := .type "list_iterator", data := .fields #[.ref l, .int 0 0] }).get? s.heap.objs.size
              = some { cls := .type "set", dict := none, data := .set #[] 0 (.fresh 0 0 (!w.params.followText "set-order")) } := Heap.get?_push_of_some _ hS
          exact ⟨0, Nat.le_refl 0, setR_new_at hget⟩
        case hR =>
          intro s' c' hm hc' hS'
          obtain ⟨h', g2, d', tk', os'⟩ := s'
          have eg : g2 = s.gens := hm.gens
          have ed : d' = s.drawn := hm.drawn
          have eo : os' = s.os := hm.os
          subst eg; subst ed; subst eo
          show wpAny _ _ _ _ _ _
          refine wpAny_pure ?_
          show wpAny _ _ (ret Value.none) _ _ _
          rw [hisz] at hc'
          refine wpAny_pure ⟨rfl, h', tk', c', rfl, hS', hc', fun b o e => ?_⟩
          have hb0 : b < s.heap.objs.size := Heap.lt_size e
          have hb1 : b ≠ s.heap.objs.size := Nat.ne_of_lt hb0
          have hb2 : b ≠ (s.heap.push { cls := .type "set", dict := none, data := .set #[] 0 (.fresh 0 0 (!w.params.followText "set-order")) }).objs.size := by
            rw [Heap.size_push]; exact Nat.ne_of_lt (Nat.lt_succ_of_lt hb0)
          exact hm.heap b o (by simp only [List.mem_cons, List.mem_singleton, List.not_mem_nil, or_false, not_or]; exact ⟨hb1, hb2⟩) (Heap.get?_push_of_some _ (Heap.get?_push_of_some _ e))

      · cases r₂ with
        | error e => exact hr₂
        | ok fl₂ =>
          cases fl₂ with
          | ret r =>
            obtain ⟨rfl, h', tk, c', rfl, hS', hc', hk'⟩ := hr₂
            repeat (any_goals (first | assumption | wp_step))
            exact h _ _ _ hS' hc' hk'
          | _ => exact hr₂.elim
    | _ => exact hr.elim

end
def rSetL (K : PySem.W.Frag) (w : World) : List V → Hp → VK → Prop := fun vs H Q => ∃ (a : Addr) (ns : List Int), vs = [V.ref a] ∧ SqL K H a (ns.map V.int) ∧ ns.length ≤ 4000 ∧
  ∀ (p : Addr) (c : Nat), (∀ m : Nat, (∀ k ∈ ns, 0 ≤ k ∧ k < (m : Int)) → c ≤ m) → H p = none → Q (.ref p) (upd H p (SetO w p (fun j => decide (j ∈ ns)) c))
theorem nodup_le : ∀ (m : Nat) (l : List Int), l.Nodup → (∀ k ∈ l, 0 ≤ k ∧ k < (m : Int)) → l.length ≤ m
  | 0, [], _, _ => Nat.le_refl 0
  | 0, k :: _, _, h => by have := h k List.mem_cons_self; omega
  | m + 1, l, nd, h => by
    have h1 : (l.erase (m : Int)).length ≤ m := by
      refine nodup_le m _ (nd.erase _) fun k hk => ?_
      have h2 := h k (List.mem_of_mem_erase hk)
      have h3 : k ≠ (m : Int) := fun e => by rw [e] at hk; exact nd.not_mem_erase hk
      exact ⟨h2.1, by omega⟩
    rw [List.length_erase] at h1
    split at h1 <;> omega
theorem cr_setL {X : L2.Cx} (hc : X.calm = true) : CallR X (.type "set") (rSetL X.K X.w) := by
  intro pins s σ H vs us Q I r h
  obtain ⟨a, ns, rfl, ha, hl, q⟩ := h
  obtain ⟨its, rv, pt, hz⟩ := I.list ha
  have hi : IntsAre its.toArray.toList ns := ints_of_vals rv
  rw [Vals.ref1 r]
  refine call_set_lstI ns (I.ok.hd hc) pt.isList hi (by unfold scanBound; omega) fun h' tk c R1 hcn k => ?_
  obtain ⟨o, es, ep, t, ho, hex, hdt, g, nd, hm2, hb, hf, hn, hr, hl2⟩ := id R1
  have hp : H s.heap.objs.size = none := I.hok.fresh (Nat.le_refl _)
  have J : Inv X pins σ (upd H s.heap.objs.size (SetO X.w s.heap.objs.size (fun j => decide (j ∈ ns)) c)) { s with heap := h', gens := s.gens, drawn := s.drawn, toks := tk } :=
    I.call (ch := []) (Un.laid k (Nat.le_refl _) hp) (I.hok.laid k (Nat.le_refl _) (setO_new R1)) I.bare (fun _ z => nomatch z)
  refine ⟨.ref s.heap.objs.size, _, J, rfl, q _ c (fun m hm => ?_) hp⟩
  rw [← hn, ← Array.length_toList, ← List.length_map (f := keyOf)]
  refine nodup_le m _ nd fun k hk => hm k ?_
  have h1 := (hm2 k).mpr hk
  simpa using h1
end Sr
set_option Elab.async false
set_option linter.all false
set_option maxRecDepth 100000
set_option maxHeartbeats 4000000
/-! # What the derivations rest on: the exceptions' classes, the tables of the top, walks -/
namespace Sr
open PySem PySem.Spec PyProof.Rows L2
open Evl (Ex)
/-! ## the looks beyond the facts -/
theorem ba3 {a b : Bool} (h : (a && b) = true) : a = true ∧ b = true := Bool.and_eq_true_iff.mp h
theorem oexB_ok {K : PySem.W.Frag} {C : Addr} (h : oexB K C = true) : ∃ nm q N bs bm sn sub ab col dd k0 k1 k2 k3 k5, K.lookup C = some (excClassObj nm q C N bs bm true sn sub ab col dd k0 k1 k2 k3 k5 "ValueError.__new__") ∧ PySem.HandSPX.refsVE bm = true := by
  unfold oexB at h
  split at h
  · rename_i o c od cd sl e
    split at h
    · rename_i C' bm k0 k1 k2 k3 n k5 e1 e2
      obtain ⟨h1, h⟩ := ba3 h
      obtain ⟨h2, h⟩ := ba3 h
      obtain ⟨h3, h⟩ := ba3 h
      obtain ⟨h4, h⟩ := ba3 h
      obtain ⟨h5, h6⟩ := ba3 h
      obtain ⟨nm, bs, mro, ns, qn, hd, sn, sb, ab, col, del⟩ := cd
      simp only at e1 h4 h5
      subst e1 h5
      have h4' : del = false := by simpa using h4
      subst h4'
      have es : sl = #[k0, k1, k2, k3, some (.builtin n), k5] := by
        rw [← e2]
      subst es
      have h1' := of_decide_eq_true h1
      have h2' := of_decide_eq_true h2
      have h3' := of_decide_eq_true h3
      subst h1' h2' h3'
      exact ⟨nm, qn, ns, bs, bm, sn, sb, ab, col, od, k0, k1, k2, k3, k5, e, h6⟩
    · cases h
  · cases h
structure ExcT (g : Gx) (x : Str) (fs : List Str) : Prop where
  oex : OexC g.K (g.C x)
  xf : XfC g.K (g.C x)
  iC : PySem.W.findIn g.K (.ref (g.C x)) "__init__" = some (some (.ref (He.ma g.K (g.C x) "__init__")))
  tI : PySem.W.typeIn g.K (.ref (He.ma g.K (g.C x) "__init__")) = some (.type "function")
  no : ∀ f ∈ fs, PySem.W.findIn g.K (.ref (g.C x)) f = some none
theorem excB_ok {g : Gx} {x : Str} {fs : List Str} (h : excB g.K (He.ga g.K x) fs = true) : ExcT g x fs := by
  unfold excB at h
  obtain ⟨h1, h⟩ := ba3 h
  obtain ⟨h2, h⟩ := ba3 h
  obtain ⟨h3, h⟩ := ba3 h
  obtain ⟨h4, h⟩ := ba3 h
  obtain ⟨h5, h⟩ := ba3 h
  obtain ⟨h6, h⟩ := ba3 h
  obtain ⟨h7, h⟩ := ba3 h
  obtain ⟨h8, h9⟩ := ba3 h
  exact ⟨⟨oexB_ok h1, of_decide_eq_true h8, of_decide_eq_true h3, of_decide_eq_true h4, h2⟩, xfB_ok h5, of_decide_eq_true h6, of_decide_eq_true h7, fun f hf => of_decide_eq_true (List.all_eq_true.mp h9 f hf)⟩
section
variable {g : Gx}
theorem Tx.e_Fault (T : Tx g) : ExcT g "Fault" ["code", "place"] := by
  have h := T.ex
  unfold exl at h
  exact excB_ok (ba3 h).1
theorem Tx.e_Refused (T : Tx g) : ExcT g "Refused" ["refusal"] := by
  have h := T.ex
  unfold exl at h
  exact excB_ok (ba3 (ba3 h).2).1
theorem Tx.vV (T : Tx g) : PySem.W.findCls g.K (.type "ValueError") (.type "type") "__init__" = some (.val (.builtin "ValueError.__init__")) := by
  have h := T.ex
  unfold exl at h
  have h1 := (ba3 (ba3 (ba3 h).2).2).1
  split at h1
  · rename_i n e
    rw [e, of_decide_eq_true h1]
  · cases h1
theorem Tx.tups (T : Tx g) : He.tupB g.K "FACTORIALS" [.int 1, .int 1, .int 2, .int 6] = true ∧ He.tupB g.K "BLANKS" [.int 32, .int 9, .int 10] = true ∧ He.tupB g.K "WORDS" [.str "columns", .str "row", .str "ask", .str "times"] = true ∧ He.tupB g.K "SIGNS" [.int (44), .int (58), .int (59), .int (45)] = true ∧ He.tupB g.K "NUMBERS" [.int 0, .int 0, .int 0, .int 1, .int 1, .int 0, .int 0, .int 0, .int 0, .int 0] = true ∧ He.tupB g.K "LISTS" [.int 1, .int 0, .int 1, .int 0, .int 0, .int 0, .int 0, .int 2, .int 1, .int 0] = true := by
  have h := T.ex
  unfold exl at h
  have h1 := (ba3 (ba3 (ba3 h).2).2).2
  obtain ⟨h1, h6⟩ := ba3 h1
  obtain ⟨h1, h5⟩ := ba3 h1
  obtain ⟨h1, h4⟩ := ba3 h1
  obtain ⟨h1, h3⟩ := ba3 h1
  obtain ⟨h1, h2⟩ := ba3 h1
  exact ⟨h1, h2, h3, h4, h5, h6⟩
end
end Sr
set_option Elab.async false
set_option linter.all false
set_option maxRecDepth 100000
set_option maxHeartbeats 4000000
/-! # How bytes, rows, questions, tables lie in the heap -/
namespace Sr
open PySem PySem.Spec PyProof.Rows L2
open Evl (Ex)
abbrev bV (b : UInt8) : V := .int (b.toNat : Int)
abbrev nV (n : Nat) : V := .int (n : Int)
/-- every tuple stays -/
def Kt (H H' : Hp) : Prop := ∀ a xs, H a = some (.tup xs) → H' a = some (.tup xs)
theorem Ex.kt {H H' : Hp} (e : Ex H H') : Kt H H' := fun a xs h => e a _ h
theorem Kt.refl (H : Hp) : Kt H H := fun _ _ h => h
theorem Kt.trans {H H1 H2 : Hp} (a : Kt H H1) (b : Kt H1 H2) : Kt H H2 := fun x xs h => b x xs (a x xs h)
theorem Kt.upd {H : Hp} {p : Addr} {o : HO} (h : ∀ xs, H p ≠ some (.tup xs)) : Kt H (upd H p o) := fun a xs e => by
  rw [upd_ne (fun z => h xs (by rw [← z]; exact e))]; exact e
def BtAt (H : Hp) (v : V) (bs : List UInt8) : Prop := ∃ a, v = .ref a ∧ H a = some (.tup (bs.map bV))
def RowAt (H : Hp) (v : V) (r : Vamvsa.Row) : Prop := ∃ a b, v = .ref a ∧ H a = some (.tup [.ref b, .int r.m]) ∧ H b = some (.tup (r.vs.map nV))
def AskAt (H : Hp) (v : V) (q : Vamvsa.Ask) : Prop := ∃ a, v = .ref a ∧ H a = some (.tup [nV q.g, nV q.k])
theorem BtAt.keep {H H' : Hp} {v : V} {bs : List UInt8} (k : Kt H H') (h : BtAt H v bs) : BtAt H' v bs := let ⟨a, e, h⟩ := h; ⟨a, e, k _ _ h⟩
theorem RowAt.keep {H H' : Hp} {v : V} {r : Vamvsa.Row} (k : Kt H H') (h : RowAt H v r) : RowAt H' v r := let ⟨a, b, e, h1, h2⟩ := h; ⟨a, b, e, k _ _ h1, k _ _ h2⟩
theorem AskAt.keep {H H' : Hp} {v : V} {r : Vamvsa.Ask} (k : Kt H H') (h : AskAt H v r) : AskAt H' v r := let ⟨a, e, h1⟩ := h; ⟨a, e, k _ _ h1⟩
theorem paired_keep {α β : Type} {F G : α → β → Prop} (f : ∀ a b, F a b → G a b) : ∀ {xs : List α} {ys : List β}, Paired F xs ys → Paired G xs ys
  | _, _, .nil => .nil
  | _, _, .cons h t => .cons (f _ _ h) (paired_keep f t)
theorem paired_at {α β : Type} {F : α → β → Prop} : ∀ {xs : List α} {ys : List β}, Paired F xs ys → ∀ {i : Nat} {y : β}, ys[i]? = some y → ∃ x, xs[i]? = some x ∧ F x y
  | _, _, .nil, i, x, h => by cases h
  | _, _, .cons r t, 0, x, h => by
    have e := Option.some.inj h
    subst e
    exact ⟨_, rfl, r⟩
  | _, _, .cons r t, i + 1, x, h => paired_at t h
theorem paired_snoc {α β : Type} {F : α → β → Prop} : ∀ {xs : List α} {ys : List β}, Paired F xs ys → ∀ {x : α} {y : β}, F x y → Paired F (xs ++ [x]) (ys ++ [y])
  | _, _, .nil, _, _, h => .cons h .nil
  | _, _, .cons r t, _, _, h => .cons r (paired_snoc t h)
theorem paired_map {α β : Type} {F : α → β → Prop} (f : β → α) (h : ∀ b, F (f b) b) : ∀ ys : List β, Paired F (ys.map f) ys
  | [] => .nil
  | y :: ys => .cons (h y) (paired_map f h ys)
theorem paired_eq {α β : Type} {F : α → β → Prop} {f : β → α} (h : ∀ a b, F a b → a = f b) : ∀ {xs : List α} {ys : List β}, Paired F xs ys → xs = ys.map f
  | _, _, .nil => rfl
  | _, _, .cons r t => by rw [h _ _ r, paired_eq h t]; rfl
/-- a table object, its three lists -/
structure TbW (g : Gx) (H : Hp) (a dx ln lr lq : Addr) (t : Vamvsa.Table) : Prop where
  ob : H a = some (.ins (g.C "Table") dx [("names", .ref ln), ("rows", .ref lr), ("questions", .ref lq)])
  hn : ∃ ns, H ln = some (.lst ns) ∧ Paired (BtAt H) ns t.cols
  hr : ∃ rs, H lr = some (.lst rs) ∧ Paired (RowAt H) rs t.rows
  hq : ∃ qs, H lq = some (.lst qs) ∧ Paired (AskAt H) qs t.asks
def TblAt (g : Gx) (H : Hp) (v : V) (t : Vamvsa.Table) : Prop := ∃ a dx ln lr lq, v = .ref a ∧ TbW g H a dx ln lr lq t
theorem TbW.ex {g : Gx} {H H' : Hp} {a dx ln lr lq : Addr} {t : Vamvsa.Table} (h : TbW g H a dx ln lr lq t) (e : Ex H H') : TbW g H' a dx ln lr lq t := by
  obtain ⟨ob, ⟨ns, h1, h2⟩, ⟨rs, h3, h4⟩, ⟨qs, h5, h6⟩⟩ := h
  exact ⟨e _ _ ob, ⟨ns, e _ _ h1, paired_keep (fun _ _ => BtAt.keep (Ex.kt e)) h2⟩, ⟨rs, e _ _ h3, paired_keep (fun _ _ => RowAt.keep (Ex.kt e)) h4⟩, ⟨qs, e _ _ h5, paired_keep (fun _ _ => AskAt.keep (Ex.kt e)) h6⟩⟩
theorem TblAt.ex {g : Gx} {H H' : Hp} {v : V} {t : Vamvsa.Table} (h : TblAt g H v t) (e : Ex H H') : TblAt g H' v t :=
  let ⟨a, dx, ln, lr, lq, e1, w⟩ := h; ⟨a, dx, ln, lr, lq, e1, w.ex e⟩
/-- a list of ints, a list of lists of ints -/
def NlAt (H : Hp) (v : V) (ns : List Nat) : Prop := ∃ a, v = .ref a ∧ H a = some (.lst (ns.map nV))
def IlAt (H : Hp) (v : V) (ns : List Int) : Prop := ∃ a, v = .ref a ∧ H a = some (.lst (ns.map V.int))
theorem NlAt.ex {H H' : Hp} {v : V} {ns : List Nat} (e : Ex H H') (h : NlAt H v ns) : NlAt H' v ns := let ⟨a, e1, h⟩ := h; ⟨a, e1, e _ _ h⟩
theorem IlAt.ex {H H' : Hp} {v : V} {ns : List Int} (e : Ex H H') (h : IlAt H v ns) : IlAt H' v ns := let ⟨a, e1, h⟩ := h; ⟨a, e1, e _ _ h⟩
theorem nl_il {H : Hp} {v : V} {ns : List Nat} (h : NlAt H v ns) : IlAt H v (ns.map fun (n : Nat) => (n : Int)) := let ⟨a, e1, h⟩ := h; ⟨a, e1, by rw [h, List.map_map]; rfl⟩
/-! ## contexts -/
theorem pxR {g : Gx} {N : List Str} {qual : Str} {scope : Scope} {f : Addr} {cdv : Value} {A : Around} {outer : List Env} {s : Shared} {H : Hp} {E : XK} :
    Passes (CXr g) (cxOf (CXr g) g.P g.w g.K g.mg g.base N qual scope f cdv A outer s H E) E := passes_call (takes_of rfl rfl rfl rfl) (fun _ _ _ _ h => h)
theorem tkR {g : Gx} {N : List Str} {qual : Str} {scope : Scope} {f : Addr} {cdv : Value} {A : Around} {outer : List Env} {s : Shared} {H : Hp} {E : XK} :
    Takes (cxOf (CXr g) g.P g.w g.K g.mg g.base N qual scope f cdv A outer s H E) (fun cls d _ H => E cls d H) := takes_of rfl rfl rfl rfl
theorem ps_mono {X : L2.Cx} {st : Stmt} {t u : TS} (h : PS X st t) (m : ∀ D σ H, u D σ H → t D σ H) : PS X st u := ⟨fun pins s σ H D I q => h.run pins s σ H D I (m D σ H q)⟩
theorem pe_mono {X : L2.Cx} {e : Expr} {t u : TE} (h : PE X e t) (m : ∀ σ H Q, u σ H Q → t σ H Q) : PE X e u := ⟨fun pins s σ H Q I q => h.run pins s σ H Q I (m σ H Q q)⟩
/-! ## walks of the further iterators -/
section
variable {K : PySem.W.Frag} {a b c d : Addr} {o : Obj} {xs ys zs : List V}
theorem walk_zipM2 {b1 b2 : Bool} (hl : xs.length = ys.length) : Walk (Itm2 K b1 b2 a b) xs.length (fun H => Sq K H b1 a xs ∧ Sq K H b2 b ys) (YPair (fun i => xs[i]?) (fun i => ys[i]?)) := by
  refine ⟨fun i _ hi q => ?_, fun _ q => ⟨xs, ys, q.1, q.2, rfl, hl⟩, fun i H v H' _ q y => ?_⟩
  · exact ⟨xs, ys, xs[i], ys[i], q.1, q.2, by simp [hi], by simp [show i < ys.length by omega]⟩
  · obtain ⟨T, x, z, h1, h2, h3, h4, h5⟩ := y
    exact ⟨T, x, z, h1, h2, h3, h4 xs q.1, h5 ys q.2⟩
def YTrip (xs ys zs : Nat → Option V) : Nat → Hp → V → Hp → Prop := fun i H v H' => ∃ T x y z, v = .ref T ∧ H T = none ∧ H' = upd H T (.tup [x, y, z]) ∧ xs i = some x ∧ ys i = some y ∧ zs i = some z
theorem walk_zipM3 {b1 b2 b3 : Bool} (hl : xs.length = ys.length) (hl2 : xs.length = zs.length) : Walk (Itm3 K b1 b2 b3 a b c) xs.length (fun H => Sq K H b1 a xs ∧ Sq K H b2 b ys ∧ Sq K H b3 c zs) (YTrip (fun i => xs[i]?) (fun i => ys[i]?) (fun i => zs[i]?)) := by
  refine ⟨fun i _ hi q => ?_, fun _ q => ⟨xs, ys, zs, q.1, q.2.1, q.2.2, rfl, hl, hl2⟩, fun i H v H' _ q y => ?_⟩
  · exact ⟨xs, ys, zs, xs[i], ys[i], zs[i], q.1, q.2.1, q.2.2, by simp [hi], by simp [show i < ys.length by omega], by simp [show i < zs.length by omega]⟩
  · obtain ⟨T, x, y, z, h1, h2, h3, h4, h5, h6⟩ := y
    exact ⟨T, x, y, z, h1, h2, h3, h4 xs q.1, h5 ys q.2.1, h6 zs q.2.2⟩
theorem walk_itemsT {kvs : List (List Key × V)} : Walk (ItiT d o kvs) kvs.length (fun H => H d = some (.frz o (.dT kvs)))
    (fun i H x H' => ∃ T b k v, kvs[i]? = some (k, v) ∧ x = .ref T ∧ H b = some (.tup (k.map kV)) ∧ H T = none ∧ H' = upd H T (.tup [.ref b, v])) :=
  ⟨fun _ _ hi q => ⟨q, hi⟩, fun _ q => ⟨q, Nat.le_refl _⟩, fun _ _ _ _ _ _ y => y⟩
end
end Sr
set_option Elab.async false
set_option linter.all false
set_option maxRecDepth 100000
set_option maxHeartbeats 4000000
/-! # The exceptions made, raised -/
namespace Sr
open PySem PySem.Spec PyProof.Rows L2
open Evl (Ex)
structure RXi (g : Gx) (k : Nat) (c : Str) (sp : Sp) : Prop where
  ex : ∃ (fd : FuncData) (ps : List Str), FnOk g.P g.w g.K g.mg g.base CX0 k (He.ma g.K (g.C c) "__init__") fd ps sp ∧ Binds g.K fd ps []
theorem xi0 {g : Gx} {N ps : List Str} {k : Nat} {sp : Sp} {qual : Str} {st : Stmt} (T : Tx g) (i : Nat) {c : Str} (h : fnl[i]? = some ⟨(c, some "__init__"), "__init__", qual, defArgs st, defBody st, defScope st, [], []⟩) (S : FnScope N ps (defScope st)) (b : BindsOf "__init__" qual st ps)
    (len : ∀ vs H Q E, sp vs H Q E → vs.length = ps.length) (B : Body0 g N ps k qual st sp) : RXi g (k + 1) c sp := by
  obtain ⟨fd, F⟩ := Tx.funD T i h
  exact ⟨fd, ps, FunD.ok F S len fun cdv A outer s H vs Q E hr hs => let ⟨t, h1, h2⟩ := B _ cdv A outer s H vs Q E hr hs; ⟨t, h1.nox, h2⟩, FunD.bindsN F b⟩
def sp_Fault_init (g : Gx) : Sp := fun vs H Q _ => ∃ a c p, vs = [.ref a, c, p] ∧ H a = some (exo a (g.C "Fault") none) ∧ ∀ d, H d = none → d ≠ a → Q .non (upd (upd (upd H d (exd d [("code", c)])) a (exo a (g.C "Fault") (some d))) d (exd d [("place", p), ("code", c)]))
abbrev N_Fault_init : List Str := ["self", "code", "place"]
theorem sc_Fault_init : FnScope N_Fault_init ["self", "code", "place"] (defScope s_Fault_init) := ⟨rfl, rfl, rfl, by decide +kernel, rfl, by decide +kernel, by decide +kernel⟩
set_option maxHeartbeats 8000000 in
theorem ok_Fault_init {g : Gx} (T : Tx g) : RXi g 1 "Fault" (sp_Fault_init g) := by
  refine xi0 (N := N_Fault_init) (ps := ["self", "code", "place"]) (st := s_Fault_init) T 13 rfl sc_Fault_init (fun _ _ _ _ _ _ us hl => match us, hl with | [_, _, _], _ => rfl) (fun vs H Q E h => by obtain ⟨a, c, p, rfl, ha, q⟩ := h; rfl) (fun f cdv A outer s H vs Q E hr h => ?_)
  obtain ⟨a, c, p, rfl, ha, q⟩ := h
  refine ⟨_, (pss_cons (ps_expr (pe_veinit rfl T.f_ValueError T.vV (pa_cons (pv 0) (pa_cons pe_str pa_nil)))) (pss_cons (ps_ost (pv 0) (pv 1)) (pss_one (ps_ost (pv 0) (pv 2))))), ?_⟩

  refine ⟨_, rfl, a, g.C "Fault", [_], rfl, by decide, T.e_Fault.oex, ha, ?_⟩
  refine ⟨_, rfl, _, rfl, a, _, rfl, T.e_Fault.oex, T.e_Fault.no "code" (by simp), .inl ⟨ha, fun d hd hne => ?_⟩⟩
  refine ⟨_, rfl, _, rfl, a, _, rfl, T.e_Fault.oex, T.e_Fault.no "place" (by simp), .inr ⟨d, [("code", c)], upd_same, ?_, by show 1 ≤ 900; omega, q d hd hne⟩⟩
  rw [upd_ne hne, upd_same]
def sp_Refused_init (g : Gx) : Sp := fun vs H Q _ => ∃ a c, vs = [.ref a, c] ∧ H a = some (exo a (g.C "Refused") none) ∧ ∀ d, H d = none → d ≠ a → Q .non (upd (upd H d (exd d [("refusal", c)])) a (exo a (g.C "Refused") (some d)))
abbrev N_Refused_init : List Str := ["self", "refusal"]
theorem sc_Refused_init : FnScope N_Refused_init ["self", "refusal"] (defScope s_Refused_init) := ⟨rfl, rfl, rfl, by decide +kernel, rfl, by decide +kernel, by decide +kernel⟩
set_option maxHeartbeats 8000000 in
theorem ok_Refused_init {g : Gx} (T : Tx g) : RXi g 1 "Refused" (sp_Refused_init g) := by
  refine xi0 (N := N_Refused_init) (ps := ["self", "refusal"]) (st := s_Refused_init) T 56 rfl sc_Refused_init (fun _ _ _ _ _ _ us hl => match us, hl with | [_, _], _ => rfl) (fun vs H Q E h => by obtain ⟨a, c, rfl, ha, q⟩ := h; rfl) (fun f cdv A outer s H vs Q E hr h => ?_)
  obtain ⟨a, c, rfl, ha, q⟩ := h
  refine ⟨_, (pss_cons (ps_expr (pe_veinit rfl T.f_ValueError T.vV (pa_cons (pv 0) (pa_cons pe_str pa_nil)))) (pss_one (ps_ost (pv 0) (pv 1)))), ?_⟩

  refine ⟨_, rfl, a, g.C "Refused", [_], rfl, by decide, T.e_Refused.oex, ha, ?_⟩
  refine ⟨_, rfl, _, rfl, a, _, rfl, T.e_Refused.oex, T.e_Refused.no "refusal" (by simp), .inl ⟨ha, fun d hd hne => ?_⟩⟩
  exact q d hd hne
def tFault (g : Gx) (W : WX) (t : TA) : TS := fun _ σ H => t σ H fun vs H1 => ∃ c p, vs = [c, p] ∧ ∀ d H', Ex H1 H' → H' d = some (.xd [("place", p), ("code", c)]) → W (.ref (g.C "Fault")) (some d) σ H'
def tRefus (g : Gx) (W : WX) (t : TA) : TS := fun _ σ H => t σ H fun vs H1 => ∃ c, vs = [c] ∧ ∀ d H', Ex H1 H' → H' d = some (.xd [("refusal", c)]) → W (.ref (g.C "Refused")) (some d) σ H'
def tS (t : TA) : TA := fun σ H Q => ∃ P : List V → Hp → Prop, t σ H P ∧ ∀ vs H1, P vs H1 → Q vs H1
theorem pa_s {X : L2.Cx} {es : List Expr} {t : TA} (h : PA X es t) : PA X es (tS t) := ⟨fun pos pins s σ H Q I q => by
  obtain ⟨P, q1, q2⟩ := q
  exact thn (h.run pos pins s σ H P I q1) fun us s1 ⟨vs, H1, I1, r, q3⟩ => ⟨vs, H1, I1, r, q2 vs H1 q3⟩⟩
section
variable {X : L2.Cx} {j : Nat} {W : WX} {p pos pos2 : Pos} {e : Expr} {es : List Expr} {t : TA}
theorem ps_xFault (T : Tx (Cx.g X)) (hr : Room j X.A) (hj : 2 ≤ j) (hc : X.calm = true) (tk : Takes X W) (hg : Gl X "Fault") (ha : PA X (e :: es) t) (hdb : ((PySem.Str.ofString "Fault") == ("__debug__" : Str)) = false := by decide) (he : starEach (e :: es) X.env = (false, eval e X.env) :: starEach es X.env := by rfl) (hpl : (backTo pos (starEach es X.env)).any (·.1) = false := by rfl) :
    PS X (.Raise (some (.Call (.Name "Fault" p) (e :: es) [] pos)) none pos2) (tFault (Cx.g X) W t) := by
  obtain ⟨fd, ps, F, b⟩ := (ok_Fault_init T).ex
  refine ps_mono (ps_raise hc tk (pmk_oex T.e_Fault.oex T.e_Fault.iC T.e_Fault.tI F (hr.mono hj) b .nil pass0 hg T.c_Fault (pa_s ha) hdb he hpl)) fun D σ H h => ?_
  refine ⟨_, h, fun vs H1 h => ?_⟩
  obtain ⟨c, p, rfl, q⟩ := h
  refine ⟨by show 2 ≤ 1000; omega, fun a ha => ⟨a, c, p, rfl, upd_same, fun d hd hne => ⟨rfl, d, [("place", p), ("code", c)], ?_, upd_same, ?_, ?_⟩⟩⟩
  · rw [upd_ne (Ne.symm hne), upd_same]
  · rw [upd_ne hne] at hd
    exact hd
  · rw [upd_ne hne] at hd
    refine q d _ (fun b o hb => ?_) upd_same
    have nd : b ≠ d := fun z => by rw [z, hd] at hb; cases hb
    have na : b ≠ a := fun z => by rw [z, ha] at hb; cases hb
    rw [upd_ne nd, del_ne na, upd_ne nd, upd_ne na, upd_ne nd, upd_ne na]
    exact hb
theorem ps_xRefused (T : Tx (Cx.g X)) (hr : Room j X.A) (hj : 2 ≤ j) (hc : X.calm = true) (tk : Takes X W) (hg : Gl X "Refused") (ha : PA X (e :: es) t) (hdb : ((PySem.Str.ofString "Refused") == ("__debug__" : Str)) = false := by decide) (he : starEach (e :: es) X.env = (false, eval e X.env) :: starEach es X.env := by rfl) (hpl : (backTo pos (starEach es X.env)).any (·.1) = false := by rfl) :
    PS X (.Raise (some (.Call (.Name "Refused" p) (e :: es) [] pos)) none pos2) (tRefus (Cx.g X) W t) := by
  obtain ⟨fd, ps, F, b⟩ := (ok_Refused_init T).ex
  refine ps_mono (ps_raise hc tk (pmk_oex T.e_Refused.oex T.e_Refused.iC T.e_Refused.tI F (hr.mono hj) b .nil pass0 hg T.c_Refused (pa_s ha) hdb he hpl)) fun D σ H h => ?_
  refine ⟨_, h, fun vs H1 h => ?_⟩
  obtain ⟨c, rfl, q⟩ := h
  refine ⟨by show 1 ≤ 1000; omega, fun a ha => ⟨a, c, rfl, upd_same, fun d hd hne => ⟨rfl, d, [("refusal", c)], upd_same, ?_, ?_, ?_⟩⟩⟩
  · rw [upd_ne hne, upd_same]
  · rw [upd_ne hne] at hd
    exact hd
  · rw [upd_ne hne] at hd
    refine q d _ (fun b o hb => ?_) upd_same
    have nd : b ≠ d := fun z => by rw [z, hd] at hb; cases hb
    have na : b ≠ a := fun z => by rw [z, ha] at hb; cases hb
    rw [upd_ne nd, del_ne na, upd_ne na, upd_ne nd, upd_ne na]
    exact hb
end
end Sr
set_option Elab.async false
set_option linter.all false
set_option maxRecDepth 100000
set_option maxHeartbeats 4000000
/-! # Tokens: codes, the ends -/
namespace Sr
open PySem PySem.Spec PyProof.Rows L2
open Evl (Ex)
theorem pe_gc {X : L2.Cx} {x : Str} {v : V} {pos : Pos} (hg : Gl X x) (h : ∃ u, X.mg x = some u ∧ RelV v u) (hd : (x == ("__debug__" : Str)) = false := by decide) : PE X (.Name x pos) (tC v) := by
  obtain ⟨u, hm, r⟩ := h
  exact pe_glob hg hm r hd
theorem pe_fldK {K : PySem.W.Frag} {X : L2.Cx} {e : Expr} {f : Str} {pos : Pos} {ta : TE} (he : PE X e ta) (hK : X.K = K := by rfl) (hb : attributeBase e f X.env (eval e X.env) = eval e X.env := by rfl) : PE X (.Attribute e f pos) (tFld K ta f) := by
  subst hK
  exact pe_fld he hb
theorem pg_tupK {K : PySem.W.Frag} {X : L2.Cx} {es : List Expr} {k : Nat} {t : TGs} {n : Nat} {pos : Pos} (hc : X.calm = true) (h : PGs X es t) (hK : X.K = K := by rfl)
    (hn : (assignEach es X.env).length = n := by rfl) (hst : (assignEach es X.env).findIdx? (·.1) = none := by rfl) : PG X (.Tuple es k pos) (gTup K n t) := by
  subst hK
  exact pg_tup hc h hn hst
theorem u2 {k : Nat} {A : Around} (r : Room k A) : A.units + 2 < PySem.cLine := by have := r.un; omega
/-- a list of bytes at a -/
abbrev TxA (H : Hp) (a : Addr) (bs : List UInt8) : Prop := H a = some (.lst (bs.map bV))
theorem atI_n {xs : List V} {i : Nat} {v : V} (h : xs[i]? = some v) : atI xs (i : Int) = some v := by
  have hi : i < xs.length := (List.getElem?_eq_some_iff.mp h).1
  unfold atI
  rw [Evl.ixN_nat hi]
  exact h
theorem tx_at {bs : List UInt8} {i : Nat} (hi : i < bs.length) : (bs.map bV)[i]? = some (bV bs[i]) := by
  rw [List.getElem?_map, List.getElem?_eq_getElem hi]; rfl
def sp_codes (g : Gx) : Sp := fun vs H Q _ => ∃ x : Str, vs = [.str x] ∧ x.cps.size ≤ 1000 ∧ ∀ p H', H p = none → Ex H H' → H' p = some (.tup (x.cps.toList.map fun c => .int (c : Nat))) → Q (.ref p) H'
abbrev N_codes : List Str := ["word", "sign"]
theorem sc_codes : FnScope N_codes ["word"] (defScope s_codes) := ⟨rfl, rfl, rfl, by decide +kernel, rfl, by decide +kernel, by decide +kernel⟩
set_option maxHeartbeats 8000000 in
theorem ok_codes {g : Gx} (T : Tx g) : RGl g CX0 1 "codes" (sp_codes g) := by
  refine gl0 (N := N_codes) (ps := ["word"]) (st := s_codes) T 14 rfl T.d_codes sc_codes (fun _ _ _ _ _ _ us hl => match us, hl with | [_], _ => rfl) (fun vs H Q E h => by obtain ⟨x, rfl, hx, q⟩ := h; rfl) (fun f cdv A outer s H vs Q E hr h => ?_)
  obtain ⟨x, rfl, hx, q⟩ := h
  refine ⟨_, (pss_one (ps_ret (pe_callTy call_tuple_of rfl T.f_tuple (by decide +kernel) (pa_cons (pe_lc (own := [("sign", 1)]) (tt := tYes) rfl sc_codes.nd (pi_str (pv 0)) (blkOk_by (N := N_codes) (sc := defScope s_codes) (by decide +kernel)) (fun _ _ _ _ _ => (pg_name (i := 1) sc_codes.nd rfl (Or.inl rfl))) (fun _ _ _ _ _ => pts_nil) (fun _ _ _ _ _ => (pe_callB call_ord rfl T.f_ord (by decide +kernel) (pa_cons (pv 1) pa_nil)))) pa_nil)))), ?_⟩

  refine ⟨_, rfl, x, rfl, fun D hD => ?_⟩
  refine lc_it walk_str (fun i H' => Ex H H' ∧ H' D = some (.lst ((x.cps.toList.take i).map fun c => .int (c : Nat)))) ⟨Ex.new hD, upd_same⟩ (fun _ _ _ _ => trivial) (fun i v H1 H2 hi hP hy => ?_) (fun H1 hP => ?_)
  · obtain ⟨e1, c, hc, rfl⟩ := hy
    subst e1
    refine ⟨rfl, ⟨_, rfl, ⟨#[c]⟩, rfl, rfl, _, hP.2, ?_, ?_, ?_⟩⟩
    · rw [List.length_map, List.length_take]; have h := sizeLine_eq; simp only [Array.length_toList]; omega
    · exact Ex.mut hP.1 hD
    · rw [upd_same, List.take_add_one]
      have h2 : x.cps.toList[i]? = some c := by rw [Array.getElem?_toList]; exact hc
      rw [h2, List.map_append]
      rfl
  · have e : x.cps.toList.take x.cps.size = x.cps.toList := List.take_of_length_le (by simp)
    rw [e] at hP
    exact ⟨D, _, rfl, .inl ⟨.inl (.inl hP.2), fun l hl => q l _ (Evl.fresh_back hP.1 hl) (hP.1.trans (Ex.new hl)) upd_same⟩⟩
theorem dec_le {a b : Int} : decide (a ≤ b) = decide (a ≤ b) := rfl
def sp_is_digit (g : Gx) : Sp := fun vs H Q _ => ∃ b : UInt8, vs = [bV b] ∧ Q (.bl (VamvsBase.isDigit b)) H
abbrev N_is_digit : List Str := ["byte"]
theorem sc_is_digit : FnScope N_is_digit ["byte"] (defScope s_is_digit) := ⟨rfl, rfl, rfl, by decide +kernel, rfl, by decide +kernel, by decide +kernel⟩
set_option maxHeartbeats 8000000 in
theorem ok_is_digit {g : Gx} (T : Tx g) : RGl g CX0 1 "is_digit" (sp_is_digit g) := by
  refine gl0 (N := N_is_digit) (ps := ["byte"]) (st := s_is_digit) T 15 rfl T.d_is_digit sc_is_digit (fun _ _ _ _ _ _ us hl => match us, hl with | [_], _ => rfl) (fun vs H Q E h => by obtain ⟨b, rfl, q⟩ := h; rfl) (fun f cdv A outer s H vs Q E hr h => ?_)
  obtain ⟨b, rfl, q⟩ := h
  refine ⟨_, (pss_one (ps_ret (pe_chain op_le op_le pe_int (pv 0) pe_int))), ?_⟩

  refine ⟨_, rfl, 48, _, rfl, rfl, _, rfl, ?_⟩
  have e : VamvsBase.isDigit b = (decide ((48 : Int) ≤ (b.toNat : Int)) && decide ((b.toNat : Int) ≤ 57)) := by
    unfold VamvsBase.isDigit
    rw [Bool.eq_iff_iff]
    simp only [decide_eq_true_eq, Bool.and_eq_true]
    omega
  rw [e] at q
  cases h : decide ((48 : Int) ≤ (b.toNat : Int)) with
  | false => rw [h] at q; exact iteF q
  | true => rw [h] at q; exact iteT ⟨_, 57, rfl, rfl, q⟩
def sp_is_letter (g : Gx) : Sp := fun vs H Q _ => ∃ b : UInt8, vs = [bV b] ∧ Q (.bl (VamvsBase.isLetter b)) H
abbrev N_is_letter : List Str := ["byte"]
theorem sc_is_letter : FnScope N_is_letter ["byte"] (defScope s_is_letter) := ⟨rfl, rfl, rfl, by decide +kernel, rfl, by decide +kernel, by decide +kernel⟩
set_option maxHeartbeats 8000000 in
theorem ok_is_letter {g : Gx} (T : Tx g) : RGl g CX0 1 "is_letter" (sp_is_letter g) := by
  refine gl0 (N := N_is_letter) (ps := ["byte"]) (st := s_is_letter) T 16 rfl T.d_is_letter sc_is_letter (fun _ _ _ _ _ _ us hl => match us, hl with | [_], _ => rfl) (fun vs H Q E h => by obtain ⟨b, rfl, q⟩ := h; rfl) (fun f cdv A outer s H vs Q E hr h => ?_)
  obtain ⟨b, rfl, q⟩ := h
  refine ⟨_, (pss_one (ps_ret (pe_or (pe_chain op_le op_le pe_int (pv 0) pe_int) (pe_one (pe_chain op_le op_le pe_int (pv 0) pe_int))))), ?_⟩

  have e : VamvsBase.isLetter b = ((decide ((65 : Int) ≤ (b.toNat : Int)) && decide ((b.toNat : Int) ≤ 90)) || (decide ((97 : Int) ≤ (b.toNat : Int)) && decide ((b.toNat : Int) ≤ 122))) := by
    unfold VamvsBase.isLetter
    rw [Bool.eq_iff_iff]
    simp only [decide_eq_true_eq, Bool.and_eq_true, Bool.or_eq_true]
    omega
  rw [e] at q
  have second : ∀ Q' : VK, (∀ z, z = (decide ((97 : Int) ≤ (b.toNat : Int)) && decide ((b.toNat : Int) ≤ 122)) → Q' (.bl z) H) → ∃ i j : Int, V.int 97 = .int i ∧ bV b = .int j ∧ ∃ k, V.bl (decide (i ≤ j)) = .bl k ∧ (if k = true then ∃ i j : Int, bV b = .int i ∧ V.int 122 = .int j ∧ Q' (.bl (decide (i ≤ j))) H else Q' (.bl false) H) := fun Q' q' => by
    refine ⟨97, _, rfl, rfl, _, rfl, ?_⟩
    cases h : decide ((97 : Int) ≤ (b.toNat : Int)) with
    | false => exact iteF (q' _ (by rw [h]; rfl))
    | true => exact iteT ⟨_, 122, rfl, rfl, q' _ (by rw [h]; rfl)⟩
  refine ⟨_, rfl, 65, _, rfl, rfl, _, rfl, ?_⟩
  cases h : decide ((65 : Int) ≤ (b.toNat : Int)) with
  | false =>
    refine iteF ⟨_, rfl, iteF ⟨_, rfl, ?_⟩⟩
    rw [h] at q
    exact second _ fun z hz => by rw [hz]; exact q
  | true =>
    refine iteT ⟨_, 90, rfl, rfl, _, rfl, ?_⟩
    rw [h] at q
    cases h2 : decide ((b.toNat : Int) ≤ 90) with
    | true => rw [h2] at q; exact iteT q
    | false =>
      rw [h2] at q
      refine iteF ⟨_, rfl, ?_⟩
      exact second _ fun z hz => by rw [hz]; exact q
/-- while text[at] keeps p -/
theorem tw_step {p : UInt8 → Bool} {bs : List UInt8} {j : Nat} (hj : j < bs.length) (hp : p bs[j] = true) : ((bs.drop j).takeWhile p).length = ((bs.drop (j + 1)).takeWhile p).length + 1 := by
  rw [List.drop_eq_getElem_cons hj, List.takeWhile_cons, if_pos hp, List.length_cons]
theorem tw_stop {p : UInt8 → Bool} {bs : List UInt8} {j : Nat} (h : ∀ hj : j < bs.length, p bs[j] = false) : ((bs.drop j).takeWhile p).length = 0 := by
  by_cases hj : j < bs.length
  · rw [List.drop_eq_getElem_cons hj, List.takeWhile_cons, if_neg (by rw [h hj]; exact Bool.false_ne_true)]; rfl
  · rw [List.drop_of_length_le (by omega)]; rfl
def spEnd (p : UInt8 → Bool) : Sp := fun vs H Q _ => ∃ (a : Addr) (bs : List UInt8) (i : Nat), vs = [.ref a, nV i] ∧ TxA H a bs ∧ i ≤ bs.length ∧ Q (nV (i + ((bs.drop i).takeWhile p).length)) H
/-- the loop: its test says whether p still holds -/
theorem end_loop {c : TT} {D : Ends} {H : Hp} {a : Addr} {bs : List UInt8} {i : Nat} {p : UInt8 → Bool} (hi : i ≤ bs.length)
    (hc : ∀ (j : Nat) (Q : Bool → Hp → Prop), j ≤ bs.length → (∀ b, (b = true ↔ ∃ hj : j < bs.length, p bs[j] = true) → Q b H) → c [some (.ref a), some (nV j)] H Q)
    (q : D.nx [some (.ref a), some (nV (i + ((bs.drop i).takeWhile p).length))] H) : tWhile c (tAsg (tOp (rI0 fun i j => .int (i + j)) (tVar 1) (tC (.int 1))) (gName 1)) D [some (.ref a), some (nV i)] H := by
  refine ⟨fun m σ H' => H' = H ∧ ∃ j, j ≤ bs.length ∧ m = bs.length - j ∧ σ = [some (.ref a), some (nV j)] ∧ j + ((bs.drop j).takeWhile p).length = i + ((bs.drop i).takeWhile p).length, ⟨_, rfl, i, hi, rfl, rfl, rfl⟩, ?_⟩
  rintro m σ H' ⟨rfl, j, hj, rfl, rfl, e⟩
  refine hc j _ hj fun b hb => ?_
  cases b with
  | true =>
    obtain ⟨hj2, hp⟩ := hb.mp rfl
    refine iteT ⟨fun σ' H'' => H'' = H' ∧ σ' = [some (.ref a), some (nV (j + 1))], ?_, ?_⟩
    · rintro σ' H'' ⟨rfl, rfl⟩
      refine ⟨bs.length - (j + 1), by omega, rfl, j + 1, hj2, rfl, rfl, ?_⟩
      have := tw_step hj2 hp
      omega
    · exact ⟨_, rfl, _, _, rfl, rfl, rfl, rfl⟩
  | false =>
    refine iteF ?_
    have z : ((bs.drop j).takeWhile p).length = 0 := tw_stop fun hj2 => by
      cases hp : p bs[j] with
      | false => rfl
      | true => exact absurd (hb.mpr ⟨hj2, hp⟩) (by decide)
    have e2 : j = i + ((bs.drop i).takeWhile p).length := by omega
    rw [← e2] at q
    exact q
theorem no_end {p : UInt8 → Bool} {bs : List UInt8} {j : Nat} (h : ¬ j < bs.length) : (false = true) ↔ ∃ hj : j < bs.length, p bs[j] = true :=
  ⟨fun z => Bool.noConfusion z, fun z => let ⟨z, _⟩ := z; absurd z h⟩
theorem at_end {p : UInt8 → Bool} {bs : List UInt8} {j : Nat} (h : j < bs.length) : (p bs[j] = true) ↔ ∃ hj : j < bs.length, p bs[j] = true := ⟨fun z => ⟨h, z⟩, fun z => let ⟨_, z⟩ := z; z⟩
theorem eq_bV {b : UInt8} {n : Nat} (hn : n < 256) : decide (bV b = V.int (n : Int)) = (b == UInt8.ofNat n) := by
  rw [dec_int, Bool.eq_iff_iff, beq_iff_eq, beq_iff_eq]
  constructor
  · intro h
    refine UInt8.toNat_inj.mp ?_
    rw [UInt8.toNat_ofNat_of_lt' hn]
    omega
  · intro h
    rw [h, UInt8.toNat_ofNat_of_lt' hn]
theorem ne10 {b : UInt8} : (!decide (bV b = V.int 10)) = (b != 10) := by
  have h := eq_bV (b := b) (n := 10) (by decide)
  show (!decide (bV b = V.int ((10 : Nat) : Int))) = _
  rw [h]; rfl
def sp_remark_end (g : Gx) : Sp := spEnd fun b => b != 10
abbrev N_remark_end : List Str := ["text", "at"]
theorem sc_remark_end : FnScope N_remark_end ["text", "at"] (defScope s_remark_end) := ⟨rfl, rfl, rfl, by decide +kernel, rfl, by decide +kernel, by decide +kernel⟩
set_option maxHeartbeats 8000000 in
theorem ok_remark_end {g : Gx} (T : Tx g) : RGl g CX0 1 "remark_end" (sp_remark_end g) := by
  refine gl0 (N := N_remark_end) (ps := ["text", "at"]) (st := s_remark_end) T 17 rfl T.d_remark_end sc_remark_end (fun _ _ _ _ _ _ us hl => match us, hl with | [_, _], _ => rfl) (fun vs H Q E h => by obtain ⟨a, bs, i, rfl, ha, hi, q⟩ := h; rfl) (fun f cdv A outer s H vs Q E hr h => ?_)
  obtain ⟨a, bs, i, rfl, ha, hi, q⟩ := h
  refine ⟨_, (pss_cons (ps_while PassesOwn.never (PW.pt (pw_and (pt_cmpR op_lt (pv 1) (pe_callB call_len_seq rfl T.f_len PySem.boot_len (pa_cons (pv 0) pa_nil)) (nomark _)) (pw_and1 (pt_cmpR op_ne (pe_ix (r := rIxL g.K) ix_list (pv 0) (pv 1) (fun _ _ => rfl)) (pe_gc rfl T.g_LINE_END) (nomark _))))) (pss_one (ps_set (i := 1) sc_remark_end.nd rfl (Or.inl rfl) (pe_op op_add (pv 1) pe_int)))) (pss_one (ps_ret (pv 1)))), ?_⟩

  refine end_loop (p := fun b => b != 10) hi (fun j Q' hj k => ?_) ⟨_, rfl, q⟩
  refine ⟨_, rfl, _, rfl, a, _, rfl, .inl (.inl (.inl ha)), j, _, rfl, rfl, _, rfl, ?_⟩
  rw [List.length_map]
  by_cases hlt : j < bs.length
  · rw [decide_eq_true (by omega : (j : Int) < (bs.length : Int))]
    refine iteT ⟨_, rfl, _, rfl, a, _, j, _, rfl, rfl, .inl (.inl ha), atI_n (tx_at hlt), rfl, _, rfl, k _ ?_⟩
    rw [ne10]
    exact at_end (p := fun b => b != 10) hlt
  · rw [decide_eq_false (by omega : ¬ (j : Int) < (bs.length : Int))]
    exact iteF (k _ (no_end (p := fun b => b != 10) hlt))
def sp_number_end (g : Gx) : Sp := spEnd VamvsBase.isDigit
abbrev N_number_end : List Str := ["text", "at"]
theorem sc_number_end : FnScope N_number_end ["text", "at"] (defScope s_number_end) := ⟨rfl, rfl, rfl, by decide +kernel, rfl, by decide +kernel, by decide +kernel⟩
set_option maxHeartbeats 8000000 in
theorem ok_number_end {g : Gx} (T : Tx g) : RGl g CX0 2 "number_end" (sp_number_end g) := by
  refine gl0 (N := N_number_end) (ps := ["text", "at"]) (st := s_number_end) T 19 rfl T.d_number_end sc_number_end (fun _ _ _ _ _ _ us hl => match us, hl with | [_, _], _ => rfl) (fun vs H Q E h => by obtain ⟨a, bs, i, rfl, ha, hi, q⟩ := h; rfl) (fun f cdv A outer s H vs Q E hr h => ?_)
  obtain ⟨a, bs, i, rfl, ha, hi, q⟩ := h
  refine ⟨_, (pss_cons (ps_while PassesOwn.never (PW.pt (pw_and (pt_cmpR op_lt (pv 1) (pe_callB call_len_seq rfl T.f_len PySem.boot_len (pa_cons (pv 0) pa_nil)) (nomark _)) (pw_and1 (pt_val (pe_gl (ok_is_digit T) hr (by decide) pass0 rfl (pa_cons (pe_ix (r := rIxL g.K) ix_list (pv 0) (pv 1) (fun _ _ => rfl)) pa_nil)))))) (pss_one (ps_set (i := 1) sc_number_end.nd rfl (Or.inl rfl) (pe_op op_add (pv 1) pe_int)))) (pss_one (ps_ret (pv 1)))), ?_⟩

  refine end_loop (p := VamvsBase.isDigit) hi (fun j Q' hj k => ?_) ⟨_, rfl, q⟩
  refine ⟨_, rfl, _, rfl, a, _, rfl, .inl (.inl (.inl ha)), j, _, rfl, rfl, _, rfl, ?_⟩
  rw [List.length_map]
  by_cases hlt : j < bs.length
  · rw [decide_eq_true (by omega : (j : Int) < (bs.length : Int))]
    exact iteT ⟨_, rfl, _, rfl, a, _, j, _, rfl, rfl, .inl (.inl ha), atI_n (tx_at hlt), bs[j], rfl, _, rfl, k _ (at_end hlt)⟩
  · rw [decide_eq_false (by omega : ¬ (j : Int) < (bs.length : Int))]
    exact iteF (k _ (no_end hlt))
def sp_name_end (g : Gx) : Sp := spEnd fun b => VamvsBase.isLetter b || VamvsBase.isDigit b
abbrev N_name_end : List Str := ["text", "at"]
theorem sc_name_end : FnScope N_name_end ["text", "at"] (defScope s_name_end) := ⟨rfl, rfl, rfl, by decide +kernel, rfl, by decide +kernel, by decide +kernel⟩
set_option maxHeartbeats 8000000 in
theorem ok_name_end {g : Gx} (T : Tx g) : RGl g CX0 2 "name_end" (sp_name_end g) := by
  refine gl0 (N := N_name_end) (ps := ["text", "at"]) (st := s_name_end) T 18 rfl T.d_name_end sc_name_end (fun _ _ _ _ _ _ us hl => match us, hl with | [_, _], _ => rfl) (fun vs H Q E h => by obtain ⟨a, bs, i, rfl, ha, hi, q⟩ := h; rfl) (fun f cdv A outer s H vs Q E hr h => ?_)
  obtain ⟨a, bs, i, rfl, ha, hi, q⟩ := h
  refine ⟨_, (pss_cons (ps_while PassesOwn.never (PW.pt (pw_and (pt_cmpR op_lt (pv 1) (pe_callB call_len_seq rfl T.f_len PySem.boot_len (pa_cons (pv 0) pa_nil)) (nomark _)) (pw_and1 (PW.pt (pw_or (pt_val (pe_gl (ok_is_letter T) hr (by decide) pass0 rfl (pa_cons (pe_ix (r := rIxL g.K) ix_list (pv 0) (pv 1) (fun _ _ => rfl)) pa_nil))) (pw_or1 (pt_val (pe_gl (ok_is_digit T) hr (by decide) pass0 rfl (pa_cons (pe_ix (r := rIxL g.K) ix_list (pv 0) (pv 1) (fun _ _ => rfl)) pa_nil))))))))) (pss_one (ps_set (i := 1) sc_name_end.nd rfl (Or.inl rfl) (pe_op op_add (pv 1) pe_int)))) (pss_one (ps_ret (pv 1)))), ?_⟩

  refine end_loop (p := fun b => VamvsBase.isLetter b || VamvsBase.isDigit b) hi (fun j Q' hj k => ?_) ⟨_, rfl, q⟩
  refine ⟨_, rfl, _, rfl, a, _, rfl, .inl (.inl (.inl ha)), j, _, rfl, rfl, _, rfl, ?_⟩
  rw [List.length_map]
  by_cases hlt : j < bs.length
  · rw [decide_eq_true (by omega : (j : Int) < (bs.length : Int))]
    refine iteT ⟨_, rfl, _, rfl, a, _, j, _, rfl, rfl, .inl (.inl ha), atI_n (tx_at hlt), bs[j], rfl, _, rfl, ?_⟩
    have k2 := k _ (at_end (p := fun b => VamvsBase.isLetter b || VamvsBase.isDigit b) hlt)
    cases hL : VamvsBase.isLetter bs[j] with
    | true => simp only [hL, Bool.true_or] at k2; exact iteT k2
    | false =>
      simp only [hL, Bool.false_or] at k2
      exact iteF ⟨_, rfl, _, rfl, a, _, j, _, rfl, rfl, .inl (.inl ha), atI_n (tx_at hlt), bs[j], rfl, _, rfl, k2⟩
  · rw [decide_eq_false (by omega : ¬ (j : Int) < (bs.length : Int))]
    exact iteF (k _ (no_end (p := fun b => VamvsBase.isLetter b || VamvsBase.isDigit b) hlt))
end Sr
set_option Elab.async false
set_option linter.all false
set_option maxRecDepth 100000
set_option maxHeartbeats 4000000
/-! # Tokens: names, numbers, signs; all tokens -/
namespace Sr
open PySem PySem.Spec PyProof.Rows L2
open Evl (Ex)
theorem s1 : 1 ≤ sizeLine := by decide
theorem s2 : 2 ≤ sizeLine := by decide
theorem s3 : 3 ≤ sizeLine := by decide
theorem s4 : 4 ≤ sizeLine := by decide
theorem s5 : 5 ≤ sizeLine := by decide
/-! ## data compared -/
abbrev iD (ns : List Int) : List PyData := ns.map PyData.int
abbrev btD (bs : List UInt8) : PyData := .tuple (iD (bs.map fun b => (b.toNat : Int)))
theorem eqv_ints : ∀ xs ys : List Int, PyData.eqvAll (iD xs) (iD ys) = decide (xs = ys)
  | [], [] => rfl
  | [], _ :: _ => by rw [decide_eq_false (by simp)]; rfl
  | _ :: _, [] => by rw [decide_eq_false (by simp)]; rfl
  | x :: xs, y :: ys => by
    show (PyData.eqv (.int x) (.int y) && PyData.eqvAll (iD xs) (iD ys)) = _
    rw [eqv_ints xs ys]
    show ((x == y) && _) = _
    rw [Bool.eq_iff_iff]
    simp
theorem lay_ints : ∀ xs : List Int, PyData.canLayAll0 (iD xs) = true
  | [] => rfl
  | x :: xs => by
    show (PyData.canLay0 (.int x) && PyData.canLayAll0 (iD xs)) = true
    rw [lay_ints xs]; rfl
theorem dep_ints : ∀ xs : List Int, PyData.depthAll (iD xs) ≤ 1
  | [] => by simp [PyData.depthAll]
  | x :: xs => by
    have h := dep_ints xs
    show PyData.depthAll (.int x :: iD xs) ≤ 1
    simp only [PyData.depthAll, PyData.depth]
    omega
theorem shaped_t (xs : List Int) : SeqAt.shaped (.tuple (iD xs)) = true := by
  unfold SeqAt.shaped
  have h1 := lay_ints xs
  have h2 := dep_ints xs
  have h3 : (PyData.tuple (iD xs)).depth ≤ 64 := by simp only [PyData.depth]; omega
  rw [decide_eq_true h3]
  simpa [PyData.canLay0] using h1
theorem bt_ints (bs : List UInt8) : bs.map bV = (bs.map fun b => (b.toNat : Int)).map V.int := by rw [List.map_map]; rfl
theorem dp_tupI {K : PySem.W.Frag} {H : Hp} {a : Addr} {ns : List Int} (h : H a = some (.tup (ns.map V.int))) : Dp K H (.ref a) (.tuple (iD ns)) := .tup (.inl (.inl h)) (dp_ints ns)
theorem dp_bt {K : PySem.W.Frag} {H : Hp} {a : Addr} {bs : List UInt8} (h : H a = some (.tup (bs.map bV))) : Dp K H (.ref a) (btD bs) := dp_tupI (by rw [← bt_ints]; exact h)
theorem bytes_inj {a b : List UInt8} : (a.map fun b => (b.toNat : Int)) = (b.map fun b => (b.toNat : Int)) ↔ a = b := by
  constructor
  · intro h
    induction a generalizing b with
    | nil => cases b with
      | nil => rfl
      | cons y ys => cases h
    | cons x xs ih => cases b with
      | nil => cases h
      | cons y ys =>
        simp only [List.map_cons, List.cons.injEq] at h
        obtain ⟨h1, h2⟩ := h
        have e : x = y := UInt8.toNat_inj.mp (by omega)
        rw [e, ih h2]
  · intro h; rw [h]
theorem eqv_bt (a b : List UInt8) : PyData.eqv (btD a) (btD b) = (a == b) := by
  show PyData.eqvAll _ _ = _
  rw [eqv_ints, Bool.eq_iff_iff, decide_eq_true_eq, beq_iff_eq, bytes_inj]
/-- a text of small signs as bytes -/
theorem cps_word (s : String) (h : (s.toList.all fun c => decide (c.toNat < 256)) = true) : ((PySem.Str.ofString s).cps.toList.map fun c => V.int (c : Nat)) = (VamvsBase.word s).map bV := by
  rw [PySem.Str.ofString_eq_toList]
  unfold VamvsBase.word
  show (s.toList.map Char.toNat).map _ = _
  rw [List.map_map, List.map_map]
  refine List.map_congr_left fun c hc => ?_
  have hlt := of_decide_eq_true (List.all_eq_true.mp h c hc)
  show V.int (c.toNat : Nat) = V.int ((UInt8.ofNat c.toNat).toNat : Nat)
  rw [UInt8.toNat_ofNat_of_lt' hlt]
theorem cut_at {bs : List UInt8} {i n : Nat} (h : i + n ≤ bs.length) : cutV (bs.map bV) (some (i : Int)) (some ((i + n : Nat) : Int)) = ((bs.drop i).take n).map bV := by
  unfold cutV
  rw [HT.sIx_nat, HT.sIx_nat, List.length_map, Nat.min_eq_left h, Nat.min_eq_left (by omega), List.map_take, List.map_drop]
  congr 1
  omega
theorem tw_le (p : UInt8 → Bool) (bs : List UInt8) : (bs.takeWhile p).length ≤ bs.length := (List.takeWhile_prefix p).length_le
theorem tw_take (p : UInt8 → Bool) (bs : List UInt8) : bs.take (bs.takeWhile p).length = bs.takeWhile p := (List.prefix_iff_eq_take.mp (List.takeWhile_prefix p)).symm
/-! ## tokens as tuples -/
def TokAt (H : Hp) (v : V) : VamvsBase.PTok → Prop
  | ⟨pl, .name b⟩ => ∃ a r, v = .ref a ∧ H a = some (.tup [nV (if VamvsBase.RESERVED.contains b = true then 1 else 0), .ref r, nV pl]) ∧ H r = some (.tup (b.map bV))
  | ⟨pl, .num n⟩ => ∃ a, v = .ref a ∧ H a = some (.tup [nV 2, nV n, nV pl])
  | ⟨pl, .sign c⟩ => ∃ a, v = .ref a ∧ H a = some (.tup [nV 3, nV c, nV pl])
  | ⟨pl, .last⟩ => ∃ a, v = .ref a ∧ H a = some (.tup [nV 4, nV 0, nV pl])
theorem TokAt.keep {H H' : Hp} {v : V} (k : Kt H H') : ∀ {t : VamvsBase.PTok}, TokAt H v t → TokAt H' v t
  | ⟨_, .name _⟩, ⟨a, r, e, h1, h2⟩ => ⟨a, r, e, k _ _ h1, k _ _ h2⟩
  | ⟨_, .num _⟩, ⟨a, e, h⟩ => ⟨a, e, k _ _ h⟩
  | ⟨_, .sign _⟩, ⟨a, e, h⟩ => ⟨a, e, k _ _ h⟩
  | ⟨_, .last⟩, ⟨a, e, h⟩ => ⟨a, e, k _ _ h⟩
abbrev FltX (g : Gx) (H : Hp) (E : XK) (c pl : Nat) : Prop := ∀ d H', Ex H H' → H' d = some (.xd [("place", nV pl), ("code", nV c)]) → E (.ref (g.C "Fault")) (some d) H'
/-- a token at i, and where it ends -/
def TkR (H : Hp) (Q : VK) (i : Nat) (t : VamvsBase.Tok) (n : Nat) : Prop := ∀ p H' x, H p = none → Ex H H' → H' p = some (.tup [x, nV (i + n)]) → TokAt H' x ⟨i, t⟩ → Q (.ref p) H'
abbrev wordP (b : UInt8) : Bool := VamvsBase.isLetter b || VamvsBase.isDigit b
theorem words_at {g : Gx} (T : Tx g) (H : Hp) : SqT g.K H (He.ga g.K "WORDS") [.str "columns", .str "row", .str "ask", .str "times"] := He.tupB_ok T.tups.2.2.1 H
def sp_name_at (g : Gx) : Sp := fun vs H Q E => ∃ (a : Addr) (bs : List UInt8) (i : Nat), vs = [.ref a, nV i] ∧ TxA H a bs ∧ i ≤ bs.length ∧ (16 < ((bs.drop i).takeWhile wordP).length → FltX g H E 2 i) ∧ (¬ 16 < ((bs.drop i).takeWhile wordP).length → TkR H Q i (.name ((bs.drop i).takeWhile wordP)) ((bs.drop i).takeWhile wordP).length)
abbrev N_name_at : List Str := ["text", "at", "end", "name", "is_word", "word"]
theorem sc_name_at : FnScope N_name_at ["text", "at"] (defScope s_name_at) := ⟨rfl, rfl, rfl, by decide +kernel, rfl, by decide +kernel, by decide +kernel⟩
set_option maxHeartbeats 8000000 in
theorem ok_name_at {g : Gx} (T : Tx g) : RGl g (CXr g) 3 "name_at" (sp_name_at g) := by
  refine glX (N := N_name_at) (ps := ["text", "at"]) (st := s_name_at) T 20 rfl T.d_name_at sc_name_at (fun _ _ _ _ _ _ us hl => match us, hl with | [_, _], _ => rfl) (fun vs H Q E h => by obtain ⟨a, bs, i, rfl, ha, hi, qE, q⟩ := h; rfl) (fun f cdv A outer s H vs Q E hr h => ?_)
  obtain ⟨a, bs, i, rfl, ha, hi, qE, q⟩ := h
  refine ⟨_, (pss_cons (ps_set (i := 2) sc_name_at.nd rfl (Or.inl rfl) (pe_gl (ok_name_end T) hr (by decide) pass0 rfl (pa_cons (pv 0) (pa_cons (pv 1) pa_nil)))) (pss_cons (ps_if (pt_cmpR op_gt (pe_op op_sub (pv 2) (pv 1)) (pe_gc rfl T.g_MOST_LETTERS) (nomark _)) (pss_one (ps_xFault T hr (by decide) rfl tkR rfl (pa_cons (pe_gc rfl T.g_NO_TOKEN) (pa_cons (pv 1) pa_nil)))) pss_nil) (pss_cons (ps_set (i := 3) sc_name_at.nd rfl (Or.inr rfl) (pe_callTy call_tuple_of rfl T.f_tuple (by decide +kernel) (pa_cons (pe_slice sl_list (pv 0) (po_some (pv 1)) (po_some (pv 2))) pa_nil))) (pss_cons (ps_set (i := 4) sc_name_at.nd rfl (Or.inl rfl) (pe_callB (cr_any rfl) rfl T.f_any (by decide +kernel) (pa_cons (pe_lc (own := [("word", 5)]) (tt := tYes) rfl sc_name_at.nd (pi_tup (pe_gc rfl T.g_WORDS)) (blkOk_by (N := N_name_at) (sc := defScope s_name_at) (by decide +kernel)) (fun _ _ _ _ _ => (pg_name (i := 5) sc_name_at.nd rfl (Or.inl rfl))) (fun _ _ _ _ _ => pts_nil) (fun _ _ _ _ _ => (pe_cmpR (r := rEqD g.K) (op_eqD (u64 hr)) (pv 3) (pe_gl (ok_codes T) hr (by decide) pass0 rfl (pa_cons (pv 5) pa_nil)) (nomark _)))) pa_nil))) (pss_one (ps_ret (pe_tup (pa_cons (pe_tup (pa_cons (pe_ifExp (pt_val (pv 4)) (pe_gc rfl T.g_WORD) (pe_gc rfl T.g_NAME)) (pa_cons (pv 3) (pa_cons (pv 1) pa_nil)))) (pa_cons (pv 2) pa_nil))))))))), ?_⟩

  refine ⟨_, rfl, _, rfl, a, bs, i, rfl, ha, hi, ?_⟩
  have hw := tw_le wordP (bs.drop i)
  have hw2 := tw_take wordP (bs.drop i)
  rw [List.length_drop] at hw
  show tSeq _ _ _ [some (.ref a), some (nV i), some (nV (i + ((bs.drop i).takeWhile wordP).length)), none, none, none] H
  generalize (bs.drop i).takeWhile wordP = w at *
  refine ⟨_, rfl, _, rfl, _, _, rfl, rfl, _, _, rfl, rfl, _, rfl, ?_⟩
  by_cases hl : 16 < w.length
  · rw [decide_eq_true (by omega : (16 : Int) < ((i + w.length : Nat) : Int) - ((i : Nat) : Int))]
    exact iteT ⟨_, rfl, _, _, rfl, fun d H' e hd => qE hl d H' e hd⟩
  · rw [decide_eq_false (by omega : ¬ (16 : Int) < ((i + w.length : Nat) : Int) - ((i : Nat) : Int))]
    refine iteF ?_
    refine ⟨_, rfl, _, rfl, (i : Int), rfl, _, rfl, ((i + w.length : Nat) : Int), rfl, a, _, rfl, .inl (.inl ha), fun p1 hp1 => ⟨p1, _, rfl, .inl ⟨.inl (.inl upd_same), fun l hl1 => ?_⟩⟩⟩
    rw [cut_at (by omega), hw2] at hl1 ⊢
    have hl1' : H l = none := by rw [upd_ne (fun z => by rw [z, upd_same] at hl1; cases hl1)] at hl1; exact hl1
    have e0 : Ex H (upd (upd H p1 (.lst (w.map bV))) l (.tup (w.map bV))) := (Ex.new hp1).trans (Ex.new hl1)
    have hb : (upd (upd H p1 (.lst (w.map bV))) l (.tup (w.map bV))) l = some (.tup (w.map bV)) := upd_same
    generalize (upd (upd H p1 (.lst (w.map bV))) l (.tup (w.map bV))) = H1 at e0 hb
    show tSeq _ _ _ [some (.ref a), some (nV i), some (nV (i + w.length)), some (.ref l), none, none] H1
    refine ⟨_, rfl, ⟨_, words_at T H1⟩, fun D hD => ?_⟩
    refine lc_it walk_tup (fun k H' => Ex H1 H' ∧ H' D = some (.lst (((["columns", "row", "ask", "times"] : List String).take k).map fun s => V.bl (w == VamvsBase.word s)))) ⟨Ex.new hD, upd_same⟩ (fun k H' _ _ => words_at T H') (fun k v H2 H3 hk hP hy => ?_) (fun H2 hP => ?_)
    · obtain ⟨e1, hv⟩ := hy
      subst e1
      have one : ∀ s : String, v = .str (PySem.Str.ofString s) → (s.toList.all fun c => decide (c.toNat < 256)) = true → (PySem.Str.ofString s).cps.size ≤ 1000 → (["columns", "row", "ask", "times"] : List String)[k]? = some s →
          (tOp (rEqD g.K) (tVar 3) (tCall (sp_codes g) [] E (tCons (tVar 5) tNil))) ((wipe [some (.ref a), some (nV i), some (nV (i + w.length)), some (.ref l), none, none] [5]).set 5 (some v)) H3 fun y H4 => ∃ acc, H4 D = some (.lst acc) ∧ acc.length < sizeLine ∧ Ex H1 (upd H4 D (.lst (acc ++ [y]))) ∧
            (upd H4 D (.lst (acc ++ [y]))) D = some (.lst (((["columns", "row", "ask", "times"] : List String).take (k + 1)).map fun s => V.bl (w == VamvsBase.word s))) := fun s es h1 h2 h3 => by
        subst es
        refine ⟨_, rfl, _, rfl, PySem.Str.ofString s, rfl, h2, fun p4 H4 hp4 e4 h4 => ?_⟩
        rw [cps_word s h1] at h4
        refine ⟨btD w, btD (VamvsBase.word s), dp_bt (e4 _ _ (hP.1 _ _ hb)), dp_bt h4, shaped_t _, shaped_t _, _, e4 _ _ hP.2, ?_, Ex.mut (hP.1.trans e4) hD, ?_⟩
        · rw [List.length_map, List.length_take]; have h := sizeLine_eq; simp only [List.length_cons, List.length_nil]; omega
        · rw [upd_same, List.take_add_one, h3, eqv_bt, List.map_append]
          rfl
      refine ⟨rfl, ?_⟩
      match k, hk, hv, one with
      | 0, _, hv, one => cases hv; exact one "columns" rfl (by decide) (by decide) rfl
      | 1, _, hv, one => cases hv; exact one "row" rfl (by decide) (by decide) rfl
      | 2, _, hv, one => cases hv; exact one "ask" rfl (by decide) (by decide) rfl
      | 3, _, hv, one => cases hv; exact one "times" rfl (by decide) (by decide) rfl
    · refine ⟨D, (["columns", "row", "ask", "times"] : List String).map fun s => (w == VamvsBase.word s), rfl, .inl (.inl hP.2), ?_⟩
      have ec : VamvsBase.RESERVED.contains w = ((["columns", "row", "ask", "times"] : List String).map fun s => (w == VamvsBase.word s)).any id := by
        unfold VamvsBase.RESERVED
        simp only [List.map_cons, List.map_nil, List.any_cons, List.any_nil, id_eq, List.contains_cons, List.contains_nil]
      rw [← ec]
      refine ⟨_, rfl, _, rfl, ?_⟩
      have e2 : Ex H H2 := e0.trans hP.1
      have hb2 := hP.1 _ _ hb
      have last : ∀ k : Nat, k = (if VamvsBase.RESERVED.contains w = true then 1 else 0) → ∀ p1, H2 p1 = none → ∀ p2, (upd H2 p1 (.tup [nV k, .ref l, nV i])) p2 = none → Q (.ref p2) (upd (upd H2 p1 (.tup [nV k, .ref l, nV i])) p2 (.tup [.ref p1, nV (i + w.length)])) := fun k hk p1 hp1 p2 hp2 => by
        have e3 := Ex.new (o := HO.tup [nV k, .ref l, nV i]) hp1
        have e4 := Ex.new (o := HO.tup [.ref p1, nV (i + w.length)]) hp2
        refine q hl p2 _ (.ref p1) (Evl.fresh_back (e2.trans e3) hp2) ((e2.trans e3).trans e4) upd_same ⟨p1, l, rfl, ?_, e4 _ _ (e3 _ _ hb2)⟩
        rw [← hk]
        exact e4 _ _ upd_same
      cases hr : VamvsBase.RESERVED.contains w with
      | true =>
        refine iteT ⟨_, rfl, _, rfl, s3, fun p1 hp1 => ⟨_, rfl, s2, fun p2 hp2 => ?_⟩⟩
        exact last 1 (by rw [hr]; rfl) p1 hp1 p2 hp2
      | false =>
        refine iteF ⟨_, rfl, _, rfl, s3, fun p1 hp1 => ⟨_, rfl, s2, fun p2 hp2 => ?_⟩⟩
        exact last 0 (by rw [hr]; rfl) p1 hp1 p2 hp2
end Sr
set_option Elab.async false
set_option linter.all false
set_option maxRecDepth 100000
set_option maxHeartbeats 4000000
/-! # Tokens: numbers, signs; all tokens -/
namespace Sr
open PySem PySem.Spec PyProof.Rows L2
open Evl (Ex)
theorem snoc_ind {α : Type} {P : List α → Prop} (h0 : P []) (hs : ∀ l b, P l → P (l ++ [b])) (l : List α) : P l := by
  have k : ∀ r : List α, P r.reverse := fun r => by
    induction r with
    | nil => exact h0
    | cons b r ih => rw [List.reverse_cons]; exact hs _ _ ih
  have := k l.reverse
  rwa [List.reverse_reverse] at this
/-! ## what digits say -/
theorem dec_snoc (l : List UInt8) (b : UInt8) : VamvsBase.decimal (l ++ [b]) = 10 * VamvsBase.decimal l + (b.toNat - 48) := by
  unfold VamvsBase.decimal
  rw [List.foldl_append]; rfl
theorem dig {b : UInt8} (h : VamvsBase.isDigit b = true) : 48 ≤ b.toNat ∧ b.toNat ≤ 57 := of_decide_eq_true h
theorem dec_lt : ∀ (l : List UInt8), (∀ b ∈ l, VamvsBase.isDigit b = true) → VamvsBase.decimal l < 10 ^ l.length := by
  intro l
  refine snoc_ind (P := fun l => (∀ b ∈ l, VamvsBase.isDigit b = true) → VamvsBase.decimal l < 10 ^ l.length) ?_ ?_ l
  · intro _; decide
  · intro l b ih h
    have h1 := ih fun c hc => h c (List.mem_append_left _ hc)
    have h2 := dig (h b (by simp))
    rw [dec_snoc, List.length_append, List.length_singleton, Nat.pow_succ]
    omega
theorem dec_ge {b : UInt8} (hb : 49 ≤ b.toNat) : ∀ (l : List UInt8), 10 ^ l.length ≤ VamvsBase.decimal (b :: l) := by
  intro l
  refine snoc_ind (P := fun l => 10 ^ l.length ≤ VamvsBase.decimal (b :: l)) ?_ ?_ l
  · show 1 ≤ 10 * 0 + (b.toNat - 48); omega
  · intro l c ih
    rw [← List.cons_append, dec_snoc, List.length_append, List.length_singleton, Nat.pow_succ]
    omega
theorem number_none {b : UInt8} {l : List UInt8} (hd : ∀ c ∈ b :: l, VamvsBase.isDigit c = true) : VamvsBase.numberOf (b :: l) = none ↔ (1000000000 < VamvsBase.decimal (b :: l) ∨ (1 < (b :: l).length ∧ b.toNat = 48)) := by
  unfold VamvsBase.numberOf
  have hb := dig (hd b List.mem_cons_self)
  have e48 : (b :: l).head? = some 48 ↔ b.toNat = 48 := by
    show some b = some 48 ↔ _
    rw [Option.some.injEq]
    constructor
    · intro h; rw [h]; rfl
    · intro h; exact UInt8.toNat_inj.mp (by rw [h]; rfl)
  constructor
  · intro h
    split at h
    · rename_i c
      rcases c with c | c | c | c
      · cases c
      · by_cases e : b.toNat = 48
        · exact .inr ⟨by omega, e⟩
        · have h1 := dec_ge (b := b) (by omega) l
          have h2 : 10 ^ 10 ≤ 10 ^ l.length := Nat.pow_le_pow_right (by decide) (by rw [List.length_cons] at c; omega)
          exact .inl (by omega)
      · exact .inr ⟨c.1, e48.mp c.2⟩
      · exact .inl c
    · cases h
  · intro h
    rw [if_pos]
    rcases h with h | h
    · exact .inr (.inr (.inr h))
    · exact .inr (.inr (.inl ⟨h.1, e48.mpr h.2⟩))
theorem number_some {l : List UInt8} {n : Nat} (h : VamvsBase.numberOf l = some n) : n = VamvsBase.decimal l := by
  unfold VamvsBase.numberOf at h
  split at h
  · cases h
  · exact (Option.some.inj h).symm
theorem mem_tw {p : UInt8 → Bool} : ∀ {l : List UInt8} {b : UInt8}, b ∈ l.takeWhile p → p b = true
  | [], _, h => by cases h
  | a :: l, b, h => by
    rw [List.takeWhile_cons] at h
    split at h
    · rename_i c
      rcases List.mem_cons.mp h with e | e
      · rw [e]; exact c
      · exact mem_tw e
    · cases h
def sp_number_at (g : Gx) : Sp := fun vs H Q E => ∃ (a : Addr) (bs : List UInt8) (i : Nat) (b : UInt8) (r : List UInt8), vs = [.ref a, nV i] ∧ TxA H a bs ∧ bs.length ≤ 4096 ∧ i < bs.length ∧ bs[i]? = some b ∧ (bs.drop i).takeWhile VamvsBase.isDigit = b :: r ∧ (VamvsBase.numberOf (b :: r) = none → FltX g H E 2 i) ∧ (∀ n, VamvsBase.numberOf (b :: r) = some n → TkR H Q i (.num n) (b :: r).length)
abbrev N_number_at : List Str := ["text", "at", "end", "number", "byte"]
theorem sc_number_at : FnScope N_number_at ["text", "at"] (defScope s_number_at) := ⟨rfl, rfl, rfl, by decide +kernel, rfl, by decide +kernel, by decide +kernel⟩
set_option maxHeartbeats 8000000 in
theorem ok_number_at {g : Gx} (T : Tx g) : RGl g (CXr g) 3 "number_at" (sp_number_at g) := by
  refine glX (N := N_number_at) (ps := ["text", "at"]) (st := s_number_at) T 21 rfl T.d_number_at sc_number_at (fun _ _ _ _ _ _ us hl => match us, hl with | [_, _], _ => rfl) (fun vs H Q E h => by obtain ⟨a, bs, i, b, r, rfl, ha, h4, hi, hb, hw, qE, q⟩ := h; rfl) (fun f cdv A outer s H vs Q E hr h => ?_)
  obtain ⟨a, bs, i, b, r, rfl, ha, h4, hi, hb, hw, qE, q⟩ := h
  refine ⟨_, (pss_cons (ps_set (i := 2) sc_number_at.nd rfl (Or.inl rfl) (pe_gl (ok_number_end T) hr (by decide) pass0 rfl (pa_cons (pv 0) (pa_cons (pv 1) pa_nil)))) (pss_cons (ps_set (i := 3) sc_number_at.nd rfl (Or.inl rfl) pe_int) (pss_cons (ps_for (passes_of rfl) rfl (pi_list (pe_slice sl_list (pv 0) (po_some (pv 1)) (po_some (pv 2)))) (pg_name (i := 4) sc_number_at.nd rfl (Or.inl rfl)) (pss_one (ps_set (i := 3) sc_number_at.nd rfl (Or.inl rfl) (pe_op op_sub (pe_op op_add (pe_op op_mulW pe_int (pv 3)) (pv 4)) (pe_gc rfl T.g_NOUGHT))))) (pss_cons (ps_if (PW.pt (pw_or (pt_cmpR op_gt (pv 3) (pe_gc rfl T.g_MOST_NUMBER) (nomark _)) (pw_or1 (PW.pt (pw_and (pt_cmpR op_gt (pe_op op_sub (pv 2) (pv 1)) pe_int (nomark _)) (pw_and1 (pt_cmpR op_eq (pe_ix (r := rIxL g.K) ix_list (pv 0) (pv 1) (fun _ _ => rfl)) (pe_gc rfl T.g_NOUGHT) (nomark _)))))))) (pss_one (ps_xFault T hr (by decide) rfl tkR rfl (pa_cons (pe_gc rfl T.g_NO_TOKEN) (pa_cons (pv 1) pa_nil)))) pss_nil) (pss_one (ps_ret (pe_tup (pa_cons (pe_tup (pa_cons (pe_gc rfl T.g_NUMBER) (pa_cons (pv 3) (pa_cons (pv 1) pa_nil)))) (pa_cons (pv 2) pa_nil))))))))), ?_⟩

  refine ⟨_, rfl, _, rfl, a, bs, i, rfl, ha, by omega, ?_⟩
  have hw1 := tw_le VamvsBase.isDigit (bs.drop i)
  have hw2 := tw_take VamvsBase.isDigit (bs.drop i)
  have hd : ∀ c ∈ b :: r, VamvsBase.isDigit c = true := fun c hc => by rw [← hw] at hc; exact mem_tw hc
  rw [hw] at hw1 hw2
  rw [List.length_drop] at hw1
  have hnn := number_none hd
  show tSeq _ _ _ [some (.ref a), some (nV i), some (nV (i + ((bs.drop i).takeWhile VamvsBase.isDigit).length)), none, none] H
  rw [hw]
  have hbi : (bs.map bV)[i]? = some (bV b) := by rw [List.getElem?_map, hb]; rfl
  have hhead : 1 ≤ (b :: r).length := by simp
  have hn1 : ∀ n, VamvsBase.numberOf (b :: r) = some n → n = VamvsBase.decimal (b :: r) := fun n h => number_some h
  have hsm : VamvsBase.numberOf (b :: r) ≠ none → VamvsBase.numberOf (b :: r) = some (VamvsBase.decimal (b :: r)) := fun h => by
    cases e : VamvsBase.numberOf (b :: r) with
    | none => exact absurd e h
    | some n => rw [hn1 n e]
  generalize hds : b :: r = ds at *
  refine ⟨_, rfl, _, rfl, (i : Int), rfl, _, rfl, ((i + ds.length : Nat) : Int), rfl, a, _, rfl, .inl (.inl ha), fun p1 hp1 => ?_⟩
  rw [cut_at (by omega), hw2]
  have hl : (upd H p1 (.lst (ds.map bV))) p1 = some (.lst (ds.map bV)) := upd_same
  have e1 := Ex.new (o := .lst (ds.map bV)) hp1
  generalize (upd H p1 (.lst (ds.map bV))) = H1 at hl e1
  refine ⟨p1, rfl, ⟨_, .inl (.inl hl)⟩, ?_⟩
  refine for_list (xs := ds.map bV) (fun k σ H' => H' = H1 ∧ ∃ z : Option V, σ = [some (.ref a), some (nV i), some (nV (i + ds.length)), some (nV (VamvsBase.decimal (ds.take k))), z]) ⟨rfl, none, rfl⟩ (fun k σ H' _ hP => by rw [hP.1]; exact .inl (.inl hl)) (fun k x σ H' hx hP => ?_) (fun σ H' hP => ?_)
  · obtain ⟨eH, z, rfl⟩ := hP
    rw [eH]
    rw [List.getElem?_map] at hx
    cases hc : ds[k]? with
    | none => rw [hc] at hx; cases hx
    | some c =>
      rw [hc] at hx
      cases hx
      have hk : k < ds.length := (List.getElem?_eq_some_iff.mp hc).1
      have hcm := List.mem_of_getElem? hc
      have hcd := dig (hd c hcm)
      have hlt := dec_lt (ds.take k) fun y hy => hd y (List.mem_of_mem_take hy)
      rw [List.length_take, Nat.min_eq_left (by omega)] at hlt
      have hp : (10 : Nat) ^ k ≤ 2 ^ (4 * k) := by
        rw [Nat.pow_mul]
        exact Nat.pow_le_pow_left (by decide) k
      refine ⟨_, rfl, 10, _, rfl, rfl, wide_mul (a := 4) (b := 4 * k + 1) (by decide) ?_ (by decide) (by omega) (by omega), _, rfl, _, _, rfl, rfl, _, _, rfl, rfl, ?_⟩
      · rw [Int.natAbs_natCast]
        have h3 : 2 ^ (4 * k) < 2 ^ (4 * k + 1) := Nat.pow_lt_pow_right (by decide) (by omega)
        omega
      · refine ⟨rfl, some (bV c), ?_⟩
        rw [List.take_add_one, hc]
        show [some (V.ref a), some (nV i), some (nV (i + ds.length)), some (V.int (10 * (VamvsBase.decimal (ds.take k) : Int) + (c.toNat : Int) - 48)), some (bV c)] = [some (V.ref a), some (nV i), some (nV (i + ds.length)), some (nV (VamvsBase.decimal (ds.take k ++ [c]))), some (bV c)]
        rw [dec_snoc]
        have e : (10 * (VamvsBase.decimal (ds.take k) : Int) + (c.toNat : Int) - 48) = ((10 * VamvsBase.decimal (ds.take k) + (c.toNat - 48) : Nat) : Int) := by omega
        rw [e]
  · obtain ⟨eH, z, rfl⟩ := hP
    rw [eH]
    rw [List.length_map, List.take_of_length_le (Nat.le_refl _)]
    have raise : VamvsBase.numberOf ds = none → FltX g H1 E 2 i := fun h d H' e hd' => qE h d H' (e1.trans e) hd'
    have good : VamvsBase.numberOf ds ≠ none → ∀ p2, H1 p2 = none → ∀ p3, (upd H1 p2 (.tup [nV 2, nV (VamvsBase.decimal ds), nV i])) p3 = none → Q (.ref p3) (upd (upd H1 p2 (.tup [nV 2, nV (VamvsBase.decimal ds), nV i])) p3 (.tup [.ref p2, nV (i + ds.length)])) := fun hne p2 hp2 p3 hp3 => by
      have e3 := Ex.new (o := HO.tup [nV 2, nV (VamvsBase.decimal ds), nV i]) hp2
      have e4 := Ex.new (o := HO.tup [.ref p2, nV (i + ds.length)]) hp3
      exact q _ (hsm hne) p3 _ (.ref p2) (Evl.fresh_back (e1.trans e3) hp3) ((e1.trans e3).trans e4) upd_same ⟨p2, rfl, e4 _ _ upd_same⟩
    refine ⟨_, rfl, _, _, rfl, rfl, _, rfl, ?_⟩
    by_cases c1 : 1000000000 < VamvsBase.decimal ds
    · rw [decide_eq_true (by omega : (1000000000 : Int) < (VamvsBase.decimal ds : Int))]
      exact ⟨_, rfl, _, _, rfl, fun d H' e hd' => raise (hnn.mpr (.inl c1)) d H' e hd'⟩
    · rw [decide_eq_false (by omega : ¬ (1000000000 : Int) < (VamvsBase.decimal ds : Int))]
      refine ⟨_, rfl, _, rfl, _, _, rfl, rfl, _, _, rfl, rfl, _, rfl, ?_⟩
      by_cases c2 : 1 < ds.length
      · rw [decide_eq_true (by omega : (1 : Int) < ((i + ds.length : Nat) : Int) - ((i : Nat) : Int))]
        refine ⟨_, rfl, _, rfl, a, _, i, _, rfl, rfl, .inl (.inl (e1 _ _ ha)), atI_n hbi, rfl, _, rfl, ?_⟩
        rw [show decide (bV b = V.int 48) = (b == UInt8.ofNat 48) from eq_bV (n := 48) (by decide)]
        by_cases c3 : b.toNat = 48
        · have e48 : b = UInt8.ofNat 48 := UInt8.toNat_inj.mp (by rw [c3]; rfl)
          rw [beq_iff_eq.mpr e48]
          exact ⟨_, rfl, _, _, rfl, fun d H' e hd' => raise (hnn.mpr (.inr ⟨c2, c3⟩)) d H' e hd'⟩
        · have e48 : (b == UInt8.ofNat 48) = false := beq_eq_false_iff_ne.mpr fun z => c3 (by rw [z]; rfl)
          rw [e48]
          refine ⟨_, rfl, _, rfl, s3, fun p2 hp2 => ⟨_, rfl, s2, fun p3 hp3 => ?_⟩⟩
          exact good (fun z => by rcases hnn.mp z with z | z; exact c1 z; exact c3 z.2) p2 hp2 p3 hp3
      · rw [decide_eq_false (by omega : ¬ (1 : Int) < ((i + ds.length : Nat) : Int) - ((i : Nat) : Int))]
        refine ⟨_, rfl, _, rfl, s3, fun p2 hp2 => ⟨_, rfl, s2, fun p3 hp3 => ?_⟩⟩
        exact good (fun z => by rcases hnn.mp z with z | z; exact c1 z; exact c2 z.1) p2 hp2 p3 hp3
end Sr
set_option Elab.async false
set_option linter.all false
set_option maxRecDepth 100000
set_option maxHeartbeats 4000000
/-! # Tokens: one, all -/
namespace Sr
open PySem PySem.Spec PyProof.Rows L2
open Evl (Ex)
theorem signs_at {g : Gx} (T : Tx g) (H : Hp) : SqT g.K H (He.ga g.K "SIGNS") [.int 44, .int 58, .int 59, .int 45] := He.tupB_ok T.tups.2.2.2.1 H
theorem blanks_at {g : Gx} (T : Tx g) (H : Hp) : SqT g.K H (He.ga g.K "BLANKS") [.int 32, .int 9, .int 10] := He.tupB_ok T.tups.2.1 H
theorem eqV_bV {b : UInt8} {n : Nat} (hn : n < 256) : eqV (V.int (n : Int)) (bV b) = (b == UInt8.ofNat n) := by
  have h := eq_bV (b := b) (n := n) hn
  rw [dec_int] at h
  show ((n : Int) == (b.toNat : Int)) = _
  rw [← h, Bool.eq_iff_iff, beq_iff_eq, beq_iff_eq]
  exact eq_comm
theorem in_signs (b : UInt8) : inV (bV b) [.int 44, .int 58, .int 59, .int 45] = VamvsBase.SIGNS.contains b := by
  unfold inV VamvsBase.SIGNS
  simp only [List.any_cons, List.any_nil, List.contains_cons, List.contains_nil]
  rw [show eqV (.int 44) (bV b) = (b == 44) from eqV_bV (n := 44) (by decide), show eqV (.int 58) (bV b) = (b == 58) from eqV_bV (n := 58) (by decide), show eqV (.int 59) (bV b) = (b == 59) from eqV_bV (n := 59) (by decide), show eqV (.int 45) (bV b) = (b == 45) from eqV_bV (n := 45) (by decide)]
theorem in_blanks (b : UInt8) : inV (bV b) [.int 32, .int 9, .int 10] = VamvsBase.isBlank b := by
  unfold inV VamvsBase.isBlank
  simp only [List.any_cons, List.any_nil]
  rw [show eqV (.int 32) (bV b) = (b == 32) from eqV_bV (n := 32) (by decide), show eqV (.int 9) (bV b) = (b == 9) from eqV_bV (n := 9) (by decide), show eqV (.int 10) (bV b) = (b == 10) from eqV_bV (n := 10) (by decide)]
  simp
theorem drop_at {bs : List UInt8} {i : Nat} {b : UInt8} {r : List UInt8} (h : bs.drop i = b :: r) : i < bs.length ∧ bs[i]? = some b := by
  have hi : i < bs.length := by
    refine Nat.lt_of_not_le fun z => ?_
    rw [List.drop_of_length_le z] at h
    cases h
  rw [List.drop_eq_getElem_cons hi] at h
  refine ⟨hi, ?_⟩
  rw [List.getElem?_eq_getElem hi]
  exact congrArg some (List.cons.inj h).1
theorem token_len {l : List UInt8} {t : VamvsBase.Tok} {n : Nat} (h : VamvsBase.token l = some (t, n)) : 1 ≤ n ∧ n ≤ l.length := by
  cases l with
  | nil => cases h
  | cons b r =>
    unfold VamvsBase.token at h
    simp only at h
    split at h
    · rename_i c
      split at h
      · cases h
      · cases h
        rw [List.takeWhile_cons, if_pos (by rw [c]; rfl)]
        have := tw_le (fun c => VamvsBase.isLetter c || VamvsBase.isDigit c) r
        simp only [List.length_cons]
        omega
    · split at h
      · rename_i c
        cases e : VamvsBase.numberOf ((b :: r).takeWhile VamvsBase.isDigit) with
        | none => rw [e] at h; cases h
        | some m =>
          rw [e] at h
          cases h
          rw [List.takeWhile_cons, if_pos c]
          have := tw_le VamvsBase.isDigit r
          simp only [List.length_cons]
          omega
      · split at h
        · cases h
          simp
        · cases h
def sp_token_at (g : Gx) : Sp := fun vs H Q E => ∃ (a : Addr) (bs : List UInt8) (i : Nat) (b : UInt8) (r : List UInt8), vs = [.ref a, nV i] ∧ TxA H a bs ∧ bs.length ≤ 4096 ∧ bs.drop i = b :: r ∧ (VamvsBase.token (b :: r) = none → FltX g H E 2 i) ∧ (∀ t n, VamvsBase.token (b :: r) = some (t, n) → TkR H Q i t n)
abbrev N_token_at : List Str := ["text", "at"]
theorem sc_token_at : FnScope N_token_at ["text", "at"] (defScope s_token_at) := ⟨rfl, rfl, rfl, by decide +kernel, rfl, by decide +kernel, by decide +kernel⟩
set_option maxHeartbeats 8000000 in
theorem ok_token_at {g : Gx} (T : Tx g) : RGl g (CXr g) 4 "token_at" (sp_token_at g) := by
  refine glX (N := N_token_at) (ps := ["text", "at"]) (st := s_token_at) T 22 rfl T.d_token_at sc_token_at (fun _ _ _ _ _ _ us hl => match us, hl with | [_, _], _ => rfl) (fun vs H Q E h => by obtain ⟨a, bs, i, b, r, rfl, ha, h4, hdr, qE, q⟩ := h; rfl) (fun f cdv A outer s H vs Q E hr h => ?_)
  obtain ⟨a, bs, i, b, r, rfl, ha, h4, hdr, qE, q⟩ := h
  refine ⟨_, (pss_cons (ps_if (pt_val (pe_gl (ok_is_letter T) hr (by decide) pass0 rfl (pa_cons (pe_ix (r := rIxL g.K) ix_list (pv 0) (pv 1) (fun _ _ => rfl)) pa_nil))) (pss_one (ps_ret (pe_gl (ok_name_at T) hr (by decide) pxR rfl (pa_cons (pv 0) (pa_cons (pv 1) pa_nil))))) pss_nil) (pss_cons (ps_if (pt_val (pe_gl (ok_is_digit T) hr (by decide) pass0 rfl (pa_cons (pe_ix (r := rIxL g.K) ix_list (pv 0) (pv 1) (fun _ _ => rfl)) pa_nil))) (pss_one (ps_ret (pe_gl (ok_number_at T) hr (by decide) pxR rfl (pa_cons (pv 0) (pa_cons (pv 1) pa_nil))))) pss_nil) (pss_cons (ps_if (pt_cmpR op_notIn_seq (pe_ix (r := rIxL g.K) ix_list (pv 0) (pv 1) (fun _ _ => rfl)) (pe_gc rfl T.g_SIGNS) (by rfl)) (pss_one (ps_xFault T hr (by decide) rfl tkR rfl (pa_cons (pe_gc rfl T.g_NO_TOKEN) (pa_cons (pv 1) pa_nil)))) pss_nil) (pss_one (ps_ret (pe_tup (pa_cons (pe_tup (pa_cons (pe_gc rfl T.g_SIGN) (pa_cons (pe_ix (r := rIxL g.K) ix_list (pv 0) (pv 1) (fun _ _ => rfl)) (pa_cons (pv 1) pa_nil)))) (pa_cons (pe_op op_add (pv 1) pe_int) pa_nil)))))))), ?_⟩

  obtain ⟨hi, hb⟩ := drop_at hdr
  have hbi : (bs.map bV)[i]? = some (bV b) := by rw [List.getElem?_map, hb]; rfl
  unfold VamvsBase.token at qE q
  simp only at qE q
  refine ⟨_, rfl, _, rfl, a, _, i, _, rfl, rfl, .inl (.inl ha), atI_n hbi, b, rfl, _, rfl, ?_⟩
  cases hL : VamvsBase.isLetter b with
  | true =>
    rw [if_pos hL] at qE q
    refine iteT ⟨_, rfl, _, rfl, a, bs, i, rfl, ha, by omega, ?_, ?_⟩
    · rw [hdr]
      intro hlt
      exact qE (if_pos hlt)
    · rw [hdr]
      intro hlt
      exact q _ _ (if_neg hlt)
  | false =>
    rw [if_neg (by rw [hL]; decide)] at qE q
    refine iteF ⟨_, rfl, _, rfl, a, _, i, _, rfl, rfl, .inl (.inl ha), atI_n hbi, b, rfl, _, rfl, ?_⟩
    cases hD : VamvsBase.isDigit b with
    | true =>
      rw [if_pos hD] at qE q
      have htw : (b :: r).takeWhile VamvsBase.isDigit = b :: r.takeWhile VamvsBase.isDigit := by rw [List.takeWhile_cons, if_pos hD]
      refine iteT ⟨_, rfl, _, rfl, a, bs, i, b, r.takeWhile VamvsBase.isDigit, rfl, ha, h4, hi, hb, by rw [hdr]; exact htw, ?_, ?_⟩
      · intro hn
        exact qE (by rw [htw, hn]; rfl)
      · intro n hn
        rw [← htw] at hn ⊢
        exact q _ _ (by rw [hn]; rfl)
    | false =>
      rw [if_neg (by rw [hD]; decide)] at qE q
      refine iteF ⟨_, rfl, _, rfl, a, _, i, _, rfl, rfl, .inl (.inl ha), atI_n hbi, _, _, rfl, .inr (signs_at T H), rfl, rfl, _, rfl, ?_⟩
      rw [if_pos rfl, in_signs]
      cases hS : VamvsBase.SIGNS.contains b with
      | true =>
        rw [if_pos hS] at q
        refine ⟨_, rfl, _, rfl, a, _, i, _, rfl, rfl, .inl (.inl ha), atI_n hbi, _, rfl, s3, fun p1 hp1 => ⟨_, rfl, i, 1, rfl, rfl, s2, fun p2 hp2 => ?_⟩⟩
        have e3 := Ex.new (o := HO.tup [nV 3, bV b, nV i]) hp1
        have e4 := Ex.new (o := HO.tup [.ref p1, .int ((i : Int) + 1)]) hp2
        refine q _ _ rfl p2 _ (.ref p1) (Evl.fresh_back e3 hp2) (e3.trans e4) ?_ ⟨p1, rfl, e4 _ _ upd_same⟩
        rw [upd_same]
        rfl
      | false =>
        rw [if_neg (by rw [hS]; decide)] at qE
        exact ⟨_, rfl, _, _, rfl, fun d H' e hd' => qE rfl d H' e hd'⟩
theorem drop_tw (p : UInt8 → Bool) : ∀ l : List UInt8, l.drop (l.takeWhile p).length = l.dropWhile p
  | [] => rfl
  | a :: l => by
    rw [List.takeWhile_cons, List.dropWhile_cons]
    split
    · exact drop_tw p l
    · rfl
open VamvsBase in
theorem map_map_app {a b : Toks} {x : Except Fault Toks} : (x.map fun l => b ++ l).map (fun l => a ++ l) = x.map fun l => (a ++ b) ++ l := by
  cases x with
  | error _ => rfl
  | ok l => show Except.ok (a ++ (b ++ l)) = Except.ok ((a ++ b) ++ l); rw [List.append_assoc]
open VamvsBase in
theorem lex_cons (n at_ : Nat) (b : UInt8) (r : Bytes) : lex (n + 1) at_ (b :: r) = if isBlank b = true then lex n (at_ + 1) r
    else if b == 35 then lex n (at_ + 1 + (r.takeWhile (· != 10)).length) (r.dropWhile (· != 10))
    else match token (b :: r) with
      | none => .error ⟨2, at_⟩
      | some x => (lex n (at_ + x.2) ((b :: r).drop x.2)).map fun l => ⟨at_, x.1⟩ :: l := rfl
def sp_tokens_of (g : Gx) : Sp := fun vs H Q E => ∃ (a : Addr) (bs : List UInt8), vs = [.ref a] ∧ TxA H a bs ∧ bs.length ≤ 4096 ∧ (∀ f, VamvsBase.lex (bs.length + 1) 0 bs = .error f → FltX g H E f.code f.place) ∧ (∀ l, VamvsBase.lex (bs.length + 1) 0 bs = .ok l → ∀ p H' xs, H p = none → Ex H H' → H' p = some (.lst xs) → Paired (TokAt H') xs l → Q (.ref p) H')
abbrev N_tokens_of : List Str := ["text", "found", "at", "token"]
theorem sc_tokens_of : FnScope N_tokens_of ["text"] (defScope s_tokens_of) := ⟨rfl, rfl, rfl, by decide +kernel, rfl, by decide +kernel, by decide +kernel⟩
set_option maxHeartbeats 8000000 in
theorem ok_tokens_of {g : Gx} (T : Tx g) : RGl g (CXr g) 5 "tokens_of" (sp_tokens_of g) := by
  refine glX (N := N_tokens_of) (ps := ["text"]) (st := s_tokens_of) T 23 rfl T.d_tokens_of sc_tokens_of (fun _ _ _ _ _ _ us hl => match us, hl with | [_], _ => rfl) (fun vs H Q E h => by obtain ⟨a, bs, rfl, ha, h4, qE, q⟩ := h; rfl) (fun f cdv A outer s H vs Q E hr h => ?_)
  obtain ⟨a, bs, rfl, ha, h4, qE, q⟩ := h
  refine ⟨_, (pss_cons (ps_set (i := 1) sc_tokens_of.nd rfl (Or.inl rfl) (pe_lst pa_nil)) (pss_cons (ps_set (i := 2) sc_tokens_of.nd rfl (Or.inl rfl) pe_int) (pss_cons (ps_while (passes_of rfl) (pt_cmpR op_lt (pv 2) (pe_callB call_len_seq rfl T.f_len PySem.boot_len (pa_cons (pv 0) pa_nil)) (nomark _)) (pss_one (ps_if (pt_cmpR op_in_seq (pe_ix (r := rIxL g.K) ix_list (pv 0) (pv 2) (fun _ _ => rfl)) (pe_gc rfl T.g_BLANKS) (by rfl)) (pss_one (ps_set (i := 2) sc_tokens_of.nd rfl (Or.inl rfl) (pe_op op_add (pv 2) pe_int))) (pss_one (ps_if (pt_cmpR op_eq (pe_ix (r := rIxL g.K) ix_list (pv 0) (pv 2) (fun _ _ => rfl)) (pe_gc rfl T.g_REMARK) (nomark _)) (pss_one (ps_set (i := 2) sc_tokens_of.nd rfl (Or.inl rfl) (pe_gl (ok_remark_end T) hr (by decide) pass0 rfl (pa_cons (pv 0) (pa_cons (pv 2) pa_nil))))) (pss_cons (ps_asg (pe_gl (ok_token_at T) hr (by decide) pxR rfl (pa_cons (pv 0) (pa_cons (pv 2) pa_nil))) (pg_tup rfl (pgs_cons (pg_name (i := 3) sc_tokens_of.nd rfl (Or.inl rfl)) (pgs_cons (pg_name (i := 2) sc_tokens_of.nd rfl (Or.inl rfl)) pgs_nil)))) (pss_one (ps_expr (pe_bm PySem.F.plainAttrs_list PySem.F.slot_list_append PySem.F.type_list_append mt_append (pv 1) (pa_cons (pv 3) pa_nil)))))))))) (pss_one (ps_ret (pe_op op_cat (pv 1) (pe_lst (pa_cons (pe_tup (pa_cons (pe_gc rfl T.g_END) (pa_cons pe_int (pa_cons (pe_callB call_len_seq rfl T.f_len PySem.boot_len (pa_cons (pv 0) pa_nil)) pa_nil)))) pa_nil)))))))), ?_⟩

  refine ⟨by decide, fun pf hpf => ?_⟩
  refine ⟨fun m σ H' => ∃ (j n : Nat) (toks : VamvsBase.Toks) (xs : List V) (z : Option V), m = bs.length - j ∧ j ≤ bs.length ∧ σ = [some (.ref a), some (.ref pf), some (nV j), z] ∧ Ex H H' ∧ H' pf = some (.lst xs) ∧ Paired (TokAt H') xs toks ∧ bs.length - j + 1 ≤ n ∧ toks.length ≤ j ∧
    VamvsBase.lex (bs.length + 1) 0 bs = (VamvsBase.lex n j (bs.drop j)).map (fun l => toks ++ l), ⟨_, 0, bs.length + 1, [], [], none, rfl, Nat.zero_le _, rfl, Ex.new hpf, upd_same, .nil, by omega, Nat.le_refl _, ?_⟩, ?_⟩
  · rw [List.drop_zero]
    cases VamvsBase.lex (bs.length + 1) 0 bs <;> rfl
  · rintro m σ H' ⟨j, n, toks, xs, z, rfl, hj, rfl, e1, hx, hpr, hn, htl, hlex⟩
    have ha1 := e1 _ _ ha
    refine ⟨_, rfl, _, rfl, a, _, rfl, .inl (.inl (.inl ha1)), j, _, rfl, rfl, _, rfl, ?_⟩
    rw [List.length_map]
    obtain ⟨n, rfl⟩ : ∃ k, n = k + 1 := ⟨n - 1, by omega⟩
    by_cases hlt : j < bs.length
    · rw [decide_eq_true (by omega : (j : Int) < (bs.length : Int))]
      have hdr : bs.drop j = bs[j] :: bs.drop (j + 1) := List.drop_eq_getElem_cons hlt
      have hbi := tx_at (i := j) hlt
      generalize hbj : bs[j] = b at hdr hbi
      rw [hdr, lex_cons] at hlex
      refine iteT ⟨fun σ' H2 => ∃ (j2 n : Nat) (toks : VamvsBase.Toks) (xs : List V) (z : Option V), j < j2 ∧ j2 ≤ bs.length ∧ σ' = [some (.ref a), some (.ref pf), some (nV j2), z] ∧ Ex H H2 ∧ H2 pf = some (.lst xs) ∧ Paired (TokAt H2) xs toks ∧ bs.length - j2 + 1 ≤ n ∧ toks.length ≤ j2 ∧
        VamvsBase.lex (bs.length + 1) 0 bs = (VamvsBase.lex n j2 (bs.drop j2)).map (fun l => toks ++ l), ?_, ?_⟩
      · rintro σ' H2 ⟨j2, n2, toks2, xs2, z2, h1, h2, h3, h5⟩
        exact ⟨bs.length - j2, by omega, j2, n2, toks2, xs2, z2, rfl, h2, h3, h5⟩
      · refine ⟨_, rfl, _, rfl, a, _, j, _, rfl, rfl, .inl (.inl ha1), atI_n hbi, _, _, rfl, .inr (blanks_at T H'), rfl, rfl, _, rfl, ?_⟩
        rw [if_neg (by decide), in_blanks]
        cases hB : VamvsBase.isBlank b with
        | true =>
          rw [if_pos hB] at hlex
          refine iteT ⟨_, rfl, j, 1, rfl, rfl, ?_⟩
          exact ⟨j + 1, n, toks, xs, z, by omega, by omega, rfl, e1, hx, hpr, by omega, by omega, hlex⟩
        | false =>
          rw [if_neg (by rw [hB]; decide)] at hlex
          refine iteF ⟨_, rfl, _, rfl, a, _, j, _, rfl, rfl, .inl (.inl ha1), atI_n hbi, rfl, _, rfl, ?_⟩
          rw [show decide (bV b = V.int 35) = (b == UInt8.ofNat 35) from eq_bV (n := 35) (by decide)]
          by_cases h35 : b = 35
          · rw [if_pos (by rw [h35]; rfl)] at hlex
            have e35 : (b == UInt8.ofNat 35) = true := by rw [h35]; rfl
            rw [e35]
            refine iteT ⟨_, rfl, _, rfl, a, bs, j, rfl, ha1, by omega, ?_⟩
            have htw : ((bs.drop j).takeWhile fun b => b != 10) = b :: ((bs.drop (j + 1)).takeWhile fun b => b != 10) := by rw [hdr, List.takeWhile_cons, if_pos (by rw [h35]; rfl)]
            have hle := tw_le (fun b => b != 10) (bs.drop (j + 1))
            rw [List.length_drop] at hle
            refine ⟨j + 1 + ((bs.drop (j + 1)).takeWhile fun b => b != 10).length, n, toks, xs, z, by omega, by omega, ?_, e1, hx, hpr, by omega, by omega, ?_⟩
            · have e : j + ((bs.drop j).takeWhile fun b => b != 10).length = j + 1 + ((bs.drop (j + 1)).takeWhile fun b => b != 10).length := by rw [htw, List.length_cons]; omega
              show [some (V.ref a), some (V.ref pf), some (nV (j + ((bs.drop j).takeWhile fun b => b != 10).length)), z] = _
              rw [e]
            · rw [hlex, ← drop_tw, List.drop_drop]
          · have e35 : (b == UInt8.ofNat 35) = false := beq_eq_false_iff_ne.mpr h35
            rw [if_neg (show ¬ (b == 35) = true from by rw [show (b == 35) = false from e35]; decide)] at hlex
            rw [e35]
            refine iteF ⟨_, rfl, _, rfl, a, bs, j, b, bs.drop (j + 1), rfl, ha1, h4, hdr, ?_, ?_⟩
            · intro hnone
              rw [hnone] at hlex
              intro d H2 e2 hd
              exact qE _ hlex d H2 (e1.trans e2) hd
            · intro t k hsome
              rw [hsome] at hlex
              obtain ⟨k1, k2⟩ := token_len hsome
              rw [← hdr, List.length_drop] at k2
              intro p H2 x hp e2 hp2 htok
              refine ⟨p, _, rfl, .inl (.inl hp2), rfl, x, _, rfl, nV (j + k), _, rfl, rfl, ?_⟩
              have hx2 := e2 _ _ hx
              refine ⟨_, rfl, .inl ⟨rfl, xs, .inl (.inl hx2)⟩, _, rfl, pf, xs, x, rfl, rfl, hx2, ?_, ?_⟩
              · have := Paired.length hpr; have := sizeLine_eq; omega
              · have hkt : Kt H2 (upd H2 pf (.lst (xs ++ [x]))) := Kt.upd fun ys z => by rw [hx2] at z; cases z
                refine ⟨j + k, n, toks ++ [⟨j, t⟩], xs ++ [x], some x, by omega, by omega, rfl, Ex.mut (e1.trans e2) hpf, upd_same, paired_snoc (paired_keep (fun _ _ => TokAt.keep ((Ex.kt e2).trans hkt)) hpr) (TokAt.keep hkt htok), by omega, by rw [List.length_append, List.length_singleton]; omega, ?_⟩
                rw [hlex]
                show ((VamvsBase.lex n (j + k) ((b :: bs.drop (j + 1)).drop k)).map fun l => (⟨j, t⟩ : VamvsBase.PTok) :: l).map _ = _
                rw [← hdr, List.drop_drop]
                exact map_map_app (b := [⟨j, t⟩])
    · rw [decide_eq_false (by omega : ¬ (j : Int) < (bs.length : Int))]
      have ej : j = bs.length := by omega
      subst ej
      rw [List.drop_length] at hlex
      refine iteF ⟨_, rfl, _, rfl, a, _, rfl, .inl (.inl (.inl ha1)), s3, fun p1 hp1 => ⟨s1, fun p2 hp2 => ?_⟩⟩
      rw [List.length_map]
      rw [List.length_map] at hp2
      have e3 := Ex.new (o := HO.tup [nV 4, nV 0, nV bs.length]) hp1
      have e4 := Ex.new (o := HO.lst [.ref p1]) hp2
      refine ⟨pf, p2, xs, [.ref p1], rfl, rfl, e4 _ _ (e3 _ _ hx), upd_same, ?_, fun p3 hp3 => ?_⟩
      · have := Paired.length hpr; have := sizeLine_eq; simp only [List.length_singleton]; omega
      · have e5 := Ex.new (o := HO.lst (xs ++ [.ref p1])) hp3
        have e6 := (e1.trans e3).trans (e4.trans e5)
        refine q _ hlex p3 _ (xs ++ [.ref p1]) (Evl.fresh_back ((e1.trans e3).trans e4) hp3) e6 upd_same (paired_snoc (paired_keep (fun _ _ => TokAt.keep (Ex.kt ((e3.trans e4).trans e5))) hpr) ⟨p1, rfl, e5 _ _ (e4 _ _ upd_same)⟩)
end Sr
set_option Elab.async false
set_option linter.all false
set_option maxRecDepth 100000
set_option maxHeartbeats 4000000
/-! # The reader: its object, the next token -/
namespace Sr
open PySem PySem.Spec PyProof.Rows L2
open Evl (Ex)
open VamvsBase (Toks PTok Tok Fault)
structure RdA where
  a : Addr
  dx : Addr
  lt : Addr
  tb : Addr
  dxt : Addr
  ln : Addr
  lr : Addr
  lq : Addr
abbrev RdO (g : Gx) (R : RdA) (k : Nat) : HO := .ins (g.C "Reader") R.dx [("tokens", .ref R.lt), ("done", nV k), ("table", .ref R.tb)]
def EndsLast (l : Toks) : Prop := ∃ q, l.getLast? = some q ∧ q.tok = .last
structure RdW (g : Gx) (H : Hp) (R : RdA) (T : Toks) (k : Nat) (t : Vamvsa.Table) : Prop where
  ob : H R.a = some (RdO g R k)
  tk : ∃ xs, H R.lt = some (.lst xs) ∧ Paired (TokAt H) xs T
  tb : TbW g H R.tb R.dxt R.ln R.lr R.lq t
  nd : [R.a, R.lt, R.tb, R.ln, R.lr, R.lq].Nodup
  el : EndsLast (T.drop k)
  sm : T.length ≤ 5000
/-- all but the reader and the table's lists stays -/
def Fx (R : RdA) (H H' : Hp) : Prop := ∀ b o, H b = some o → b ≠ R.a → b ≠ R.ln → b ≠ R.lr → b ≠ R.lq → H' b = some o
theorem Ex.fx {R : RdA} {H H' : Hp} (e : Ex H H') : Fx R H H' := fun b o h _ _ _ _ => e b o h
theorem Fx.trans {R : RdA} {H H1 H2 : Hp} (a : Fx R H H1) (b : Fx R H1 H2) : Fx R H H2 := fun x o h h1 h2 h3 h4 => b x o (a x o h h1 h2 h3 h4) h1 h2 h3 h4
theorem Fx.upd {R : RdA} {H : Hp} {o : HO} : Fx R H (upd H R.a o) := fun b u h h1 _ _ _ => by rw [upd_ne h1]; exact h
def FltR (g : Gx) (R : RdA) (H : Hp) (E : XK) (f : Fault) : Prop := ∀ d H', Fx R H H' → H' d = some (.xd [("place", nV f.place), ("code", nV f.code)]) → E (.ref (g.C "Fault")) (some d) H'
theorem FltR.x {g : Gx} {R : RdA} {H H1 : Hp} {E : XK} {f : Fault} (h : FltR g R H E f) (e : Fx R H H1) : FltX g H1 E f.code f.place := fun d H' e2 hd => h d H' (e.trans (Ex.fx e2)) hd
theorem FltR.fx {g : Gx} {R : RdA} {H H1 : Hp} {E : XK} {f : Fault} (h : FltR g R H E f) (e : Fx R H H1) : FltR g R H1 E f := fun d H' e2 hd => h d H' (e.trans e2) hd
theorem RdW.ex {g : Gx} {H H' : Hp} {R : RdA} {T : Toks} {k : Nat} {t : Vamvsa.Table} (w : RdW g H R T k t) (e : Ex H H') : RdW g H' R T k t := by
  obtain ⟨ob, ⟨xs, h1, h2⟩, tb, nd, el, sm⟩ := w
  exact ⟨e _ _ ob, ⟨xs, e _ _ h1, paired_keep (fun _ _ => TokAt.keep (Ex.kt e)) h2⟩, tb.ex e, nd, el, sm⟩
theorem endsLast_cons {l : Toks} (h : EndsLast l) : ∃ q r, l = q :: r := by
  obtain ⟨q, h1, h2⟩ := h
  cases l with
  | nil => cases h1
  | cons q r => exact ⟨q, r, rfl⟩
theorem endsLast_tail {q : PTok} {r : Toks} (h : EndsLast (q :: r)) (hq : q.tok ≠ .last) : EndsLast r := by
  obtain ⟨z, h1, h2⟩ := h
  cases r with
  | nil => cases h1; exact absurd h2 hq
  | cons y r => exact ⟨z, by rw [← h1, List.getLast?_cons_cons], h2⟩
theorem drop_succ {T : Toks} {k : Nat} {q : PTok} {r : Toks} (h : T.drop k = q :: r) : T.drop (k + 1) = r ∧ T[k]? = some q := by
  have hk : k < T.length := by
    refine Nat.lt_of_not_le fun z => ?_
    rw [List.drop_of_length_le z] at h
    cases h
  rw [List.drop_eq_getElem_cons hk] at h
  obtain ⟨h1, h2⟩ := List.cons.inj h
  exact ⟨h2, by rw [List.getElem?_eq_getElem hk, h1]⟩
theorem RdW.kt_upd {g : Gx} {H : Hp} {R : RdA} {T : Toks} {k : Nat} {t : Vamvsa.Table} (w : RdW g H R T k t) {o : HO} : Kt H (upd H R.a o) := Kt.upd fun xs z => by rw [w.ob] at z; cases z
theorem RdW.step {g : Gx} {H : Hp} {R : RdA} {T : Toks} {k : Nat} {t : Vamvsa.Table} {q : PTok} {r : Toks} (w : RdW g H R T k t) (h : T.drop k = q :: r) (hq : q.tok ≠ .last) : RdW g (upd H R.a (RdO g R (k + 1))) R T (k + 1) t := by
  have kt := w.kt_upd (o := RdO g R (k + 1))
  obtain ⟨ob, ⟨xs, h1, h2⟩, ⟨to, ⟨ns, n1, n2⟩, ⟨rs, r1, r2⟩, ⟨qs, q1, q2⟩⟩, nd, el, sm⟩ := w
  simp only [List.nodup_cons, List.mem_cons, List.not_mem_nil, or_false, not_or, not_false_eq_true, List.nodup_nil, and_true] at nd
  obtain ⟨⟨d1, d2, d3, d4, d5⟩, d⟩ := nd
  refine ⟨upd_same, ⟨xs, by rw [upd_ne (Ne.symm d1)]; exact h1, paired_keep (fun _ _ => TokAt.keep kt) h2⟩, ⟨by rw [upd_ne (Ne.symm d2)]; exact to, ⟨ns, by rw [upd_ne (Ne.symm d3)]; exact n1, paired_keep (fun _ _ => BtAt.keep kt) n2⟩,
    ⟨rs, by rw [upd_ne (Ne.symm d4)]; exact r1, paired_keep (fun _ _ => RowAt.keep kt) r2⟩, ⟨qs, by rw [upd_ne (Ne.symm d5)]; exact q1, paired_keep (fun _ _ => AskAt.keep kt) q2⟩⟩, ?_, ?_, sm⟩
  · simp only [List.nodup_cons, List.mem_cons, List.not_mem_nil, or_false, not_or, not_false_eq_true, List.nodup_nil, and_true]
    exact ⟨⟨d1, d2, d3, d4, d5⟩, d⟩
  · rw [(drop_succ h).1]
    rw [h] at el
    exact endsLast_tail el hq
/-! ## a token's parts -/
def sortOf (t : PTok) : Nat := match t.tok with
  | .name b => if VamvsBase.RESERVED.contains b = true then 1 else 0
  | .num _ => 2
  | .sign _ => 3
  | .last => 4
def WhatAt (H : Hp) (v : V) (t : PTok) : Prop := match t.tok with
  | .name b => ∃ r, v = .ref r ∧ H r = some (.tup (b.map bV))
  | .num n => v = nV n
  | .sign c => v = nV c
  | .last => v = nV 0
def whatD (t : PTok) : PyData := match t.tok with
  | .name b => btD b
  | .num n => .int n
  | .sign c => .int c
  | .last => .int 0
theorem tk_parts {H : Hp} {v : V} : ∀ {t : PTok}, TokAt H v t → ∃ p w, v = .ref p ∧ H p = some (.tup [nV (sortOf t), w, nV t.place]) ∧ WhatAt H w t
  | ⟨_, .name _⟩, ⟨a, r, e, h1, h2⟩ => ⟨a, _, e, h1, r, rfl, h2⟩
  | ⟨_, .num _⟩, ⟨a, e, h⟩ => ⟨a, _, e, h, rfl⟩
  | ⟨_, .sign _⟩, ⟨a, e, h⟩ => ⟨a, _, e, h, rfl⟩
  | ⟨_, .last⟩, ⟨a, e, h⟩ => ⟨a, _, e, h, rfl⟩
theorem what_dp {K : PySem.W.Frag} {H : Hp} {v : V} : ∀ {t : PTok}, WhatAt H v t → Dp K H v (whatD t)
  | ⟨_, .name _⟩, ⟨r, e, h⟩ => by rw [e]; exact dp_bt h
  | ⟨_, .num _⟩, e => by rw [show v = _ from e]; exact .int _
  | ⟨_, .sign _⟩, e => by rw [show v = _ from e]; exact .int _
  | ⟨_, .last⟩, e => by rw [show v = _ from e]; exact .int _
theorem WhatAt.keep {H H' : Hp} {v : V} (k : Kt H H') : ∀ {t : PTok}, WhatAt H v t → WhatAt H' v t
  | ⟨_, .name _⟩, ⟨r, e, h⟩ => ⟨r, e, k _ _ h⟩
  | ⟨_, .num _⟩, e => e
  | ⟨_, .sign _⟩, e => e
  | ⟨_, .last⟩, e => e
theorem what_shaped (t : PTok) (s : Int) : SeqAt.shaped (.tuple [.int s, whatD t]) = true := by
  unfold whatD
  split
  · rename_i b e
    unfold SeqAt.shaped
    have h1 := lay_ints (b.map fun b => (b.toNat : Int))
    have h2 := dep_ints (b.map fun b => (b.toNat : Int))
    have h3 : (PyData.tuple [.int s, btD b]).depth ≤ 64 := by simp only [PyData.depth, PyData.depthAll]; omega
    rw [decide_eq_true h3]
    simpa [PyData.canLay0, PyData.canLayAll0] using h1
  all_goals first | rfl | (exact shaped_t [s, _])
def isNm (t : PTok) : Bool := match t.tok with
  | .name b => !VamvsBase.RESERVED.contains b
  | _ => false
theorem sort_nm (t : PTok) : decide (nV (sortOf t) = V.int 0) = isNm t := by
  obtain ⟨p, t⟩ := t
  cases t with
  | name b => unfold sortOf isNm; cases h : VamvsBase.RESERVED.contains b <;> simp [h]
  | num n => rfl
  | sign n => rfl
  | last => rfl
theorem word_eq {s : String} (hs : VamvsBase.RESERVED.contains (VamvsBase.word s) = true) (t : PTok) (r : Toks) : PyData.eqv (.tuple [.int (sortOf t), whatD t]) (.tuple [.int 1, btD (VamvsBase.word s)]) = VamvsBase.nextWord s (t :: r) := by
  show ((((sortOf t : Nat) : Int) == 1) && (PyData.eqv (whatD t) (btD (VamvsBase.word s)) && true)) = VamvsBase.tokEq t.tok (.name (VamvsBase.word s))
  obtain ⟨p, t⟩ := t
  cases t with
  | name b =>
    show ((((if VamvsBase.RESERVED.contains b = true then 1 else 0 : Nat) : Int) == 1) && (PyData.eqv (btD b) (btD (VamvsBase.word s)) && true)) = (b == VamvsBase.word s)
    rw [eqv_bt, Bool.and_true]
    by_cases e : b = VamvsBase.word s
    · rw [e, hs]; simp
    · rw [beq_eq_false_iff_ne.mpr e, Bool.and_false]
  | num n => rfl
  | sign n => rfl
  | last => rfl
theorem sign_eq (c : Nat) (t : PTok) (r : Toks) : PyData.eqv (.tuple [.int (sortOf t), whatD t]) (.tuple [.int 3, .int c]) = VamvsBase.next (.sign c) (t :: r) := by
  show ((((sortOf t : Nat) : Int) == 3) && (PyData.eqv (whatD t) (.int c) && true)) = VamvsBase.tokEq t.tok (.sign c)
  obtain ⟨p, t⟩ := t
  cases t with
  | name b =>
    show ((((if VamvsBase.RESERVED.contains b = true then 1 else 0 : Nat) : Int) == 3) && _) = false
    split <;> rfl
  | num n => rfl
  | sign n =>
    show ((((3 : Nat) : Int) == 3) && (((n : Int) == (c : Int)) && true)) = (n == c)
    rw [Bool.eq_iff_iff]
    simp
    omega
  | last => rfl
def sp_Reader_here (g : Gx) : Sp := fun vs H Q _ => ∃ (R : RdA) (T : Toks) (k : Nat) (t : Vamvsa.Table) (q : PTok) (r : Toks), vs = [.ref R.a] ∧ RdW g H R T k t ∧ T.drop k = q :: r ∧ ∀ v, TokAt H v q → Q v H
abbrev N_Reader_here : List Str := ["self"]
theorem sc_Reader_here : FnScope N_Reader_here ["self"] (defScope s_Reader_here) := ⟨rfl, rfl, rfl, by decide +kernel, rfl, by decide +kernel, by decide +kernel⟩
set_option maxHeartbeats 8000000 in
theorem ok_Reader_here {g : Gx} (T : Tx g) : RMt g CX0 1 (g.C "Reader") "here" (sp_Reader_here g) := by
  refine mt0 (N := N_Reader_here) (ps := ["self"]) (st := s_Reader_here) T 35 rfl T.cl_Reader T.m_Reader_here sc_Reader_here (fun _ _ _ _ _ _ us hl => match us, hl with | [_], _ => rfl) (fun vs H Q E h => by obtain ⟨R, T', k, t, q, r, rfl, w, hd, qQ⟩ := h; rfl) (fun f cdv A outer s H vs Q E hr h => ?_)
  obtain ⟨R, T', k, t, q, r, rfl, w, hd, qQ⟩ := h
  refine ⟨_, (pss_one (ps_ret (pe_ix (r := rIxL g.K) ix_list (pe_fld (pv 0) rfl) (pe_fld (pv 0) rfl) (fun _ _ => rfl)))), ?_⟩

  obtain ⟨xs, h1, h2⟩ := w.tk
  obtain ⟨x, hx, ht⟩ := paired_at h2 (drop_succ hd).2
  exact ⟨_, rfl, R.a, _, _, _, _, rfl, w.ob, T.cl_Reader, T.na_Reader_tokens, rfl, _, rfl, R.a, _, _, _, _, rfl, w.ob, T.cl_Reader, T.na_Reader_done, rfl, _, xs, (k : Int), x, rfl, rfl, .inl (.inl h1), atI_n hx, qQ x ht⟩
def sp_Reader_need (g : Gx) : Sp := fun vs H Q E => ∃ (R : RdA) (T : Toks) (k : Nat) (t : Vamvsa.Table) (q : PTok) (r : Toks) (b : Bool) (c : Nat), vs = [.ref R.a, .bl b, nV c] ∧ RdW g H R T k t ∧ T.drop k = q :: r ∧ (b = true → Q .non H) ∧ (b = false → FltX g H E c q.place)
abbrev N_Reader_need : List Str := ["self", "is_so", "code"]
theorem sc_Reader_need : FnScope N_Reader_need ["self", "is_so", "code"] (defScope s_Reader_need) := ⟨rfl, rfl, rfl, by decide +kernel, rfl, by decide +kernel, by decide +kernel⟩
set_option maxHeartbeats 8000000 in
theorem ok_Reader_need {g : Gx} (T : Tx g) : RMt g (CXr g) 3 (g.C "Reader") "need" (sp_Reader_need g) := by
  refine mtX (N := N_Reader_need) (ps := ["self", "is_so", "code"]) (st := s_Reader_need) T 36 rfl T.cl_Reader T.m_Reader_need sc_Reader_need (fun _ _ _ _ _ _ us hl => match us, hl with | [_, _, _], _ => rfl) (fun vs H Q E h => by obtain ⟨R, T', k, t, q, r, b, c, rfl, w, hd, q1, q2⟩ := h; rfl) (fun f cdv A outer s H vs Q E hr h => ?_)
  obtain ⟨R, T', k, t, q, r, b, c, rfl, w, hd, q1, q2⟩ := h
  refine ⟨_, (pss_one (ps_if (pt_not (pt_val (pv 1))) (pss_one (ps_xFault T hr (by decide) rfl tkR rfl (pa_cons (pv 2) (pa_cons (pe_ix (r := rIxT g.K) ix_tup (pe_me0 (ok_Reader_here T) hr (by decide) pass0 (pv 0)) pe_int (fun _ _ => rfl)) pa_nil)))) pss_nil)), ?_⟩

  refine ⟨_, rfl, b, rfl, ?_⟩
  cases b with
  | true => exact iteF (q1 rfl)
  | false =>
    refine iteT ⟨_, rfl, _, rfl, R.a, _, _, rfl, w.ob, rfl, R, T', k, t, q, r, rfl, w, hd, fun v hv => ?_⟩
    obtain ⟨p, x, rfl, hp, _⟩ := tk_parts hv
    exact ⟨p, _, 2, nV q.place, rfl, rfl, .inl (.inl hp), rfl, _, _, rfl, q2 rfl⟩
def sp_Reader_take (g : Gx) : Sp := fun vs H Q _ => ∃ (R : RdA) (T : Toks) (k : Nat) (t : Vamvsa.Table) (q : PTok) (r : Toks), vs = [.ref R.a] ∧ RdW g H R T k t ∧ T.drop k = q :: r ∧ ∀ v, WhatAt H v q → Q v (upd H R.a (RdO g R (k + 1)))
abbrev N_Reader_take : List Str := ["self", "what"]
theorem sc_Reader_take : FnScope N_Reader_take ["self"] (defScope s_Reader_take) := ⟨rfl, rfl, rfl, by decide +kernel, rfl, by decide +kernel, by decide +kernel⟩
set_option maxHeartbeats 8000000 in
theorem ok_Reader_take {g : Gx} (T : Tx g) : RMt g CX0 2 (g.C "Reader") "take" (sp_Reader_take g) := by
  refine mt0 (N := N_Reader_take) (ps := ["self"]) (st := s_Reader_take) T 37 rfl T.cl_Reader T.m_Reader_take sc_Reader_take (fun _ _ _ _ _ _ us hl => match us, hl with | [_], _ => rfl) (fun vs H Q E h => by obtain ⟨R, T', k, t, q, r, rfl, w, hd, qQ⟩ := h; rfl) (fun f cdv A outer s H vs Q E hr h => ?_)
  obtain ⟨R, T', k, t, q, r, rfl, w, hd, qQ⟩ := h
  refine ⟨_, (pss_cons (ps_set (i := 1) sc_Reader_take.nd rfl (Or.inl rfl) (pe_ix (r := rIxT g.K) ix_tup (pe_me0 (ok_Reader_here T) hr (by decide) pass0 (pv 0)) pe_int (fun _ _ => rfl))) (pss_cons (ps_fld (pv 0) (pe_op op_add (pe_fld (pv 0) rfl) pe_int) rfl) (pss_one (ps_ret (pv 1))))), ?_⟩

  refine ⟨_, rfl, R.a, _, _, rfl, w.ob, rfl, R, T', k, t, q, r, rfl, w, hd, fun v hv => ?_⟩
  obtain ⟨p, x, rfl, hp, hx⟩ := tk_parts hv
  refine ⟨p, _, 1, x, rfl, rfl, .inl (.inl hp), rfl, ?_⟩
  exact ⟨_, rfl, R.a, _, _, _, _, rfl, w.ob, T.cl_Reader, T.na_Reader_done, rfl, _, _, rfl, rfl, _, rfl, R.a, _, _, _, rfl, w.ob, T.cl_Reader, T.na_Reader_done, by show 3 < 1000; decide, _, rfl, qQ x hx⟩
def sp_Reader_is_name (g : Gx) : Sp := fun vs H Q _ => ∃ (R : RdA) (T : Toks) (k : Nat) (t : Vamvsa.Table) (q : PTok) (r : Toks), vs = [.ref R.a] ∧ RdW g H R T k t ∧ T.drop k = q :: r ∧ Q (.bl (isNm q)) H
abbrev N_Reader_is_name : List Str := ["self"]
theorem sc_Reader_is_name : FnScope N_Reader_is_name ["self"] (defScope s_Reader_is_name) := ⟨rfl, rfl, rfl, by decide +kernel, rfl, by decide +kernel, by decide +kernel⟩
set_option maxHeartbeats 8000000 in
theorem ok_Reader_is_name {g : Gx} (T : Tx g) : RMt g CX0 2 (g.C "Reader") "is_name" (sp_Reader_is_name g) := by
  refine mt0 (N := N_Reader_is_name) (ps := ["self"]) (st := s_Reader_is_name) T 40 rfl T.cl_Reader T.m_Reader_is_name sc_Reader_is_name (fun _ _ _ _ _ _ us hl => match us, hl with | [_], _ => rfl) (fun vs H Q E h => by obtain ⟨R, T', k, t, q, r, rfl, w, hd, qQ⟩ := h; rfl) (fun f cdv A outer s H vs Q E hr h => ?_)
  obtain ⟨R, T', k, t, q, r, rfl, w, hd, qQ⟩ := h
  refine ⟨_, (pss_one (ps_ret (pe_cmpR op_eq (pe_ix (r := rIxT g.K) ix_tup (pe_me0 (ok_Reader_here T) hr (by decide) pass0 (pv 0)) pe_int (fun _ _ => rfl)) (pe_gc rfl T.g_NAME) (nomark _)))), ?_⟩

  refine ⟨_, rfl, R.a, _, _, rfl, w.ob, rfl, R, T', k, t, q, r, rfl, w, hd, fun v hv => ?_⟩
  obtain ⟨p, x, rfl, hp, hx⟩ := tk_parts hv
  refine ⟨p, _, 0, _, rfl, rfl, .inl (.inl hp), rfl, rfl, ?_⟩
  rw [sort_nm]
  exact qQ
def sp_Reader_is_word (g : Gx) : Sp := fun vs H Q _ => ∃ (R : RdA) (T : Toks) (k : Nat) (t : Vamvsa.Table) (q : PTok) (r : Toks) (s : String), vs = [.ref R.a, .str (PySem.Str.ofString s)] ∧ RdW g H R T k t ∧ T.drop k = q :: r ∧ s ∈ (["columns", "row", "ask", "times"] : List String) ∧ ∀ H', Ex H H' → Q (.bl (VamvsBase.nextWord s (q :: r))) H'
abbrev N_Reader_is_word : List Str := ["self", "word"]
theorem sc_Reader_is_word : FnScope N_Reader_is_word ["self", "word"] (defScope s_Reader_is_word) := ⟨rfl, rfl, rfl, by decide +kernel, rfl, by decide +kernel, by decide +kernel⟩
set_option maxHeartbeats 8000000 in
theorem ok_Reader_is_word {g : Gx} (T : Tx g) : RMt g CX0 2 (g.C "Reader") "is_word" (sp_Reader_is_word g) := by
  refine mt0 (N := N_Reader_is_word) (ps := ["self", "word"]) (st := s_Reader_is_word) T 38 rfl T.cl_Reader T.m_Reader_is_word sc_Reader_is_word (fun _ _ _ _ _ _ us hl => match us, hl with | [_, _], _ => rfl) (fun vs H Q E h => by obtain ⟨R, T', k, t, q, r, s0, rfl, w, hd, hs, qQ⟩ := h; rfl) (fun f cdv A outer s H vs Q E hr h => ?_)
  obtain ⟨R, T', k, t, q, r, s0, rfl, w, hd, hs, qQ⟩ := h
  refine ⟨_, (pss_one (ps_ret (pe_cmpR (r := rEqD g.K) (op_eqD (u64 hr)) (pe_slice sl_tup (pe_me0 (ok_Reader_here T) hr (by decide) pass0 (pv 0)) po_none (po_some pe_int)) (pe_tup (pa_cons (pe_gc rfl T.g_WORD) (pa_cons (pe_gl (ok_codes T) hr (by decide) pass0 rfl (pa_cons (pv 1) pa_nil)) pa_nil))) (nomark _)))), ?_⟩

  have hs2 : (s0.toList.all fun c => decide (c.toNat < 256)) = true ∧ (PySem.Str.ofString s0).cps.size ≤ 1000 ∧ VamvsBase.RESERVED.contains (VamvsBase.word s0) = true := by
    rcases List.mem_cons.mp hs with e | hs
    · subst e; decide
    rcases List.mem_cons.mp hs with e | hs
    · subst e; decide
    rcases List.mem_cons.mp hs with e | hs
    · subst e; decide
    rcases List.mem_cons.mp hs with e | hs
    · subst e; decide
    cases hs
  obtain ⟨c1, c2, c3⟩ := hs2
  refine ⟨_, rfl, R.a, _, _, rfl, w.ob, rfl, R, T', k, t, q, r, rfl, w, hd, fun v hv => ?_⟩
  obtain ⟨p, x, rfl, hp, hx⟩ := tk_parts hv
  refine ⟨2, rfl, p, _, rfl, .inl (.inl hp), by show ¬ (0 = 0 ∧ (2 : Nat) = 3); omega, fun p1 hp1 => ?_⟩
  have e1 := Ex.new (o := HO.tup (cutV [nV (sortOf q), x, nV q.place] none (some 2))) hp1
  have h1 : (upd H p1 (HO.tup (cutV [nV (sortOf q), x, nV q.place] none (some 2)))) p1 = some (.tup [nV (sortOf q), x]) := upd_same
  generalize (upd H p1 (HO.tup (cutV [nV (sortOf q), x, nV q.place] none (some 2)))) = H1 at e1 h1
  refine ⟨_, rfl, PySem.Str.ofString s0, rfl, c2, fun p2 H2 hp2 e2 h2 => ⟨s2, fun p3 hp3 => ?_⟩⟩
  rw [cps_word s0 c1] at h2
  have e3 := Ex.new (o := HO.tup [V.int 1, .ref p2]) hp3
  refine ⟨.tuple [.int (sortOf q), whatD q], .tuple [.int 1, btD (VamvsBase.word s0)], .tup (.inl (.inl (e3 _ _ (e2 _ _ h1)))) (.cons (.int _) (.cons (what_dp (WhatAt.keep (Ex.kt (e1.trans (e2.trans e3))) hx)) .nil)), .tup (.inl (.inl upd_same)) (.cons (.int _) (.cons (dp_bt (e3 _ _ h2)) .nil)), what_shaped q _, what_shaped ⟨0, .name (VamvsBase.word s0)⟩ 1, ?_⟩
  rw [word_eq c3 q r]
  exact qQ _ (e1.trans (e2.trans e3))
def sp_Reader_is_sign (g : Gx) : Sp := fun vs H Q _ => ∃ (R : RdA) (T : Toks) (k : Nat) (t : Vamvsa.Table) (q : PTok) (r : Toks) (c : Nat), vs = [.ref R.a, nV c] ∧ RdW g H R T k t ∧ T.drop k = q :: r ∧ ∀ H', Ex H H' → Q (.bl (VamvsBase.next (.sign c) (q :: r))) H'
abbrev N_Reader_is_sign : List Str := ["self", "sign"]
theorem sc_Reader_is_sign : FnScope N_Reader_is_sign ["self", "sign"] (defScope s_Reader_is_sign) := ⟨rfl, rfl, rfl, by decide +kernel, rfl, by decide +kernel, by decide +kernel⟩
set_option maxHeartbeats 8000000 in
theorem ok_Reader_is_sign {g : Gx} (T : Tx g) : RMt g CX0 2 (g.C "Reader") "is_sign" (sp_Reader_is_sign g) := by
  refine mt0 (N := N_Reader_is_sign) (ps := ["self", "sign"]) (st := s_Reader_is_sign) T 39 rfl T.cl_Reader T.m_Reader_is_sign sc_Reader_is_sign (fun _ _ _ _ _ _ us hl => match us, hl with | [_, _], _ => rfl) (fun vs H Q E h => by obtain ⟨R, T', k, t, q, r, c, rfl, w, hd, qQ⟩ := h; rfl) (fun f cdv A outer s H vs Q E hr h => ?_)
  obtain ⟨R, T', k, t, q, r, c, rfl, w, hd, qQ⟩ := h
  refine ⟨_, (pss_one (ps_ret (pe_cmpR (r := rEqD g.K) (op_eqD (u64 hr)) (pe_slice sl_tup (pe_me0 (ok_Reader_here T) hr (by decide) pass0 (pv 0)) po_none (po_some pe_int)) (pe_tup (pa_cons (pe_gc rfl T.g_SIGN) (pa_cons (pv 1) pa_nil))) (nomark _)))), ?_⟩

  refine ⟨_, rfl, R.a, _, _, rfl, w.ob, rfl, R, T', k, t, q, r, rfl, w, hd, fun v hv => ?_⟩
  obtain ⟨p, x, rfl, hp, hx⟩ := tk_parts hv
  refine ⟨2, rfl, p, _, rfl, .inl (.inl hp), by show ¬ (0 = 0 ∧ (2 : Nat) = 3); omega, fun p1 hp1 => ?_⟩
  have e1 := Ex.new (o := HO.tup (cutV [nV (sortOf q), x, nV q.place] none (some 2))) hp1
  have h1 : (upd H p1 (HO.tup (cutV [nV (sortOf q), x, nV q.place] none (some 2)))) p1 = some (.tup [nV (sortOf q), x]) := upd_same
  generalize (upd H p1 (HO.tup (cutV [nV (sortOf q), x, nV q.place] none (some 2)))) = H1 at e1 h1
  refine ⟨_, rfl, s2, fun p3 hp3 => ?_⟩
  have e3 := Ex.new (o := HO.tup [V.int 3, nV c]) hp3
  refine ⟨.tuple [.int (sortOf q), whatD q], .tuple [.int 3, .int c], .tup (.inl (.inl (e3 _ _ h1))) (.cons (.int _) (.cons (what_dp (WhatAt.keep (Ex.kt (e1.trans e3)) hx)) .nil)), .tup (.inl (.inl upd_same)) (.cons (.int _) (.cons (.int _) .nil)), what_shaped q _, what_shaped ⟨0, .sign c⟩ 3, ?_⟩
  rw [sign_eq c q r]
  exact qQ _ (e1.trans e3)
end Sr
set_option Elab.async false
set_option linter.all false
set_option maxRecDepth 100000
set_option maxHeartbeats 4000000
/-! # The reader: words, signs, numbers, columns -/
namespace Sr
open PySem PySem.Spec PyProof.Rows L2
open Evl (Ex)
open VamvsBase (Toks PTok Tok Fault)
theorem next_sign_nl {c : Nat} {q : PTok} {r : Toks} (h : VamvsBase.next (.sign c) (q :: r) = true) : q.tok ≠ .last := fun e => by
  have h2 : VamvsBase.tokEq q.tok (.sign c) = true := h
  rw [e] at h2
  cases h2
theorem next_word_nl {s : String} {q : PTok} {r : Toks} (h : VamvsBase.nextWord s (q :: r) = true) : q.tok ≠ .last := fun e => by
  have h2 : VamvsBase.tokEq q.tok (.name (VamvsBase.word s)) = true := h
  rw [e] at h2
  cases h2
def sp_Reader_take_word (g : Gx) : Sp := fun vs H Q E => ∃ (R : RdA) (T : Toks) (k : Nat) (t : Vamvsa.Table) (q : PTok) (r : Toks) (s : String), vs = [.ref R.a, .str (PySem.Str.ofString s)] ∧ RdW g H R T k t ∧ T.drop k = q :: r ∧ s ∈ (["columns", "row", "ask", "times"] : List String) ∧ (VamvsBase.nextWord s (q :: r) = false → FltR g R H E ⟨3, q.place⟩) ∧ (VamvsBase.nextWord s (q :: r) = true → ∀ H', Fx R H H' → RdW g H' R T (k + 1) t → Q .non H')
abbrev N_Reader_take_word : List Str := ["self", "word"]
theorem sc_Reader_take_word : FnScope N_Reader_take_word ["self", "word"] (defScope s_Reader_take_word) := ⟨rfl, rfl, rfl, by decide +kernel, rfl, by decide +kernel, by decide +kernel⟩
set_option maxHeartbeats 8000000 in
theorem ok_Reader_take_word {g : Gx} (T : Tx g) : RMt g (CXr g) 4 (g.C "Reader") "take_word" (sp_Reader_take_word g) := by
  refine mtX (N := N_Reader_take_word) (ps := ["self", "word"]) (st := s_Reader_take_word) T 41 rfl T.cl_Reader T.m_Reader_take_word sc_Reader_take_word (fun _ _ _ _ _ _ us hl => match us, hl with | [_, _], _ => rfl) (fun vs H Q E h => by obtain ⟨R, T', k, t, q, r, s0, rfl, w, hd, hs, qE, qQ⟩ := h; rfl) (fun f cdv A outer s H vs Q E hr h => ?_)
  obtain ⟨R, T', k, t, q, r, s0, rfl, w, hd, hs, qE, qQ⟩ := h
  refine ⟨_, (pss_cons (ps_expr (pe_me (ok_Reader_need T) hr (by decide) pxR (pv 0) (pa_cons (pe_me (ok_Reader_is_word T) hr (by decide) pass0 (pv 0) (pa_cons (pv 1) pa_nil)) (pa_cons (pe_gc rfl T.g_CANT_STAND) pa_nil)))) (pss_one (ps_expr (pe_me0 (ok_Reader_take T) hr (by decide) pass0 (pv 0))))), ?_⟩

  refine ⟨_, rfl, R.a, _, _, rfl, w.ob, rfl, _, rfl, R.a, _, _, rfl, w.ob, rfl, ⟨_, rfl, R, T', k, t, q, r, s0, rfl, w, hd, hs, fun H1 e1 => ?_⟩⟩
  have w1 := w.ex e1
  refine ⟨R, T', k, t, q, r, _, 3, rfl, w1, hd, fun hb => ?_, fun hb => (qE hb).x (Ex.fx e1)⟩
  refine ⟨_, rfl, R.a, _, _, rfl, w1.ob, rfl, R, T', k, t, q, r, rfl, w1, hd, fun v _ => ?_⟩
  exact qQ hb _ ((Ex.fx e1).trans Fx.upd) (w1.step hd (next_word_nl hb))
def sp_Reader_take_sign (g : Gx) : Sp := fun vs H Q E => ∃ (R : RdA) (T : Toks) (k : Nat) (t : Vamvsa.Table) (q : PTok) (r : Toks) (c : Nat), vs = [.ref R.a, nV c] ∧ RdW g H R T k t ∧ T.drop k = q :: r ∧ (VamvsBase.next (.sign c) (q :: r) = false → FltR g R H E ⟨3, q.place⟩) ∧ (VamvsBase.next (.sign c) (q :: r) = true → ∀ H', Fx R H H' → RdW g H' R T (k + 1) t → Q .non H')
abbrev N_Reader_take_sign : List Str := ["self", "sign"]
theorem sc_Reader_take_sign : FnScope N_Reader_take_sign ["self", "sign"] (defScope s_Reader_take_sign) := ⟨rfl, rfl, rfl, by decide +kernel, rfl, by decide +kernel, by decide +kernel⟩
set_option maxHeartbeats 8000000 in
theorem ok_Reader_take_sign {g : Gx} (T : Tx g) : RMt g (CXr g) 4 (g.C "Reader") "take_sign" (sp_Reader_take_sign g) := by
  refine mtX (N := N_Reader_take_sign) (ps := ["self", "sign"]) (st := s_Reader_take_sign) T 42 rfl T.cl_Reader T.m_Reader_take_sign sc_Reader_take_sign (fun _ _ _ _ _ _ us hl => match us, hl with | [_, _], _ => rfl) (fun vs H Q E h => by obtain ⟨R, T', k, t, q, r, c, rfl, w, hd, qE, qQ⟩ := h; rfl) (fun f cdv A outer s H vs Q E hr h => ?_)
  obtain ⟨R, T', k, t, q, r, c, rfl, w, hd, qE, qQ⟩ := h
  refine ⟨_, (pss_cons (ps_expr (pe_me (ok_Reader_need T) hr (by decide) pxR (pv 0) (pa_cons (pe_me (ok_Reader_is_sign T) hr (by decide) pass0 (pv 0) (pa_cons (pv 1) pa_nil)) (pa_cons (pe_gc rfl T.g_CANT_STAND) pa_nil)))) (pss_one (ps_expr (pe_me0 (ok_Reader_take T) hr (by decide) pass0 (pv 0))))), ?_⟩

  refine ⟨_, rfl, R.a, _, _, rfl, w.ob, rfl, _, rfl, R.a, _, _, rfl, w.ob, rfl, ⟨_, rfl, R, T', k, t, q, r, c, rfl, w, hd, fun H1 e1 => ?_⟩⟩
  have w1 := w.ex e1
  refine ⟨R, T', k, t, q, r, _, 3, rfl, w1, hd, fun hb => ?_, fun hb => (qE hb).x (Ex.fx e1)⟩
  refine ⟨_, rfl, R.a, _, _, rfl, w1.ob, rfl, R, T', k, t, q, r, rfl, w1, hd, fun v _ => ?_⟩
  exact qQ hb _ ((Ex.fx e1).trans Fx.upd) (w1.step hd (next_sign_nl hb))
def numOf (q : PTok) : Option Nat := match q.tok with
  | .num n => some n
  | _ => none
theorem sort_num (q : PTok) : decide (nV (sortOf q) = V.int 2) = (numOf q).isSome := by
  obtain ⟨p, t⟩ := q
  cases t with
  | name b => unfold sortOf numOf; dsimp only; split <;> rfl
  | num n => rfl
  | sign n => rfl
  | last => rfl
theorem numOf_some {q : PTok} {n : Nat} (h : numOf q = some n) : q.tok = .num n := by
  obtain ⟨p, t⟩ := q
  cases t with
  | num m => cases h; rfl
  | _ => cases h
theorem what_num {H : Hp} {v : V} {q : PTok} {n : Nat} (h : numOf q = some n) (w : WhatAt H v q) : v = nV n := by
  obtain ⟨p, t⟩ := q
  cases t with
  | num m => cases h; exact w
  | _ => cases h
def sp_Reader_number (g : Gx) : Sp := fun vs H Q E => ∃ (R : RdA) (T : Toks) (k : Nat) (t : Vamvsa.Table) (q : PTok) (r : Toks) (lo hi : Nat), vs = [.ref R.a, nV lo, nV hi] ∧ RdW g H R T k t ∧ T.drop k = q :: r ∧ (numOf q = none → FltR g R H E ⟨3, q.place⟩) ∧ ∀ n, numOf q = some n → (¬ (lo ≤ n ∧ n ≤ hi) → FltR g R H E ⟨7, q.place⟩) ∧ (lo ≤ n ∧ n ≤ hi → RdW g (upd H R.a (RdO g R (k + 1))) R T (k + 1) t → Q (nV n) (upd H R.a (RdO g R (k + 1))))
abbrev N_Reader_number : List Str := ["self", "least", "most", "sort", "what", "place"]
theorem sc_Reader_number : FnScope N_Reader_number ["self", "least", "most"] (defScope s_Reader_number) := ⟨rfl, rfl, rfl, by decide +kernel, rfl, by decide +kernel, by decide +kernel⟩
set_option maxHeartbeats 8000000 in
theorem ok_Reader_number {g : Gx} (T : Tx g) : RMt g (CXr g) 4 (g.C "Reader") "number" (sp_Reader_number g) := by
  refine mtX (N := N_Reader_number) (ps := ["self", "least", "most"]) (st := s_Reader_number) T 43 rfl T.cl_Reader T.m_Reader_number sc_Reader_number (fun _ _ _ _ _ _ us hl => match us, hl with | [_, _, _], _ => rfl) (fun vs H Q E h => by obtain ⟨R, T', k, t, q, r, lo, hi, rfl, w, hd, qE, qQ⟩ := h; rfl) (fun f cdv A outer s H vs Q E hr h => ?_)
  obtain ⟨R, T', k, t, q, r, lo, hi, rfl, w, hd, qE, qQ⟩ := h
  refine ⟨_, (pss_cons (ps_asg (pe_me0 (ok_Reader_here T) hr (by decide) pass0 (pv 0)) (pg_tup rfl (pgs_cons (pg_name (i := 3) sc_Reader_number.nd rfl (Or.inl rfl)) (pgs_cons (pg_name (i := 4) sc_Reader_number.nd rfl (Or.inl rfl)) (pgs_cons (pg_name (i := 5) sc_Reader_number.nd rfl (Or.inl rfl)) pgs_nil))))) (pss_cons (ps_expr (pe_me (ok_Reader_need T) hr (by decide) pxR (pv 0) (pa_cons (pe_cmpR op_eq (pv 3) (pe_gc rfl T.g_NUMBER) (nomark _)) (pa_cons (pe_gc rfl T.g_CANT_STAND) pa_nil)))) (pss_cons (ps_expr (pe_me (ok_Reader_need T) hr (by decide) pxR (pv 0) (pa_cons (pe_chain op_le op_le (pv 1) (pv 4) (pv 2)) (pa_cons (pe_gc rfl T.g_OUT_OF_BOUNDS) pa_nil)))) (pss_one (ps_ret (pe_me0 (ok_Reader_take T) hr (by decide) pass0 (pv 0))))))), ?_⟩

  refine ⟨_, rfl, R.a, _, _, rfl, w.ob, rfl, R, T', k, t, q, r, rfl, w, hd, fun v hv => ?_⟩
  obtain ⟨p, x, rfl, hp, hx⟩ := tk_parts hv
  refine ⟨p, _, rfl, .inl (.inl hp), rfl, _, _, rfl, _, _, rfl, _, _, rfl, rfl, ?_⟩
  refine ⟨_, rfl, R.a, _, _, rfl, w.ob, rfl, _, rfl, rfl, R, T', k, t, q, r, _, 3, rfl, w, hd, fun hb => ?_, fun hb => ?_⟩
  · rw [sort_num] at hb
    obtain ⟨n, hn⟩ := Option.isSome_iff_exists.mp hb
    obtain ⟨q7, qk⟩ := qQ n hn
    have hxn := what_num hn hx
    subst hxn
    refine ⟨_, rfl, R.a, _, _, rfl, w.ob, rfl, _, rfl, _, rfl, _, _, rfl, rfl, _, rfl, ?_⟩
    by_cases h1 : lo ≤ n
    · rw [decide_eq_true (by omega : (lo : Int) ≤ (n : Int))]
      refine iteT ⟨_, rfl, _, _, rfl, rfl, R, T', k, t, q, r, _, 7, rfl, w, hd, fun hb2 => ?_, fun hb2 => ?_⟩
      · have h2 : n ≤ hi := by have := of_decide_eq_true hb2; omega
        have w2 := w.step hd (by rw [numOf_some hn]; exact fun z => by cases z)
        refine ⟨_, rfl, R.a, _, _, rfl, w.ob, rfl, R, T', k, t, q, r, rfl, w, hd, fun v hv => ?_⟩
        rw [what_num hn hv]
        exact qk ⟨h1, h2⟩ w2
      · exact (q7 fun z => by have := of_decide_eq_false hb2; omega).x (Ex.fx (Ex.refl H))
    · rw [decide_eq_false (by omega : ¬ (lo : Int) ≤ (n : Int))]
      exact iteF ⟨R, T', k, t, q, r, _, 7, rfl, w, hd, (fun hb2 => by cases hb2), fun _ => (q7 fun z => h1 z.1).x (Ex.fx (Ex.refl H))⟩
  · rw [sort_num] at hb
    exact (qE (by cases h : numOf q with | none => rfl | some n => rw [h] at hb; cases hb)).x (Ex.fx (Ex.refl H))
def nmOf (q : PTok) : Option (List UInt8) := match q.tok with
  | .name b => if VamvsBase.RESERVED.contains b = true then none else some b
  | _ => none
theorem isNm_of (q : PTok) : isNm q = (nmOf q).isSome := by
  obtain ⟨p, t⟩ := q
  cases t with
  | name b =>
    show (!VamvsBase.RESERVED.contains b) = (if VamvsBase.RESERVED.contains b = true then none else some b).isSome
    cases h : VamvsBase.RESERVED.contains b <;> rfl
  | _ => rfl
theorem nmOf_some {q : PTok} {b : List UInt8} (h : nmOf q = some b) : q.tok = .name b := by
  obtain ⟨p, t⟩ := q
  cases t with
  | name c =>
    unfold nmOf at h
    simp only at h
    split at h
    · cases h
    · cases h; rfl
  | _ => cases h
theorem what_nm {H : Hp} {v : V} {q : PTok} {b : List UInt8} (h : nmOf q = some b) (w : WhatAt H v q) : BtAt H v b := by
  have e := nmOf_some h
  unfold WhatAt at w
  rw [e] at w
  exact w
theorem takeName_of (q : PTok) (r : Toks) : VamvsBase.takeName (q :: r) = match nmOf q with
    | some b => .ok (⟨q.place, b⟩, r)
    | none => .error ⟨3, q.place⟩ := by
  obtain ⟨p, t⟩ := q
  cases t with
  | name b =>
    show (if VamvsBase.RESERVED.contains b = true then _ else _) = match (if VamvsBase.RESERVED.contains b = true then none else some b) with
      | some b => _
      | none => _
    cases h : VamvsBase.RESERVED.contains b <;> rfl
  | _ => rfl
/-! ## the lists of the table grow -/
theorem RdW.addCol {g : Gx} {H : Hp} {R : RdA} {T : Toks} {k : Nat} {t : Vamvsa.Table} {ns : List V} {v : V} {b : List UInt8} (w : RdW g H R T k t) (hn : H R.ln = some (.lst ns)) (hv : BtAt H v b) : RdW g (upd H R.ln (.lst (ns ++ [v]))) R T k { t with cols := t.cols ++ [b] } := by
  have kt : Kt H (upd H R.ln (.lst (ns ++ [v]))) := Kt.upd fun xs z => by rw [hn] at z; cases z
  obtain ⟨ob, ⟨xs, h1, h2⟩, ⟨to, ⟨ns', n1, n2⟩, ⟨rs, r1, r2⟩, ⟨qs, q1, q2⟩⟩, nd, el, sm⟩ := w
  have nd0 := nd
  simp only [List.nodup_cons, List.mem_cons, List.not_mem_nil, or_false, not_or, not_false_eq_true, List.nodup_nil, and_true] at nd
  obtain ⟨⟨d1, d2, d3, d4, d5⟩, ⟨f1, f2, f3, f4⟩, ⟨g1, g2, g3⟩, ⟨i1, i2⟩, j1⟩ := nd
  rw [hn] at n1
  cases n1
  exact ⟨by rw [upd_ne d3]; exact ob, ⟨xs, by rw [upd_ne f2]; exact h1, paired_keep (fun _ _ => TokAt.keep kt) h2⟩, ⟨by rw [upd_ne g1]; exact to, ⟨_, upd_same, paired_snoc (paired_keep (fun _ _ => BtAt.keep kt) n2) (hv.keep kt)⟩,
    ⟨rs, by rw [upd_ne (Ne.symm i1)]; exact r1, paired_keep (fun _ _ => RowAt.keep kt) r2⟩, ⟨qs, by rw [upd_ne (Ne.symm i2)]; exact q1, paired_keep (fun _ _ => AskAt.keep kt) q2⟩⟩, nd0, el, sm⟩
theorem RdW.addRow {g : Gx} {H : Hp} {R : RdA} {T : Toks} {k : Nat} {t : Vamvsa.Table} {ns : List V} {v : V} {b : Vamvsa.Row} (w : RdW g H R T k t) (hn : H R.lr = some (.lst ns)) (hv : RowAt H v b) : RdW g (upd H R.lr (.lst (ns ++ [v]))) R T k { t with rows := t.rows ++ [b] } := by
  have kt : Kt H (upd H R.lr (.lst (ns ++ [v]))) := Kt.upd fun xs z => by rw [hn] at z; cases z
  obtain ⟨ob, ⟨xs, h1, h2⟩, ⟨to, ⟨ns', n1, n2⟩, ⟨rs, r1, r2⟩, ⟨qs, q1, q2⟩⟩, nd, el, sm⟩ := w
  have nd0 := nd
  simp only [List.nodup_cons, List.mem_cons, List.not_mem_nil, or_false, not_or, not_false_eq_true, List.nodup_nil, and_true] at nd
  obtain ⟨⟨d1, d2, d3, d4, d5⟩, ⟨f1, f2, f3, f4⟩, ⟨g1, g2, g3⟩, ⟨i1, i2⟩, j1⟩ := nd
  rw [hn] at r1
  cases r1
  exact ⟨by rw [upd_ne d4]; exact ob, ⟨xs, by rw [upd_ne f3]; exact h1, paired_keep (fun _ _ => TokAt.keep kt) h2⟩, ⟨by rw [upd_ne g2]; exact to, ⟨ns', by rw [upd_ne i1]; exact n1, paired_keep (fun _ _ => BtAt.keep kt) n2⟩,
    ⟨_, upd_same, paired_snoc (paired_keep (fun _ _ => RowAt.keep kt) r2) (hv.keep kt)⟩, ⟨qs, by rw [upd_ne (Ne.symm j1)]; exact q1, paired_keep (fun _ _ => AskAt.keep kt) q2⟩⟩, nd0, el, sm⟩
theorem RdW.addAsk {g : Gx} {H : Hp} {R : RdA} {T : Toks} {k : Nat} {t : Vamvsa.Table} {ns : List V} {v : V} {b : Vamvsa.Ask} (w : RdW g H R T k t) (hn : H R.lq = some (.lst ns)) (hv : AskAt H v b) : RdW g (upd H R.lq (.lst (ns ++ [v]))) R T k { t with asks := t.asks ++ [b] } := by
  have kt : Kt H (upd H R.lq (.lst (ns ++ [v]))) := Kt.upd fun xs z => by rw [hn] at z; cases z
  obtain ⟨ob, ⟨xs, h1, h2⟩, ⟨to, ⟨ns', n1, n2⟩, ⟨rs, r1, r2⟩, ⟨qs, q1, q2⟩⟩, nd, el, sm⟩ := w
  have nd0 := nd
  simp only [List.nodup_cons, List.mem_cons, List.not_mem_nil, or_false, not_or, not_false_eq_true, List.nodup_nil, and_true] at nd
  obtain ⟨⟨d1, d2, d3, d4, d5⟩, ⟨f1, f2, f3, f4⟩, ⟨g1, g2, g3⟩, ⟨i1, i2⟩, j1⟩ := nd
  rw [hn] at q1
  cases q1
  exact ⟨by rw [upd_ne d5]; exact ob, ⟨xs, by rw [upd_ne f4]; exact h1, paired_keep (fun _ _ => TokAt.keep kt) h2⟩, ⟨by rw [upd_ne g3]; exact to, ⟨ns', by rw [upd_ne i2]; exact n1, paired_keep (fun _ _ => BtAt.keep kt) n2⟩,
    ⟨rs, by rw [upd_ne j1]; exact r1, paired_keep (fun _ _ => RowAt.keep kt) r2⟩, ⟨_, upd_same, paired_snoc (paired_keep (fun _ _ => AskAt.keep kt) q2) (hv.keep kt)⟩⟩, nd0, el, sm⟩
theorem Fx.updN {R : RdA} {H : Hp} {o : HO} : Fx R H (L2.upd H R.ln o) := fun b u h _ h1 _ _ => by rw [upd_ne h1]; exact h
theorem Fx.updR {R : RdA} {H : Hp} {o : HO} : Fx R H (L2.upd H R.lr o) := fun b u h _ _ h1 _ => by rw [upd_ne h1]; exact h
theorem Fx.updQ {R : RdA} {H : Hp} {o : HO} : Fx R H (L2.upd H R.lq o) := fun b u h _ _ _ h1 => by rw [upd_ne h1]; exact h
/-! ## names among names -/
theorem dp_bts {K : PySem.W.Frag} {H : Hp} : ∀ {ns : List V} {cs : List (List UInt8)}, Paired (BtAt H) ns cs → DpAll K H ns (cs.map btD)
  | _, _, .nil => .nil
  | _, _, .cons ⟨a, e, h⟩ t => by rw [e]; exact .cons (dp_bt h) (dp_bts t)
theorem shaped_bts (cs : List (List UInt8)) : SeqAt.shaped (.list (cs.map btD)) = true := by
  unfold SeqAt.shaped
  have h1 : ∀ cs : List (List UInt8), PyData.canLayAll0 (cs.map btD) = true := fun cs => by
    induction cs with
    | nil => rfl
    | cons c cs ih =>
      show (PyData.canLay0 (btD c) && PyData.canLayAll0 (cs.map btD)) = true
      rw [ih, Bool.and_true]
      have := lay_ints (c.map fun b => (b.toNat : Int))
      simpa [PyData.canLay0] using this
  have h2 : ∀ cs : List (List UInt8), PyData.depthAll (cs.map btD) ≤ 2 := fun cs => by
    induction cs with
    | nil => simp [PyData.depthAll]
    | cons c cs ih =>
      have := dep_ints (c.map fun b => (b.toNat : Int))
      show PyData.depthAll (btD c :: cs.map btD) ≤ 2
      simp only [PyData.depthAll, PyData.depth]
      omega
  have h3 : (PyData.list (cs.map btD)).depth ≤ 64 := by have := h2 cs; simp only [PyData.depth]; omega
  rw [decide_eq_true h3]
  have := h1 cs
  simpa [PyData.canLay0] using this
theorem any_bts (cs : List (List UInt8)) (b : List UInt8) : ((cs.map btD).any fun z => PyData.eqv z (btD b)) = cs.contains b := by
  rw [List.any_map, List.contains_eq_any_beq]
  congr 1
  funext c
  show PyData.eqv (btD c) (btD b) = _
  rw [eqv_bt, Bool.eq_iff_iff, beq_iff_eq, beq_iff_eq]
  exact eq_comm
def sp_Reader_column (g : Gx) : Sp := fun vs H Q E => ∃ (R : RdA) (T : Toks) (k : Nat) (t : Vamvsa.Table) (q : PTok) (r : Toks), vs = [.ref R.a] ∧ RdW g H R T k t ∧ T.drop k = q :: r ∧ (nmOf q = none → FltR g R H E ⟨3, q.place⟩) ∧ ∀ b, nmOf q = some b → (4 ≤ t.cols.length → FltR g R H E ⟨4, q.place⟩) ∧ (¬ 4 ≤ t.cols.length → (t.cols.contains b = true → FltR g R H E ⟨5, q.place⟩) ∧ (t.cols.contains b = false → ∀ H', Fx R H H' → RdW g H' R T (k + 1) { t with cols := t.cols ++ [b] } → Q .non H'))
abbrev N_Reader_column : List Str := ["self"]
theorem sc_Reader_column : FnScope N_Reader_column ["self"] (defScope s_Reader_column) := ⟨rfl, rfl, rfl, by decide +kernel, rfl, by decide +kernel, by decide +kernel⟩
set_option maxHeartbeats 8000000 in
theorem ok_Reader_column {g : Gx} (T : Tx g) : RMt g (CXr g) 4 (g.C "Reader") "column" (sp_Reader_column g) := by
  refine mtX (N := N_Reader_column) (ps := ["self"]) (st := s_Reader_column) T 44 rfl T.cl_Reader T.m_Reader_column sc_Reader_column (fun _ _ _ _ _ _ us hl => match us, hl with | [_], _ => rfl) (fun vs H Q E h => by obtain ⟨R, T', k, t, q, r, rfl, w, hd, qE, qQ⟩ := h; rfl) (fun f cdv A outer s H vs Q E hr h => ?_)
  obtain ⟨R, T', k, t, q, r, rfl, w, hd, qE, qQ⟩ := h
  refine ⟨_, (pss_cons (ps_expr (pe_me (ok_Reader_need T) hr (by decide) pxR (pv 0) (pa_cons (pe_me0 (ok_Reader_is_name T) hr (by decide) pass0 (pv 0)) (pa_cons (pe_gc rfl T.g_CANT_STAND) pa_nil)))) (pss_cons (ps_expr (pe_me (ok_Reader_need T) hr (by decide) pxR (pv 0) (pa_cons (pe_cmpR op_lt (pe_callB call_len_seq rfl T.f_len PySem.boot_len (pa_cons (pe_fld (pe_fld (pv 0) rfl) rfl) pa_nil)) (pe_gc rfl T.g_MOST_COLUMNS) (nomark _)) (pa_cons (pe_gc rfl T.g_TOO_MANY_reading) pa_nil)))) (pss_cons (ps_expr (pe_me (ok_Reader_need T) hr (by decide) pxR (pv 0) (pa_cons (pe_cmpR (op_notInD (u65 hr)) (pe_ix (r := rIxT g.K) ix_tup (pe_me0 (ok_Reader_here T) hr (by decide) pass0 (pv 0)) pe_int (fun _ _ => rfl)) (pe_fld (pe_fld (pv 0) rfl) rfl) (by rfl)) (pa_cons (pe_gc rfl T.g_COLUMN_TWICE) pa_nil)))) (pss_one (ps_expr (pe_bm PySem.F.plainAttrs_list PySem.F.slot_list_append PySem.F.type_list_append mt_append (pe_fld (pe_fld (pv 0) rfl) rfl) (pa_cons (pe_me0 (ok_Reader_take T) hr (by decide) pass0 (pv 0)) pa_nil))))))), ?_⟩

  obtain ⟨ns, hn1, hn2⟩ := w.tb.hn
  have ln := Paired.length hn2
  refine ⟨_, rfl, R.a, _, _, rfl, w.ob, rfl, _, rfl, R.a, _, _, rfl, w.ob, rfl, ⟨R, T', k, t, q, r, rfl, w, hd, R, T', k, t, q, r, _, 3, rfl, w, hd, fun hb => ?_, fun hb => ?_⟩⟩
  · rw [isNm_of] at hb
    obtain ⟨b, hb⟩ := Option.isSome_iff_exists.mp hb
    obtain ⟨q4, q5⟩ := qQ b hb
    refine ⟨_, rfl, R.a, _, _, rfl, w.ob, rfl, _, rfl, R.a, _, _, _, _, rfl, w.ob, T.cl_Reader, T.na_Reader_table, rfl, R.tb, _, _, _, _, rfl, w.tb.ob, T.cl_Table, T.na_Table_names, rfl, R.ln, ns, rfl, .inl (.inl (.inl hn1)), _, _, rfl, rfl, R, T', k, t, q, r, _, 4, rfl, w, hd, fun hc => ?_, fun hc => ?_⟩
    · have h4 : ¬ 4 ≤ t.cols.length := by have := of_decide_eq_true hc; omega
      obtain ⟨q5, q6⟩ := q5 h4
      refine ⟨_, rfl, R.a, _, _, rfl, w.ob, rfl, _, rfl, R.a, _, _, rfl, w.ob, rfl, R, T', k, t, q, r, rfl, w, hd, fun v hv => ?_⟩
      obtain ⟨p, x, rfl, hp, hx⟩ := tk_parts hv
      refine ⟨p, _, 1, x, rfl, rfl, .inl (.inl hp), rfl, _, rfl, R.a, _, _, _, _, rfl, w.ob, T.cl_Reader, T.na_Reader_table, rfl, R.tb, _, _, _, _, rfl, w.tb.ob, T.cl_Table, T.na_Table_names, rfl, ?_⟩
      obtain ⟨pb, epb, hpb⟩ := what_nm hb hx
      refine ⟨btD b, t.cols.map btD, by rw [epb]; exact dp_bt hpb, .lst (.inl (.inl hn1)) (dp_bts hn2), shaped_t _, shaped_bts _, ?_⟩
      rw [any_bts]
      refine ⟨R, T', k, t, q, r, _, 5, rfl, w, hd, fun hd5 => ?_, fun hd5 => ?_⟩
      · have w2 := w.step hd (by rw [nmOf_some hb]; exact fun z => by cases z)
        refine ⟨_, rfl, R.a, _, _, _, _, rfl, w.ob, T.cl_Reader, T.na_Reader_table, rfl, R.tb, _, _, _, _, rfl, w.tb.ob, T.cl_Table, T.na_Table_names, rfl, .inl ⟨rfl, ns, .inl (.inl hn1)⟩, _, rfl, R.a, _, _, rfl, w.ob, rfl, R, T', k, t, q, r, rfl, w, hd, fun v2 hv2 => ?_⟩
        have hnd := w.nd
        simp only [List.nodup_cons, List.mem_cons, List.not_mem_nil, or_false, not_or, not_false_eq_true, List.nodup_nil, and_true] at hnd
        have hn3 : (upd H R.a (RdO g R (k + 1))) R.ln = some (.lst ns) := by rw [upd_ne (Ne.symm hnd.1.2.2.1)]; exact hn1
        refine ⟨R.ln, ns, v2, rfl, rfl, hn3, by have := sizeLine_eq; omega, ?_⟩
        exact q6 (by cases h : t.cols.contains b with | false => rfl | true => rw [h] at hd5; cases hd5) _ (Fx.upd.trans Fx.updN) (w2.addCol hn3 ((what_nm hb hv2).keep w.kt_upd))
      · exact (q5 (by cases h : t.cols.contains b with | true => rfl | false => rw [h] at hd5; cases hd5)).x (Ex.fx (Ex.refl H))
    · exact (q4 (by have := of_decide_eq_false hc; omega)).x (Ex.fx (Ex.refl H))
  · rw [isNm_of] at hb
    exact (qE (by cases h : nmOf q with | none => rfl | some n => rw [h] at hb; cases hb)).x (Ex.fx (Ex.refl H))
end Sr
set_option Elab.async false
set_option linter.all false
set_option maxRecDepth 100000
set_option maxHeartbeats 4000000
/-! # The reader: columns -/
namespace Sr
open PySem PySem.Spec PyProof.Rows L2
open Evl (Ex)
open VamvsBase (Toks PTok Tok Fault)
theorem takeWord_of (s : String) (l : Toks) : VamvsBase.takeWord s l = if VamvsBase.nextWord s l = true then .ok (l.drop 1) else .error ⟨3, VamvsBase.here l⟩ := rfl
theorem takeSign_of (c : Nat) (l : Toks) : VamvsBase.takeSign c l = if VamvsBase.next (.sign c) l = true then .ok (l.drop 1) else .error ⟨3, VamvsBase.here l⟩ := rfl
def colsR (n : Nat) (cs : List (List UInt8)) (l : Toks) : Except Fault (List (List UInt8) × Toks) := if VamvsBase.next (.sign 44) l = true then Vamvsa.takeColumns n cs (l.drop 1) else (VamvsBase.takeSign 59 l).map fun m => (cs, m)
theorem takeColumns_of (n : Nat) (cs : List (List UInt8)) (q : PTok) (r : Toks) : Vamvsa.takeColumns (n + 1) cs (q :: r) = match nmOf q with
    | none => .error ⟨3, q.place⟩
    | some b => if 4 ≤ cs.length then .error ⟨4, q.place⟩ else if cs.contains b = true then .error ⟨5, q.place⟩ else colsR n (cs ++ [b]) r := by
  show (VamvsBase.takeName (q :: r)).bind _ = _
  rw [takeName_of]
  cases nmOf q <;> rfl
def colsAll (l : Toks) : Except Fault (List (List UInt8) × Toks) := (VamvsBase.takeWord "columns" l).bind fun r => Vamvsa.takeColumns (r.length + 1) [] r
theorem drop_lt {T : Toks} {k : Nat} {q : PTok} {r : Toks} (h : T.drop k = q :: r) : k < T.length ∧ r.length + 1 + k = T.length := by
  have hk : k < T.length := by
    refine Nat.lt_of_not_le fun z => ?_
    rw [List.drop_of_length_le z] at h
    cases h
  have h2 := congrArg List.length h
  rw [List.length_drop, List.length_cons] at h2
  exact ⟨hk, by omega⟩
def sp_Reader_columns (g : Gx) : Sp := fun vs H Q E => ∃ (R : RdA) (T : Toks) (k : Nat) (t : Vamvsa.Table) (q : PTok) (r : Toks), vs = [.ref R.a] ∧ RdW g H R T k t ∧ T.drop k = q :: r ∧ t.cols = [] ∧ (∀ f, colsAll (q :: r) = .error f → FltR g R H E f) ∧ ∀ cs l', colsAll (q :: r) = .ok (cs, l') → ∀ H' k', Fx R H H' → RdW g H' R T k' { t with cols := cs } → T.drop k' = l' → Q .non H'
abbrev N_Reader_columns : List Str := ["self"]
theorem sc_Reader_columns : FnScope N_Reader_columns ["self"] (defScope s_Reader_columns) := ⟨rfl, rfl, rfl, by decide +kernel, rfl, by decide +kernel, by decide +kernel⟩
set_option maxHeartbeats 8000000 in
theorem ok_Reader_columns {g : Gx} (T : Tx g) : RMt g (CXr g) 5 (g.C "Reader") "columns" (sp_Reader_columns g) := by
  refine mtX (N := N_Reader_columns) (ps := ["self"]) (st := s_Reader_columns) T 45 rfl T.cl_Reader T.m_Reader_columns sc_Reader_columns (fun _ _ _ _ _ _ us hl => match us, hl with | [_], _ => rfl) (fun vs H Q E h => by obtain ⟨R, T', k, t, q, r, rfl, w, hd, hc0, qE, qQ⟩ := h; rfl) (fun f cdv A outer s H vs Q E hr h => ?_)
  obtain ⟨R, T', k, t, q, r, rfl, w, hd, hc0, qE, qQ⟩ := h
  refine ⟨_, (pss_cons (ps_expr (pe_me (ok_Reader_take_word T) hr (by decide) pxR (pv 0) (pa_cons (pe_gc rfl T.g_COLUMNS) pa_nil))) (pss_cons (ps_expr (pe_me0 (ok_Reader_column T) hr (by decide) pxR (pv 0))) (pss_cons (ps_while (passes_of rfl) (pt_val (pe_me (ok_Reader_is_sign T) hr (by decide) pass0 (pv 0) (pa_cons (pe_gc rfl T.g_COMMA) pa_nil))) (pss_cons (ps_expr (pe_me0 (ok_Reader_take T) hr (by decide) pass0 (pv 0))) (pss_one (ps_expr (pe_me0 (ok_Reader_column T) hr (by decide) pxR (pv 0)))))) (pss_one (ps_expr (pe_me (ok_Reader_take_sign T) hr (by decide) pxR (pv 0) (pa_cons (pe_gc rfl T.g_SEMICOLON) pa_nil))))))), ?_⟩

  refine ⟨_, rfl, R.a, _, _, rfl, w.ob, rfl, R, T', k, t, q, r, "columns", rfl, w, hd, by simp, fun hb => ?_, fun hb H1 f1 w1 => ?_⟩
  · exact qE _ (by unfold colsAll; rw [takeWord_of, hb]; rfl)
  · have hall : colsAll (q :: r) = Vamvsa.takeColumns (r.length + 1) [] r := by unfold colsAll; rw [takeWord_of, hb]; rfl
    rw [hall] at qE qQ
    obtain ⟨q2, r2, rfl⟩ := endsLast_cons (by have := w1.el; rw [(drop_succ hd).1] at this; exact this)
    have hd1 := (drop_succ hd).1
    rw [takeColumns_of] at qE qQ
    refine ⟨_, rfl, R.a, _, _, rfl, w1.ob, rfl, R, T', k + 1, t, q2, r2, rfl, w1, hd1, fun hn => ?_, fun b hn => ⟨fun h4 => ?_, fun h4 => ⟨fun h5 => ?_, fun h5 H2 f2 w2 => ?_⟩⟩⟩
    · exact (qE _ (by rw [hn])).fx f1
    · rw [hc0] at h4; exact absurd h4 (by decide)
    · rw [hc0] at h5; cases h5
    · have hd2 := (drop_succ hd1).1
      simp only [hn] at qE qQ
      rw [if_neg (by simp), if_neg (by simp)] at qE qQ
      rw [hc0] at w2
      refine ⟨fun m σ H' => ∃ (k' n : Nat) (cs : List (List UInt8)) (l2 : Toks), m = T'.length - k' ∧ σ = [some (.ref R.a)] ∧ Fx R H H' ∧ RdW g H' R T' k' { t with cols := cs } ∧ T'.drop k' = l2 ∧ l2.length ≤ n ∧ colsR (q2 :: r2).length ([] ++ [b]) r2 = colsR n cs l2,
        ⟨_, k + 1 + 1, _, _, r2, rfl, rfl, f1.trans f2, w2, hd2, by simp, rfl⟩, ?_⟩
      rintro m σ H3 ⟨k', n, cs, l2, rfl, rfl, f3, w3, hd3, hn3, eq3⟩
      rw [eq3] at qE qQ
      obtain ⟨q3, r3, rfl⟩ := endsLast_cons (by have := w3.el; rw [hd3] at this; exact this)
      have dl3 := drop_lt hd3
      refine ⟨_, rfl, R.a, _, _, rfl, w3.ob, rfl, R, T', k', _, q3, r3, 44, rfl, w3, hd3, fun H4 e4 => ⟨_, rfl, ?_⟩⟩
      have w4 := w3.ex e4
      have f4 := f3.trans (Ex.fx e4)
      unfold colsR at qE qQ
      cases hs : VamvsBase.next (.sign 44) (q3 :: r3) with
      | true =>
        rw [if_pos hs] at qE qQ
        refine iteT ⟨fun σ' H' => ∃ (k2 n : Nat) (cs : List (List UInt8)) (l2 : Toks), k' < k2 ∧ σ' = [some (.ref R.a)] ∧ Fx R H H' ∧ RdW g H' R T' k2 { t with cols := cs } ∧ T'.drop k2 = l2 ∧ l2.length ≤ n ∧ colsR (q2 :: r2).length ([] ++ [b]) r2 = colsR n cs l2, ?_, ?_⟩
        · rintro σ' H' ⟨k2, n2, cs2, l22, h1, h2⟩
          exact ⟨T'.length - k2, by omega, k2, n2, cs2, l22, rfl, h2⟩
        · refine ⟨_, rfl, R.a, _, _, rfl, w4.ob, rfl, R, T', k', _, q3, r3, rfl, w4, hd3, fun v hv => ?_⟩
          have w5 := w4.step hd3 (next_sign_nl hs)
          have f5 := f4.trans (Fx.upd (o := RdO g R (k' + 1)))
          have hd5 := (drop_succ hd3).1
          obtain ⟨q4, r4, rfl⟩ := endsLast_cons (by have := w5.el; rw [hd5] at this; exact this)
          obtain ⟨n, rfl⟩ : ∃ z, n = z + 1 := ⟨n - 1, by simp only [List.length_cons] at hn3; omega⟩
          have eq5 : colsR (n + 1) cs (q3 :: q4 :: r4) = Vamvsa.takeColumns (n + 1) cs (q4 :: r4) := by unfold colsR; rw [if_pos hs]; rfl
          rw [eq5, takeColumns_of] at eq3
          rw [show List.drop 1 (q3 :: q4 :: r4) = q4 :: r4 from rfl, takeColumns_of] at qE qQ
          refine ⟨_, rfl, R.a, _, _, rfl, w5.ob, rfl, R, T', k' + 1, _, q4, r4, rfl, w5, hd5, fun hn => ?_, fun b4 hn => ⟨fun h4 => ?_, fun h4 => ⟨fun h5 => ?_, fun h5 H6 f6 w6 => ?_⟩⟩⟩
          · exact (qE _ (by rw [hn])).fx f5
          · exact (qE _ (by rw [hn]; exact if_pos h4)).fx f5
          · exact (qE _ (by rw [hn]; dsimp only; rw [if_neg h4, if_pos h5])).fx f5
          · simp only [hn] at eq3
            rw [if_neg h4, if_neg (by rw [h5]; decide)] at eq3
            exact ⟨k' + 1 + 1, n, _, r4, by omega, rfl, f5.trans f6, w6, (drop_succ hd5).1, by simp only [List.length_cons] at hn3; omega, eq3⟩
      | false =>
        rw [if_neg (by rw [hs]; decide), takeSign_of] at qE qQ
        refine iteF ⟨_, rfl, R.a, _, _, rfl, w4.ob, rfl, R, T', k', _, q3, r3, 59, rfl, w4, hd3, fun hb => ?_, fun hb H5 f5 w5 => ?_⟩
        · rw [if_neg (by rw [hb]; decide)] at qE
          exact (qE _ rfl).fx f4
        · rw [if_pos hb] at qQ
          exact qQ _ _ rfl H5 (k' + 1) (f4.trans f5) w5 (drop_succ hd3).1
def sp_Table_init (g : Gx) : Sp := fun vs H Q _ => ∃ a dx, vs = [.ref a] ∧ H a = some (.ins (g.C "Table") dx []) ∧ ∀ p1, H p1 = none → ∀ p2, H p2 = none → p2 ≠ p1 → ∀ p3, H p3 = none → p3 ≠ p1 → p3 ≠ p2 → ∀ H', Ex (upd H a (.ins (g.C "Table") dx [("names", .ref p1), ("rows", .ref p2), ("questions", .ref p3)])) H' → H' p1 = some (.lst []) → H' p2 = some (.lst []) → H' p3 = some (.lst []) → Q .non H'
abbrev N_Table_init : List Str := ["self"]
theorem sc_Table_init : FnScope N_Table_init ["self"] (defScope s_Table_init) := ⟨rfl, rfl, rfl, by decide +kernel, rfl, by decide +kernel, by decide +kernel⟩
set_option maxHeartbeats 8000000 in
theorem ok_Table_init {g : Gx} (T : Tx g) : RMk g CX0 1 "Table" (g.C "Table") (sp_Table_init g) := by
  refine mk0 (N := N_Table_init) (ps := ["self"]) (st := s_Table_init) T 24 rfl T.mk_Table T.c_Table sc_Table_init (fun _ _ _ _ _ _ us hl => match us, hl with | [_], _ => rfl) (fun vs H Q E h => by obtain ⟨a, dx, rfl, ha, q⟩ := h; rfl) (fun f cdv A outer s H vs Q E hr h => ?_)
  obtain ⟨a, dx, rfl, ha, q⟩ := h
  refine ⟨_, (pss_cons (ps_fld (pv 0) (pe_lst pa_nil) rfl) (pss_cons (ps_fld (pv 0) (pe_lst pa_nil) rfl) (pss_one (ps_fld (pv 0) (pe_lst pa_nil) rfl)))), ?_⟩

  refine ⟨by decide, fun p1 h1 => ⟨_, rfl, a, _, dx, [], rfl, ?_, T.cl_Table, T.na_Table_names, by show 0 < 1000; omega, ?_⟩⟩
  · rw [upd_ne (ne_of_none ha h1)]; exact ha
  have na1 : a ≠ p1 := ne_of_none ha h1
  refine ⟨by decide, fun p2 h2 => ⟨_, rfl, a, _, dx, [("names", .ref p1)], rfl, ?_, T.cl_Table, T.na_Table_rows, by show 1 < 1000; omega, ?_⟩⟩
  · rw [upd_ne (ne_of_none upd_same h2), upd_same]; rfl
  have na2 : a ≠ p2 := ne_of_none upd_same h2
  have n21 : p2 ≠ p1 := fun z => by rw [z, upd_ne (Ne.symm na1), upd_same] at h2; cases h2
  have h2' : H p2 = none := by rw [upd_ne (Ne.symm na2), upd_ne n21] at h2; exact h2
  refine ⟨by decide, fun p3 h3 => ⟨_, rfl, a, _, dx, [("names", .ref p1), ("rows", .ref p2)], rfl, ?_, T.cl_Table, T.na_Table_questions, by show 2 < 1000; omega, ?_⟩⟩
  · rw [upd_ne (ne_of_none upd_same h3), upd_same]; rfl
  have na3 : a ≠ p3 := ne_of_none upd_same h3
  have n32 : p3 ≠ p2 := fun z => by rw [z, upd_ne (Ne.symm na2), upd_same] at h3; cases h3
  have n31 : p3 ≠ p1 := fun z => by rw [z, upd_ne (Ne.symm na1), upd_ne (Ne.symm n21), upd_ne (Ne.symm na1), upd_same] at h3; cases h3
  have h3' : H p3 = none := by rw [upd_ne (Ne.symm na3), upd_ne n32, upd_ne (Ne.symm na3), upd_ne n31] at h3; exact h3
  refine q p1 h1 p2 h2' n21 p3 h3' n31 n32 _ (fun b o hb => ?_) ?_ ?_ ?_
  · by_cases e : b = a
    · subst e
      rw [upd_same] at hb ⊢
      rw [← hb]
      rfl
    · rw [upd_ne e] at hb
      rw [upd_ne e, upd_ne (ne_of_none hb h3'), upd_ne e, upd_ne (ne_of_none hb h2'), upd_ne e, upd_ne (ne_of_none hb h1)]
      exact hb
  · rw [upd_ne (Ne.symm na1), upd_ne (Ne.symm n31), upd_ne (Ne.symm na1), upd_ne (Ne.symm n21), upd_ne (Ne.symm na1), upd_same]
  · rw [upd_ne (Ne.symm na2), upd_ne (Ne.symm n32), upd_ne (Ne.symm na2), upd_same]
  · rw [upd_ne (Ne.symm na3), upd_same]
end Sr
set_option Elab.async false
set_option linter.all false
set_option maxRecDepth 100000
set_option maxHeartbeats 4000000
/-! # The reader: a row -/
namespace Sr
open PySem PySem.Spec PyProof.Rows L2
open Evl (Ex)
open VamvsBase (Toks PTok Tok Fault)
theorem takeNat_of (most : Nat) (q : PTok) (r : Toks) : Vamvsa.takeNat most (q :: r) = match numOf q with
    | none => .error ⟨3, q.place⟩
    | some n => if most < n then .error ⟨7, q.place⟩ else .ok (n, r) := by
  obtain ⟨p, t⟩ := q
  cases t <;> rfl
def rowR3 (vs : List Nat) (m : Int) (l : Toks) : Except Fault (Vamvsa.Row × Toks) := (VamvsBase.takeSign 59 l).map fun y => (⟨vs, m⟩, y)
def rowR2 (vs : List Nat) (l : Toks) : Except Fault (Vamvsa.Row × Toks) := (Vamvsa.takeInt l).bind fun x => rowR3 vs x.1 x.2
def rowR1 (n : Nat) (vs : List Nat) (l : Toks) : Except Fault (Vamvsa.Row × Toks) := (Vamvsa.takeValues n vs l).bind fun v => (VamvsBase.takeSign 58 v.2).bind fun r => rowR2 v.1 r
theorem rowR3_of (vs : List Nat) (m : Int) (q : PTok) (r : Toks) : rowR3 vs m (q :: r) = if VamvsBase.next (.sign 59) (q :: r) = true then .ok (⟨vs, m⟩, r) else .error ⟨3, q.place⟩ := by
  unfold rowR3
  rw [takeSign_of]
  split <;> rfl
theorem rowR2_neg (vs : List Nat) (q q2 : PTok) (r : Toks) (h : VamvsBase.next (.sign 45) (q :: q2 :: r) = true) : rowR2 vs (q :: q2 :: r) = match numOf q2 with
    | none => .error ⟨3, q2.place⟩
    | some n => if 1000 < n then .error ⟨7, q2.place⟩ else rowR3 vs (-(n : Int)) r := by
  unfold rowR2 Vamvsa.takeInt
  simp only [h, if_true, List.drop_succ_cons, List.drop_zero]
  rw [takeNat_of]
  cases numOf q2 with
  | none => rfl
  | some n =>
    dsimp only
    by_cases c : 1000 < n
    · rw [if_pos c, if_pos (show Vamvsa.SIZE < n from c)]; rfl
    · rw [if_neg c, if_neg (show ¬ Vamvsa.SIZE < n from c)]; rfl
theorem rowR2_pos (vs : List Nat) (q : PTok) (r : Toks) (h : VamvsBase.next (.sign 45) (q :: r) = false) : rowR2 vs (q :: r) = match numOf q with
    | none => .error ⟨3, q.place⟩
    | some n => if 1000 < n then .error ⟨7, q.place⟩ else rowR3 vs (n : Int) r := by
  unfold rowR2 Vamvsa.takeInt
  simp only [h, Bool.false_eq_true, if_false]
  rw [takeNat_of]
  cases numOf q with
  | none => rfl
  | some n =>
    dsimp only
    by_cases c : 1000 < n
    · rw [if_pos c, if_pos (show Vamvsa.SIZE < n from c)]; rfl
    · rw [if_neg c, if_neg (show ¬ Vamvsa.SIZE < n from c)]; rfl
theorem rowR1_zero (vs : List Nat) (q : PTok) (r : Toks) : rowR1 0 vs (q :: r) = if VamvsBase.next (.sign 58) (q :: r) = true then rowR2 vs r else .error ⟨3, q.place⟩ := by
  show (VamvsBase.takeSign 58 (q :: r)).bind _ = _
  rw [takeSign_of]
  split <;> rfl
theorem rowR1_first (n : Nat) (q : PTok) (r : Toks) : rowR1 (n + 1) [] (q :: r) = match numOf q with
    | none => .error ⟨3, q.place⟩
    | some m => if 9 < m then .error ⟨7, q.place⟩ else rowR1 n [m] r := by
  show ((Vamvsa.takeNat 9 (q :: r)).bind fun x => Vamvsa.takeValues n ([] ++ [x.1]) x.2).bind _ = _
  rw [takeNat_of]
  cases numOf q with
  | none => rfl
  | some m =>
    dsimp only
    split <;> rfl
theorem rowR1_sign (n : Nat) (vs : List Nat) (q : PTok) (r : Toks) (hv : vs ≠ []) (h : VamvsBase.next (.sign 44) (q :: r) = false) : rowR1 (n + 1) vs (q :: r) = .error ⟨3, q.place⟩ := by
  have e : vs.isEmpty = false := by cases vs with | nil => exact absurd rfl hv | cons _ _ => rfl
  show (((if vs.isEmpty = true then Except.ok (q :: r) else VamvsBase.takeSign 44 (q :: r)).bind _).bind _) = _
  rw [e, takeSign_of, if_neg (by decide), if_neg (by rw [h]; decide)]
  rfl
theorem rowR1_more (n : Nat) (vs : List Nat) (q q2 : PTok) (r : Toks) (hv : vs ≠ []) (h : VamvsBase.next (.sign 44) (q :: q2 :: r) = true) : rowR1 (n + 1) vs (q :: q2 :: r) = match numOf q2 with
    | none => .error ⟨3, q2.place⟩
    | some m => if 9 < m then .error ⟨7, q2.place⟩ else rowR1 n (vs ++ [m]) r := by
  have e : vs.isEmpty = false := by cases vs with | nil => exact absurd rfl hv | cons _ _ => rfl
  show (((if vs.isEmpty = true then Except.ok (q :: q2 :: r) else VamvsBase.takeSign 44 (q :: q2 :: r)).bind fun r => (Vamvsa.takeNat 9 r).bind fun x => Vamvsa.takeValues n (vs ++ [x.1]) x.2).bind _) = _
  rw [e, takeSign_of, if_neg (by decide), if_pos h]
  show ((Vamvsa.takeNat 9 (q2 :: r)).bind fun x => Vamvsa.takeValues n (vs ++ [x.1]) x.2).bind _ = _
  rw [takeNat_of]
  cases numOf q2 with
  | none => rfl
  | some m =>
    dsimp only
    split <;> rfl
theorem RdW.fresh {g : Gx} {H : Hp} {R : RdA} {T : Toks} {k : Nat} {t : Vamvsa.Table} {p : Addr} (w : RdW g H R T k t) (hp : H p = none) : p ≠ R.a ∧ p ≠ R.lt ∧ p ≠ R.tb ∧ p ≠ R.ln ∧ p ≠ R.lr ∧ p ≠ R.lq := by
  obtain ⟨ob, ⟨xs, h1, _⟩, ⟨to, ⟨ns, n1, _⟩, ⟨rs, r1, _⟩, ⟨qs, q1, _⟩⟩, _, _, _⟩ := w
  have ne : ∀ {b : Addr} {o : HO}, H b = some o → p ≠ b := fun h z => by rw [z, h] at hp; cases hp
  exact ⟨ne ob, ne h1, ne to, ne n1, ne r1, ne q1⟩
theorem RdW.other {g : Gx} {H : Hp} {R : RdA} {T : Toks} {k : Nat} {t : Vamvsa.Table} {p : Addr} {xs ys : List V} (w : RdW g H R T k t) (hp : H p = some (.lst xs)) (d : p ≠ R.a ∧ p ≠ R.lt ∧ p ≠ R.tb ∧ p ≠ R.ln ∧ p ≠ R.lr ∧ p ≠ R.lq) : RdW g (upd H p (.lst ys)) R T k t := by
  have kt : Kt H (upd H p (.lst ys)) := Kt.upd fun xs z => by rw [hp] at z; cases z
  obtain ⟨ob, ⟨xs, h1, h2⟩, ⟨to, ⟨ns, n1, n2⟩, ⟨rs, r1, r2⟩, ⟨qs, q1, q2⟩⟩, nd, el, sm⟩ := w
  obtain ⟨d1, d2, d3, d4, d5, d6⟩ := d
  exact ⟨by rw [upd_ne (Ne.symm d1)]; exact ob, ⟨xs, by rw [upd_ne (Ne.symm d2)]; exact h1, paired_keep (fun _ _ => TokAt.keep kt) h2⟩, ⟨by rw [upd_ne (Ne.symm d3)]; exact to, ⟨ns, by rw [upd_ne (Ne.symm d4)]; exact n1, paired_keep (fun _ _ => BtAt.keep kt) n2⟩,
    ⟨rs, by rw [upd_ne (Ne.symm d5)]; exact r1, paired_keep (fun _ _ => RowAt.keep kt) r2⟩, ⟨qs, by rw [upd_ne (Ne.symm d6)]; exact q1, paired_keep (fun _ _ => AskAt.keep kt) q2⟩⟩, nd, el, sm⟩
theorem Fx.mut {R : RdA} {H H' : Hp} {p : Addr} {o : HO} (f : Fx R H H') (hp : H p = none) : Fx R H (L2.upd H' p o) := fun b u h h1 h2 h3 h4 => by
  rw [upd_ne (fun z => by rw [z, hp] at h; cases h)]
  exact f b u h h1 h2 h3 h4
def sp_Reader_row (g : Gx) : Sp := fun vs H Q E => ∃ (R : RdA) (T : Toks) (k : Nat) (t : Vamvsa.Table) (q : PTok) (r : Toks), vs = [.ref R.a] ∧ RdW g H R T k t ∧ T.drop k = q :: r ∧ q.tok ≠ .last ∧ 1 ≤ t.cols.length ∧ t.cols.length ≤ 4 ∧ (16 ≤ t.rows.length → FltR g R H E ⟨4, q.place⟩) ∧ (¬ 16 ≤ t.rows.length → (∀ f, rowR1 t.cols.length [] r = .error f → FltR g R H E f) ∧ ∀ row l', rowR1 t.cols.length [] r = .ok (row, l') → ∀ H' k', Fx R H H' → k < k' → RdW g H' R T k' { t with rows := t.rows ++ [row] } → T.drop k' = l' → Q .non H')
abbrev N_Reader_row : List Str := ["self", "numbers", "k", "sign", "summed"]
theorem sc_Reader_row : FnScope N_Reader_row ["self"] (defScope s_Reader_row) := ⟨rfl, rfl, rfl, by decide +kernel, rfl, by decide +kernel, by decide +kernel⟩
set_option maxHeartbeats 8000000 in
theorem ok_Reader_row {g : Gx} (T : Tx g) : RMt g (CXr g) 5 (g.C "Reader") "row" (sp_Reader_row g) := by
  refine mtX (N := N_Reader_row) (ps := ["self"]) (st := s_Reader_row) T 46 rfl T.cl_Reader T.m_Reader_row sc_Reader_row (fun _ _ _ _ _ _ us hl => match us, hl with | [_], _ => rfl) (fun vs H Q E h => by obtain ⟨R, T', k, t, q, r, rfl, w, hd, hql, hc1, hc4, q16, qrow⟩ := h; rfl) (fun f cdv A outer s H vs Q E hr h => ?_)
  obtain ⟨R, T', k, t, q, r, rfl, w, hd, hql, hc1, hc4, q16, qrow⟩ := h
  refine ⟨_, (pss_cons (ps_expr (pe_me (ok_Reader_need T) hr (by decide) pxR (pv 0) (pa_cons (pe_cmpR op_lt (pe_callB call_len_seq rfl T.f_len PySem.boot_len (pa_cons (pe_fld (pe_fld (pv 0) rfl) rfl) pa_nil)) (pe_gc rfl T.g_MOST_ROWS) (nomark _)) (pa_cons (pe_gc rfl T.g_TOO_MANY_reading) pa_nil)))) (pss_cons (ps_expr (pe_me0 (ok_Reader_take T) hr (by decide) pass0 (pv 0))) (pss_cons (ps_set (i := 1) sc_Reader_row.nd rfl (Or.inl rfl) (pe_lst (pa_cons (pe_me (ok_Reader_number T) hr (by decide) pxR (pv 0) (pa_cons pe_int (pa_cons (pe_gc rfl T.g_MOST_VALUE) pa_nil))) pa_nil))) (pss_cons (ps_for (passes_of rfl) rfl (pi_range2 rfl T.f_range (pa_cons pe_int (pa_cons (pe_callB call_len_seq rfl T.f_len PySem.boot_len (pa_cons (pe_fld (pe_fld (pv 0) rfl) rfl) pa_nil)) pa_nil))) (pg_name (i := 2) sc_Reader_row.nd rfl (Or.inl rfl)) (pss_cons (ps_expr (pe_me (ok_Reader_take_sign T) hr (by decide) pxR (pv 0) (pa_cons (pe_gc rfl T.g_COMMA) pa_nil))) (pss_one (ps_expr (pe_bm PySem.F.plainAttrs_list PySem.F.slot_list_append PySem.F.type_list_append mt_append (pv 1) (pa_cons (pe_me (ok_Reader_number T) hr (by decide) pxR (pv 0) (pa_cons pe_int (pa_cons (pe_gc rfl T.g_MOST_VALUE) pa_nil))) pa_nil)))))) (pss_cons (ps_expr (pe_me (ok_Reader_take_sign T) hr (by decide) pxR (pv 0) (pa_cons (pe_gc rfl T.g_COLON) pa_nil))) (pss_cons (ps_set (i := 3) sc_Reader_row.nd rfl (Or.inl rfl) pe_int) (pss_cons (ps_if (pt_val (pe_me (ok_Reader_is_sign T) hr (by decide) pass0 (pv 0) (pa_cons (pe_gc rfl T.g_MINUS) pa_nil))) (pss_cons (ps_expr (pe_me0 (ok_Reader_take T) hr (by decide) pass0 (pv 0))) (pss_one (ps_set (i := 3) sc_Reader_row.nd rfl (Or.inl rfl) (pe_un un_neg pe_int)))) pss_nil) (pss_cons (ps_set (i := 4) sc_Reader_row.nd rfl (Or.inl rfl) (pe_op op_mulW (pv 3) (pe_me (ok_Reader_number T) hr (by decide) pxR (pv 0) (pa_cons pe_int (pa_cons (pe_gc rfl T.g_MOST_SUMMED) pa_nil))))) (pss_cons (ps_expr (pe_me (ok_Reader_take_sign T) hr (by decide) pxR (pv 0) (pa_cons (pe_gc rfl T.g_SEMICOLON) pa_nil))) (pss_one (ps_expr (pe_bm PySem.F.plainAttrs_list PySem.F.slot_list_append PySem.F.type_list_append mt_append (pe_fld (pe_fld (pv 0) rfl) rfl) (pa_cons (pe_tup (pa_cons (pe_callTy call_tuple_of rfl T.f_tuple (by decide +kernel) (pa_cons (pv 1) pa_nil)) (pa_cons (pv 4) pa_nil))) pa_nil))))))))))))), ?_⟩

  obtain ⟨rs, hr1, hr2⟩ := w.tb.hr
  have lr := Paired.length hr2
  refine ⟨_, rfl, R.a, _, _, rfl, w.ob, rfl, _, rfl, R.a, _, _, _, _, rfl, w.ob, T.cl_Reader, T.na_Reader_table, rfl, R.tb, _, _, _, _, rfl, w.tb.ob, T.cl_Table, T.na_Table_rows, rfl, R.lr, rs, rfl, .inl (.inl (.inl hr1)), _, _, rfl, rfl, R, T', k, t, q, r, _, 4, rfl, w, hd, fun hc => ?_, fun hc => ?_⟩
  rotate_left
  · exact (q16 (by have := of_decide_eq_false hc; omega)).x (Ex.fx (Ex.refl H))
  have h16 : ¬ 16 ≤ t.rows.length := by have := of_decide_eq_true hc; omega
  obtain ⟨qE, qQ⟩ := qrow h16
  refine ⟨_, rfl, R.a, _, _, rfl, w.ob, rfl, R, T', k, t, q, r, rfl, w, hd, fun v _ => ?_⟩
  have w1 := w.step hd hql
  have f1 : Fx R H (upd H R.a (RdO g R (k + 1))) := Fx.upd
  have hd1 := (drop_succ hd).1
  obtain ⟨q1, r1, rfl⟩ := endsLast_cons (by have := w1.el; rw [hd1] at this; exact this)
  obtain ⟨cn, hcn⟩ : ∃ z, t.cols.length = z + 1 := ⟨t.cols.length - 1, by omega⟩
  rw [hcn, rowR1_first] at qE qQ
  refine ⟨_, rfl, R.a, _, _, rfl, w1.ob, rfl, R, T', k + 1, t, q1, r1, 0, 9, rfl, w1, hd1, fun hn => (qE _ (by rw [hn])).fx f1, fun n hn => ⟨fun hle => (qE _ (by rw [hn]; exact if_pos (by omega))).fx f1, fun hle w2 => ⟨s1, fun pn hpn => ?_⟩⟩⟩
  simp only [hn] at qE qQ
  rw [if_neg (by omega)] at qE qQ
  have f2 := f1.trans (Fx.upd (o := RdO g R (k + 1 + 1)))
  have w2' : RdW g (upd (upd H R.a (RdO g R (k + 1))) R.a (RdO g R (k + 1 + 1))) R T' (k + 1 + 1) t := w2
  have hpn' : (upd (upd H R.a (RdO g R (k + 1))) R.a (RdO g R (k + 1 + 1))) pn = none := hpn
  clear w2 hpn
  have w2 := w2'
  have hpn := hpn'
  clear w2' hpn'
  change tSeq _ _ _ _ (upd (upd (upd H R.a (RdO g R (k + 1))) R.a (RdO g R (k + 1 + 1))) pn (HO.lst [nV n]))
  generalize (upd (upd H R.a (RdO g R (k + 1))) R.a (RdO g R (k + 1 + 1))) = H2 at w2 f2 hpn ⊢
  have dpn := w2.fresh hpn
  have hpn0 : H pn = none := by
    cases e : H pn with
    | none => rfl
    | some o =>
      have := f2 pn o e dpn.1 dpn.2.2.2.1 dpn.2.2.2.2.1 dpn.2.2.2.2.2
      rw [hpn] at this; cases this
  have w3 := w2.ex (Ex.new (o := HO.lst [nV n]) hpn)
  have f3 := f2.trans (Ex.fx (R := R) (Ex.new (o := HO.lst [nV n]) hpn))
  have h3 : (upd H2 pn (HO.lst [nV n])) pn = some (.lst ([n].map nV)) := upd_same
  have hd3 := (drop_succ hd1).1
  generalize (upd H2 pn (HO.lst [nV n])) = H3 at w3 f3 h3 ⊢
  obtain ⟨ns, hn1, hn2⟩ := w3.tb.hn
  have ln := Paired.length hn2
  refine ⟨_, rfl, R.a, _, _, _, _, rfl, w3.ob, T.cl_Reader, T.na_Reader_table, rfl, R.tb, _, _, _, _, rfl, w3.tb.ob, T.cl_Table, T.na_Table_names, rfl, R.ln, ns, rfl, .inl (.inl (.inl hn1)), 1, (ns.length : Int), rfl, ⟨by omega, by omega, by omega, by omega⟩, ?_⟩
  have en : ((ns.length : Int) - 1).toNat = cn := by omega
  rw [en]
  refine for_range (lo := 1) (n := cn) (fun i σ H' => ∃ (k' : Nat) (vs : List Nat) (l2 : Toks) (z : Option V), σ = [some (.ref R.a), some (.ref pn), z, none, none] ∧ Fx R H H' ∧ k < k' ∧ RdW g H' R T' k' t ∧ T'.drop k' = l2 ∧ H' pn = some (.lst (vs.map nV)) ∧ vs.length = i + 1 ∧ rowR1 cn [n] r1 = rowR1 (cn - i) vs l2)
    ⟨k + 1 + 1, [n], r1, none, rfl, f3, by omega, w3, hd3, h3, rfl, rfl⟩ (fun i σ H4 hi hP => ?_) (fun σ H4 hP => ?_)
  · obtain ⟨k4, vs, l2, z, rfl, f4, hk4, w4, hd4, h4, hvl, eq4⟩ := hP
    obtain ⟨q4, r4, rfl⟩ := endsLast_cons (by have := w4.el; rw [hd4] at this; exact this)
    have hvne : vs ≠ [] := fun z => by rw [z] at hvl; cases hvl
    obtain ⟨m, hm⟩ : ∃ m, cn - i = m + 1 := ⟨cn - i - 1, by omega⟩
    rw [hm] at eq4
    refine ⟨_, rfl, R.a, _, _, rfl, w4.ob, rfl, R, T', k4, t, q4, r4, 44, rfl, w4, hd4, fun hb => ?_, fun hb H5 f5 w5 => ?_⟩
    · exact (qE _ (by rw [eq4, rowR1_sign _ _ _ _ hvne hb])).fx f4
    · have hd5 := (drop_succ hd4).1
      obtain ⟨q5, r5, rfl⟩ := endsLast_cons (by have := w5.el; rw [hd5] at this; exact this)
      rw [rowR1_more _ _ _ _ _ hvne hb] at eq4
      have f45 := f4.trans f5
      have h5 := f5 _ _ h4 dpn.1 dpn.2.2.2.1 dpn.2.2.2.2.1 dpn.2.2.2.2.2
      refine ⟨_, rfl, .inl ⟨rfl, _, .inl (.inl h5)⟩, _, rfl, R.a, _, _, rfl, w5.ob, rfl, R, T', k4 + 1, t, q5, r5, 0, 9, rfl, w5, hd5, fun hn => (qE _ (by rw [eq4, hn])).fx f45, fun m5 hn => ⟨fun hle => (qE _ (by rw [eq4, hn]; exact if_pos (by omega))).fx f45, fun hle w6 => ?_⟩⟩
      have h6 : (upd H5 R.a (RdO g R (k4 + 1 + 1))) pn = some (.lst (vs.map nV)) := by rw [upd_ne dpn.1]; exact h5
      refine ⟨pn, vs.map nV, nV m5, rfl, rfl, h6, by rw [List.length_map]; have := sizeLine_eq; omega, ?_⟩
      simp only [hn] at eq4
      rw [if_neg (by omega)] at eq4
      refine ⟨k4 + 1 + 1, vs ++ [m5], r5, _, rfl, (f45.trans Fx.upd).mut hpn0, by omega, w6.other h6 dpn, (drop_succ hd5).1, ?_, by rw [List.length_append, hvl, List.length_singleton], ?_⟩
      · rw [upd_same, List.map_append]; rfl
      · rw [eq4, show cn - (i + 1) = m by omega]
  · obtain ⟨k4, vs, l2, z, rfl, f4, hk4, w4, hd4, h4, hvl, eq4⟩ := hP
    obtain ⟨q4, r4, rfl⟩ := endsLast_cons (by have := w4.el; rw [hd4] at this; exact this)
    rw [show cn - cn = 0 by omega, rowR1_zero] at eq4
    refine ⟨_, rfl, R.a, _, _, rfl, w4.ob, rfl, R, T', k4, t, q4, r4, 58, rfl, w4, hd4, fun hb => ?_, fun hb H5 f5 w5 => ?_⟩
    · exact (qE _ (by rw [eq4, if_neg (by rw [hb]; decide)])).fx f4
    · rw [if_pos hb] at eq4
      have hd5 := (drop_succ hd4).1
      obtain ⟨q5, r5, rfl⟩ := endsLast_cons (by have := w5.el; rw [hd5] at this; exact this)
      have f45 := f4.trans f5
      have h5 := f5 _ _ h4 dpn.1 dpn.2.2.2.1 dpn.2.2.2.2.1 dpn.2.2.2.2.2
      refine ⟨_, rfl, R.a, _, _, rfl, w5.ob, rfl, R, T', k4 + 1, t, q5, r5, 45, rfl, w5, hd5, fun H6 e6 => ⟨_, rfl, ?_⟩⟩
      have w6 := w5.ex e6
      have f6 := f45.trans (Ex.fx e6)
      have h6 := e6 _ _ h5
      -- behind the sign and the number
      have tail : ∀ (k7 : Nat) (H7 : Hp) (sg : Int) (m : Int) (r7 : Toks) (n7 : Nat), sg = 1 ∨ sg = -1 → m = sg * (n7 : Int) → n7 ≤ 1000 → Fx R H H7 → k < k7 → RdW g H7 R T' k7 t → T'.drop k7 = r7 → H7 pn = some (.lst (vs.map nV)) → rowR1 cn [n] r1 = rowR3 vs m r7 →
          tSeq (tDrop (tMeth (g.C "Reader") "take_sign" (sp_Reader_take_sign g) [] E (tVar 0) (tCons (tC (nV 59)) tNil))) (tDrop (tBM g.K "list" rAppend (tFld g.K (tFld g.K (tVar 0) "table") "rows") (tCons (tTup (tCons (tCB (fun xs H Q => ∃ p ys, xs = [V.ref p] ∧ ((SqL g.K H p ys ∧ ∀ (l : Addr), H l = none → Q (V.ref l) (upd H l (HO.tup ys))) ∨ (SqT g.K H p ys ∧ Q (V.ref p) H))) (tCons (tVar 1) tNil)) (tCons (tVar 4) tNil))) tNil)))
            { nx := fun _ H' => Q .non H', rt := Q } [some (.ref R.a), some (.ref pn), z, some (.int sg), some (.int (sg * (n7 : Int)))] H7 := fun k7 H7 sg m r7 n7 hsg hm hn7 f7 hk7 w7 hd7 h7 eq7 => by
        obtain ⟨q7, r8, rfl⟩ := endsLast_cons (by have := w7.el; rw [hd7] at this; exact this)
        rw [rowR3_of] at eq7
        refine ⟨_, rfl, R.a, _, _, rfl, w7.ob, rfl, R, T', k7, t, q7, r8, 59, rfl, w7, hd7, fun hb => ?_, fun hb H8 f8 w8 => ?_⟩
        · exact (qE _ (by rw [eq7, if_neg (by rw [hb]; decide)])).fx f7
        · rw [if_pos hb] at eq7
          have h8 := f8 _ _ h7 dpn.1 dpn.2.2.2.1 dpn.2.2.2.2.1 dpn.2.2.2.2.2
          obtain ⟨rs8, hr8, hp8⟩ := w8.tb.hr
          refine ⟨_, rfl, R.a, _, _, _, _, rfl, w8.ob, T.cl_Reader, T.na_Reader_table, rfl, R.tb, _, _, _, _, rfl, w8.tb.ob, T.cl_Table, T.na_Table_rows, rfl, .inl ⟨rfl, rs8, .inl (.inl hr8)⟩, _, rfl, pn, _, rfl, .inl ⟨.inl (.inl h8), fun p9 hp9 => ⟨_, rfl, s2, fun p10 hp10 => ?_⟩⟩⟩
          have e9 := Ex.new (o := HO.tup (vs.map nV)) hp9
          have e10 := Ex.new (o := HO.tup [.ref p9, .int (sg * (n7 : Int))]) hp10
          have h9 := e10 _ _ (upd_same (H := H8) (a := p9) (o := HO.tup (vs.map nV)))
          have h10 : (upd (upd H8 p9 (HO.tup (vs.map nV))) p10 (HO.tup [.ref p9, .int (sg * (n7 : Int))])) p10 = some (.tup [.ref p9, .int (sg * (n7 : Int))]) := upd_same
          have e := e9.trans e10
          have w10 := w8.ex e
          have hr10 := e _ _ hr8
          refine ⟨R.lr, rs8, .ref p10, rfl, rfl, hr10, ?_, ?_⟩
          · have := Paired.length hp8; have := sizeLine_eq; omega
          · refine qQ _ _ eq7 _ (k7 + 1) ((f7.trans f8).trans ((Ex.fx e).trans Fx.updR)) (by omega) (w10.addRow hr10 ⟨p10, p9, rfl, ?_, h9⟩) (drop_succ hd7).1
            rw [h10, hm]
      cases hs : VamvsBase.next (.sign 45) (q5 :: r5) with
      | true =>
        have hnl := next_sign_nl hs
        refine iteT ⟨_, rfl, R.a, _, _, rfl, w6.ob, rfl, R, T', k4 + 1, t, q5, r5, rfl, w6, hd5, fun v _ => ?_⟩
        have w7 := w6.step hd5 hnl
        have f7 := f6.trans (Fx.upd (o := RdO g R (k4 + 1 + 1)))
        have hd7 := (drop_succ hd5).1
        have h7 : (upd H6 R.a (RdO g R (k4 + 1 + 1))) pn = some (.lst (vs.map nV)) := by rw [upd_ne dpn.1]; exact h6
        obtain ⟨q7, r7, rfl⟩ := endsLast_cons (by have := w7.el; rw [hd7] at this; exact this)
        rw [rowR2_neg _ _ _ _ hs] at eq4
        refine ⟨1, rfl, _, rfl, _, rfl, R.a, _, _, rfl, w7.ob, rfl, R, T', k4 + 1 + 1, t, q7, r7, 0, 1000, rfl, w7, hd7, fun hn => (qE _ (by rw [eq4, hn])).fx f7, fun m7 hn => ⟨fun hle => (qE _ (by rw [eq4, hn]; exact if_pos (by omega))).fx f7, fun hle w8 => ?_⟩⟩
        simp only [hn] at eq4
        rw [if_neg (by omega)] at eq4
        refine ⟨-1, (m7 : Int), rfl, rfl, wide_mul (a := 2) (b := 11) (by decide) (by rw [Int.natAbs_natCast]; omega) (by decide) (by decide) (by decide), ?_⟩
        exact tail (k4 + 1 + 1 + 1) _ (-1) (-(m7 : Int)) r7 m7 (.inr rfl) (by omega) hle.2 (f7.trans Fx.upd) (by omega) w8 (drop_succ hd7).1 (by rw [upd_ne dpn.1]; exact h7) eq4
      | false =>
        rw [rowR2_pos _ _ _ hs] at eq4
        refine iteF ⟨_, rfl, _, rfl, R.a, _, _, rfl, w6.ob, rfl, R, T', k4 + 1, t, q5, r5, 0, 1000, rfl, w6, hd5, fun hn => (qE _ (by rw [eq4, hn])).fx f6, fun m7 hn => ⟨fun hle => (qE _ (by rw [eq4, hn]; exact if_pos (by omega))).fx f6, fun hle w8 => ?_⟩⟩
        simp only [hn] at eq4
        rw [if_neg (by omega)] at eq4
        refine ⟨1, (m7 : Int), rfl, rfl, wide_mul (a := 2) (b := 11) (by decide) (by rw [Int.natAbs_natCast]; omega) (by decide) (by decide) (by decide), ?_⟩
        exact tail (k4 + 1 + 1) _ 1 (m7 : Int) r5 m7 (.inl rfl) (by omega) hle.2 (f6.trans Fx.upd) (by omega) w8 (drop_succ hd5).1 (by rw [upd_ne dpn.1]; exact h6) eq4
end Sr
set_option Elab.async false
set_option linter.all false
set_option maxRecDepth 100000
set_option maxHeartbeats 4000000
/-! # The reader: a question's columns -/
namespace Sr
open PySem PySem.Spec PyProof.Rows L2
open Evl (Ex)
open VamvsBase (Toks PTok Tok Fault)
theorem bits_and : ∀ gr : Nat, gr < 16 → ∀ i : Nat, i < 4 → decide (V.int (Builtin.bitAnd (gr : Int) ((1 : Int) * 2 ^ ((i : Nat) : Int).toNat)) = V.int 0) = !decide (gr / 2 ^ i % 2 = 1) := by decide +kernel
theorem bits_or : ∀ gr : Nat, gr < 16 → ∀ i : Nat, i < 4 → ¬ gr / 2 ^ i % 2 = 1 → Builtin.bitOr (gr : Int) ((1 : Int) * 2 ^ ((i : Nat) : Int).toNat) = ((gr + 2 ^ i : Nat) : Int) := by decide +kernel
theorem bits_and0 : ∀ gr : Nat, gr < 16 → decide (V.int (Builtin.bitAnd (gr : Int) 0) = V.int 0) = true := by decide +kernel
theorem bits_ne : ∀ i : Nat, i < 4 → (!decide (V.int ((1 : Int) * 2 ^ ((i : Nat) : Int).toNat) = V.int 0)) = true := by decide +kernel
theorem bits_lt : ∀ gr : Nat, gr < 16 → ∀ i : Nat, i < 4 → ¬ gr / 2 ^ i % 2 = 1 → gr + 2 ^ i < 16 := by decide +kernel
theorem find_of {cs : List (List UInt8)} {b : List UInt8} {i : Nat} (h : (cs.findIdx? fun c => c == b) = some i) : cs[i]? = some b ∧ ∀ m : Nat, m < i → ∀ c, cs[m]? = some c → (c == b) = false := by
  obtain ⟨h1, h2, h3⟩ := List.findIdx?_eq_some_iff_getElem.mp h
  refine ⟨by rw [List.getElem?_eq_getElem h1, beq_iff_eq.mp h2], fun m hm c hc => ?_⟩
  have h4 := h3 m hm
  obtain ⟨h5, h6⟩ := List.getElem?_eq_some_iff.mp hc
  rw [h6] at h4
  simpa using h4
theorem find_in {cs : List (List UInt8)} {b : List UInt8} : cs.contains b = (cs.findIdx? fun c => c == b).isSome := by
  rw [List.findIdx?_isSome, List.contains_eq_any_beq, Bool.eq_iff_iff, List.any_eq_true, List.any_eq_true]
  constructor
  · rintro ⟨x, h1, h2⟩; exact ⟨x, h1, by rw [beq_iff_eq] at h2 ⊢; exact h2.symm⟩
  · rintro ⟨x, h1, h2⟩; exact ⟨x, h1, by rw [beq_iff_eq] at h2 ⊢; exact h2.symm⟩
def sp_Reader_grouped (g : Gx) : Sp := fun vs H Q E => ∃ (R : RdA) (T : Toks) (k : Nat) (t : Vamvsa.Table) (q : PTok) (r : Toks) (gr : Nat), vs = [.ref R.a, nV gr] ∧ RdW g H R T k t ∧ T.drop k = q :: r ∧ gr < 16 ∧ t.cols.length ≤ 4 ∧ (nmOf q = none → FltR g R H E ⟨3, q.place⟩) ∧ ∀ b, nmOf q = some b → ((t.cols.findIdx? fun c => c == b) = none → FltR g R H E ⟨8, q.place⟩) ∧ ∀ i, (t.cols.findIdx? fun c => c == b) = some i → (gr / 2 ^ i % 2 = 1 → FltR g R H E ⟨6, q.place⟩) ∧ (¬ gr / 2 ^ i % 2 = 1 → gr + 2 ^ i < 16 → RdW g (upd H R.a (RdO g R (k + 1))) R T (k + 1) t → Q (nV (gr + 2 ^ i)) (upd H R.a (RdO g R (k + 1))))
abbrev N_Reader_grouped : List Str := ["self", "grouping", "name", "bit"]
theorem sc_Reader_grouped : FnScope N_Reader_grouped ["self", "grouping"] (defScope s_Reader_grouped) := ⟨rfl, rfl, rfl, by decide +kernel, rfl, by decide +kernel, by decide +kernel⟩
set_option maxHeartbeats 8000000 in
theorem ok_Reader_grouped {g : Gx} (T : Tx g) : RMt g (CXr g) 4 (g.C "Reader") "grouped" (sp_Reader_grouped g) := by
  refine mtX (N := N_Reader_grouped) (ps := ["self", "grouping"]) (st := s_Reader_grouped) T 47 rfl T.cl_Reader T.m_Reader_grouped sc_Reader_grouped (fun _ _ _ _ _ _ us hl => match us, hl with | [_, _], _ => rfl) (fun vs H Q E h => by obtain ⟨R, T', k, t, q, r, gr, rfl, w, hd, hgr, hc4, qE, qQ⟩ := h; rfl) (fun f cdv A outer s H vs Q E hr h => ?_)
  obtain ⟨R, T', k, t, q, r, gr, rfl, w, hd, hgr, hc4, qE, qQ⟩ := h
  refine ⟨_, (pss_cons (ps_expr (pe_me (ok_Reader_need T) hr (by decide) pxR (pv 0) (pa_cons (pe_me0 (ok_Reader_is_name T) hr (by decide) pass0 (pv 0)) (pa_cons (pe_gc rfl T.g_CANT_STAND) pa_nil)))) (pss_cons (ps_set (i := 2) sc_Reader_grouped.nd rfl (Or.inl rfl) (pe_ix (r := rIxT g.K) ix_tup (pe_me0 (ok_Reader_here T) hr (by decide) pass0 (pv 0)) pe_int (fun _ _ => rfl))) (pss_cons (ps_set (i := 3) sc_Reader_grouped.nd rfl (Or.inl rfl) pe_int) (pss_cons (ps_if (pt_cmpR (op_inD (u65 hr)) (pv 2) (pe_fld (pe_fld (pv 0) rfl) rfl) (by rfl)) (pss_one (ps_set (i := 3) sc_Reader_grouped.nd rfl (Or.inl rfl) (pe_op op_shl pe_int (pe_bm PySem.F.plainAttrs_list PySem.F.slot_list_index PySem.F.type_list_index (mt_indexD (u65 hr)) (pe_fld (pe_fld (pv 0) rfl) rfl) (pa_cons (pv 2) pa_nil))))) pss_nil) (pss_cons (ps_expr (pe_me (ok_Reader_need T) hr (by decide) pxR (pv 0) (pa_cons (pe_cmpR op_eq (pe_op op_and (pv 1) (pv 3)) pe_int (nomark _)) (pa_cons (pe_gc rfl T.g_GROUPED_TWICE) pa_nil)))) (pss_cons (ps_expr (pe_me (ok_Reader_need T) hr (by decide) pxR (pv 0) (pa_cons (pe_cmpR op_ne (pv 3) pe_int (nomark _)) (pa_cons (pe_gc rfl T.g_NO_COLUMN) pa_nil)))) (pss_cons (ps_expr (pe_me0 (ok_Reader_take T) hr (by decide) pass0 (pv 0))) (pss_one (ps_ret (pe_op op_or (pv 1) (pv 3))))))))))), ?_⟩

  obtain ⟨ns, hn1, hn2⟩ := w.tb.hn
  refine ⟨_, rfl, R.a, _, _, rfl, w.ob, rfl, _, rfl, R.a, _, _, rfl, w.ob, rfl, ⟨R, T', k, t, q, r, rfl, w, hd, R, T', k, t, q, r, _, 3, rfl, w, hd, fun hb => ?_, fun hb => ?_⟩⟩
  rotate_left
  · rw [isNm_of] at hb
    exact (qE (by cases h : nmOf q with | none => rfl | some n => rw [h] at hb; cases hb)).x (Ex.fx (Ex.refl H))
  rw [isNm_of] at hb
  obtain ⟨b, hb⟩ := Option.isSome_iff_exists.mp hb
  obtain ⟨q8, q6⟩ := qQ b hb
  have w2 := w.step hd (by rw [nmOf_some hb]; exact fun z => by cases z)
  refine ⟨_, rfl, R.a, _, _, rfl, w.ob, rfl, R, T', k, t, q, r, rfl, w, hd, fun v hv => ?_⟩
  obtain ⟨p, x, rfl, hp, hx⟩ := tk_parts hv
  obtain ⟨pb, epb, hpb⟩ := what_nm hb hx
  subst epb
  refine ⟨p, _, 1, .ref pb, rfl, rfl, .inl (.inl hp), rfl, _, rfl, _, rfl, R.a, _, _, _, _, rfl, w.ob, T.cl_Reader, T.na_Reader_table, rfl, R.tb, _, _, _, _, rfl, w.tb.ob, T.cl_Table, T.na_Table_names, rfl, ?_⟩
  refine ⟨btD b, t.cols.map btD, dp_bt hpb, .lst (.inl (.inl hn1)) (dp_bts hn2), shaped_t _, shaped_bts _, _, rfl, ?_⟩
  rw [any_bts, find_in]
  cases hf : (t.cols.findIdx? fun c => c == b) with
  | none =>
    refine iteF ⟨_, rfl, R.a, _, _, rfl, w.ob, rfl, _, rfl, _, rfl, _, _, rfl, rfl, rfl, ?_⟩
    rw [show decide (V.int (Builtin.bitAnd (gr : Int) 0) = V.int 0) = true from bits_and0 gr hgr]
    exact ⟨R, T', k, t, q, r, true, 6, rfl, w, hd, fun _ => ⟨_, rfl, R.a, _, _, rfl, w.ob, rfl, _, rfl, rfl, R, T', k, t, q, r, _, 8, rfl, w, hd, (fun z => by cases z), fun _ => (q8 hf).x (Ex.fx (Ex.refl H))⟩, fun z => by cases z⟩
  | some i =>
    obtain ⟨q6, q⟩ := q6 i hf
    obtain ⟨fi, fm⟩ := find_of hf
    have hi4 : i < 4 := by have := (List.getElem?_eq_some_iff.mp fi).1; omega
    refine iteT ⟨_, rfl, R.a, _, _, _, _, rfl, w.ob, T.cl_Reader, T.na_Reader_table, rfl, R.tb, _, _, _, _, rfl, w.tb.ob, T.cl_Table, T.na_Table_names, rfl, .inl ⟨rfl, ns, .inl (.inl hn1)⟩, _, rfl, R.ln, _, btD b, t.cols.map btD, i, btD b, rfl, rfl, .lst (.inl (.inl hn1)) (dp_bts hn2), dp_bt hpb, shaped_bts _, shaped_t _, ?_, ?_, ?_, ?_⟩
    · rw [List.getElem?_map, fi]; rfl
    · rw [eqv_bt]; simp
    · intro m z' hm hz
      rw [List.getElem?_map] at hz
      cases hc : t.cols[m]? with
      | none => rw [hc] at hz; cases hz
      | some c =>
        rw [hc] at hz
        cases hz
        show PyData.eqv (btD c) (btD b) = false
        rw [eqv_bt]
        exact fm m hm c hc
    · refine ⟨1, (i : Int), rfl, rfl, ?_, ?_⟩
      · exact ⟨by omega, by omega, by decide⟩
      refine ⟨_, rfl, R.a, _, _, rfl, w.ob, rfl, _, rfl, _, rfl, _, _, rfl, rfl, rfl, ?_⟩
      rw [bits_and gr hgr i hi4]
      refine ⟨R, T', k, t, _, r, _, 6, rfl, w, hd, fun hb6 => ?_, fun hb6 => (q6 (by simpa using hb6)).x (Ex.fx (Ex.refl H))⟩
      have h6 : ¬ gr / 2 ^ i % 2 = 1 := by simpa using hb6
      refine ⟨_, rfl, R.a, _, _, rfl, w.ob, rfl, _, rfl, rfl, ?_⟩
      rw [bits_ne i hi4]
      refine ⟨R, T', k, t, _, r, true, 8, rfl, w, hd, fun _ => ?_, fun z => by cases z⟩
      refine ⟨_, rfl, R.a, _, _, rfl, w.ob, rfl, R, T', k, t, _, r, rfl, w, hd, fun v _ => ⟨_, rfl, _, rfl, _, _, rfl, rfl, ?_⟩⟩
      have e := q h6 (bits_lt gr hgr i hi4 h6) w2
      rw [show nV (gr + 2 ^ i) = V.int (Builtin.bitOr (gr : Int) ((1 : Int) * 2 ^ ((i : Nat) : Int).toNat)) from congrArg V.int (bits_or gr hgr i hi4 h6).symm] at e
      exact e
def askR (cs : List (List UInt8)) (n gr : Nat) (l : Toks) : Except Fault (Vamvsa.Grouping × Toks) := if VamvsBase.next (.sign 44) l = true then Vamvsa.takeAsked cs n gr (l.drop 1) else .ok (gr, l)
def qR3 (gr k : Nat) (l : Toks) : Except Fault (Vamvsa.Ask × Toks) := (VamvsBase.takeSign 59 l).map fun m => (⟨gr, k⟩, m)
def qR (gr : Nat) (l : Toks) : Except Fault (Vamvsa.Ask × Toks) := (Vamvsa.takeTimes l).bind fun k => qR3 gr k.1 k.2
theorem takeAsked_of (cs : List (List UInt8)) (n gr : Nat) (q : PTok) (r : Toks) : Vamvsa.takeAsked cs (n + 1) gr (q :: r) = match nmOf q with
    | none => .error ⟨3, q.place⟩
    | some b => match cs.findIdx? fun c => c == b with
      | none => .error ⟨8, q.place⟩
      | some i => if gr / 2 ^ i % 2 = 1 then .error ⟨6, q.place⟩ else askR cs n (gr + 2 ^ i) r := by
  show (VamvsBase.takeName (q :: r)).bind _ = _
  rw [takeName_of]
  cases nmOf q <;> rfl
theorem nm_not_word {q : PTok} {b : List UInt8} (r : Toks) (h : nmOf q = some b) {s : String} (hs : VamvsBase.RESERVED.contains (VamvsBase.word s) = true) : VamvsBase.nextWord s (q :: r) = false := by
  have e := nmOf_some h
  show VamvsBase.tokEq q.tok (.name (VamvsBase.word s)) = false
  obtain ⟨p, t⟩ := q
  cases e
  show (b == VamvsBase.word s) = false
  refine beq_eq_false_iff_ne.mpr fun z => ?_
  unfold nmOf at h
  dsimp only at h
  rw [z, if_pos hs] at h
  cases h
theorem nm_not_sign {q : PTok} {b : List UInt8} (r : Toks) (h : nmOf q = some b) {c : Nat} : VamvsBase.next (.sign c) (q :: r) = false := by
  have e := nmOf_some h
  show VamvsBase.tokEq q.tok (.sign c) = false
  obtain ⟨p, t⟩ := q
  cases e
  rfl
theorem takeAsk_nm (cs : List (List UInt8)) {q : PTok} {b : List UInt8} (r : Toks) (h : nmOf q = some b) : Vamvsa.takeAsk cs (q :: r) = (Vamvsa.takeAsked cs ((q :: r).length + 1) 0 (q :: r)).bind fun g => qR g.1 g.2 := by
  show (if VamvsBase.nextWord "times" (q :: r) = true ∨ VamvsBase.next (.sign 59) (q :: r) = true then _ else _ : Except Fault (Vamvsa.Grouping × Toks)).bind _ = _
  rw [nm_not_word r h (by decide), nm_not_sign r h, if_neg (by decide)]
  rfl
theorem takeTimes_no (l : Toks) (h : VamvsBase.nextWord "times" l = false) : Vamvsa.takeTimes l = .ok (1, l) := by
  unfold Vamvsa.takeTimes
  rw [if_neg (by rw [h]; decide)]
theorem qR_no (gr : Nat) (l : Toks) (h : VamvsBase.nextWord "times" l = false) : qR gr l = qR3 gr 1 l := by
  unfold qR
  rw [takeTimes_no l h]; rfl
theorem qR_times (gr : Nat) (q q2 : PTok) (r : Toks) (h : VamvsBase.nextWord "times" (q :: q2 :: r) = true) : qR gr (q :: q2 :: r) = match numOf q2 with
    | none => .error ⟨3, q2.place⟩
    | some n => if n < 1 ∨ 99 < n then .error ⟨7, q2.place⟩ else qR3 gr n r := by
  unfold qR Vamvsa.takeTimes
  rw [if_pos h]
  obtain ⟨p, t⟩ := q2
  cases t with
  | num n =>
    show (if n < 1 ∨ Vamvsa.TIMES < n then Except.error _ else Except.ok (n, r) : Except Fault (Nat × Toks)).bind _ = if n < 1 ∨ 99 < n then _ else _
    by_cases c : n < 1 ∨ 99 < n
    · rw [if_pos c, if_pos (show n < 1 ∨ Vamvsa.TIMES < n from c)]; rfl
    · rw [if_neg c, if_neg (show ¬ (n < 1 ∨ Vamvsa.TIMES < n) from c)]; rfl
  | _ => rfl
theorem qR3_of (gr k : Nat) (q : PTok) (r : Toks) : qR3 gr k (q :: r) = if VamvsBase.next (.sign 59) (q :: r) = true then .ok (⟨gr, k⟩, r) else .error ⟨3, q.place⟩ := by
  unfold qR3
  rw [takeSign_of]
  split <;> rfl
theorem takeAsk_no (cs : List (List UInt8)) {q : PTok} (r : Toks) (h : nmOf q = none) : Vamvsa.takeAsk cs (q :: r) = qR 0 (q :: r) := by
  show (if VamvsBase.nextWord "times" (q :: r) = true ∨ VamvsBase.next (.sign 59) (q :: r) = true then _ else _ : Except Fault (Vamvsa.Grouping × Toks)).bind _ = _
  by_cases c : VamvsBase.nextWord "times" (q :: r) = true ∨ VamvsBase.next (.sign 59) (q :: r) = true
  · rw [if_pos c]; rfl
  · rw [if_neg c, takeAsked_of, h]
    have c1 : VamvsBase.nextWord "times" (q :: r) = false := by
      cases e : VamvsBase.nextWord "times" (q :: r) with
      | false => rfl
      | true => exact absurd (.inl e) c
    rw [qR_no _ _ c1, qR3_of, if_neg (fun z => c (.inr z))]
    rfl
def sp_Reader_question (g : Gx) : Sp := fun vs H Q E => ∃ (R : RdA) (T : Toks) (k : Nat) (t : Vamvsa.Table) (q : PTok) (r : Toks), vs = [.ref R.a] ∧ RdW g H R T k t ∧ T.drop k = q :: r ∧ q.tok ≠ .last ∧ t.cols.length ≤ 4 ∧ (8 ≤ t.asks.length → FltR g R H E ⟨4, q.place⟩) ∧ (¬ 8 ≤ t.asks.length → (∀ f, Vamvsa.takeAsk t.cols r = .error f → FltR g R H E f) ∧ ∀ a l', Vamvsa.takeAsk t.cols r = .ok (a, l') → ∀ H' k', Fx R H H' → k < k' → RdW g H' R T k' { t with asks := t.asks ++ [a] } → T.drop k' = l' → Q .non H')
abbrev N_Reader_question : List Str := ["self", "grouping", "often"]
theorem sc_Reader_question : FnScope N_Reader_question ["self"] (defScope s_Reader_question) := ⟨rfl, rfl, rfl, by decide +kernel, rfl, by decide +kernel, by decide +kernel⟩
set_option maxHeartbeats 8000000 in
theorem ok_Reader_question {g : Gx} (T : Tx g) : RMt g (CXr g) 5 (g.C "Reader") "question" (sp_Reader_question g) := by
  refine mtX (N := N_Reader_question) (ps := ["self"]) (st := s_Reader_question) T 48 rfl T.cl_Reader T.m_Reader_question sc_Reader_question (fun _ _ _ _ _ _ us hl => match us, hl with | [_], _ => rfl) (fun vs H Q E h => by obtain ⟨R, T', k, t, q, r, rfl, w, hd, hql, hc4, q8, qask⟩ := h; rfl) (fun f cdv A outer s H vs Q E hr h => ?_)
  obtain ⟨R, T', k, t, q, r, rfl, w, hd, hql, hc4, q8, qask⟩ := h
  refine ⟨_, (pss_cons (ps_expr (pe_me (ok_Reader_need T) hr (by decide) pxR (pv 0) (pa_cons (pe_cmpR op_lt (pe_callB call_len_seq rfl T.f_len PySem.boot_len (pa_cons (pe_fld (pe_fld (pv 0) rfl) rfl) pa_nil)) (pe_gc rfl T.g_MOST_QUESTIONS) (nomark _)) (pa_cons (pe_gc rfl T.g_TOO_MANY_reading) pa_nil)))) (pss_cons (ps_expr (pe_me0 (ok_Reader_take T) hr (by decide) pass0 (pv 0))) (pss_cons (ps_set (i := 1) sc_Reader_question.nd rfl (Or.inl rfl) pe_int) (Evl.pss_cut (ps_if (pt_val (pe_me0 (ok_Reader_is_name T) hr (by decide) pass0 (pv 0))) (pss_cons (ps_set (i := 1) sc_Reader_question.nd rfl (Or.inl rfl) (pe_me (ok_Reader_grouped T) hr (by decide) pxR (pv 0) (pa_cons (pv 1) pa_nil))) (pss_one (ps_while (passes_of rfl) (pt_val (pe_me (ok_Reader_is_sign T) hr (by decide) pass0 (pv 0) (pa_cons (pe_gc rfl T.g_COMMA) pa_nil))) (pss_cons (ps_expr (pe_me0 (ok_Reader_take T) hr (by decide) pass0 (pv 0))) (pss_one (ps_set (i := 1) sc_Reader_question.nd rfl (Or.inl rfl) (pe_me (ok_Reader_grouped T) hr (by decide) pxR (pv 0) (pa_cons (pv 1) pa_nil)))))))) pss_nil) (pss_cons (ps_set (i := 2) sc_Reader_question.nd rfl (Or.inl rfl) pe_int) (Evl.pss_cut (ps_if (pt_val (pe_me (ok_Reader_is_word T) hr (by decide) pass0 (pv 0) (pa_cons (pe_gc rfl T.g_TIMES) pa_nil))) (pss_cons (ps_expr (pe_me0 (ok_Reader_take T) hr (by decide) pass0 (pv 0))) (pss_one (ps_set (i := 2) sc_Reader_question.nd rfl (Or.inl rfl) (pe_me (ok_Reader_number T) hr (by decide) pxR (pv 0) (pa_cons pe_int (pa_cons (pe_gc rfl T.g_MOST_OFTEN_reading) pa_nil)))))) pss_nil) (pss_cons (ps_expr (pe_me (ok_Reader_take_sign T) hr (by decide) pxR (pv 0) (pa_cons (pe_gc rfl T.g_SEMICOLON) pa_nil))) (pss_one (ps_expr (pe_bm PySem.F.plainAttrs_list PySem.F.slot_list_append PySem.F.type_list_append mt_append (pe_fld (pe_fld (pv 0) rfl) rfl) (pa_cons (pe_tup (pa_cons (pv 1) (pa_cons (pv 2) pa_nil))) pa_nil))))))))))), ?_⟩

  obtain ⟨qs, hq1, hq2⟩ := w.tb.hq
  have lq := Paired.length hq2
  refine ⟨_, rfl, R.a, _, _, rfl, w.ob, rfl, _, rfl, R.a, _, _, _, _, rfl, w.ob, T.cl_Reader, T.na_Reader_table, rfl, R.tb, _, _, _, _, rfl, w.tb.ob, T.cl_Table, T.na_Table_questions, rfl, R.lq, qs, rfl, .inl (.inl (.inl hq1)), _, _, rfl, rfl, R, T', k, t, q, r, _, 4, rfl, w, hd, fun hc => ?_, fun hc => ?_⟩
  rotate_left
  · exact (q8 (by have := of_decide_eq_false hc; omega)).x (Ex.fx (Ex.refl H))
  have h8 : ¬ 8 ≤ t.asks.length := by have := of_decide_eq_true hc; omega
  obtain ⟨qE, qQ⟩ := qask h8
  refine ⟨_, rfl, R.a, _, _, rfl, w.ob, rfl, R, T', k, t, q, r, rfl, w, hd, fun v _ => ?_⟩
  have w1 := w.step hd hql
  have f1 : Fx R H (upd H R.a (RdO g R (k + 1))) := Fx.upd
  have hd1 := (drop_succ hd).1
  obtain ⟨q1, r1, rfl⟩ := endsLast_cons (by have := w1.el; rw [hd1] at this; exact this)
  refine ⟨fun σ H' => ∃ (k2 gr : Nat) (l2 : Toks), σ = [some (.ref R.a), some (nV gr), none] ∧ Fx R H H' ∧ k < k2 ∧ RdW g H' R T' k2 t ∧ T'.drop k2 = l2 ∧ gr < 16 ∧ Vamvsa.takeAsk t.cols (q1 :: r1) = qR gr l2, ?_, ?_⟩
  · -- the columns
    refine ⟨_, rfl, R.a, _, _, rfl, w1.ob, rfl, R, T', k + 1, t, q1, r1, rfl, w1, hd1, ⟨_, rfl, ?_⟩⟩
    rw [isNm_of]
    cases hn : nmOf q1 with
    | none => exact iteF ⟨k + 1, 0, _, rfl, f1, by omega, w1, hd1, by omega, takeAsk_no _ _ hn⟩
    | some b =>
      rw [takeAsk_nm _ _ hn, takeAsked_of, hn] at qE qQ
      rw [takeAsk_nm _ _ hn, takeAsked_of, hn]
      dsimp only at qE qQ ⊢
      refine iteT ⟨_, rfl, R.a, _, _, rfl, w1.ob, rfl, _, rfl, R, T', k + 1, t, q1, r1, 0, rfl, w1, hd1, by omega, hc4, (fun z => by rw [hn] at z; cases z), fun b2 hb2 => ?_⟩
      rw [hn] at hb2
      cases hb2
      refine ⟨fun hf => (qE _ (by rw [hf]; rfl)).fx f1, fun i hf => ⟨fun h6 => (qE _ (by rw [hf]; dsimp only; rw [if_pos h6]; rfl)).fx f1, fun h6 h16 w2 => ?_⟩⟩
      rw [hf] at qE qQ ⊢
      dsimp only at qE qQ ⊢
      rw [if_neg h6] at qE qQ ⊢
      have f2 := f1.trans (Fx.upd (o := RdO g R (k + 1 + 1)))
      refine ⟨fun m σ H' => ∃ (k2 n gr : Nat) (l2 : Toks), m = T'.length - k2 ∧ σ = [some (.ref R.a), some (nV gr), none] ∧ Fx R H H' ∧ k < k2 ∧ RdW g H' R T' k2 t ∧ T'.drop k2 = l2 ∧ gr < 16 ∧ l2.length ≤ n ∧ (askR t.cols (q1 :: r1).length (0 + 2 ^ i) r1) = askR t.cols n gr l2,
        ⟨_, k + 1 + 1, _, _, r1, rfl, rfl, f2, by omega, w2, (drop_succ hd1).1, h16, by simp, rfl⟩, ?_⟩
      rintro m σ H3 ⟨k3, n, gr, l3, rfl, rfl, f3, hk3, w3, hd3, hgr, hn3, eq3⟩
      rw [eq3] at qE qQ
      obtain ⟨q3, r3, rfl⟩ := endsLast_cons (by have := w3.el; rw [hd3] at this; exact this)
      have dl3 := drop_lt hd3
      refine ⟨_, rfl, R.a, _, _, rfl, w3.ob, rfl, R, T', k3, _, q3, r3, 44, rfl, w3, hd3, fun H4 e4 => ⟨_, rfl, ?_⟩⟩
      have w4 := w3.ex e4
      have f4 := f3.trans (Ex.fx e4)
      cases hs : VamvsBase.next (.sign 44) (q3 :: r3) with
      | true =>
        refine iteT ⟨fun σ' H' => ∃ (k2 n gr : Nat) (l2 : Toks), k3 < k2 ∧ σ' = [some (.ref R.a), some (nV gr), none] ∧ Fx R H H' ∧ k < k2 ∧ RdW g H' R T' k2 t ∧ T'.drop k2 = l2 ∧ gr < 16 ∧ l2.length ≤ n ∧ (askR t.cols (q1 :: r1).length (0 + 2 ^ i) r1) = askR t.cols n gr l2, ?_, ?_⟩
        · rintro σ' H' ⟨k2, n2, g2, l22, h1, h2⟩
          exact ⟨T'.length - k2, by omega, k2, n2, g2, l22, rfl, h2⟩
        · refine ⟨_, rfl, R.a, _, _, rfl, w4.ob, rfl, R, T', k3, _, q3, r3, rfl, w4, hd3, fun v hv => ?_⟩
          have w5 := w4.step hd3 (next_sign_nl hs)
          have f5 := f4.trans (Fx.upd (o := RdO g R (k3 + 1)))
          have hd5 := (drop_succ hd3).1
          obtain ⟨q4, r4, rfl⟩ := endsLast_cons (by have := w5.el; rw [hd5] at this; exact this)
          obtain ⟨n, rfl⟩ : ∃ z, n = z + 1 := ⟨n - 1, by simp only [List.length_cons] at hn3; omega⟩
          have eq5 : askR t.cols (n + 1) gr (q3 :: q4 :: r4) = Vamvsa.takeAsked t.cols (n + 1) gr (q4 :: r4) := by unfold askR; rw [if_pos hs]; rfl
          rw [eq5, takeAsked_of] at eq3 qE qQ
          refine ⟨_, rfl, R.a, _, _, rfl, w5.ob, rfl, _, rfl, R, T', k3 + 1, t, q4, r4, gr, rfl, w5, hd5, hgr, hc4, (fun z => (qE _ (by rw [z]; rfl)).fx f5), fun b2 hb2 => ?_⟩
          rw [hb2] at qE qQ eq3
          dsimp only at qE qQ eq3
          refine ⟨fun hf => (qE _ (by rw [hf]; rfl)).fx f5, fun i hf => ⟨fun h6 => (qE _ (by rw [hf]; dsimp only; rw [if_pos h6]; rfl)).fx f5, fun h6 h16 w6 => ?_⟩⟩
          rw [hf] at eq3
          dsimp only at eq3
          rw [if_neg h6] at eq3
          exact ⟨k3 + 1 + 1, n, _, r4, by omega, rfl, f5.trans Fx.upd, by omega, w6, (drop_succ hd5).1, h16, by simp only [List.length_cons] at hn3; omega, eq3⟩
      | false =>
        refine iteF ⟨k3, gr, _, rfl, f4, hk3, w4, hd3, hgr, ?_⟩
        rw [eq3]
        unfold askR
        rw [if_neg (by rw [hs]; decide)]
        rfl
  · rintro σ H2 ⟨k2, gr, l2, rfl, f2, hk2, w2, hd2, hgr, eq2⟩
    rw [eq2] at qE qQ
    obtain ⟨q2, r2, rfl⟩ := endsLast_cons (by have := w2.el; rw [hd2] at this; exact this)
    refine ⟨fun σ H' => ∃ (k3 kk : Nat) (l3 : Toks), σ = [some (.ref R.a), some (nV gr), some (nV kk)] ∧ Fx R H H' ∧ k < k3 ∧ RdW g H' R T' k3 t ∧ T'.drop k3 = l3 ∧ qR gr (q2 :: r2) = qR3 gr kk l3, ?_, ?_⟩
    · -- how often
      refine ⟨_, rfl, R.a, _, _, rfl, w2.ob, rfl, R, T', k2, t, q2, r2, "times", rfl, w2, hd2, by simp, fun H3 e3 => ⟨_, rfl, ?_⟩⟩
      have w3 := w2.ex e3
      have f3 := f2.trans (Ex.fx e3)
      cases hs : VamvsBase.nextWord "times" (q2 :: r2) with
      | false => exact iteF ⟨k2, 1, _, rfl, f3, hk2, w3, hd2, qR_no _ _ hs⟩
      | true =>
        refine iteT ⟨_, rfl, R.a, _, _, rfl, w3.ob, rfl, R, T', k2, t, q2, r2, rfl, w3, hd2, fun v _ => ?_⟩
        have w4 := w3.step hd2 (next_word_nl hs)
        have f4 := f3.trans (Fx.upd (o := RdO g R (k2 + 1)))
        have hd4 := (drop_succ hd2).1
        obtain ⟨q4, r4, rfl⟩ := endsLast_cons (by have := w4.el; rw [hd4] at this; exact this)
        rw [qR_times _ _ _ _ hs] at qE qQ ⊢
        refine ⟨_, rfl, R.a, _, _, rfl, w4.ob, rfl, R, T', k2 + 1, t, q4, r4, 1, 99, rfl, w4, hd4, fun hn => (qE _ (by rw [hn])).fx f4, fun n hn => ⟨fun hle => (qE _ (by rw [hn]; exact if_pos (by omega))).fx f4, fun hle w5 => ?_⟩⟩
        rw [hn]
        dsimp only
        rw [if_neg (by omega)]
        exact ⟨k2 + 1 + 1, n, r4, rfl, f4.trans Fx.upd, by omega, w5, (drop_succ hd4).1, rfl⟩
    · rintro σ H3 ⟨k3, kk, l3, rfl, f3, hk3, w3, hd3, eq3⟩
      rw [eq3] at qE qQ
      obtain ⟨q3, r3, rfl⟩ := endsLast_cons (by have := w3.el; rw [hd3] at this; exact this)
      rw [qR3_of] at qE qQ
      refine ⟨_, rfl, R.a, _, _, rfl, w3.ob, rfl, R, T', k3, t, q3, r3, 59, rfl, w3, hd3, fun hb => ?_, fun hb H4 f4 w4 => ?_⟩
      · exact (qE _ (if_neg (by rw [hb]; decide))).fx f3
      · obtain ⟨qs4, hq4, hp4⟩ := w4.tb.hq
        refine ⟨_, rfl, R.a, _, _, _, _, rfl, w4.ob, T.cl_Reader, T.na_Reader_table, rfl, R.tb, _, _, _, _, rfl, w4.tb.ob, T.cl_Table, T.na_Table_questions, rfl, .inl ⟨rfl, qs4, .inl (.inl hq4)⟩, _, rfl, _, rfl, s2, fun p5 hp5 => ?_⟩
        have e5 := Ex.new (o := HO.tup [nV gr, nV kk]) hp5
        have h5 : (upd H4 p5 (HO.tup [nV gr, nV kk])) p5 = some (.tup [nV gr, nV kk]) := upd_same
        have hq5 := e5 _ _ hq4
        refine ⟨R.lq, qs4, .ref p5, rfl, rfl, hq5, ?_, ?_⟩
        · have := Paired.length hp4; have := sizeLine_eq; omega
        · exact qQ _ _ (if_pos hb) _ (k3 + 1) ((f3.trans f4).trans ((Ex.fx e5).trans Fx.updQ)) (by omega) ((w4.ex e5).addAsk hq5 ⟨p5, rfl, h5⟩) (drop_succ hd3).1
end Sr
set_option Elab.async false
set_option linter.all false
set_option maxRecDepth 100000
set_option maxHeartbeats 4000000
/-! # The reader: the whole table -/
namespace Sr
open PySem PySem.Spec PyProof.Rows L2
open Evl (Ex)
open VamvsBase (Toks PTok Tok Fault)
def wholeR (l : Toks) : Except Fault Vamvsa.Table := (colsAll l).bind fun x => Vamvsa.takeLines (x.2.length + 1) ⟨x.1, [], []⟩ x.2
theorem read_of (b : List UInt8) : Vamvsa.read b = (VamvsBase.tokens b).bind wholeR := by
  unfold Vamvsa.read
  congr 1
  funext l
  unfold wholeR colsAll
  cases VamvsBase.takeWord "columns" l <;> rfl
theorem ebind {α β γ : Type} (x : Except Fault α) (f : α → Except Fault β) (h : β → Except Fault γ) : (x.bind f).bind h = x.bind fun a => (f a).bind h := by cases x <;> rfl
theorem emap {α β γ : Type} (x : Except Fault α) (f : α → β) (h : β → Except Fault γ) : (x.map f).bind h = x.bind fun a => h (f a) := by cases x <;> rfl
theorem takeLines_of (n : Nat) (t : Vamvsa.Table) (q : PTok) (r : Toks) : Vamvsa.takeLines (n + 1) t (q :: r) =
    if VamvsBase.next .last (q :: r) = true then .ok t
    else if VamvsBase.nextWord "row" (q :: r) = true then (if 16 ≤ t.rows.length then .error ⟨4, q.place⟩ else (rowR1 t.cols.length [] r).bind fun y => Vamvsa.takeLines n { t with rows := t.rows ++ [y.1] } y.2)
    else if VamvsBase.nextWord "ask" (q :: r) = true then (if 8 ≤ t.asks.length then .error ⟨4, q.place⟩ else (Vamvsa.takeAsk t.cols r).bind fun a => Vamvsa.takeLines n { t with asks := t.asks ++ [a.1] } a.2)
    else .error ⟨3, q.place⟩ := by
  show (if VamvsBase.next .last (q :: r) = true then .ok t else if VamvsBase.nextWord "row" (q :: r) = true then (if Vamvsa.ROWS ≤ t.rows.length then .error ⟨4, q.place⟩ else (Vamvsa.takeValues t.cols.length [] r).bind fun v => (VamvsBase.takeSign 58 v.2).bind fun r => (Vamvsa.takeInt r).bind fun x => (VamvsBase.takeSign 59 x.2).bind fun m => Vamvsa.takeLines n { t with rows := t.rows ++ [⟨v.1, x.1⟩] } m)
    else (VamvsBase.takeWord "ask" (q :: r)).bind fun r => if Vamvsa.ASKS ≤ t.asks.length then .error ⟨4, q.place⟩ else (Vamvsa.takeAsk t.cols r).bind fun a => Vamvsa.takeLines n { t with asks := t.asks ++ [a.1] } a.2) = _
  have e1 : ((Vamvsa.takeValues t.cols.length [] r).bind fun v => (VamvsBase.takeSign 58 v.2).bind fun r => (Vamvsa.takeInt r).bind fun x => (VamvsBase.takeSign 59 x.2).bind fun m => Vamvsa.takeLines n { t with rows := t.rows ++ [⟨v.1, x.1⟩] } m) = (rowR1 t.cols.length [] r).bind fun y => Vamvsa.takeLines n { t with rows := t.rows ++ [y.1] } y.2 := by
    unfold rowR1 rowR2 rowR3
    simp only [ebind, emap]
  rw [e1, takeWord_of]
  split
  · rfl
  · split
    · rfl
    · split <;> rfl
theorem next_last (q : PTok) (r : Toks) : VamvsBase.next .last (q :: r) = decide (sortOf q = 4) := by
  obtain ⟨p, t⟩ := q
  cases t with
  | name b =>
    show false = decide ((if VamvsBase.RESERVED.contains b = true then 1 else 0) = 4)
    split <;> rfl
  | _ => rfl
theorem not_last {q : PTok} {r : Toks} (h : ¬ VamvsBase.next .last (q :: r) = true) : q.tok ≠ .last := fun e => h (by
  show VamvsBase.tokEq q.tok .last = true
  rw [e]; rfl)
theorem cols_len : ∀ (n : Nat) (cs : List (List UInt8)) (l : Toks) (cs' : List (List UInt8)) (l' : Toks), Vamvsa.takeColumns n cs l = .ok (cs', l') → cs.length < cs'.length ∧ cs'.length ≤ 4
  | 0, cs, l, cs', l', h => by cases l <;> cases h
  | n + 1, cs, [], cs', l', h => by cases h
  | n + 1, cs, q :: r, cs', l', h => by
    rw [takeColumns_of] at h
    split at h
    · cases h
    · rename_i b hb
      split at h
      · cases h
      · rename_i h4
        split at h
        · cases h
        · unfold colsR at h
          split at h
          · have := cols_len n _ _ _ _ h
            rw [List.length_append, List.length_singleton] at this
            omega
          · cases e : VamvsBase.takeSign 59 r with
            | error f => rw [e] at h; cases h
            | ok m =>
              rw [e] at h
              cases h
              rw [List.length_append, List.length_singleton]
              omega
theorem colsAll_len {l : Toks} {cs : List (List UInt8)} {l' : Toks} (h : colsAll l = .ok (cs, l')) : 1 ≤ cs.length ∧ cs.length ≤ 4 := by
  unfold colsAll at h
  cases e : VamvsBase.takeWord "columns" l with
  | error f => rw [e] at h; cases h
  | ok r =>
    rw [e] at h
    have := cols_len _ _ _ _ _ h
    simp only [List.length_nil] at this
    omega
def sp_Reader_whole (g : Gx) : Sp := fun vs H Q E => ∃ (R : RdA) (T : Toks) (k : Nat) (q : PTok) (r : Toks), vs = [.ref R.a] ∧ RdW g H R T k ⟨[], [], []⟩ ∧ T.drop k = q :: r ∧ (∀ f, wholeR (q :: r) = .error f → FltR g R H E f) ∧ ∀ t, wholeR (q :: r) = .ok t → ∀ H' k', Fx R H H' → RdW g H' R T k' t → Q (.ref R.tb) H'
abbrev N_Reader_whole : List Str := ["self"]
theorem sc_Reader_whole : FnScope N_Reader_whole ["self"] (defScope s_Reader_whole) := ⟨rfl, rfl, rfl, by decide +kernel, rfl, by decide +kernel, by decide +kernel⟩
set_option maxHeartbeats 8000000 in
theorem ok_Reader_whole {g : Gx} (T : Tx g) : RMt g (CXr g) 6 (g.C "Reader") "whole" (sp_Reader_whole g) := by
  refine mtX (N := N_Reader_whole) (ps := ["self"]) (st := s_Reader_whole) T 49 rfl T.cl_Reader T.m_Reader_whole sc_Reader_whole (fun _ _ _ _ _ _ us hl => match us, hl with | [_], _ => rfl) (fun vs H Q E h => by obtain ⟨R, T', k, q, r, rfl, w, hd, qE, qQ⟩ := h; rfl) (fun f cdv A outer s H vs Q E hr h => ?_)
  obtain ⟨R, T', k, q, r, rfl, w, hd, qE, qQ⟩ := h
  refine ⟨_, (pss_cons (ps_expr (pe_me0 (ok_Reader_columns T) hr (by decide) pxR (pv 0))) (pss_cons (ps_while (passes_of rfl) (pt_cmpR op_ne (pe_ix (r := rIxT g.K) ix_tup (pe_me0 (ok_Reader_here T) hr (by decide) pass0 (pv 0)) pe_int (fun _ _ => rfl)) (pe_gc rfl T.g_END) (nomark _)) (pss_one (ps_if (pt_val (pe_me (ok_Reader_is_word T) hr (by decide) pass0 (pv 0) (pa_cons (pe_gc rfl T.g_ROW) pa_nil))) (pss_one (ps_expr (pe_me0 (ok_Reader_row T) hr (by decide) pxR (pv 0)))) (pss_cons (ps_expr (pe_me (ok_Reader_need T) hr (by decide) pxR (pv 0) (pa_cons (pe_me (ok_Reader_is_word T) hr (by decide) pass0 (pv 0) (pa_cons (pe_gc rfl T.g_ASK) pa_nil)) (pa_cons (pe_gc rfl T.g_CANT_STAND) pa_nil)))) (pss_one (ps_expr (pe_me0 (ok_Reader_question T) hr (by decide) pxR (pv 0)))))))) (pss_one (ps_ret (pe_fld (pv 0) rfl))))), ?_⟩

  unfold wholeR at qE qQ
  refine ⟨_, rfl, R.a, _, _, rfl, w.ob, rfl, R, T', k, _, q, r, rfl, w, hd, rfl, fun f hf => qE f (by rw [hf]; rfl), fun cs l1 hcs H1 k1 f1 w1 hd1 => ?_⟩
  have hcl := colsAll_len hcs
  rw [hcs] at qE qQ
  change ∀ f, Vamvsa.takeLines (l1.length + 1) ⟨cs, [], []⟩ l1 = .error f → _ at qE
  change ∀ t, Vamvsa.takeLines (l1.length + 1) ⟨cs, [], []⟩ l1 = .ok t → _ at qQ
  refine ⟨fun m σ H' => ∃ (k2 n : Nat) (t2 : Vamvsa.Table) (l2 : Toks), m = T'.length - k2 ∧ σ = [some (.ref R.a)] ∧ Fx R H H' ∧ RdW g H' R T' k2 t2 ∧ T'.drop k2 = l2 ∧ 1 ≤ t2.cols.length ∧ t2.cols.length ≤ 4 ∧ l2.length < n ∧ Vamvsa.takeLines (l1.length + 1) ⟨cs, [], []⟩ l1 = Vamvsa.takeLines n t2 l2,
    ⟨_, k1, _, _, l1, rfl, rfl, f1, w1, hd1, hcl.1, hcl.2, Nat.lt_succ_self _, rfl⟩, ?_⟩
  rintro m σ H2 ⟨k2, n, t2, l2, rfl, rfl, f2, w2, hd2, hc1, hc4, hn2, eq2⟩
  rw [eq2] at qE qQ
  obtain ⟨q2, r2, rfl⟩ := endsLast_cons (by have := w2.el; rw [hd2] at this; exact this)
  have dl2 := drop_lt hd2
  obtain ⟨n, rfl⟩ : ∃ z, n = z + 1 := ⟨n - 1, by omega⟩
  rw [takeLines_of, next_last] at qE qQ eq2
  refine ⟨_, rfl, R.a, _, _, rfl, w2.ob, rfl, R, T', k2, _, q2, r2, rfl, w2, hd2, fun v hv => ?_⟩
  obtain ⟨p, x, rfl, hp, hx⟩ := tk_parts hv
  refine ⟨p, _, 0, _, rfl, rfl, .inl (.inl hp), rfl, rfl, _, rfl, ?_⟩
  have es : decide (nV (sortOf q2) = V.int 4) = decide (sortOf q2 = 4) := by
    rw [Bool.eq_iff_iff, decide_eq_true_eq, decide_eq_true_eq]
    constructor
    · intro h; have := V.int.inj h; omega
    · intro h; rw [h]; rfl
  rw [es]
  by_cases h4 : sortOf q2 = 4
  · rw [decide_eq_true h4] at qQ ⊢
    exact iteF ⟨_, rfl, R.a, _, _, _, _, rfl, w2.ob, T.cl_Reader, T.na_Reader_table, rfl, qQ _ rfl H2 k2 f2 w2⟩
  · have hnl : q2.tok ≠ .last := not_last (r := r2) (by rw [next_last, decide_eq_false h4]; decide)
    rw [decide_eq_false h4] at qE qQ eq2 ⊢
    rw [if_neg (by decide)] at qE qQ eq2
    refine iteT ⟨fun σ' H' => ∃ (k3 n : Nat) (t2 : Vamvsa.Table) (l2 : Toks), k2 < k3 ∧ σ' = [some (.ref R.a)] ∧ Fx R H H' ∧ RdW g H' R T' k3 t2 ∧ T'.drop k3 = l2 ∧ 1 ≤ t2.cols.length ∧ t2.cols.length ≤ 4 ∧ l2.length < n ∧ Vamvsa.takeLines (l1.length + 1) ⟨cs, [], []⟩ l1 = Vamvsa.takeLines n t2 l2, ?_, ?_⟩
    · rintro σ' H' ⟨k3, n3, t3, l3, h1, h2⟩
      exact ⟨T'.length - k3, by omega, k3, n3, t3, l3, rfl, h2⟩
    · refine ⟨_, rfl, R.a, _, _, rfl, w2.ob, rfl, R, T', k2, _, q2, r2, "row", rfl, w2, hd2, by simp, fun H3 e3 => ⟨_, rfl, ?_⟩⟩
      have w3 := w2.ex e3
      have f3 := f2.trans (Ex.fx e3)
      cases hr : VamvsBase.nextWord "row" (q2 :: r2) with
      | true =>
        rw [hr, if_pos rfl] at qE qQ eq2
        refine iteT ⟨_, rfl, R.a, _, _, rfl, w3.ob, rfl, R, T', k2, t2, q2, r2, rfl, w3, hd2, hnl, hc1, hc4, fun h16 => (qE _ (by rw [if_pos h16])).fx f3, fun h16 => ?_⟩
        rw [if_neg h16] at qE qQ eq2
        refine ⟨fun f hf => (qE _ (by rw [hf]; rfl)).fx f3, fun row l4 hrow H4 k4 f4 hk4 w4 hd4 => ?_⟩
        rw [hrow] at eq2
        refine ⟨k4, n, _, l4, hk4, rfl, f3.trans f4, w4, hd4, hc1, hc4, ?_, eq2⟩
        have d4 : l4.length = T'.length - k4 := by rw [← hd4, List.length_drop]
        simp only [List.length_cons] at hn2
        omega
      | false =>
        rw [hr, if_neg (by decide)] at qE qQ eq2
        refine iteF ⟨_, rfl, R.a, _, _, rfl, w3.ob, rfl, _, rfl, R.a, _, _, rfl, w3.ob, rfl, ⟨R, T', k2, _, q2, r2, "ask", rfl, w3, hd2, by simp, fun H4 e4 => ?_⟩⟩
        have w4 := w3.ex e4
        have f4 := f3.trans (Ex.fx e4)
        refine ⟨R, T', k2, t2, q2, r2, _, 3, rfl, w4, hd2, fun ha => ?_, fun ha => (qE _ (by rw [if_neg (by rw [ha]; decide)])).x f4⟩
        rw [if_pos ha] at qE qQ eq2
        refine ⟨_, rfl, R.a, _, _, rfl, w4.ob, rfl, R, T', k2, t2, q2, r2, rfl, w4, hd2, hnl, hc4, fun h8 => (qE _ (by rw [if_pos h8])).fx f4, fun h8 => ?_⟩
        rw [if_neg h8] at qE qQ eq2
        refine ⟨fun f hf => (qE _ (by rw [hf]; rfl)).fx f4, fun a l5 hrow H5 k5 f5 hk5 w5 hd5 => ?_⟩
        rw [hrow] at eq2
        refine ⟨k5, n, _, l5, hk5, rfl, f4.trans f5, w5, hd5, hc1, hc4, ?_, eq2⟩
        have d4 : l5.length = T'.length - k5 := by rw [← hd5, List.length_drop]
        simp only [List.length_cons] at hn2
        omega
theorem lex_ends : ∀ (n at_ : Nat) (bs : List UInt8) (l : Toks), VamvsBase.lex n at_ bs = .ok l → EndsLast l ∧ l.length ≤ bs.length + 1
  | 0, at_, bs, l, h => by cases bs <;> (cases h; exact ⟨⟨_, rfl, rfl⟩, by simp⟩)
  | n + 1, at_, [], l, h => by cases h; exact ⟨⟨_, rfl, rfl⟩, by simp⟩
  | n + 1, at_, b :: r, l, h => by
    rw [lex_cons] at h
    split at h
    · have := lex_ends n _ _ _ h
      exact ⟨this.1, by rw [List.length_cons]; omega⟩
    · split at h
      · have h1 := lex_ends n _ _ _ h
        have h2 : (r.dropWhile fun x => x != 10).length ≤ r.length := (List.dropWhile_suffix _).length_le
        exact ⟨h1.1, by rw [List.length_cons]; omega⟩
      · split at h
        · cases h
        · rename_i x hx
          cases e : VamvsBase.lex n (at_ + x.2) ((b :: r).drop x.2) with
          | error f => rw [e] at h; cases h
          | ok l2 =>
            rw [e] at h
            cases h
            have h1 := lex_ends n _ _ _ e
            obtain ⟨k1, k2⟩ := token_len (t := x.1) (n := x.2) hx
            rw [List.length_drop] at h1
            refine ⟨?_, by rw [List.length_cons]; omega⟩
            obtain ⟨q, h3, h4⟩ := h1.1
            refine ⟨q, ?_, h4⟩
            cases l2 with
            | nil => cases h3
            | cons y l2 => rw [List.getLast?_cons_cons]; exact h3
def sp_Reader_init (g : Gx) : Sp := fun vs H Q E => ∃ (a dx ta : Addr) (bs : List UInt8), vs = [.ref a, .ref ta] ∧ H a = some (.ins (g.C "Reader") dx []) ∧ TxA H ta bs ∧ bs.length ≤ 4096 ∧ (∀ f, VamvsBase.lex (bs.length + 1) 0 bs = .error f → FltX g H E f.code f.place) ∧ ∀ l, VamvsBase.lex (bs.length + 1) 0 bs = .ok l → ∀ (R : RdA) H', R.a = a → H R.ln = none → H R.lr = none → H R.lq = none → (∀ b o, H b = some o → b ≠ a → H' b = some o) → RdW g H' R l 0 ⟨[], [], []⟩ → Q .non H'
abbrev N_Reader_init : List Str := ["self", "text"]
theorem sc_Reader_init : FnScope N_Reader_init ["self", "text"] (defScope s_Reader_init) := ⟨rfl, rfl, rfl, by decide +kernel, rfl, by decide +kernel, by decide +kernel⟩
set_option maxHeartbeats 8000000 in
theorem ok_Reader_init {g : Gx} (T : Tx g) : RMk g (CXr g) 6 "Reader" (g.C "Reader") (sp_Reader_init g) := by
  refine mkX (N := N_Reader_init) (ps := ["self", "text"]) (st := s_Reader_init) T 34 rfl T.mk_Reader T.c_Reader sc_Reader_init (fun _ _ _ _ _ _ us hl => match us, hl with | [_, _], _ => rfl) (fun vs H Q E h => by obtain ⟨a, dx, ta, bs, rfl, ha, ht, h4, qE, qQ⟩ := h; rfl) (fun f cdv A outer s H vs Q E hr h => ?_)
  obtain ⟨a, dx, ta, bs, rfl, ha, ht, h4, qE, qQ⟩ := h
  refine ⟨_, (pss_cons (ps_fld (pv 0) (pe_gl (ok_tokens_of T) hr (by decide) pxR rfl (pa_cons (pv 1) pa_nil)) rfl) (pss_cons (ps_fld (pv 0) pe_int rfl) (pss_one (ps_fld (pv 0) (pe_mk0 (ok_Table_init T) hr (by decide) pass0 rfl) rfl)))), ?_⟩

  refine ⟨_, rfl, ta, bs, rfl, ht, h4, qE, fun l hl lt H1 xs hlt e1 hx hpr => ?_⟩
  have q := qQ l hl
  have hlen := lex_ends _ _ _ _ hl
  have ha1 := e1 _ _ ha
  refine ⟨_, rfl, a, _, dx, [], rfl, ha1, T.cl_Reader, T.na_Reader_tokens, by show 0 < 1000; omega, ?_⟩
  refine ⟨_, rfl, a, _, dx, [("tokens", .ref lt)], rfl, upd_same, T.cl_Reader, T.na_Reader_done, by show 1 < 1000; omega, ?_⟩
  rw [upd_upd]
  intro tb dxt htb hdxt hne
  have hmk : (upd (upd (upd H1 a (.ins (g.C "Reader") dx [("tokens", .ref lt), ("done", nV 0)])) dxt (.own tb)) tb (.ins (g.C "Table") dxt [])) tb = some (.ins (g.C "Table") dxt []) := upd_same
  have nta : tb ≠ a := fun z => by rw [z, upd_same] at htb; cases htb
  have nda : dxt ≠ a := fun z => by rw [z, upd_same] at hdxt; cases hdxt
  have htb1 : H1 tb = none := by rw [upd_ne nta] at htb; exact htb
  have hdx1 : H1 dxt = none := by rw [upd_ne nda] at hdxt; exact hdxt
  refine ⟨tb, dxt, rfl, hmk, fun ln h1 lr h2 n21 lq h3 n31 n32 H2 e2 l1 l2 l3 => ⟨rfl, ?_⟩⟩
  have ex : ∀ b o, H1 b = some o → b ≠ a → H2 b = some o := fun b o hb hba => by
    have n1 : b ≠ tb := fun z => by rw [z, htb1] at hb; cases hb
    have n2 : b ≠ dxt := fun z => by rw [z, hdx1] at hb; cases hb
    exact e2 b o (by rw [upd_ne n1, upd_ne n1, upd_ne n2, upd_ne hba]; exact hb)
  have h2a : H2 a = some (.ins (g.C "Reader") dx [("tokens", .ref lt), ("done", nV 0)]) := e2 _ _ (by rw [upd_ne (Ne.symm nta), upd_ne (Ne.symm nta), upd_ne (Ne.symm nda), upd_same]; rfl)
  refine ⟨_, rfl, a, _, dx, [("tokens", .ref lt), ("done", nV 0)], rfl, h2a, T.cl_Reader, T.na_Reader_table, by show 2 < 1000; omega, ?_⟩
  have fr : ∀ {p : Addr}, (upd (upd (upd H1 a (.ins (g.C "Reader") dx [("tokens", .ref lt), ("done", nV 0)])) dxt (.own tb)) tb (.ins (g.C "Table") dxt [])) p = none → p ≠ tb ∧ p ≠ a ∧ H1 p = none := fun {p} hp => by
    have n1 : p ≠ tb := fun z => by rw [z, upd_same] at hp; cases hp
    rw [upd_ne n1] at hp
    have n2 : p ≠ dxt := fun z => by rw [z, upd_same] at hp; cases hp
    rw [upd_ne n2] at hp
    have n3 : p ≠ a := fun z => by rw [z, upd_same] at hp; cases hp
    rw [upd_ne n3] at hp
    exact ⟨n1, n3, hp⟩
  obtain ⟨a1, a2, a3⟩ := fr h1
  obtain ⟨b1, b2, b3⟩ := fr h2
  obtain ⟨c1, c2, c3⟩ := fr h3
  have hlt1 : ∀ {p : Addr}, H1 p = none → p ≠ lt := fun hp z => by rw [z, hx] at hp; cases hp
  have nlta : lt ≠ a := fun z => by rw [z, ha1] at hx; cases hx
  have kt : Kt H1 (upd H2 a (.ins (g.C "Reader") dx [("tokens", .ref lt), ("done", nV 0), ("table", .ref tb)])) := fun b ys hb => by
    have : b ≠ a := fun z => by rw [z, ha1] at hb; cases hb
    rw [upd_ne this]
    exact ex b _ hb this
  refine q ⟨a, dx, lt, tb, dxt, ln, lr, lq⟩ _ rfl (Evl.fresh_back e1 a3) (Evl.fresh_back e1 b3) (Evl.fresh_back e1 c3) (fun b o hb hba => by rw [upd_ne hba]; exact ex b o (e1 _ _ hb) hba) ?_
  refine ⟨upd_same, ⟨xs, by rw [upd_ne nlta]; exact ex _ _ hx nlta, paired_keep (fun _ _ => TokAt.keep kt) hpr⟩, ⟨?_, ⟨[], by rw [upd_ne a2]; exact l1, .nil⟩, ⟨[], by rw [upd_ne b2]; exact l2, .nil⟩, ⟨[], by rw [upd_ne c2]; exact l3, .nil⟩⟩, ?_, ?_, ?_⟩
  · show (upd H2 a _) tb = _
    rw [upd_ne nta]
    exact e2 _ _ upd_same
  · simp only [List.nodup_cons, List.mem_cons, List.not_mem_nil, or_false, not_or, not_false_eq_true, List.nodup_nil, and_true]
    exact ⟨⟨Ne.symm nlta, Ne.symm nta, Ne.symm a2, Ne.symm b2, Ne.symm c2⟩, ⟨Ne.symm (hlt1 htb1), Ne.symm (hlt1 a3), Ne.symm (hlt1 b3), Ne.symm (hlt1 c3)⟩, ⟨Ne.symm a1, Ne.symm b1, Ne.symm c1⟩, ⟨Ne.symm n21, Ne.symm n31⟩, Ne.symm n32⟩
  · exact hlen.1
  · have := hlen.2; omega
def sp_read_table (g : Gx) : Sp := fun vs H Q E => ∃ (ta : Addr) (bs : List UInt8), vs = [.ref ta] ∧ TxA H ta bs ∧ (∀ f, Vamvsa.read bs = .error f → FltX g H E f.code f.place) ∧ ∀ t, Vamvsa.read bs = .ok t → ∀ v H', Ex H H' → TblAt g H' v t → Q v H'
abbrev N_read_table : List Str := ["text"]
theorem sc_read_table : FnScope N_read_table ["text"] (defScope s_read_table) := ⟨rfl, rfl, rfl, by decide +kernel, rfl, by decide +kernel, by decide +kernel⟩
set_option maxHeartbeats 8000000 in
theorem ok_read_table {g : Gx} (T : Tx g) : RGl g (CXr g) 8 "read_table" (sp_read_table g) := by
  refine glX (N := N_read_table) (ps := ["text"]) (st := s_read_table) T 50 rfl T.d_read_table sc_read_table (fun _ _ _ _ _ _ us hl => match us, hl with | [_], _ => rfl) (fun vs H Q E h => by obtain ⟨ta, bs, rfl, ht, qE, qQ⟩ := h; rfl) (fun f cdv A outer s H vs Q E hr h => ?_)
  obtain ⟨ta, bs, rfl, ht, qE, qQ⟩ := h
  refine ⟨_, (pss_cons (ps_if (pt_cmpR op_gt (pe_callB call_len_seq rfl T.f_len PySem.boot_len (pa_cons (pv 0) pa_nil)) (pe_gc rfl T.g_MOST_BYTES) (nomark _)) (pss_one (ps_xFault T hr (by decide) rfl tkR rfl (pa_cons (pe_gc rfl T.g_TOO_LONG) (pa_cons (pe_gc rfl T.g_MOST_BYTES) pa_nil)))) pss_nil) (pss_one (ps_ret (pe_me0 (ok_Reader_whole T) hr (by decide) pxR (pe_mk1 (ok_Reader_init T) hr (by decide) pxR rfl (pa_cons (pv 0) pa_nil)))))), ?_⟩

  rw [read_of] at qE qQ
  unfold VamvsBase.tokens at qE qQ
  refine ⟨_, rfl, ta, _, rfl, .inl (.inl (.inl ht)), _, _, rfl, rfl, _, rfl, ?_⟩
  rw [List.length_map]
  by_cases hl : 4096 < bs.length
  · rw [if_pos (show VamvsBase.TEXT < bs.length from hl)] at qE
    rw [decide_eq_true (by omega : (4096 : Int) < (bs.length : Int))]
    exact iteT ⟨_, _, rfl, fun d H' e hd => qE ⟨1, 4096⟩ rfl d H' e hd⟩
  · rw [if_neg (show ¬ VamvsBase.TEXT < bs.length from hl)] at qE qQ
    rw [decide_eq_false (by omega : ¬ (4096 : Int) < (bs.length : Int))]
    refine iteF ⟨_, rfl, fun a dx ha hdx hne => ?_⟩
    have e0 : Ex H (upd (upd H dx (.own a)) a (.ins (g.C "Reader") dx [])) := (Ex.new hdx).trans (Ex.new (by rw [upd_ne (Ne.symm hne)]; exact ha))
    refine ⟨a, dx, ta, bs, rfl, upd_same, e0 _ _ ht, by omega, fun f hf => ?_, fun l hl2 R H1 hRa r1 r2 r3 ex w1 => ⟨rfl, ?_⟩⟩
    · rw [hf] at qE
      intro d H' e hd
      exact qE f rfl d H' (e0.trans e) hd
    · rw [hl2] at qE qQ
      subst hRa
      obtain ⟨q1, rr, hq1⟩ := endsLast_cons (by have := w1.el; rw [List.drop_zero] at this; exact this)
      have back : ∀ {p : Addr}, (upd (upd H dx (.own R.a)) R.a (.ins (g.C "Reader") dx [])) p = none → H p = none := fun hp => Evl.fresh_back e0 hp
      have e1 : Ex H H1 := fun b o hb => by
        have n1 : b ≠ R.a := fun z => by rw [z, ha] at hb; cases hb
        exact ex b o (e0 _ _ hb) n1
      have toEx : ∀ {H2 : Hp}, Fx R H1 H2 → Ex H H2 := fun {H2} f b o hb => by
        refine f b o (e1 _ _ hb) (fun z => ?_) (fun z => ?_) (fun z => ?_) fun z => ?_
        · rw [z, ha] at hb; cases hb
        · rw [z, back r1] at hb; cases hb
        · rw [z, back r2] at hb; cases hb
        · rw [z, back r3] at hb; cases hb
      refine ⟨R.a, _, _, rfl, w1.ob, rfl, R, l, 0, q1, rr, rfl, w1, by rw [List.drop_zero]; exact hq1, fun f hf d H2 f2 hd => ?_, fun t htt H2 k2 f2 w2 => ?_⟩
      · rw [← hq1] at hf
        exact qE f hf d H2 (toEx f2) hd
      · rw [← hq1] at htt
        exact qQ t htt _ H2 (toEx f2) ⟨R.tb, _, _, _, _, rfl, w2.tb⟩
end Sr
set_option Elab.async false
set_option linter.all false
set_option maxRecDepth 100000
set_option maxHeartbeats 4000000
/-! # Tables: columns, sizes -/
namespace Sr
open PySem PySem.Spec PyProof.Rows L2
open Evl (Ex)
open Vamvsa (Table Row Ask)
/-! ## what holds of a table that was read -/
structure TOk (t : Table) : Prop where
  c1 : 1 ≤ t.cols.length
  c4 : t.cols.length ≤ 4
  cb : ∀ c ∈ t.cols, c.length ≤ 16
  r16 : t.rows.length ≤ 16
  q8 : t.asks.length ≤ 8
  rv : ∀ r ∈ t.rows, r.vs.length = t.cols.length ∧ (∀ x ∈ r.vs, x ≤ 9) ∧ -1000 ≤ r.m ∧ r.m ≤ 1000
  qv : ∀ a ∈ t.asks, a.g < 2 ^ t.cols.length ∧ 1 ≤ a.k ∧ a.k ≤ 99
theorem TOk.w16 {t : Table} (h : TOk t) : 2 ^ t.cols.length ≤ 16 := by
  have : 2 ^ t.cols.length ≤ 2 ^ 4 := Nat.pow_le_pow_right (by decide) h.c4
  omega
/-- what a reading gives -/
def EvP (te : TE) (σ : L2.St) (H : Hp) (P : Hp → V → Prop) : Prop := ∀ Q : VK, (∀ y H', Ex H H' → P H' y → Q y H') → te σ H Q
/-- a list made by a comprehension over a walk that leaves the heap as it is; no condition -/
theorem lcP {δ : Type} {J : It} {n : Nat} {G : Hp → Prop} {Y : Nat → Hp → V → Hp → Prop} (w : Walk J n G Y) {g : TG} {te : TE} {vs : List Nat} {σ : L2.St} {H1 : Hp} {D : Addr} {Qd : Hp → Prop} (Φ : Hp → V → δ → Prop) (mono : ∀ H H' v d, v ≠ .ref D → (∀ b o, b ≠ D → H b = some o → H' b = some o) → Φ H v d → Φ H' v d) (ds : List δ) (hn : ds.length = n) (hz : n ≤ 100000)
    (hD : H1 D = none) (hG : ∀ H, Ex H1 H → G H)
    (hs : ∀ i x H H' d, i < n → ds[i]? = some d → Ex H1 H → Y i H x H' → Ex H H' ∧ g x (wipe σ vs) H' fun σ2 H2 => wipe σ2 vs = wipe σ vs ∧ Ex H' H2 ∧ (H2 D ≠ none → EvP te σ2 H2 fun H3 y => Φ H3 y d ∧ y ≠ .ref D))
    (gm : ∀ x σ H Q Q', (∀ σ2 H2, Q σ2 H2 → Q' σ2 H2) → g x σ H Q → g x σ H Q')
    (hd : ∀ H acc, Ex H1 H → H D = some (.lst acc) → Paired (Φ H) acc ds → Qd H) :
    ∃ W : Nat → Nat → Hp → Prop, (∃ m, W 0 m (upd H1 D (.lst []))) ∧ ∀ i m H, W i m H →
      (J.stop i H ∧ Qd H) ∨ (J.go i H ∧ ∃ Nx : Hp → Prop, (∀ H', Nx H' → ∃ m', m' < m ∧ W (i + 1) m' H') ∧ ∀ x H', J.yld i H x H' → g x (wipe σ vs) H' fun σ2 H2 => wipe σ2 vs = wipe σ vs ∧ tYes σ2 H2 fun b H3 =>
        if b = true then te σ2 H3 fun y H4 => ∃ acc, H4 D = some (.lst acc) ∧ acc.length < sizeLine ∧ Nx (upd H4 D (.lst (acc ++ [y]))) else Nx H3) := by
  refine lc_it w (fun i H => Ex H1 H ∧ ∃ acc, H D = some (.lst acc) ∧ Paired (fun v d => Φ H v d ∧ v ≠ .ref D) acc (ds.take i)) ⟨Ex.new hD, [], upd_same, .nil⟩ (fun i H _ hP => hG H hP.1) (fun i x H H' hi hP hy => ?_) (fun H hP => ?_)
  · obtain ⟨e1, acc, hacc, hpr⟩ := hP
    obtain ⟨d, hd'⟩ : ∃ d, ds[i]? = some d := ⟨_, List.getElem?_eq_getElem (by omega)⟩
    obtain ⟨e2, hgo⟩ := hs i x H H' d hi hd' e1 hy
    refine gm _ _ _ _ _ (fun σ2 H2 hw => ?_) hgo
    obtain ⟨hw1, e3, hev⟩ := hw
    refine ⟨hw1, ?_⟩
    refine hev (by rw [e3 _ _ (e2 _ _ hacc)]; exact fun z => nomatch z) _ fun y H4 e4 hphi => ?_
    have e := (e2.trans e3).trans e4
    have hl := Paired.length hpr
    rw [List.length_take] at hl
    have es := Ex.mut (e1.trans e) (o := HO.lst (acc ++ [y])) hD
    refine ⟨acc, e _ _ hacc, by have := sizeLine_eq; omega, es, acc ++ [y], upd_same, ?_⟩
    rw [List.take_add_one, hd']
    refine paired_snoc (paired_keep (fun v d h => ⟨mono _ _ _ _ h.2 (fun b o hb hbo => by rw [upd_ne hb]; exact e _ _ hbo) h.1, h.2⟩) hpr) ⟨mono _ _ _ _ hphi.2 (fun b o hb hbo => by rw [upd_ne hb]; exact hbo) hphi.1, hphi.2⟩
  · obtain ⟨e1, acc, hacc, hpr⟩ := hP
    rw [List.take_of_length_le (by omega)] at hpr
    exact hd H acc e1 hacc (paired_keep (fun _ _ h => h.1) hpr)
theorem gName_mono {j : Nat} : ∀ (x : V) (σ : L2.St) (H : Hp) (Q Q' : L2.St → Hp → Prop), (∀ σ2 H2, Q σ2 H2 → Q' σ2 H2) → gName j x σ H Q → gName j x σ H Q' := fun _ _ _ _ _ h q => h _ _ q
theorem bt_mono {D : Addr} {H H' : Hp} {v : V} {d : List UInt8} (h : v ≠ .ref D) (k : ∀ b o, b ≠ D → H b = some o → H' b = some o) (b : BtAt H v d) : BtAt H' v d := let ⟨a, e, q⟩ := b; ⟨a, e, k a _ (fun z => h (by rw [e, z])) q⟩
theorem nl_mono {D : Addr} {H H' : Hp} {v : V} {d : List Nat} (h : v ≠ .ref D) (k : ∀ b o, b ≠ D → H b = some o → H' b = some o) (b : NlAt H v d) : NlAt H' v d := let ⟨a, e, q⟩ := b; ⟨a, e, k a _ (fun z => h (by rw [e, z])) q⟩
theorem ref_new {D a : Addr} {H : Hp} (h : H D ≠ none) (ha : H a = none) : V.ref a ≠ .ref D := fun z => h (by rw [← V.ref.inj z]; exact ha)
theorem ref_old {D a : Addr} {H : Hp} {o : HO} (h : H D = none) (ha : H a = some o) : V.ref a ≠ .ref D := fun z => by rw [V.ref.inj z, h] at ha; cases ha
/-! ## the table's methods -/
def sp_Table_how_many_groupings (g : Gx) : Sp := fun vs H Q _ => ∃ (v : V) (t : Table), vs = [v] ∧ TblAt g H v t ∧ t.cols.length ≤ 4 ∧ Q (nV (2 ^ t.cols.length)) H
abbrev N_Table_how_many_groupings : List Str := ["self"]
theorem sc_Table_how_many_groupings : FnScope N_Table_how_many_groupings ["self"] (defScope s_Table_how_many_groupings) := ⟨rfl, rfl, rfl, by decide +kernel, rfl, by decide +kernel, by decide +kernel⟩
set_option maxHeartbeats 8000000 in
theorem ok_Table_how_many_groupings {g : Gx} (T : Tx g) : RMt g CX0 1 (g.C "Table") "how_many_groupings" (sp_Table_how_many_groupings g) := by
  refine mt0 (N := N_Table_how_many_groupings) (ps := ["self"]) (st := s_Table_how_many_groupings) T 25 rfl T.cl_Table T.m_Table_how_many_groupings sc_Table_how_many_groupings (fun _ _ _ _ _ _ us hl => match us, hl with | [_], _ => rfl) (fun vs H Q E h => by obtain ⟨v, t, rfl, ⟨a, dx, ln, lr, lq, rfl, w⟩, hc, q⟩ := h; rfl) (fun f cdv A outer s H vs Q E hr h => ?_)
  obtain ⟨v, t, rfl, ⟨a, dx, ln, lr, lq, rfl, w⟩, hc, q⟩ := h
  refine ⟨_, (pss_one (ps_ret (pe_op op_shl pe_int (pe_callB call_len_seq rfl T.f_len PySem.boot_len (pa_cons (pe_fld (pv 0) rfl) pa_nil))))), ?_⟩

  obtain ⟨ns, h1, h2⟩ := w.hn
  have hl := Paired.length h2
  refine ⟨_, rfl, a, _, _, _, _, rfl, w.ob, T.cl_Table, T.na_Table_names, rfl, ln, ns, rfl, .inl (.inl (.inl h1)), 1, _, rfl, rfl, ⟨by omega, by omega, by decide⟩, ?_⟩
  have e : (1 : Int) * 2 ^ ((ns.length : Nat) : Int).toNat = ((2 ^ t.cols.length : Nat) : Int) := by
    rw [hl, Int.one_mul, Int.toNat_natCast]
    exact (Int.natCast_pow 2 t.cols.length).symm
  rw [show nV (2 ^ t.cols.length) = V.int ((1 : Int) * 2 ^ ((ns.length : Nat) : Int).toNat) from congrArg V.int e.symm] at q
  exact q
theorem bit_at : ∀ gr : Nat, gr < 16 → ∀ k : Nat, k < 4 → decide (V.int (Builtin.bitAnd ((gr : Int) / 2 ^ ((0 : Int) + (k : Nat)).toNat) 1) = V.int 1) = (gr / 2 ^ k % 2 == 1) := by decide +kernel
theorem cols_take {n g i : Nat} (h : i < n) : ((List.range n).take (i + 1)).filter (fun k => g / 2 ^ k % 2 == 1) = ((List.range n).take i).filter (fun k => g / 2 ^ k % 2 == 1) ++ (if (g / 2 ^ i % 2 == 1) = true then [i] else []) := by
  rw [List.take_add_one, List.getElem?_eq_getElem (by simpa using h), List.getElem_range, Option.toList_some, List.filter_append]
  congr 1
  rw [List.filter_cons]
  split <;> rfl
def sp_Table_columns_in (g : Gx) : Sp := fun vs H Q _ => ∃ (v : V) (t : Table) (gr : Nat), vs = [v, nV gr] ∧ TblAt g H v t ∧ t.cols.length ≤ 4 ∧ gr < 16 ∧ ∀ p H', H p = none → Ex H H' → H' p = some (.lst ((Vamvsa.columnsOf t.cols.length gr).map nV)) → Q (.ref p) H'
abbrev N_Table_columns_in : List Str := ["self", "grouping", "k"]
theorem sc_Table_columns_in : FnScope N_Table_columns_in ["self", "grouping"] (defScope s_Table_columns_in) := ⟨rfl, rfl, rfl, by decide +kernel, rfl, by decide +kernel, by decide +kernel⟩
set_option maxHeartbeats 8000000 in
theorem ok_Table_columns_in {g : Gx} (T : Tx g) : RMt g CX0 1 (g.C "Table") "columns_in" (sp_Table_columns_in g) := by
  refine mt0 (N := N_Table_columns_in) (ps := ["self", "grouping"]) (st := s_Table_columns_in) T 26 rfl T.cl_Table T.m_Table_columns_in sc_Table_columns_in (fun _ _ _ _ _ _ us hl => match us, hl with | [_, _], _ => rfl) (fun vs H Q E h => by obtain ⟨v, t, gr, rfl, ⟨a, dx, ln, lr, lq, rfl, w⟩, hc, hgr, q⟩ := h; rfl) (fun f cdv A outer s H vs Q E hr h => ?_)
  obtain ⟨v, t, gr, rfl, ⟨a, dx, ln, lr, lq, rfl, w⟩, hc, hgr, q⟩ := h
  refine ⟨_, (pss_one (ps_ret (pe_lc (own := [("k", 2)]) rfl sc_Table_columns_in.nd (pi_range1 rfl T.f_range (pa_cons (pe_callB call_len_seq rfl T.f_len PySem.boot_len (pa_cons (pe_fld (pv 0) rfl) pa_nil)) pa_nil)) (blkOk_by (N := N_Table_columns_in) (sc := defScope s_Table_columns_in) (by decide +kernel)) (fun _ _ _ _ _ => (pg_name (i := 2) sc_Table_columns_in.nd rfl (Or.inl rfl))) (fun _ _ _ _ _ => (pts_one (pt_cmpR op_eq (pe_op op_and (pe_op op_shr (pv 1) (pv 2)) pe_int) pe_int (nomark _)))) (fun _ _ _ _ _ => (pv 2))))), ?_⟩

  obtain ⟨ns, h1, h2⟩ := w.hn
  have hl := Paired.length h2
  refine ⟨_, rfl, a, _, _, _, _, rfl, w.ob, T.cl_Table, T.na_Table_names, rfl, ln, ns, rfl, .inl (.inl (.inl h1)), _, rfl, by omega, by omega, fun D hD => ?_⟩
  rw [show ((ns.length : Nat) : Int).toNat = t.cols.length by omega]
  refine lc_range (lo := 0) (n := t.cols.length) (fun i H' => Ex H H' ∧ H' D = some (.lst ((((List.range t.cols.length).take i).filter fun k => gr / 2 ^ k % 2 == 1).map nV))) ⟨Ex.new hD, upd_same⟩ (fun i H' hi hP => ⟨rfl, ?_⟩) (fun H' hP => ?_)
  · refine ⟨_, rfl, _, rfl, _, _, rfl, rfl, by omega, _, _, rfl, rfl, rfl, _, rfl, ?_⟩
    rw [bit_at gr hgr i (by omega)]
    have ct := cols_take (n := t.cols.length) (g := gr) (i := i) hi
    cases hb : (gr / 2 ^ i % 2 == 1) with
    | true =>
      rw [hb, if_pos rfl] at ct
      refine iteT ⟨_, rfl, _, hP.2, ?_, Ex.mut hP.1 hD, ?_⟩
      · rw [List.length_map]
        have := List.length_filter_le (fun k => gr / 2 ^ k % 2 == 1) ((List.range t.cols.length).take i)
        rw [List.length_take] at this
        have := sizeLine_eq
        omega
      · rw [upd_same, ct, List.map_append]
        show some (HO.lst (_ ++ [V.int ((0 : Int) + (i : Nat))])) = some (HO.lst (_ ++ [nV i]))
        rw [Int.zero_add]
    | false =>
      rw [hb, if_neg (by decide), List.append_nil] at ct
      exact iteF ⟨hP.1, by rw [hP.2, ct]⟩
  · rw [List.take_of_length_le (by simp)] at hP
    exact q D H' hD hP.1 hP.2
/-! ## how many unlike keys -/
theorem nd_len {α : Type} [DecidableEq α] : ∀ (l m : List α), l.Nodup → (∀ x ∈ l, x ∈ m) → l.length ≤ m.length
  | [], _, _, _ => Nat.zero_le _
  | x :: l, m, nd, h => by
    have hx := h x List.mem_cons_self
    have h1 : l.length ≤ (m.erase x).length := nd_len l (m.erase x) (List.nodup_cons.mp nd).2 fun y hy => by
      have hne : y ≠ x := fun e => (List.nodup_cons.mp nd).1 (by rw [← e]; exact hy)
      exact (List.mem_erase_of_ne hne).mpr (h y (List.mem_cons_of_mem _ hy))
    have h2 : 0 < m.length := List.length_pos_of_mem hx
    rw [List.length_erase_of_mem hx] at h1
    rw [List.length_cons]
    omega
abbrev keyK (k : List Nat) : List Key := k.map fun (n : Nat) => (Sum.inl (n : Int) : Key)
theorem keyK_inj {a b : List Nat} : keyK a = keyK b ↔ a = b := by
  constructor
  · intro h
    induction a generalizing b with
    | nil => cases b with
      | nil => rfl
      | cons y ys => cases h
    | cons x xs ih => cases b with
      | nil => cases h
      | cons y ys =>
        obtain ⟨h1, h2⟩ := List.cons.inj h
        have h3 := Sum.inl.inj h1
        rw [ih h2, show x = y by omega]
  · intro h; rw [h]
theorem key_vals (k : List Nat) : (keyK k).map kV = k.map nV := by rw [List.map_map]; rfl
/-- the keys that were put, each once -/
theorem putK_keys {κ : Type} [DecidableEq κ] (kvs : List (κ × V)) (k : κ) (v : V) (nd : (kvs.map (·.1)).Nodup) : ((putK kvs k v).map (·.1)).Nodup ∧ ∀ x, x ∈ (putK kvs k v).map (·.1) ↔ x = k ∨ x ∈ kvs.map (·.1) := by
  unfold putK
  split
  · rename_i h
    have e : (kvs.map fun kv => if kv.1 = k then (kv.1, v) else kv).map (·.1) = kvs.map (·.1) := by
      rw [List.map_map]
      refine List.map_congr_left fun kv _ => ?_
      show (if kv.1 = k then (kv.1, v) else kv).1 = kv.1
      split <;> rfl
    rw [e]
    refine ⟨nd, fun x => ⟨.inr, fun hx => ?_⟩⟩
    rcases hx with hx | hx
    · obtain ⟨kv, h1, h2⟩ := List.any_eq_true.mp h
      exact List.mem_map.mpr ⟨kv, h1, by rw [hx]; exact of_decide_eq_true h2⟩
    · exact hx
  · rename_i h
    rw [List.map_append]
    refine ⟨?_, fun x => ?_⟩
    · refine List.nodup_append.mpr ⟨nd, by simp, fun a ha b hb => ?_⟩
      intro e
      obtain ⟨kv, h1, h2⟩ := List.mem_map.mp ha
      refine h (List.any_eq_true.mpr ⟨kv, h1, decide_eq_true ?_⟩)
      simp only [List.map_cons, List.map_nil, List.mem_singleton] at hb
      rw [h2, e, hb]
    · rw [List.mem_append]
      simp only [List.map_cons, List.map_nil, List.mem_singleton]
      exact or_comm
open Vamvsa (lexLess) in
theorem lex_irr : ∀ a : List Nat, lexLess a a = false
  | [] => rfl
  | x :: a => by unfold lexLess; rw [lex_irr a]; simp
open Vamvsa (lexLess) in
theorem lex_trans : ∀ a b c : List Nat, lexLess a b = true → lexLess b c = true → lexLess a c = true
  | [], _, _, h, _ => by cases h
  | _ :: _, [], _, h, _ => by cases h
  | _ :: _, _ :: _, [], _, h => by cases h
  | x :: a, y :: b, z :: c, h1, h2 => by
    unfold lexLess at h1 h2 ⊢
    simp only [Bool.or_eq_true, decide_eq_true_eq, Bool.and_eq_true, beq_iff_eq] at h1 h2 ⊢
    rcases h1 with h1 | ⟨h1, h1'⟩
    · rcases h2 with h2 | ⟨h2, _⟩
      · exact .inl (by omega)
      · exact .inl (by omega)
    · rcases h2 with h2 | ⟨h2, h2'⟩
      · exact .inl (by omega)
      · exact .inr ⟨by omega, lex_trans a b c h1' h2'⟩
open Vamvsa (lexLess) in
theorem lex_tri : ∀ a b : List Nat, a.length = b.length → a ≠ b → lexLess a b = false → lexLess b a = true
  | [], [], _, h, _ => absurd rfl h
  | [], _ :: _, h, _, _ => by cases h
  | _ :: _, [], h, _, _ => by cases h
  | x :: a, y :: b, hl, hne, h => by
    unfold lexLess at h ⊢
    simp only [Bool.or_eq_false_iff, decide_eq_false_iff_not, Bool.and_eq_false_iff, Bool.or_eq_true, decide_eq_true_eq, Bool.and_eq_true, beq_iff_eq] at h ⊢
    obtain ⟨h1, h2⟩ := h
    by_cases e : x = y
    · subst e
      refine .inr ⟨rfl, lex_tri a b (by simpa using hl) (fun z => hne (by rw [z])) ?_⟩
      rcases h2 with h2 | h2
      · simp at h2
      · exact h2
    · exact .inl (by omega)
/-- sorted by key, the keys of one length -/
structure SortK (m : Nat) (l : List Vamvsa.Group) : Prop where
  pw : l.Pairwise fun x y => Vamvsa.lexLess x.key y.key = true
  ln : ∀ x ∈ l, x.key.length = m
theorem putGroup_ok {m : Nat} {x : Vamvsa.Group} (hx : x.key.length = m) : ∀ {l : List Vamvsa.Group}, SortK m l → SortK m (Vamvsa.putGroup x l) ∧ ∀ k, k ∈ (Vamvsa.putGroup x l).map (·.key) ↔ k = x.key ∨ k ∈ l.map (·.key)
  | [], _ => ⟨⟨by simp [Vamvsa.putGroup], by simp [Vamvsa.putGroup, hx]⟩, fun k => by simp [Vamvsa.putGroup]⟩
  | y :: r, s => by
    obtain ⟨h1, h2⟩ := List.pairwise_cons.mp s.pw
    have hy := s.ln y List.mem_cons_self
    have sr : SortK m r := ⟨h2, fun z hz => s.ln z (List.mem_cons_of_mem _ hz)⟩
    unfold Vamvsa.putGroup
    by_cases c1 : x.key = y.key
    · rw [if_pos c1]
      refine ⟨⟨List.pairwise_cons.mpr ⟨h1, h2⟩, fun z hz => ?_⟩, fun k => ?_⟩
      · rcases List.mem_cons.mp hz with e | e
        · rw [e]; exact hy
        · exact sr.ln z e
      · show k ∈ y.key :: r.map (·.key) ↔ k = x.key ∨ k ∈ y.key :: r.map (·.key)
        rw [c1, List.mem_cons]
        constructor
        · exact .inr
        · rintro (h | h)
          · exact .inl h
          · exact h
    · rw [if_neg c1]
      by_cases c2 : Vamvsa.lexLess x.key y.key = true
      · rw [if_pos c2]
        refine ⟨⟨List.pairwise_cons.mpr ⟨fun z hz => ?_, s.pw⟩, fun z hz => ?_⟩, fun k => by rw [List.map_cons, List.mem_cons]⟩
        · rcases List.mem_cons.mp hz with e | e
          · rw [e]; exact c2
          · exact lex_trans _ _ _ c2 (h1 z e)
        · rcases List.mem_cons.mp hz with e | e
          · rw [e]; exact hx
          · exact s.ln z e
      · rw [if_neg c2]
        obtain ⟨s3, m3⟩ := putGroup_ok hx sr
        have hyx := lex_tri x.key y.key (by rw [hx, hy]) c1 (by cases h : Vamvsa.lexLess x.key y.key with | false => rfl | true => exact absurd h c2)
        refine ⟨⟨List.pairwise_cons.mpr ⟨fun z hz => ?_, s3.pw⟩, fun z hz => ?_⟩, fun k => ?_⟩
        · rcases (m3 z.key).mp (List.mem_map.mpr ⟨z, hz, rfl⟩) with e | e
          · rw [e]; exact hyx
          · obtain ⟨z2, hz2, e2⟩ := List.mem_map.mp e
            rw [← e2]; exact h1 z2 hz2
        · rcases List.mem_cons.mp hz with e | e
          · rw [e]; exact hy
          · exact s3.ln z e
        · rw [List.map_cons, List.mem_cons, m3, List.map_cons, List.mem_cons]
          constructor
          · rintro (h | h | h)
            · exact .inr (.inl h)
            · exact .inl h
            · exact .inr (.inr h)
          · rintro (h | h | h)
            · exact .inr (.inl h)
            · exact .inl h
            · exact .inr (.inr h)
theorem sortK_nd {m : Nat} {l : List Vamvsa.Group} (s : SortK m l) : (l.map (·.key)).Nodup := by
  refine List.pairwise_map.mpr (s.pw.imp fun {a b} h e => ?_)
  rw [e, lex_irr] at h
  cases h
theorem collect_ok {m : Nat} : ∀ (l : List Vamvsa.Group) (acc : List Vamvsa.Group), (∀ x ∈ l, x.key.length = m) → SortK m acc → SortK m (l.foldl (fun r x => Vamvsa.putGroup x r) acc) ∧ ∀ k, k ∈ (l.foldl (fun r x => Vamvsa.putGroup x r) acc).map (·.key) ↔ k ∈ l.map (·.key) ∨ k ∈ acc.map (·.key)
  | [], acc, _, s => ⟨s, fun k => by simp⟩
  | x :: l, acc, h, s => by
    obtain ⟨s1, m1⟩ := putGroup_ok (h x List.mem_cons_self) s
    obtain ⟨s2, m2⟩ := collect_ok l (Vamvsa.putGroup x acc) (fun z hz => h z (List.mem_cons_of_mem _ hz)) s1
    refine ⟨s2, fun k => ?_⟩
    rw [List.foldl_cons, m2, m1, List.map_cons, List.mem_cons]
    constructor
    · rintro (h | h | h)
      · exact .inl (.inr h)
      · exact .inl (.inl h)
      · exact .inr h
    · rintro ((h | h) | h)
      · exact .inr (.inl h)
      · exact .inl h
      · exact .inr (.inr h)
/-- the dict's keys are as many as the groups -/
theorem size_eq (t : Table) (gr : Nat) (kvs : List (List Key × V)) (nd : (kvs.map (·.1)).Nodup) (hk : ∀ k, k ∈ kvs.map (·.1) ↔ k ∈ t.rows.map fun r => keyK (Vamvsa.keyOf t.cols.length gr r.vs)) : kvs.length = Vamvsa.sizeOf_ t gr := by
  have hlen : ∀ x ∈ t.rows.map (fun r => (⟨Vamvsa.keyOf (Vamvsa.width t) gr r.vs, r.m, 1⟩ : Vamvsa.Group)), x.key.length = (Vamvsa.columnsOf t.cols.length gr).length := fun x hx => by
    obtain ⟨r, _, e⟩ := List.mem_map.mp hx
    rw [← e]
    exact List.length_map _
  obtain ⟨s, m⟩ := collect_ok _ [] hlen ⟨.nil, fun x hx => by cases hx⟩
  have nd2 := sortK_nd s
  have m' : ∀ k, k ∈ (Vamvsa.groupsOf t gr).map (·.key) ↔ k ∈ t.rows.map fun r => Vamvsa.keyOf t.cols.length gr r.vs := fun k => by
    show k ∈ ((t.rows.map fun r => (⟨Vamvsa.keyOf (Vamvsa.width t) gr r.vs, r.m, 1⟩ : Vamvsa.Group)).foldl (fun r x => Vamvsa.putGroup x r) []).map (·.key) ↔ _
    rw [m]
    simp only [List.map_nil, List.not_mem_nil, or_false, List.map_map]
    rfl
  have e1 : ((Vamvsa.groupsOf t gr).map (·.key)).length = Vamvsa.sizeOf_ t gr := List.length_map _
  have nd3 : (((Vamvsa.groupsOf t gr).map (·.key)).map keyK).Nodup := List.pairwise_map.mpr (nd2.imp fun {a b} h e => h (keyK_inj.mp e))
  have both : ∀ k, k ∈ kvs.map (·.1) ↔ k ∈ ((Vamvsa.groupsOf t gr).map (·.key)).map keyK := fun k => by
    rw [hk]
    constructor
    · intro h
      obtain ⟨r, hr, e⟩ := List.mem_map.mp h
      exact List.mem_map.mpr ⟨_, (m' _).mpr (List.mem_map.mpr ⟨r, hr, rfl⟩), e⟩
    · intro h
      obtain ⟨k2, hk2, e⟩ := List.mem_map.mp h
      obtain ⟨r, hr, e2⟩ := List.mem_map.mp ((m' _).mp hk2)
      exact List.mem_map.mpr ⟨r, hr, by rw [← e, ← e2]⟩
  have l1 := nd_len _ _ nd fun k h => (both k).mp h
  have l2 := nd_len _ _ nd3 fun k h => (both k).mpr h
  simp only [List.length_map] at l1 l2
  show kvs.length = (Vamvsa.groupsOf t gr).length
  omega
def sp_Table_size_of (g : Gx) : Sp := fun vs H Q _ => ∃ (v : V) (t : Table) (gr : Nat), vs = [v, nV gr] ∧ TblAt g H v t ∧ TOk t ∧ gr < 16 ∧ ∀ H', Ex H H' → Q (nV (Vamvsa.sizeOf_ t gr)) H'
abbrev N_Table_size_of : List Str := ["self", "grouping", "columns", "found", "numbers", "summed", "k"]
theorem sc_Table_size_of : FnScope N_Table_size_of ["self", "grouping"] (defScope s_Table_size_of) := ⟨rfl, rfl, rfl, by decide +kernel, rfl, by decide +kernel, by decide +kernel⟩
set_option maxHeartbeats 8000000 in
theorem ok_Table_size_of {g : Gx} (T : Tx g) : RMt g CX0 2 (g.C "Table") "size_of" (sp_Table_size_of g) := by
  refine mt0 (N := N_Table_size_of) (ps := ["self", "grouping"]) (st := s_Table_size_of) T 27 rfl T.cl_Table T.m_Table_size_of sc_Table_size_of (fun _ _ _ _ _ _ us hl => match us, hl with | [_, _], _ => rfl) (fun vs H Q E h => by obtain ⟨v, t, gr, rfl, ht, ok, hgr, q⟩ := h; rfl) (fun f cdv A outer s H vs Q E hr h => ?_)
  obtain ⟨v, t, gr, rfl, ht, ok, hgr, q⟩ := h
  refine ⟨_, (pss_cons (ps_set (i := 2) sc_Table_size_of.nd rfl (Or.inl rfl) (pe_me (ok_Table_columns_in T) hr (by decide) pass0 (pv 0) (pa_cons (pv 1) pa_nil))) (pss_cons (ps_set (i := 3) sc_Table_size_of.nd rfl (Or.inl rfl) pe_dnewT) (pss_cons (ps_for PassesOwn.never rfl (pi_list (pe_fld (pv 0) rfl)) (pg_tup rfl (pgs_cons (pg_name (i := 4) sc_Table_size_of.nd rfl (Or.inr rfl)) (pgs_cons (pg_name (i := 5) sc_Table_size_of.nd rfl (Or.inl rfl)) pgs_nil))) (pss_one (ps_dput (u1 hr) (pv 3) (pe_callTy call_tuple_of rfl T.f_tuple (by decide +kernel) (pa_cons (pe_lc (own := [("k", 6)]) (tt := tYes) rfl sc_Table_size_of.nd (pi_list (pv 2)) (blkOk_by (N := N_Table_size_of) (sc := defScope s_Table_size_of) (by decide +kernel)) (fun _ _ _ _ _ => (pg_name (i := 6) sc_Table_size_of.nd rfl (Or.inl rfl))) (fun _ _ _ _ _ => pts_nil) (fun _ _ _ _ _ => (pe_ix (r := rIxT g.K) ix_tup (pv 4) (pv 6) (fun _ _ => rfl)))) pa_nil)) pe_bl rfl))) (pss_one (ps_ret (pe_callB call_len_dT rfl T.f_len PySem.boot_len (pa_cons (pv 3) pa_nil))))))), ?_⟩

  obtain ⟨a, dx, ln, lr, lq, rfl, w⟩ := id ht
  obtain ⟨rs, hr1, hr2⟩ := w.hr
  have lr' := Paired.length hr2
  refine ⟨_, rfl, a, _, _, rfl, w.ob, rfl, _, rfl, _, t, gr, rfl, ht, ok.c4, hgr, fun pc H1 hpc e1 h1 => ?_⟩
  intro pd hpd
  have e2 := e1.trans (Ex.new (o := HO.dT []) hpd)
  have hpd0 := Evl.fresh_back e1 hpd
  have hpc2 := Ex.new (o := HO.dT []) hpd _ _ h1
  refine ⟨_, rfl, a, _, _, _, _, rfl, (w.ex e2).ob, T.cl_Table, T.na_Table_rows, rfl, lr, rfl, ⟨rs, .inl (.inl (e2 _ _ hr1))⟩, ?_⟩
  refine for_list (xs := rs) (fun i σ H' => Ex H H' ∧ H' pc = some (.lst ((Vamvsa.columnsOf t.cols.length gr).map nV)) ∧ (∃ kvs, H' pd = some (.dT kvs) ∧ kvs.length ≤ i ∧ (kvs.map (·.1)).Nodup ∧ ∀ k, k ∈ kvs.map (·.1) ↔ k ∈ (t.rows.take i).map fun r => keyK (Vamvsa.keyOf t.cols.length gr r.vs)) ∧
    ∃ z1 z2 : Option V, σ = [some (.ref a), some (nV gr), some (.ref pc), some (.ref pd), z1, z2, none])
    ⟨e2, hpc2, ⟨[], upd_same, Nat.le_refl 0, List.Pairwise.nil, fun k => by simp⟩, none, none, rfl⟩ (fun i σ H' _ hP => .inl (.inl (hP.1 _ _ hr1))) (fun i x σ H2 hx hP => ?_) (fun σ H2 hP => ?_)
  · obtain ⟨e3, h3, ⟨kvs, hkv, hkl, hnd, hmem⟩, z1, z2, rfl⟩ := hP
    obtain ⟨r, hr, ⟨pa, pb, rfl, hpa, hpb⟩⟩ := L2.paired_get hr2 hx
    have hpa3 := e3 _ _ hpa
    have hpb3 := e3 _ _ hpb
    have hi : i < t.rows.length := (List.getElem?_eq_some_iff.mp hr).1
    obtain ⟨hvl, hv9, _⟩ := ok.rv r (List.mem_of_getElem? hr)
    refine ⟨pa, _, rfl, .inl (.inl hpa3), rfl, _, _, rfl, _, _, rfl, rfl, ?_⟩
    have npd : ∀ {b : Addr} {o : HO}, H b = some o → b ≠ pd := fun h z => by rw [z, hpd0] at h; cases h
    have npc : pc ≠ pd := fun z => by rw [z, hkv] at h3; cases h3
    refine ⟨_, rfl, _, rfl, pc, rfl, ⟨_, .inl (.inl h3)⟩, fun D hD => ?_⟩
    refine lc_list (xs := (Vamvsa.columnsOf t.cols.length gr).map nV) (fun j H' => Ex H2 H' ∧ H' D = some (.lst (((Vamvsa.columnsOf t.cols.length gr).take j).map fun k => nV (r.vs.getD k 0)))) ⟨Ex.new hD, upd_same⟩ (fun j H' _ hQ => .inl (.inl (hQ.1 _ _ h3))) (fun j y H' hy hQ => ⟨rfl, ?_⟩) (fun H' hQ => ?_)
    · rw [List.getElem?_map] at hy
      cases hk : (Vamvsa.columnsOf t.cols.length gr)[j]? with
      | none => rw [hk] at hy; cases hy
      | some k =>
        rw [hk] at hy
        cases hy
        have hkm : k < t.cols.length := by
          have := (List.mem_filter.mp (List.mem_of_getElem? hk)).1
          exact List.mem_range.mp this
        have hj : j < (Vamvsa.columnsOf t.cols.length gr).length := (List.getElem?_eq_some_iff.mp hk).1
        have hcl : (Vamvsa.columnsOf t.cols.length gr).length ≤ 4 := by
          have := List.length_filter_le (fun i => gr / 2 ^ i % 2 == 1) (List.range t.cols.length)
          rw [List.length_range] at this
          have := ok.c4
          unfold Vamvsa.columnsOf
          omega
        have hvk : (r.vs.map nV)[k]? = some (nV (r.vs.getD k 0)) := by
          rw [List.getElem?_map, List.getD_eq_getElem?_getD, List.getElem?_eq_getElem (by omega)]; rfl
        refine ⟨_, rfl, _, rfl, pb, _, (k : Int), _, rfl, rfl, .inl (.inl (hQ.1 _ _ hpb3)), atI_n hvk, _, hQ.2, ?_, Ex.mut hQ.1 hD, ?_⟩
        · rw [List.length_map, List.length_take]; have := sizeLine_eq; omega
        · rw [upd_same, List.take_add_one, hk, List.map_append]; rfl
    · rw [List.length_map, List.take_length] at hQ
      have hkey : ((Vamvsa.columnsOf t.cols.length gr).map fun k => nV (r.vs.getD k 0)) = (keyK (Vamvsa.keyOf t.cols.length gr r.vs)).map kV := by
        rw [key_vals]; unfold Vamvsa.keyOf; rw [List.map_map]; rfl
      rw [hkey] at hQ
      refine ⟨D, _, rfl, .inl ⟨.inl (.inl hQ.2), fun pk hpk => ?_⟩⟩
      have e4 := hQ.1.trans (Ex.new (o := HO.tup ((keyK (Vamvsa.keyOf t.cols.length gr r.vs)).map kV)) hpk)
      have hkv4 := e4 _ _ hkv
      refine ⟨pd, _, rfl, DPut.t hkv4 upd_same (by have := ok.r16; have := sizeLine_eq; omega), ?_⟩
      have e3d : Ex H (upd (upd H' pk (HO.tup ((keyK (Vamvsa.keyOf t.cols.length gr r.vs)).map kV))) pd (.dT (putK kvs (keyK (Vamvsa.keyOf t.cols.length gr r.vs)) (.bl true)))) := Ex.mut (e3.trans e4) hpd0
      have pk' := putK_keys kvs (keyK (Vamvsa.keyOf t.cols.length gr r.vs)) (.bl true) hnd
      refine ⟨e3d, by rw [upd_ne npc]; exact e4 _ _ h3, ⟨_, upd_same, by have := length_putK kvs (keyK (Vamvsa.keyOf t.cols.length gr r.vs)) (.bl true); omega, pk'.1, fun x => ?_⟩, _, _, rfl⟩
      rw [pk'.2, hmem, List.take_add_one, hr, List.map_append, List.mem_append]
      simp only [Option.toList_some, List.map_cons, List.map_nil, List.mem_singleton]
      exact or_comm
  · obtain ⟨e3, h3, ⟨kvs, hkv, hkl, hnd, hmem⟩, z1, z2, rfl⟩ := hP
    rw [lr', List.take_length] at hmem
    refine ⟨_, rfl, pd, kvs, rfl, hkv, ?_⟩
    rw [size_eq t gr kvs hnd hmem]
    exact q H2 e3
end Sr
set_option Elab.async false
set_option linter.all false
set_option maxRecDepth 100000
set_option maxHeartbeats 4000000
/-! # Tables: their one form -/
namespace Sr
open PySem PySem.Spec PyProof.Rows L2
open Evl (Ex)
open Vamvsa (Table Row Ask)
abbrev byt (s : String) : List UInt8 := VamvsBase.word s
def PtAt (H : Hp) (v : V) (bs : List UInt8) : Prop := ∃ p, v = .ref p ∧ (H p = some (.tup (bs.map bV)) ∨ H p = some (.lst (bs.map bV)))
theorem PtAt.ex {H H' : Hp} {v : V} {bs : List UInt8} (e : Ex H H') (h : PtAt H v bs) : PtAt H' v bs := let ⟨p, ev, h⟩ := h; ⟨p, ev, h.imp (e _ _) (e _ _)⟩
theorem BtAt.pt {H : Hp} {v : V} {bs : List UInt8} (h : BtAt H v bs) : PtAt H v bs := let ⟨p, e, h⟩ := h; ⟨p, e, .inl h⟩
theorem joined_snoc (sep : List UInt8) (x : List UInt8) : ∀ l : List (List UInt8), VamvsBase.joined sep (l ++ [x]) = if l = [] then x else VamvsBase.joined sep l ++ (sep ++ x)
  | [] => rfl
  | [a] => by
    show a ++ sep ++ x = _
    rw [if_neg (by simp), List.append_assoc]; rfl
  | a :: b :: l => by
    have ih := joined_snoc sep x (b :: l)
    rw [if_neg (by simp)] at ih ⊢
    show a ++ sep ++ VamvsBase.joined sep ((b :: l) ++ [x]) = (a ++ sep ++ VamvsBase.joined sep (b :: l)) ++ (sep ++ x)
    rw [ih]
    simp only [List.append_assoc]
theorem joined_len (sep : List UInt8) (m : Nat) : ∀ l : List (List UInt8), (∀ x ∈ l, x.length ≤ m) → (VamvsBase.joined sep l).length ≤ l.length * (m + sep.length)
  | [], _ => Nat.zero_le _
  | [a], h => by
    have := h a (by simp)
    show a.length ≤ 1 * _
    omega
  | a :: b :: l, h => by
    have ih := joined_len sep m (b :: l) fun x hx => h x (List.mem_cons_of_mem _ hx)
    have ha := h a (by simp)
    show (a ++ sep ++ VamvsBase.joined sep (b :: l)).length ≤ _
    rw [List.length_append, List.length_append]
    rw [List.length_cons, Nat.succ_mul]
    omega
def sp_joined (g : Gx) : Sp := fun vs H Q _ => ∃ (a b : Addr) (xs : List V) (pss : List (List UInt8)) (bt : List UInt8), vs = [.ref a, .ref b] ∧ H a = some (.lst xs) ∧ Paired (PtAt H) xs pss ∧ H b = some (.tup (bt.map bV)) ∧ pss.length ≤ 50 ∧ (∀ p ∈ pss, p.length ≤ 2000) ∧ bt.length ≤ 10 ∧ ∀ p H', H p = none → Ex H H' → H' p = some (.lst ((VamvsBase.joined bt pss).map bV)) → Q (.ref p) H'
abbrev N_joined : List Str := ["parts", "between", "found", "k", "part"]
theorem sc_joined : FnScope N_joined ["parts", "between"] (defScope s_joined) := ⟨rfl, rfl, rfl, by decide +kernel, rfl, by decide +kernel, by decide +kernel⟩
set_option maxHeartbeats 8000000 in
theorem ok_joined {g : Gx} (T : Tx g) : RGl g CX0 1 "joined" (sp_joined g) := by
  refine gl0 (N := N_joined) (ps := ["parts", "between"]) (st := s_joined) T 28 rfl T.d_joined sc_joined (fun _ _ _ _ _ _ us hl => match us, hl with | [_, _], _ => rfl) (fun vs H Q E h => by obtain ⟨a, b, xs, pss, bt, rfl, ha, hpr, hb, h50, h2000, h10, q⟩ := h; rfl) (fun f cdv A outer s H vs Q E hr h => ?_)
  obtain ⟨a, b, xs, pss, bt, rfl, ha, hpr, hb, h50, h2000, h10, q⟩ := h
  refine ⟨_, (pss_cons (ps_set (i := 2) sc_joined.nd rfl (Or.inl rfl) (pe_lst pa_nil)) (pss_cons (ps_for PassesOwn.never rfl (pi_enum rfl T.f_enumerate (pa_cons (pv 0) pa_nil)) (pg_tup rfl (pgs_cons (pg_name (i := 3) sc_joined.nd rfl (Or.inl rfl)) (pgs_cons (pg_name (i := 4) sc_joined.nd rfl (Or.inl rfl)) pgs_nil))) (pss_cons (ps_if (pt_cmpR op_gt (pv 3) pe_int (nomark _)) (pss_one (ps_expr (pe_bm PySem.F.plainAttrs_list PySem.F.slot_list_extend PySem.F.type_list_extend mt_extendA (pv 2) (pa_cons (pv 1) pa_nil)))) pss_nil) (pss_one (ps_expr (pe_bm PySem.F.plainAttrs_list PySem.F.slot_list_extend PySem.F.type_list_extend mt_extendA (pv 2) (pa_cons (pv 4) pa_nil)))))) (pss_one (ps_ret (pv 2))))), ?_⟩

  have hl := Paired.length hpr
  refine ⟨by decide, fun pf hpf => ?_⟩
  have e0 := Ex.new (o := HO.lst []) hpf
  refine ⟨_, rfl, a, xs, rfl, .inl (.inl (e0 _ _ ha)), ?_⟩
  refine for_it walk_enum (fun i σ H' => Ex H H' ∧ H' pf = some (.lst ((VamvsBase.joined bt (pss.take i)).map bV)) ∧ ∃ z1 z2 : Option V, σ = [some (.ref a), some (.ref b), some (.ref pf), z1, z2]) ⟨e0, upd_same, none, none, rfl⟩ (fun i σ H' _ hP => .inl (.inl (hP.1 _ _ ha))) (fun i x σ H1 H2 hi hP hy => ?_) (fun σ H1 hP => ?_)
  · obtain ⟨e1, h1, z1, z2, rfl⟩ := hP
    obtain ⟨Tp, k, y, rfl, hT, rfl, hk, hy⟩ := hy
    cases hk
    obtain ⟨ps, hps, hpt⟩ := L2.paired_get hpr hy
    have e2 := Ex.new (o := HO.tup [V.int (i : Nat), y]) hT
    have h2 := e2 _ _ h1
    have hb2 := e2 _ _ (e1 _ _ hb)
    obtain ⟨p, rfl, hp2⟩ := PtAt.ex (e1.trans e2) hpt
    have e12 := e1.trans e2
    have npf : p ≠ pf := fun z => by
      obtain ⟨p', e', h'⟩ := hpt
      cases e'
      rcases h' with h' | h' <;> (rw [z, hpf] at h'; cases h')
    refine ⟨Tp, _, rfl, .inl (.inl upd_same), rfl, _, _, rfl, _, _, rfl, rfl, ?_⟩
    have hps2 := h2000 ps (List.mem_of_getElem? hps)
    have htk : (pss.take (i + 1)) = pss.take i ++ [ps] := by rw [List.take_add_one, hps]; rfl
    have hjl := joined_len bt 2000 (pss.take i) fun x hx => h2000 x (List.mem_of_mem_take hx)
    rw [List.length_take] at hjl
    have hjl2 : (VamvsBase.joined bt (pss.take i)).length ≤ 50 * 2010 := Nat.le_trans hjl (Nat.mul_le_mul (by omega) (by omega))
    have hip : i < pss.length := (List.getElem?_eq_some_iff.mp hps).1
    generalize (upd H1 Tp (HO.tup [V.int (i : Nat), V.ref p])) = H2 at *
    refine ⟨_, rfl, _, _, rfl, rfl, _, rfl, ?_⟩
    by_cases h0 : 0 < i
    · rw [decide_eq_true (by omega : (0 : Int) < (i : Nat))]
      refine iteT ⟨_, rfl, .inl ⟨rfl, _, .inl (.inl h2)⟩, _, rfl, pf, b, _, bt.map bV, rfl, rfl, h2, .inr hb2, ?_, ?_⟩
      · rw [List.length_map, List.length_map]; have := sizeLine_eq; omega
      · have h3 : (upd H2 pf (.lst ((VamvsBase.joined bt (pss.take i)).map bV ++ bt.map bV))) pf = some (.lst ((VamvsBase.joined bt (pss.take i)).map bV ++ bt.map bV)) := upd_same
        refine ⟨_, rfl, .inl ⟨rfl, _, .inl (.inl h3)⟩, _, rfl, pf, p, _, ps.map bV, rfl, rfl, h3, ?_, ?_, ?_⟩
        · rcases hp2 with h | h
          · exact .inr (by rw [upd_ne npf]; exact h)
          · exact .inl (by rw [upd_ne npf]; exact h)
        · rw [List.length_append, List.length_map, List.length_map, List.length_map]; have := sizeLine_eq; omega
        · rw [upd_upd]
          refine ⟨Ex.mut e12 hpf, ?_, _, _, rfl⟩
          rw [upd_same, htk, joined_snoc, if_neg (fun z => by have := congrArg List.length z; rw [List.length_take, List.length_nil] at this; omega), List.map_append, List.map_append, List.append_assoc]
    · rw [decide_eq_false (by omega : ¬ (0 : Int) < (i : Nat))]
      have hi0 : i = 0 := by omega
      subst hi0
      refine iteF ⟨_, rfl, .inl ⟨rfl, _, .inl (.inl h2)⟩, _, rfl, pf, p, _, ps.map bV, rfl, rfl, h2, hp2.symm, ?_, ?_⟩
      · rw [List.length_map, List.length_map]; have := sizeLine_eq; omega
      · refine ⟨Ex.mut e12 hpf, ?_, _, _, rfl⟩
        rw [upd_same, htk]
        rfl
  · obtain ⟨e1, h1, z1, z2, rfl⟩ := hP
    rw [hl, List.take_length] at h1
    exact ⟨_, rfl, q pf H1 hpf e1 h1⟩
def sp_with_commas (g : Gx) : Sp := fun vs H Q _ => ∃ (a : Addr) (xs : List V) (pss : List (List UInt8)), vs = [.ref a] ∧ H a = some (.lst xs) ∧ Paired (PtAt H) xs pss ∧ pss.length ≤ 50 ∧ (∀ p ∈ pss, p.length ≤ 2000) ∧ ∀ p H', H p = none → Ex H H' → H' p = some (.lst ((Vamvsa.commas pss).map bV)) → Q (.ref p) H'
abbrev N_with_commas : List Str := ["parts"]
theorem sc_with_commas : FnScope N_with_commas ["parts"] (defScope s_with_commas) := ⟨rfl, rfl, rfl, by decide +kernel, rfl, by decide +kernel, by decide +kernel⟩
set_option maxHeartbeats 8000000 in
theorem ok_with_commas {g : Gx} (T : Tx g) : RGl g CX0 2 "with_commas" (sp_with_commas g) := by
  refine gl0 (N := N_with_commas) (ps := ["parts"]) (st := s_with_commas) T 29 rfl T.d_with_commas sc_with_commas (fun _ _ _ _ _ _ us hl => match us, hl with | [_], _ => rfl) (fun vs H Q E h => by obtain ⟨a, xs, pss, rfl, ha, hpr, h50, h2000, q⟩ := h; rfl) (fun f cdv A outer s H vs Q E hr h => ?_)
  obtain ⟨a, xs, pss, rfl, ha, hpr, h50, h2000, q⟩ := h
  refine ⟨_, (pss_one (ps_ret (pe_gl (ok_joined T) hr (by decide) pass0 rfl (pa_cons (pv 0) (pa_cons (pe_gl (ok_codes T) hr (by decide) pass0 rfl (pa_cons pe_str pa_nil)) pa_nil))))), ?_⟩

  refine ⟨_, rfl, PySem.Str.ofString ", ", rfl, by decide, fun pc H1 hpc e1 h1 => ?_⟩
  rw [cps_word ", " (by decide)] at h1
  refine ⟨a, pc, xs, pss, byt ", ", rfl, e1 _ _ ha, paired_keep (fun _ _ => PtAt.ex e1) hpr, h1, h50, h2000, by decide, fun p H' hp e2 h2 => ?_⟩
  exact q p H' (Evl.fresh_back e1 hp) (e1.trans e2) h2
theorem int_str : ∀ n : Nat, n < 2001 → ((toString ((n : Int) - 1000)).toList.all fun c => decide (c.toNat < 256)) = true ∧ (PySem.Str.ofString (toString ((n : Int) - 1000))).cps.size ≤ 10 ∧ VamvsBase.word (toString ((n : Int) - 1000)) = VamvsBase.showInt ((n : Int) - 1000) ∧ (VamvsBase.showInt ((n : Int) - 1000)).length ≤ 5 := by decide +kernel
theorem int_str' {i : Int} (h1 : -1000 ≤ i) (h2 : i ≤ 1000) : ((toString i).toList.all fun c => decide (c.toNat < 256)) = true ∧ (PySem.Str.ofString (toString i)).cps.size ≤ 10 ∧ VamvsBase.word (toString i) = VamvsBase.showInt i ∧ (VamvsBase.showInt i).length ≤ 5 := by
  have h := int_str (i + 1000).toNat (by omega)
  have e : (((i + 1000).toNat : Nat) : Int) - 1000 = i := by omega
  rw [e] at h
  exact h
def sp_number_bytes (g : Gx) : Sp := fun vs H Q _ => ∃ i : Int, vs = [.int i] ∧ -1000 ≤ i ∧ i ≤ 1000 ∧ ∀ p H', H p = none → Ex H H' → H' p = some (.tup ((VamvsBase.showInt i).map bV)) → Q (.ref p) H'
abbrev N_number_bytes : List Str := ["number"]
theorem sc_number_bytes : FnScope N_number_bytes ["number"] (defScope s_number_bytes) := ⟨rfl, rfl, rfl, by decide +kernel, rfl, by decide +kernel, by decide +kernel⟩
set_option maxHeartbeats 8000000 in
theorem ok_number_bytes {g : Gx} (T : Tx g) : RGl g CX0 2 "number_bytes" (sp_number_bytes g) := by
  refine gl0 (N := N_number_bytes) (ps := ["number"]) (st := s_number_bytes) T 30 rfl T.d_number_bytes sc_number_bytes (fun _ _ _ _ _ _ us hl => match us, hl with | [_], _ => rfl) (fun vs H Q E h => by obtain ⟨i, rfl, h1, h2, q⟩ := h; rfl) (fun f cdv A outer s H vs Q E hr h => ?_)
  obtain ⟨i, rfl, h1, h2, q⟩ := h
  refine ⟨_, (pss_one (ps_ret (pe_gl (ok_codes T) hr (by decide) pass0 rfl (pa_cons (pe_callTy call_str_int rfl T.f_str (by decide +kernel) (pa_cons (pv 0) pa_nil)) pa_nil)))), ?_⟩

  obtain ⟨c1, c2, c3, _⟩ := int_str' h1 h2
  refine ⟨_, rfl, i, rfl, ?_, PySem.Str.ofString (toString i), rfl, by omega, fun p H1 hp e hq => ?_⟩
  · have : i.natAbs < 2 ^ 11 := by omega
    rcases Nat.eq_zero_or_pos i.natAbs with z | z
    · rw [z]; decide
    · have := (Nat.log2_lt (by omega)).mpr this
      omega
  · rw [cps_word _ c1, c3] at hq
    exact q p H1 hp e hq
end Sr
set_option Elab.async false
set_option linter.all false
set_option maxRecDepth 100000
set_option maxHeartbeats 4000000
/-! # Tables: lines, their one form -/
namespace Sr
open PySem PySem.Spec PyProof.Rows L2
open Evl (Ex)
open Vamvsa (Table Ask)
open VamvsBase (word joined showNat showInt)
theorem showInt_nat (n : Nat) : showInt (n : Int) = showNat n := by
  unfold showInt
  rw [if_neg (by omega), Int.natAbs_natCast]
theorem showNat_len {n : Nat} (h : n ≤ 1000) : (showNat n).length ≤ 5 := by
  have := (int_str' (i := (n : Int)) (by omega) (by omega)).2.2.2
  rw [showInt_nat] at this
  exact this
theorem row_bytes (r : Vamvsa.Row) : joined (word " ") [word "row", Vamvsa.commas (r.vs.map showNat), word ":", showInt r.m, word ";"] ++ [10] = Vamvsa.showRow r := by
  unfold Vamvsa.showRow Vamvsa.line
  rw [show word "row " = word "row" ++ word " " by decide, show word " : " = word " " ++ (word ":" ++ word " ") by decide, show word " ;" = word " " ++ word ";" by decide]
  simp only [joined, List.append_assoc]
theorem cols_bytes (cs : List (List UInt8)) : joined (word " ") [word "columns", Vamvsa.commas cs, word ";"] ++ [10] = Vamvsa.line (word "columns " ++ (Vamvsa.commas cs ++ word " ;")) := by
  unfold Vamvsa.line
  rw [show word "columns " = word "columns" ++ word " " by decide, show word " ;" = word " " ++ word ";" by decide]
  simp only [joined, List.append_assoc]
/-- a question's parts -/
def askParts (cs : List (List UInt8)) (a : Ask) : List (List UInt8) := [word "ask"] ++ (if a.g = 0 then [] else [Vamvsa.commas ((Vamvsa.columnsOf cs.length a.g).map fun i => cs.getD i [])]) ++ (if a.k = 1 then [] else [word "times", showNat a.k])
theorem ask_bytes (cs : List (List UInt8)) (a : Ask) : joined (word " ") (askParts cs a ++ [word ";"]) ++ [10] = Vamvsa.showAsk cs a := by
  unfold Vamvsa.showAsk Vamvsa.line askParts
  rw [show word " times " = word " " ++ (word "times" ++ word " ") by decide, show word " ;" = word " " ++ word ";" by decide]
  by_cases c1 : a.g = 0
  · by_cases c2 : a.k = 1
    · rw [if_pos c1, if_pos c1, if_pos c2, if_pos c2]
      simp only [joined, List.append_assoc, List.nil_append, List.append_nil, List.cons_append]
    · rw [if_pos c1, if_pos c1, if_neg c2, if_neg c2]
      simp only [joined, List.append_assoc, List.nil_append, List.append_nil, List.cons_append]
  · by_cases c2 : a.k = 1
    · rw [if_neg c1, if_neg c1, if_pos c2, if_pos c2]
      simp only [joined, List.append_assoc, List.nil_append, List.append_nil, List.cons_append]
    · rw [if_neg c1, if_neg c1, if_neg c2, if_neg c2]
      simp only [joined, List.append_assoc, List.nil_append, List.append_nil, List.cons_append]
theorem commas_len (m : Nat) (l : List (List UInt8)) (h : ∀ x ∈ l, x.length ≤ m) (hl : l.length ≤ 4) : (Vamvsa.commas l).length ≤ 4 * (m + 2) := by
  have h1 := joined_len (word ", ") m l h
  have h2 : (word ", ").length = 2 := by decide
  rw [h2] at h1
  exact Nat.le_trans h1 (Nat.mul_le_mul_right _ hl)
theorem cw {H : Hp} {p : Addr} (s : String) (h1 : (s.toList.all fun c => decide (c.toNat < 256)) = true) (h : H p = some (.tup ((PySem.Str.ofString s).cps.toList.map fun c => .int (c : Nat)))) : H p = some (.tup ((word s).map bV)) := by
  rw [cps_word s h1] at h
  exact h
theorem rowM {r : Vamvsa.Row} {t : Table} (ok : TOk t) (hr : r ∈ t.rows) : (Vamvsa.commas (r.vs.map showNat)).length ≤ 28 ∧ (r.vs.map showNat).length ≤ 4 ∧ ∀ x ∈ r.vs.map showNat, x.length ≤ 5 := by
  obtain ⟨h1, h2, _⟩ := ok.rv r hr
  have h4 := ok.c4
  have hx : ∀ x ∈ r.vs.map showNat, x.length ≤ 5 := fun x hx => by
    obtain ⟨n, hn, e⟩ := List.mem_map.mp hx
    rw [← e]
    exact showNat_len (by have := h2 n hn; omega)
  exact ⟨commas_len 5 _ hx (by rw [List.length_map]; omega), by rw [List.length_map]; omega, hx⟩
def sp_row_line (g : Gx) : Sp := fun vs H Q _ => ∃ (v : V) (t : Table) (r : Vamvsa.Row), vs = [v] ∧ RowAt H v r ∧ TOk t ∧ r ∈ t.rows ∧ ∀ p H', H p = none → Ex H H' → H' p = some (.lst ((Vamvsa.showRow r).map bV)) → Q (.ref p) H'
abbrev N_row_line : List Str := ["row", "numbers", "summed", "told", "number"]
theorem sc_row_line : FnScope N_row_line ["row"] (defScope s_row_line) := ⟨rfl, rfl, rfl, by decide +kernel, rfl, by decide +kernel, by decide +kernel⟩
set_option maxHeartbeats 8000000 in
theorem ok_row_line {g : Gx} (T : Tx g) : RGl g CX0 3 "row_line" (sp_row_line g) := by
  refine gl0 (N := N_row_line) (ps := ["row"]) (st := s_row_line) T 31 rfl T.d_row_line sc_row_line (fun _ _ _ _ _ _ us hl => match us, hl with | [_], _ => rfl) (fun vs H Q E h => by obtain ⟨v, t, r, rfl, ⟨a, b, rfl, ha, hb⟩, ok, hr', q⟩ := h; rfl) (fun f cdv A outer s H vs Q E hr h => ?_)
  obtain ⟨v, t, r, rfl, ⟨a, b, rfl, ha, hb⟩, ok, hr', q⟩ := h
  refine ⟨_, (pss_cons (ps_asg (pv 0) (pg_tup rfl (pgs_cons (pg_name (i := 1) sc_row_line.nd rfl (Or.inl rfl)) (pgs_cons (pg_name (i := 2) sc_row_line.nd rfl (Or.inl rfl)) pgs_nil)))) (pss_cons (ps_set (i := 3) sc_row_line.nd rfl (Or.inl rfl) (pe_gl (ok_with_commas T) hr (by decide) pass0 rfl (pa_cons (pe_lc (own := [("number", 4)]) (tt := tYes) rfl sc_row_line.nd (pi_tup (pv 1)) (blkOk_by (N := N_row_line) (sc := defScope s_row_line) (by decide +kernel)) (fun _ _ _ _ _ => (pg_name (i := 4) sc_row_line.nd rfl (Or.inl rfl))) (fun _ _ _ _ _ => pts_nil) (fun _ _ _ _ _ => (pe_gl (ok_number_bytes T) hr (by decide) pass0 rfl (pa_cons (pv 4) pa_nil)))) pa_nil))) (pss_one (ps_ret (pe_op op_cat (pe_gl (ok_joined T) hr (by decide) pass0 rfl (pa_cons (pe_lst (pa_cons (pe_gl (ok_codes T) hr (by decide) pass0 rfl (pa_cons (pe_gc rfl T.g_ROW) pa_nil)) (pa_cons (pv 3) (pa_cons (pe_gl (ok_codes T) hr (by decide) pass0 rfl (pa_cons pe_str pa_nil)) (pa_cons (pe_gl (ok_number_bytes T) hr (by decide) pass0 rfl (pa_cons (pv 2) pa_nil)) (pa_cons (pe_gl (ok_codes T) hr (by decide) pass0 rfl (pa_cons pe_str pa_nil)) pa_nil)))))) (pa_cons (pe_gl (ok_codes T) hr (by decide) pass0 rfl (pa_cons pe_str pa_nil)) pa_nil))) (pe_lst (pa_cons pe_int pa_nil))))))), ?_⟩

  obtain ⟨hv1, hv9, hm1, hm2⟩ := ok.rv r hr'
  obtain ⟨hcl, hl4, hx5⟩ := rowM ok hr'
  have hc4 := ok.c4
  refine ⟨_, rfl, a, _, rfl, .inl (.inl ha), rfl, _, _, rfl, _, _, rfl, rfl, ?_⟩
  refine ⟨_, rfl, b, rfl, ⟨_, .inl (.inl hb)⟩, fun D hD => ?_⟩
  refine lcP walk_tup (fun H v d => BtAt H v d) (fun H H' v d h k b => bt_mono h k b) (r.vs.map showNat) (by rw [List.length_map, List.length_map]) (by rw [List.length_map]; omega) hD (fun H' e => .inl (.inl (e _ _ hb))) (fun i x H1 H2 d hi hd e1 hy => ?_) gName_mono (fun H1 acc e1 hacc hpr => ?_)
  · obtain ⟨rfl, hy⟩ := hy
    rw [List.getElem?_map] at hd hy
    cases hk : r.vs[i]? with
    | none => rw [hk] at hd; cases hd
    | some n =>
      rw [hk] at hd hy
      cases hd
      cases hy
      have hn := hv9 n (List.mem_of_getElem? hk)
      refine ⟨Ex.refl _, rfl, Ex.refl _, fun hDn Q' hQ => ⟨_, rfl, (n : Int), rfl, by omega, by omega, fun p H' hp e h => ?_⟩⟩
      rw [showInt_nat] at h
      exact hQ _ _ e ⟨⟨p, rfl, h⟩, ref_new hDn hp⟩
  · refine ⟨D, acc, _, rfl, hacc, paired_keep (fun _ _ => BtAt.pt) hpr, by rw [List.length_map]; omega, fun p hp => by have := hx5 p hp; omega, fun pt H2 hpt e2 ht => ?_⟩
    refine ⟨PySem.Str.ofString "row", rfl, by decide, fun p1 H3 _ e3 h1 => ⟨_, rfl, ?_⟩⟩
    replace h1 := cw "row" (by decide) h1
    refine ⟨PySem.Str.ofString ":", rfl, by decide, fun p2 H4 _ e4 h2 => ⟨_, rfl, r.m, rfl, hm1, hm2, fun p3 H5 _ e5 h3 => ?_⟩⟩
    replace h2 := cw ":" (by decide) h2
    refine ⟨PySem.Str.ofString ";", rfl, by decide, fun p4 H6 _ e6 h4 => ⟨s5, fun pl hpl => ?_⟩⟩
    replace h4 := cw ";" (by decide) h4
    have e7 := Ex.new (o := HO.lst [V.ref p1, V.ref pt, V.ref p2, V.ref p3, V.ref p4]) hpl
    refine ⟨PySem.Str.ofString " ", rfl, by decide, fun p5 H8 _ e8 h5 => ?_⟩
    replace h5 := cw " " (by decide) h5
    have g8 := e8
    have g7 := e7.trans g8
    have g6 := e6.trans g7
    have g5 := e5.trans g6
    have g4 := e4.trans g5
    have g3 := e3.trans g4
    refine ⟨pl, p5, _, [word "row", Vamvsa.commas (r.vs.map showNat), word ":", showInt r.m, word ";"], word " ", rfl, g8 _ _ upd_same, .cons ⟨p1, rfl, .inl (g4 _ _ h1)⟩ (.cons ⟨pt, rfl, .inr (g3 _ _ ht)⟩ (.cons ⟨p2, rfl, .inl (g5 _ _ h2)⟩ (.cons ⟨p3, rfl, .inl (g6 _ _ h3)⟩ (.cons ⟨p4, rfl, .inl (g7 _ _ h4)⟩ .nil)))), h5, by show 5 ≤ 50; omega, ?_, by decide, fun pj H9 hpj e9 h9 => ?_⟩
    · intro p hp
      have hsm := (int_str' hm1 hm2).2.2.2
      have b1 : (word "row").length = 3 := by decide
      have b2 : (word ":").length = 1 := by decide
      have b3 : (word ";").length = 1 := by decide
      simp only [List.mem_cons, List.not_mem_nil, or_false] at hp
      rcases hp with rfl | rfl | rfl | rfl | rfl <;> omega
    · refine ⟨s1, fun pq hpq => ⟨pj, pq, _, _, rfl, rfl, Ex.new hpq _ _ h9, upd_same, ?_, fun pr hpr => ?_⟩⟩
      · rw [List.length_map, List.length_singleton]
        have hsm := (int_str' hm1 hm2).2.2.2
        have := joined_len (word " ") 2000 [word "row", Vamvsa.commas (r.vs.map showNat), word ":", showInt r.m, word ";"] (fun p hp => by
          have b1 : (word "row").length = 3 := by decide
          have b2 : (word ":").length = 1 := by decide
          have b3 : (word ";").length = 1 := by decide
          simp only [List.mem_cons, List.not_mem_nil, or_false] at hp
          rcases hp with rfl | rfl | rfl | rfl | rfl <;> omega)
        have b4 : (word " ").length = 1 := by decide
        rw [b4] at this
        simp only [List.length_cons, List.length_nil] at this
        have := sizeLine_eq
        omega
      · have er := Ex.new (o := HO.lst ((joined (word " ") [word "row", Vamvsa.commas (r.vs.map showNat), word ":", showInt r.m, word ";"]).map bV ++ [V.int 10])) hpr
        have eq_ := Ex.new (o := HO.lst [V.int 10]) hpq
        have eall := ((e1.trans e2).trans g3).trans (e9.trans eq_)
        refine q pr _ (Evl.fresh_back eall hpr) (eall.trans er) ?_
        rw [upd_same, ← row_bytes, List.map_append]
        rfl
theorem colsN {t : Table} {gr : Nat} (ok : TOk t) : (Vamvsa.commas ((Vamvsa.columnsOf t.cols.length gr).map fun i => t.cols.getD i [])).length ≤ 72 ∧ (Vamvsa.columnsOf t.cols.length gr).length ≤ 4 ∧ (∀ k ∈ Vamvsa.columnsOf t.cols.length gr, k < t.cols.length) ∧ ∀ x ∈ (Vamvsa.columnsOf t.cols.length gr).map fun i => t.cols.getD i [], x.length ≤ 16 := by
  have h4 := ok.c4
  have hl : (Vamvsa.columnsOf t.cols.length gr).length ≤ 4 := by
    have := List.length_filter_le (fun i => gr / 2 ^ i % 2 == 1) (List.range t.cols.length)
    rw [List.length_range] at this
    unfold Vamvsa.columnsOf
    omega
  have hk : ∀ k ∈ Vamvsa.columnsOf t.cols.length gr, k < t.cols.length := fun k hk => List.mem_range.mp (List.mem_filter.mp hk).1
  have hx : ∀ x ∈ (Vamvsa.columnsOf t.cols.length gr).map fun i => t.cols.getD i [], x.length ≤ 16 := fun x hx => by
    obtain ⟨k, hk', e⟩ := List.mem_map.mp hx
    rw [← e, List.getD_eq_getElem?_getD, List.getElem?_eq_getElem (hk k hk')]
    exact ok.cb _ (List.getElem_mem _)
  exact ⟨commas_len 16 _ hx (by rw [List.length_map]; exact hl), hl, hk, hx⟩
theorem askM {t : Table} {a : Ask} (ok : TOk t) (ha : a ∈ t.asks) : (askParts t.cols a ++ [word ";"]).length ≤ 5 ∧ ∀ p ∈ askParts t.cols a ++ [word ";"], p.length ≤ 100 := by
  obtain ⟨h1, _, _, _⟩ := colsN (gr := a.g) ok
  obtain ⟨_, _, hk⟩ := ok.qv a ha
  have hs := showNat_len (n := a.k) (by omega)
  have b1 : (word "ask").length = 3 := by decide
  have b2 : (word "times").length = 5 := by decide
  have b3 : (word ";").length = 1 := by decide
  unfold askParts
  refine ⟨?_, fun p hp => ?_⟩
  · split <;> split <;> simp
  · rw [List.mem_append, List.mem_append, List.mem_append] at hp
    rcases hp with ((hp | hp) | hp) | hp
    · rw [List.mem_singleton] at hp; rw [hp]; omega
    · split at hp
      · cases hp
      · rw [List.mem_singleton] at hp; rw [hp]; omega
    · split at hp
      · cases hp
      · simp only [List.mem_cons, List.not_mem_nil, or_false] at hp
        rcases hp with rfl | rfl <;> omega
    · rw [List.mem_singleton] at hp; rw [hp]; omega
def sp_question_line (g : Gx) : Sp := fun vs H Q _ => ∃ (v w : V) (t : Table) (a : Ask), vs = [v, w] ∧ TblAt g H v t ∧ AskAt H w a ∧ TOk t ∧ a ∈ t.asks ∧ ∀ p H', H p = none → Ex H H' → H' p = some (.lst ((Vamvsa.showAsk t.cols a).map bV)) → Q (.ref p) H'
abbrev N_question_line : List Str := ["table", "question", "grouping", "often", "parts", "k"]
theorem sc_question_line : FnScope N_question_line ["table", "question"] (defScope s_question_line) := ⟨rfl, rfl, rfl, by decide +kernel, rfl, by decide +kernel, by decide +kernel⟩
set_option maxHeartbeats 8000000 in
theorem ok_question_line {g : Gx} (T : Tx g) : RGl g CX0 3 "question_line" (sp_question_line g) := by
  refine gl0 (N := N_question_line) (ps := ["table", "question"]) (st := s_question_line) T 32 rfl T.d_question_line sc_question_line (fun _ _ _ _ _ _ us hl => match us, hl with | [_, _], _ => rfl) (fun vs H Q E h => by obtain ⟨v, w, t, ak, rfl, ht, ⟨qa, rfl, hqa⟩, ok, hak, q⟩ := h; rfl) (fun f cdv A outer s H vs Q E hr h => ?_)
  obtain ⟨v, w, t, ak, rfl, ht, ⟨qa, rfl, hqa⟩, ok, hak, q⟩ := h
  refine ⟨_, (pss_cons (ps_asg (pv 1) (pg_tup rfl (pgs_cons (pg_name (i := 2) sc_question_line.nd rfl (Or.inl rfl)) (pgs_cons (pg_name (i := 3) sc_question_line.nd rfl (Or.inl rfl)) pgs_nil)))) (pss_cons (ps_set (i := 4) sc_question_line.nd rfl (Or.inl rfl) (pe_lst (pa_cons (pe_gl (ok_codes T) hr (by decide) pass0 rfl (pa_cons (pe_gc rfl T.g_ASK) pa_nil)) pa_nil))) (Evl.pss_cut (ps_if (pt_cmpR op_ne (pv 2) pe_int (nomark _)) (pss_one (ps_expr (pe_bm PySem.F.plainAttrs_list PySem.F.slot_list_append PySem.F.type_list_append mt_append (pv 4) (pa_cons (pe_gl (ok_with_commas T) hr (by decide) pass0 rfl (pa_cons (pe_lc (own := [("k", 5)]) (tt := tYes) rfl sc_question_line.nd (pi_list (pe_me (ok_Table_columns_in T) hr (by decide) pass0 (pv 0) (pa_cons (pv 2) pa_nil))) (blkOk_by (N := N_question_line) (sc := defScope s_question_line) (by decide +kernel)) (fun _ _ _ _ _ => (pg_name (i := 5) sc_question_line.nd rfl (Or.inl rfl))) (fun _ _ _ _ _ => pts_nil) (fun _ _ _ _ _ => (pe_ix (r := rIxL g.K) ix_list (pe_fldK (K := g.K) (pv 0)) (pv 5) (fun _ _ => rfl)))) pa_nil)) pa_nil)))) pss_nil) (Evl.pss_cut (ps_if (pt_cmpR op_ne (pv 3) pe_int (nomark _)) (pss_one (ps_expr (pe_bm PySem.F.plainAttrs_list PySem.F.slot_list_extend PySem.F.type_list_extend mt_extend (pv 4) (pa_cons (pe_lst (pa_cons (pe_gl (ok_codes T) hr (by decide) pass0 rfl (pa_cons (pe_gc rfl T.g_TIMES) pa_nil)) (pa_cons (pe_gl (ok_number_bytes T) hr (by decide) pass0 rfl (pa_cons (pv 3) pa_nil)) pa_nil))) pa_nil)))) pss_nil) (pss_one (ps_ret (pe_op op_cat (pe_gl (ok_joined T) hr (by decide) pass0 rfl (pa_cons (pe_op op_cat (pv 4) (pe_lst (pa_cons (pe_gl (ok_codes T) hr (by decide) pass0 rfl (pa_cons pe_str pa_nil)) pa_nil))) (pa_cons (pe_gl (ok_codes T) hr (by decide) pass0 rfl (pa_cons pe_str pa_nil)) pa_nil))) (pe_lst (pa_cons pe_int pa_nil))))))))), ?_⟩

  obtain ⟨ta, dx, ln, lr, lq, rfl, w⟩ := id ht
  obtain ⟨hg2, hk1, hk99⟩ := ok.qv ak hak
  have hg16 : ak.g < 16 := Nat.lt_of_lt_of_le hg2 ok.w16
  obtain ⟨hcm, hcl4, hck, hcx⟩ := colsN (gr := ak.g) ok
  refine ⟨_, rfl, qa, _, rfl, .inl (.inl hqa), rfl, _, _, rfl, _, _, rfl, rfl, ?_⟩
  refine ⟨PySem.Str.ofString "ask", rfl, by decide, fun p1 H1 _ e1 h1 => ⟨s1, fun pp hpp => ?_⟩⟩
  replace h1 := cw "ask" (by decide) h1
  have e2 := e1.trans (Ex.new (o := HO.lst [V.ref p1]) hpp)
  have hpp0 := Evl.fresh_back e1 hpp
  have h1' := Ex.new (o := HO.lst [V.ref p1]) hpp _ _ h1
  -- the columns
  refine ⟨fun σ H' => σ = [some (.ref ta), some (.ref qa), some (nV ak.g), some (nV ak.k), some (.ref pp), none] ∧ Ex H H' ∧ ∃ xs, H' pp = some (.lst xs) ∧ Paired (fun v d => PtAt H' v d ∧ v ≠ .ref pp) xs ([word "ask"] ++ (if ak.g = 0 then [] else [Vamvsa.commas ((Vamvsa.columnsOf t.cols.length ak.g).map fun i => t.cols.getD i [])])), ?_, ?_⟩
  · refine ⟨_, rfl, rfl, _, rfl, ?_⟩
    have n1 : V.ref p1 ≠ .ref pp := fun z => by rw [← V.ref.inj z, h1] at hpp; cases hpp
    by_cases c : ak.g = 0
    · rw [show (!decide (nV ak.g = V.int 0)) = false by rw [c]; rfl]
      rw [if_pos c]
      exact iteF ⟨rfl, e2, _, upd_same, .cons ⟨⟨p1, rfl, .inl h1'⟩, n1⟩ .nil⟩
    · rw [show (!decide (nV ak.g = V.int 0)) = true by rw [decide_eq_false (fun z => c (Int.ofNat_eq_zero.mp (V.int.inj z)))]; rfl]
      rw [if_neg c]
      have hppL : (upd H1 pp (HO.lst [V.ref p1])) pp = some (.lst [V.ref p1]) := upd_same
      generalize (upd H1 pp (HO.lst [V.ref p1])) = H2 at *
      refine iteT ⟨_, rfl, .inl ⟨rfl, _, .inl (.inl hppL)⟩, ?_⟩
      refine ⟨_, rfl, ta, _, _, rfl, (w.ex e2).ob, rfl, _, rfl, _, t, ak.g, rfl, ht.ex e2, ok.c4, hg16, fun pc H3 hpc e3 h3 => ?_⟩
      refine ⟨pc, rfl, ⟨_, .inl (.inl h3)⟩, fun D hD => ?_⟩
      obtain ⟨ns, hn1, hn2⟩ := (w.ex (e2.trans e3)).hn
      refine lcP walk_list (fun H v d => BtAt H v d) (fun H H' v d h k b => bt_mono h k b) ((Vamvsa.columnsOf t.cols.length ak.g).map fun i => t.cols.getD i []) (by rw [List.length_map, List.length_map]) (by rw [List.length_map]; omega) hD (fun H' e => .inl (.inl (e _ _ h3))) (fun i x H4 H5 d hi hd e4 hy => ?_) gName_mono (fun H4 acc e4 hacc hpr => ?_)
      · obtain ⟨rfl, hy⟩ := hy
        rw [List.getElem?_map] at hd hy
        cases hk : (Vamvsa.columnsOf t.cols.length ak.g)[i]? with
        | none => rw [hk] at hd; cases hd
        | some k =>
          rw [hk] at hd hy
          cases hd
          cases hy
          have hkl := hck k (List.mem_of_getElem? hk)
          have hcd : t.cols[k]? = some (t.cols.getD k []) := by rw [List.getD_eq_getElem?_getD, List.getElem?_eq_getElem hkl]; rfl
          obtain ⟨x, hx, hbt⟩ := paired_at hn2 hcd
          refine ⟨Ex.refl _, rfl, Ex.refl _, fun hDn Q' hQ => ?_⟩
          have w5 := (w.ex (e2.trans e3)).ex e4
          obtain ⟨xa, rfl, hxa⟩ := hbt
          exact ⟨_, rfl, ta, _, _, _, _, rfl, w5.ob, T.cl_Table, T.na_Table_names, rfl, _, rfl, ln, ns, (k : Int), _, rfl, rfl, .inl (.inl (e4 _ _ hn1)), atI_n hx, hQ _ _ (Ex.refl _) ⟨⟨xa, rfl, e4 _ _ hxa⟩, ref_old hD hxa⟩⟩
      · refine ⟨D, acc, _, rfl, hacc, paired_keep (fun _ _ => BtAt.pt) hpr, by rw [List.length_map]; omega, fun p hp => by have := hcx p hp; omega, fun pt H5 hpt e5 h5 => ?_⟩
        have e25 := (e3.trans e4).trans e5
        have hpp5 := e25 _ _ hppL
        have n2 : V.ref pt ≠ .ref pp := fun z => by rw [V.ref.inj z] at hpt; rw [(e3.trans e4) _ _ hppL] at hpt; cases hpt
        refine ⟨pp, _, _, rfl, rfl, hpp5, by show 1 < sizeLine; decide, rfl, Ex.mut (e2.trans e25) hpp0, _, upd_same, ?_⟩
        have keep : ∀ {b : Addr} {o : HO}, H5 b = some o → V.ref b ≠ .ref pp → (upd H5 pp (.lst ([V.ref p1] ++ [V.ref pt]))) b = some o := fun h n => by rw [upd_ne (fun z => n (by rw [z]))]; exact h
        exact .cons ⟨⟨p1, rfl, .inl (keep (e25 _ _ h1') n1)⟩, n1⟩ (.cons ⟨⟨pt, rfl, .inr (keep h5 n2)⟩, n2⟩ .nil)
  · rintro σ H2 ⟨rfl, e3, xs, hpp2, hpr2⟩
    refine ⟨fun σ H' => σ = [some (.ref ta), some (.ref qa), some (nV ak.g), some (nV ak.k), some (.ref pp), none] ∧ Ex H H' ∧ ∃ xs, H' pp = some (.lst xs) ∧ Paired (fun v d => PtAt H' v d ∧ v ≠ .ref pp) xs (askParts t.cols ak), ?_, ?_⟩
    · refine ⟨_, rfl, rfl, _, rfl, ?_⟩
      unfold askParts
      by_cases c : ak.k = 1
      · rw [show (!decide (nV ak.k = V.int 1)) = false by rw [c]; rfl]
        rw [if_pos c, List.append_nil]
        exact iteF ⟨rfl, e3, xs, hpp2, hpr2⟩
      · rw [show (!decide (nV ak.k = V.int 1)) = true by rw [decide_eq_false (fun z => c (by have := V.int.inj z; omega))]; rfl]
        rw [if_neg c]
        refine iteT ⟨_, rfl, .inl ⟨rfl, _, .inl (.inl hpp2)⟩, ?_⟩
        refine ⟨PySem.Str.ofString "times", rfl, by decide, fun p3 H3 hp3 e4 h3 => ⟨_, rfl, (ak.k : Int), rfl, by omega, by omega, fun p4 H4 hp4 e5 h4 => ⟨s2, fun pl hpl => ?_⟩⟩⟩
        replace h3 := cw "times" (by decide) h3
        rw [showInt_nat] at h4
        have e6 := Ex.new (o := HO.lst [V.ref p3, V.ref p4]) hpl
        have e26 := (e4.trans e5).trans e6
        have hpp6 := e26 _ _ hpp2
        have n3 : V.ref p3 ≠ .ref pp := fun z => by rw [V.ref.inj z, hpp2] at hp3; cases hp3
        have n4 : V.ref p4 ≠ .ref pp := fun z => by rw [V.ref.inj z, e4 _ _ hpp2] at hp4; cases hp4
        have hlx := Paired.length hpr2
        refine ⟨pp, pl, xs, _, rfl, rfl, hpp6, upd_same, ?_, rfl, Ex.mut (e3.trans e26) hpp0, _, upd_same, ?_⟩
        · have := (askM ok hak).1
          unfold askParts at this
          rw [List.length_append, List.length_append] at this
          have := sizeLine_eq
          rw [hlx]
          simp only [List.length_cons, List.length_nil] at *
          omega
        · have keep : ∀ {b : Addr} {o : HO} {xs' : List V}, (upd H4 pl (HO.lst [V.ref p3, V.ref p4])) b = some o → V.ref b ≠ .ref pp → (upd (upd H4 pl (HO.lst [V.ref p3, V.ref p4])) pp (.lst xs')) b = some o := fun h n => by rw [upd_ne (fun z => n (by rw [z]))]; exact h
          have pk : ∀ {v : V} {d : List UInt8} {xs' : List V}, PtAt (upd H4 pl (HO.lst [V.ref p3, V.ref p4])) v d → v ≠ .ref pp → PtAt (upd (upd H4 pl (HO.lst [V.ref p3, V.ref p4])) pp (.lst xs')) v d := fun {v d xs'} h n => by
            obtain ⟨p, e, h⟩ := h
            rw [e] at n
            exact ⟨p, e, h.imp (fun h => keep h n) (fun h => keep h n)⟩
          have h34 : Paired (fun v d => PtAt (upd (upd H4 pl (HO.lst [V.ref p3, V.ref p4])) pp (.lst (xs ++ [V.ref p3, V.ref p4]))) v d ∧ v ≠ .ref pp) (xs ++ [V.ref p3]) (([word "ask"] ++ (if ak.g = 0 then [] else [Vamvsa.commas ((Vamvsa.columnsOf t.cols.length ak.g).map fun i => t.cols.getD i [])])) ++ [word "times"]) :=
            paired_snoc (paired_keep (fun v d h => ⟨pk (PtAt.ex e26 h.1) h.2, h.2⟩) hpr2) ⟨⟨p3, rfl, .inl (keep (e6 _ _ (e5 _ _ h3)) n3)⟩, n3⟩
          have := paired_snoc h34 (x := V.ref p4) (y := showNat ak.k) ⟨⟨p4, rfl, .inl (keep (e6 _ _ h4) n4)⟩, n4⟩
          simp only [List.append_assoc] at this ⊢
          exact this
    · rintro σ H3 ⟨rfl, e4, xs3, hpp3, hpr3⟩
      have hlx := Paired.length hpr3
      obtain ⟨ham5, ham100⟩ := askM ok hak
      refine ⟨_, rfl, ?_⟩
      refine ⟨PySem.Str.ofString ";", rfl, by decide, fun p4 H4 _ e5 h4 => ⟨s1, fun pl hpl => ?_⟩⟩
      replace h4 := cw ";" (by decide) h4
      have e6 := Ex.new (o := HO.lst [V.ref p4]) hpl
      refine ⟨pp, pl, xs3, _, rfl, rfl, e6 _ _ (e5 _ _ hpp3), upd_same, ?_, fun pr hpr => ?_⟩
      · rw [hlx]
        rw [List.length_append, List.length_singleton] at ham5
        have := sizeLine_eq
        simp only [List.length_singleton]
        omega
      have e7 := Ex.new (o := HO.lst (xs3 ++ [V.ref p4])) hpr
      refine ⟨PySem.Str.ofString " ", rfl, by decide, fun p5 H6 _ e8 h5 => ?_⟩
      replace h5 := cw " " (by decide) h5
      have g7 := e7.trans e8
      have g6 := e6.trans g7
      have g5 := e5.trans g6
      refine ⟨pr, p5, _, askParts t.cols ak ++ [word ";"], word " ", rfl, e8 _ _ upd_same, paired_snoc (paired_keep (fun v d h => PtAt.ex g5 h.1) hpr3) ⟨p4, rfl, .inl (g6 _ _ h4)⟩, h5, by omega, fun p hp => by have := ham100 p hp; omega, by decide, fun pj H9 hpj e9 h9 => ?_⟩
      refine ⟨s1, fun pq hpq => ⟨pj, pq, _, _, rfl, rfl, Ex.new hpq _ _ h9, upd_same, ?_, fun pz hpz => ?_⟩⟩
      · rw [List.length_map, List.length_singleton]
        have := joined_len (word " ") 100 (askParts t.cols ak ++ [word ";"]) ham100
        have b4 : (word " ").length = 1 := by decide
        rw [b4] at this
        have h2 : (askParts t.cols ak ++ [word ";"]).length * (100 + 1) ≤ 5 * 101 := Nat.mul_le_mul_right _ ham5
        have := sizeLine_eq
        omega
      · have ez := Ex.new (o := HO.lst ((joined (word " ") (askParts t.cols ak ++ [word ";"])).map bV ++ [V.int 10])) hpz
        have eq_ := Ex.new (o := HO.lst [V.int 10]) hpq
        have eall := (e4.trans g5).trans (e9.trans eq_)
        refine q pz _ (Evl.fresh_back eall hpz) (eall.trans ez) ?_
        rw [upd_same, ← ask_bytes, List.map_append]
        rfl
end Sr
set_option Elab.async false
set_option linter.all false
set_option maxRecDepth 100000
set_option maxHeartbeats 4000000
/-! # Tables: their one form -/
namespace Sr
open PySem PySem.Spec PyProof.Rows L2
open Evl (Ex)
open Vamvsa (Table Ask)
open VamvsBase (word joined showNat showInt)
theorem row_len {r : Vamvsa.Row} {t : Table} (ok : TOk t) (hr : r ∈ t.rows) : (Vamvsa.showRow r).length ≤ 11000 := by
  obtain ⟨hv1, hv9, hm1, hm2⟩ := ok.rv r hr
  obtain ⟨hcl, _, _⟩ := rowM ok hr
  have hsm := (int_str' hm1 hm2).2.2.2
  have := joined_len (word " ") 2000 [word "row", Vamvsa.commas (r.vs.map showNat), word ":", showInt r.m, word ";"] (fun p hp => by
    have b1 : (word "row").length = 3 := by decide
    have b2 : (word ":").length = 1 := by decide
    have b3 : (word ";").length = 1 := by decide
    simp only [List.mem_cons, List.not_mem_nil, or_false] at hp
    rcases hp with rfl | rfl | rfl | rfl | rfl <;> omega)
  have b4 : (word " ").length = 1 := by decide
  rw [b4] at this
  simp only [List.length_cons, List.length_nil] at this
  rw [← row_bytes, List.length_append, List.length_singleton]
  omega
theorem ask_len {a : Ask} {t : Table} (ok : TOk t) (ha : a ∈ t.asks) : (Vamvsa.showAsk t.cols a).length ≤ 1000 := by
  obtain ⟨ham5, ham100⟩ := askM ok ha
  have := joined_len (word " ") 100 (askParts t.cols a ++ [word ";"]) ham100
  have b4 : (word " ").length = 1 := by decide
  rw [b4] at this
  have h2 : (askParts t.cols a ++ [word ";"]).length * (100 + 1) ≤ 5 * 101 := Nat.mul_le_mul_right _ ham5
  rw [← ask_bytes, List.length_append, List.length_singleton]
  omega
theorem flat_len {α β : Type} (f : α → List β) (m : Nat) : ∀ l : List α, (∀ x ∈ l, (f x).length ≤ m) → (l.flatMap f).length ≤ l.length * m
  | [], _ => by simp
  | x :: l, h => by
    have ih := flat_len f m l fun y hy => h y (List.mem_cons_of_mem _ hy)
    have hx := h x (by simp)
    rw [List.flatMap_cons, List.length_append, List.length_cons, Nat.succ_mul]
    omega
def sp_one_form (g : Gx) : Sp := fun vs H Q _ => ∃ (v : V) (t : Table), vs = [v] ∧ TblAt g H v t ∧ TOk t ∧ ∀ p H', H p = none → Ex H H' → H' p = some (.lst ((Vamvsa.shown t).map bV)) → Q (.ref p) H'
abbrev N_one_form : List Str := ["table", "found", "row", "question"]
theorem sc_one_form : FnScope N_one_form ["table"] (defScope s_one_form) := ⟨rfl, rfl, rfl, by decide +kernel, rfl, by decide +kernel, by decide +kernel⟩
set_option maxHeartbeats 8000000 in
theorem ok_one_form {g : Gx} (T : Tx g) : RGl g CX0 4 "one_form" (sp_one_form g) := by
  refine gl0 (N := N_one_form) (ps := ["table"]) (st := s_one_form) T 33 rfl T.d_one_form sc_one_form (fun _ _ _ _ _ _ us hl => match us, hl with | [_], _ => rfl) (fun vs H Q E h => by obtain ⟨v, t, rfl, ht, ok, q⟩ := h; rfl) (fun f cdv A outer s H vs Q E hr h => ?_)
  obtain ⟨v, t, rfl, ht, ok, q⟩ := h
  refine ⟨_, (pss_cons (ps_set (i := 1) sc_one_form.nd rfl (Or.inl rfl) (pe_op op_cat (pe_gl (ok_joined T) hr (by decide) pass0 rfl (pa_cons (pe_lst (pa_cons (pe_gl (ok_codes T) hr (by decide) pass0 rfl (pa_cons (pe_gc rfl T.g_COLUMNS) pa_nil)) (pa_cons (pe_gl (ok_with_commas T) hr (by decide) pass0 rfl (pa_cons (pe_fld (pv 0) rfl) pa_nil)) (pa_cons (pe_gl (ok_codes T) hr (by decide) pass0 rfl (pa_cons pe_str pa_nil)) pa_nil)))) (pa_cons (pe_gl (ok_codes T) hr (by decide) pass0 rfl (pa_cons pe_str pa_nil)) pa_nil))) (pe_lst (pa_cons pe_int pa_nil)))) (pss_cons (ps_for PassesOwn.never rfl (pi_list (pe_fld (pv 0) rfl)) (pg_name (i := 2) sc_one_form.nd rfl (Or.inl rfl)) (pss_one (ps_expr (pe_bm PySem.F.plainAttrs_list PySem.F.slot_list_extend PySem.F.type_list_extend mt_extend (pv 1) (pa_cons (pe_gl (ok_row_line T) hr (by decide) pass0 rfl (pa_cons (pv 2) pa_nil)) pa_nil))))) (pss_cons (ps_for PassesOwn.never rfl (pi_list (pe_fld (pv 0) rfl)) (pg_name (i := 3) sc_one_form.nd rfl (Or.inl rfl)) (pss_one (ps_expr (pe_bm PySem.F.plainAttrs_list PySem.F.slot_list_extend PySem.F.type_list_extend mt_extend (pv 1) (pa_cons (pe_gl (ok_question_line T) hr (by decide) pass0 rfl (pa_cons (pv 0) (pa_cons (pv 3) pa_nil))) pa_nil))))) (pss_one (ps_ret (pv 1)))))), ?_⟩

  obtain ⟨ta, dx, ln, lr, lq, rfl, w⟩ := id ht
  have hc4 := ok.c4
  have hr16 := ok.r16
  have hq8 := ok.q8
  have hcm := commas_len 16 t.cols ok.cb ok.c4
  refine ⟨PySem.Str.ofString "columns", rfl, by decide, fun p1 H1 _ e1 h1 => ?_⟩
  replace h1 := cw "columns" (by decide) h1
  have w1 := w.ex e1
  obtain ⟨ns, hn1, hn2⟩ := w1.hn
  refine ⟨_, rfl, ta, _, _, _, _, rfl, w1.ob, T.cl_Table, T.na_Table_names, rfl, ln, ns, t.cols, rfl, hn1, paired_keep (fun _ _ => BtAt.pt) hn2, by omega, (fun p hp => by have := ok.cb p hp; omega), fun p2 H2 _ e2 h2 => ?_⟩
  refine ⟨PySem.Str.ofString ";", rfl, by decide, fun p3 H3 _ e3 h3 => ⟨s3, fun pl hpl => ?_⟩⟩
  replace h3 := cw ";" (by decide) h3
  have e4 := Ex.new (o := HO.lst [V.ref p1, V.ref p2, V.ref p3]) hpl
  refine ⟨PySem.Str.ofString " ", rfl, by decide, fun p5 H5 _ e5 h5 => ?_⟩
  replace h5 := cw " " (by decide) h5
  have g4 := e4.trans e5
  have g3 := e3.trans g4
  have g2 := e2.trans g3
  have hpm : ∀ p ∈ [word "columns", Vamvsa.commas t.cols, word ";"], p.length ≤ 100 := fun p hp => by
    have b1 : (word "columns").length = 7 := by decide
    have b3 : (word ";").length = 1 := by decide
    simp only [List.mem_cons, List.not_mem_nil, or_false] at hp
    rcases hp with rfl | rfl | rfl <;> omega
  refine ⟨pl, p5, _, [word "columns", Vamvsa.commas t.cols, word ";"], word " ", rfl, e5 _ _ upd_same, .cons ⟨p1, rfl, .inl (g2 _ _ h1)⟩ (.cons ⟨p2, rfl, .inr (g3 _ _ h2)⟩ (.cons ⟨p3, rfl, .inl (g4 _ _ h3)⟩ .nil)), h5, by show 3 ≤ 50; omega, (fun p hp => by have := hpm p hp; omega), by decide, fun pj H6 hpj e6 h6 => ?_⟩
  have hjl := joined_len (word " ") 100 [word "columns", Vamvsa.commas t.cols, word ";"] hpm
  have b4 : (word " ").length = 1 := by decide
  rw [b4] at hjl
  simp only [List.length_cons, List.length_nil] at hjl
  refine ⟨s1, fun pq hpq => ⟨pj, pq, _, _, rfl, rfl, Ex.new hpq _ _ h6, upd_same, ?_, fun pf hpf => ?_⟩⟩
  · rw [List.length_map, List.length_singleton]; have := sizeLine_eq; omega
  have e7 := Ex.new (o := HO.lst [V.int 10]) hpq
  have e17 := ((e1.trans g2).trans e6).trans e7
  have hpf0 := Evl.fresh_back e17 hpf
  have e18 := e17.trans (Ex.new (o := HO.lst ((joined (word " ") [word "columns", Vamvsa.commas t.cols, word ";"]).map bV ++ [V.int 10])) hpf)
  have hb : (joined (word " ") [word "columns", Vamvsa.commas t.cols, word ";"]).map bV ++ [V.int 10] = (Vamvsa.line (word "columns " ++ (Vamvsa.commas t.cols ++ word " ;"))).map bV := by
    rw [← cols_bytes, List.map_append]; rfl
  have hbl : (Vamvsa.line (word "columns " ++ (Vamvsa.commas t.cols ++ word " ;"))).length ≤ 400 := by
    rw [← cols_bytes, List.length_append, List.length_singleton]; omega
  have h8 : (upd (upd H6 pq (HO.lst [V.int 10])) pf (HO.lst ((joined (word " ") [word "columns", Vamvsa.commas t.cols, word ";"]).map bV ++ [V.int 10]))) pf = some (.lst ((Vamvsa.line (word "columns " ++ (Vamvsa.commas t.cols ++ word " ;"))).map bV)) := by rw [upd_same, hb]
  change tSeq _ _ _ _ (upd (upd H6 pq (HO.lst [V.int 10])) pf (HO.lst ((joined (word " ") [word "columns", Vamvsa.commas t.cols, word ";"]).map bV ++ [V.int 10])))
  generalize (upd (upd H6 pq (HO.lst [V.int 10])) pf (HO.lst ((joined (word " ") [word "columns", Vamvsa.commas t.cols, word ";"]).map bV ++ [V.int 10]))) = H8 at e18 h8 ⊢
  generalize hL : Vamvsa.line (word "columns " ++ (Vamvsa.commas t.cols ++ word " ;")) = L at *
  obtain ⟨rs, hr1, hr2⟩ := w.hr
  obtain ⟨qs, hq1, hq2⟩ := w.hq
  have lr' := Paired.length hr2
  have lq' := Paired.length hq2
  refine ⟨_, rfl, ta, _, _, _, _, rfl, (w.ex e18).ob, T.cl_Table, T.na_Table_rows, rfl, lr, rfl, ⟨rs, .inl (.inl (e18 _ _ hr1))⟩, ?_⟩
  refine for_list (xs := rs) (fun i σ H' => Ex H H' ∧ H' pf = some (.lst ((L ++ (t.rows.take i).flatMap Vamvsa.showRow).map bV)) ∧ ∃ z1 : Option V, σ = [some (.ref ta), some (.ref pf), z1, none])
    ⟨e18, by rw [List.take_zero, List.flatMap_nil, List.append_nil]; exact h8, none, rfl⟩ (fun i σ H' _ hP => .inl (.inl (hP.1 _ _ hr1))) (fun i x σ H' hx hP => ?_) (fun σ H' hP => ?_)
  · obtain ⟨e9, h9, z1, rfl⟩ := hP
    obtain ⟨r, hr, hrow⟩ := L2.paired_get hr2 hx
    have hrm := List.mem_of_getElem? hr
    refine ⟨_, rfl, .inl ⟨rfl, _, .inl (.inl h9)⟩, _, rfl, x, t, r, rfl, hrow.keep (Ex.kt e9), ok, hrm, fun p10 H10 hp10 e10 h10 => ?_⟩
    have hfl := flat_len Vamvsa.showRow 11000 (t.rows.take i) fun y hy => row_len ok (List.mem_of_mem_take hy)
    rw [List.length_take] at hfl
    have hfl2 : ((t.rows.take i).flatMap Vamvsa.showRow).length ≤ 16 * 11000 := Nat.le_trans hfl (Nat.mul_le_mul_right _ (by omega))
    have hrl := row_len ok hrm
    refine ⟨pf, p10, _, _, rfl, rfl, e10 _ _ h9, h10, ?_, Ex.mut (e9.trans e10) hpf0, ?_, _, rfl⟩
    · rw [List.length_map, List.length_map, List.length_append]; have := sizeLine_eq; omega
    · rw [upd_same, List.take_add_one, hr, List.flatMap_append]
      simp only [Option.toList_some, List.flatMap_cons, List.flatMap_nil, List.append_nil, List.map_append, List.append_assoc]
  · obtain ⟨e9, h9, z1, rfl⟩ := hP
    rw [lr', List.take_length] at h9
    have hfl := flat_len Vamvsa.showRow 11000 t.rows fun y hy => row_len ok hy
    have hfl2 : (t.rows.flatMap Vamvsa.showRow).length ≤ 16 * 11000 := Nat.le_trans hfl (Nat.mul_le_mul_right _ (by omega))
    refine ⟨_, rfl, ta, _, _, _, _, rfl, (w.ex e9).ob, T.cl_Table, T.na_Table_questions, rfl, lq, rfl, ⟨qs, .inl (.inl (e9 _ _ hq1))⟩, ?_⟩
    refine for_list (xs := qs) (fun i σ H' => Ex H H' ∧ H' pf = some (.lst ((L ++ (t.rows.flatMap Vamvsa.showRow ++ (t.asks.take i).flatMap (Vamvsa.showAsk t.cols))).map bV)) ∧ ∃ z2 z3 : Option V, σ = [some (.ref ta), some (.ref pf), z2, z3])
      ⟨e9, by rw [List.take_zero, List.flatMap_nil, List.append_nil]; exact h9, z1, none, rfl⟩ (fun i σ H' _ hP => .inl (.inl (hP.1 _ _ hq1))) (fun i x σ H' hx hP => ?_) (fun σ H' hP => ?_)
    · obtain ⟨e11, h11, z2, z3, rfl⟩ := hP
      obtain ⟨a, hr, hrow⟩ := L2.paired_get hq2 hx
      have ham := List.mem_of_getElem? hr
      refine ⟨_, rfl, .inl ⟨rfl, _, .inl (.inl h11)⟩, _, rfl, _, rfl, .ref ta, x, t, a, rfl, ht.ex e11, hrow.keep (Ex.kt e11), ok, ham, fun p12 H12 hp12 e12 h12 => ?_⟩
      have hal := flat_len (Vamvsa.showAsk t.cols) 1000 (t.asks.take i) fun y hy => ask_len ok (List.mem_of_mem_take hy)
      rw [List.length_take] at hal
      have hal2 : ((t.asks.take i).flatMap (Vamvsa.showAsk t.cols)).length ≤ 8 * 1000 := Nat.le_trans hal (Nat.mul_le_mul_right _ (by omega))
      have hl1 := ask_len ok ham
      refine ⟨pf, p12, _, _, rfl, rfl, e12 _ _ h11, h12, ?_, Ex.mut (e11.trans e12) hpf0, ?_, _, _, rfl⟩
      · rw [List.length_map, List.length_map, List.length_append, List.length_append]; have := sizeLine_eq; omega
      · rw [upd_same, List.take_add_one, hr, List.flatMap_append]
        simp only [Option.toList_some, List.flatMap_cons, List.flatMap_nil, List.append_nil, List.map_append, List.append_assoc]
    · obtain ⟨e11, h11, z2, z3, rfl⟩ := hP
      rw [lq', List.take_length] at h11
      refine ⟨_, rfl, q pf H' hpf0 e11 ?_⟩
      rw [h11]
      unfold Vamvsa.shown
      rw [hL]
end Sr
set_option linter.all false
namespace Sr
open Vamvsa Vamvsb Vamvsf

/-! # What groups pay alone: the least over all sets of groupings -/

/-- what a question reads, if just these groupings are kept -/
def rdG (t : Table) (K : List Nat) (a : Ask) : Nat := K.foldl (fun m g => if canFrom (width t) g a.g = true then min m (sizeOf_ t g) else m) t.rows.length
def readsG (t : Table) (K : List Nat) : List Nat := t.asks.map (rdG t K)
def item (t : Table) (g : Nat) : Item := ⟨g, sizeOf_ t g, t.asks.map fun a => canFrom (width t) g a.g⟩
theorem items_eq (t : Table) : items t = (groupings t).map (item t) := rfl

theorem zip_map_asks {α β : Type} (f : Ask → α) (g : Ask → β) : ∀ l : List Ask, (l.map f).zip (l.map g) = l.map fun a => (f a, g a)
  | [] => rfl
  | a :: l => by
    show (f a, g a) :: (l.map f).zip (l.map g) = _
    rw [zip_map_asks f g l]
    rfl
theorem add_reads (t : Table) (s : State) (R : Ask → Nat) (h : s.reads = t.asks.map R) (g : Nat) :
    (add s (item t g)).reads = t.asks.map fun a => if canFrom (width t) g a.g = true then min (R a) (sizeOf_ t g) else R a := by
  show ((s.reads.zip (item t g).can).map fun y => if y.2 = true then Nat.min y.1 (item t g).size else y.1) = _
  rw [h]
  show (((t.asks.map R).zip (t.asks.map fun a => canFrom (width t) g a.g)).map _) = _
  rw [zip_map_asks, List.map_map]
  rfl
theorem fold_reads (t : Table) : ∀ (K : List Nat) (s : State) (R : Ask → Nat), s.reads = t.asks.map R →
    ((K.map (item t)).foldl add s).reads = t.asks.map fun a => K.foldl (fun m g => if canFrom (width t) g a.g = true then min m (sizeOf_ t g) else m) (R a)
  | [], s, R, h => h
  | g :: K, s, R, h => by
    have ih := fold_reads t K (add s (item t g)) _ (add_reads t s R h g)
    show (((K.map (item t))).foldl add (add s (item t g))).reads = _
    rw [ih]
    rfl
theorem first_reads (t : Table) : (firstState t).reads = t.asks.map fun _ => t.rows.length := rfl
theorem reads_of (t : Table) (K : List Nat) : ((K.map (item t)).foldl add (firstState t)).reads = readsG t K := fold_reads t K _ _ (first_reads t)
theorem fold_kept (t : Table) : ∀ (K : List Nat) (s : State), ((K.map (item t)).foldl add s).kept.length = s.kept.length + K.length
  | [], s => rfl
  | g :: K, s => by
    show (((K.map (item t))).foldl add (add s (item t g))).kept.length = _
    rw [fold_kept t K (add s (item t g))]
    show (s.kept ++ [g]).length + K.length = s.kept.length + (K.length + 1)
    rw [List.length_append]
    simp only [List.length_cons, List.length_nil]
    omega

/-! ## a walk with a least -/
section
variable {F : State → List Nat}
theorem zip_min_len {a b : List Nat} (ha : a.length = 16) (hb : b.length = 16) : (List.zipWith Nat.min a b).length = 16 := by
  rw [List.length_zipWith, ha, hb]; rfl
theorem zip_min_at {a b : List Nat} (ha : a.length = 16) (hb : b.length = 16) {i : Nat} (hi : i < 16) : (List.zipWith Nat.min a b).getD i 0 = min (a.getD i 0) (b.getD i 0) := by
  have e1 : a[i]? = some a[i] := List.getElem?_eq_getElem (by omega)
  have e2 : b[i]? = some b[i] := List.getElem?_eq_getElem (by omega)
  simp only [List.getD_eq_getElem?_getD, List.getElem?_zipWith, e1, e2]
  rfl
theorem walk_len (hF : ∀ s, (F s).length = 16) : ∀ (is : List Item) (s : State) (a : List Nat), a.length = 16 → (walk (fun a s => List.zipWith Nat.min a (F s)) is s a).length = 16
  | [], s, a, h => zip_min_len h (hF s)
  | x :: r, s, a, h => walk_len hF r (add s x) _ (walk_len hF r s a h)
theorem walk_acc (hF : ∀ s, (F s).length = 16) {i : Nat} (hi : i < 16) : ∀ (is : List Item) (s : State) (a : List Nat), a.length = 16 → (walk (fun a s => List.zipWith Nat.min a (F s)) is s a).getD i 0 ≤ a.getD i 0
  | [], s, a, h => by
    show (List.zipWith Nat.min a (F s)).getD i 0 ≤ _
    rw [zip_min_at h (hF s) hi]
    omega
  | x :: r, s, a, h => Nat.le_trans (walk_acc hF hi r (add s x) _ (walk_len hF r s a h)) (walk_acc hF hi r s a h)
theorem walk_le (hF : ∀ s, (F s).length = 16) {i : Nat} (hi : i < 16) : ∀ (is : List Item) (s : State) (a : List Nat) (K : List Item), a.length = 16 → K.Sublist is →
    (walk (fun a s => List.zipWith Nat.min a (F s)) is s a).getD i 0 ≤ (F (K.foldl add s)).getD i 0
  | [], s, a, K, h, hK => by
    cases hK
    show (List.zipWith Nat.min a (F s)).getD i 0 ≤ (F s).getD i 0
    rw [zip_min_at h (hF s) hi]
    omega
  | x :: r, s, a, K, h, hK => by
    cases hK with
    | cons _ h2 => exact Nat.le_trans (walk_acc hF hi r (add s x) _ (walk_len hF r s a h)) (walk_le hF hi r s a K h h2)
    | cons_cons _ h2 =>
      rename_i K2
      exact walk_le hF hi r (add s x) _ K2 (walk_len hF r s a h) h2
theorem walk_at (hF : ∀ s, (F s).length = 16) {i : Nat} (hi : i < 16) : ∀ (is : List Item) (s : State) (a : List Nat), a.length = 16 →
    (walk (fun a s => List.zipWith Nat.min a (F s)) is s a).getD i 0 = a.getD i 0 ∨ ∃ K : List Item, K.Sublist is ∧ (walk (fun a s => List.zipWith Nat.min a (F s)) is s a).getD i 0 = (F (K.foldl add s)).getD i 0
  | [], s, a, h => by
    show (List.zipWith Nat.min a (F s)).getD i 0 = _ ∨ _
    by_cases q : a.getD i 0 ≤ (F s).getD i 0
    · left
      rw [zip_min_at h (hF s) hi]
      omega
    · right
      refine ⟨[], List.Sublist.slnil, ?_⟩
      show (List.zipWith Nat.min a (F s)).getD i 0 = (F s).getD i 0
      rw [zip_min_at h (hF s) hi]
      omega
  | x :: r, s, a, h => by
    rcases walk_at hF hi r (add s x) _ (walk_len hF r s a h) with q | ⟨K, h1, h2⟩
    · rcases walk_at hF hi r s a h with q2 | ⟨K, h1, h2⟩
      · left
        exact q.trans q2
      · right
        exact ⟨K, h1.cons x, q.trans h2⟩
    · right
      exact ⟨x :: K, h1.cons_cons x, h2⟩
end

/-! ## what a leaf holds -/
/-- the cost of the wanted questions: what each reads, as often as it comes -/
def costW (w : Nat → Bool) : List ((Nat × Ask) × Nat) → Nat
  | [] => 0
  | x :: r => (if w x.2 = true then x.1.2.k * x.1.1 else 0) + costW w r
def inG (s r : Nat) : Bool := s / 2 ^ r % 2 == 1
theorem addAt_len : ∀ (l : List Nat) (r n : Nat), (addAt l r n).length = l.length
  | [], _, _ => rfl
  | _ :: _, 0, _ => rfl
  | x :: s, k + 1, n => congrArg (· + 1) (addAt_len s k n)
theorem sums_len4 (up a b c d : Nat) : (sums up [a, b, c, d]).length = 16 := rfl
theorem sums_at (up a b c d : Nat) : ∀ s, s < 16 → (sums up [a, b, c, d]).getD s 0 = up + ((if inG s 0 = true then a else 0) + ((if inG s 1 = true then b else 0) + ((if inG s 2 = true then c else 0) + (if inG s 3 = true then d else 0)))) := by
  intro s hs
  have e : sums up [a, b, c, d] = [up, up + a, up + b, up + a + b, up + c, up + a + c, up + b + c, up + a + b + c, up + d, up + a + d, up + b + d, up + a + b + d, up + c + d, up + a + c + d, up + b + c + d, up + a + b + c + d] := rfl
  rw [e]
  match s, hs with
  | 0, _ => simp [inG]
  | 1, _ => simp [inG]
  | 2, _ => simp [inG]
  | 3, _ => simp [inG]; omega
  | 4, _ => simp [inG]
  | 5, _ => simp [inG]; omega
  | 6, _ => simp [inG]; omega
  | 7, _ => simp [inG]; omega
  | 8, _ => simp [inG]
  | 9, _ => simp [inG]; omega
  | 10, _ => simp [inG]; omega
  | 11, _ => simp [inG]; omega
  | 12, _ => simp [inG]; omega
  | 13, _ => simp [inG]; omega
  | 14, _ => simp [inG]; omega
  | 15, _ => simp [inG]; omega
  | n + 16, h => exact absurd h (by omega)
theorem list4 {l : List Nat} (h : l.length = 4) : ∃ a b c d, l = [a, b, c, d] := by
  match l, h with
  | [a, b, c, d], _ => exact ⟨a, b, c, d, rfl⟩
theorem sums_add (up : Nat) {l : List Nat} (hl : l.length = 4) {r : Nat} (hr : r < 4) (n : Nat) {s : Nat} (hs : s < 16) :
    (sums up (addAt l r n)).getD s 0 = (sums up l).getD s 0 + (if inG s r = true then n else 0) := by
  obtain ⟨a, b, c, d, rfl⟩ := list4 hl
  match r, hr with
  | 0, _ =>
    show (sums up [a + n, b, c, d]).getD s 0 = _
    rw [sums_at _ _ _ _ _ s hs, sums_at _ _ _ _ _ s hs]
    cases inG s 0 <;> simp <;> omega
  | 1, _ =>
    show (sums up [a, b + n, c, d]).getD s 0 = _
    rw [sums_at _ _ _ _ _ s hs, sums_at _ _ _ _ _ s hs]
    cases inG s 1 <;> simp <;> omega
  | 2, _ =>
    show (sums up [a, b, c + n, d]).getD s 0 = _
    rw [sums_at _ _ _ _ _ s hs, sums_at _ _ _ _ _ s hs]
    cases inG s 2 <;> simp <;> omega
  | 3, _ =>
    show (sums up [a, b, c, d + n]).getD s 0 = _
    rw [sums_at _ _ _ _ _ s hs, sums_at _ _ _ _ _ s hs]
    cases inG s 3 <;> simp <;> omega
theorem sums_fold (up : Nat) {s : Nat} (hs : s < 16) : ∀ (xs : List ((Nat × Ask) × Nat)) (l : List Nat), l.length = 4 → (∀ x ∈ xs, x.2 < 4) →
    (xs.foldl (fun l x => addAt l x.2 (x.1.2.k * x.1.1)) l).length = 4 ∧
    (sums up (xs.foldl (fun l x => addAt l x.2 (x.1.2.k * x.1.1)) l)).getD s 0 = (sums up l).getD s 0 + costW (inG s) xs
  | [], l, hl, _ => ⟨hl, rfl⟩
  | x :: xs, l, hl, h => by
    have hx := h x List.mem_cons_self
    obtain ⟨h1, h2⟩ := sums_fold up hs xs (addAt l x.2 (x.1.2.k * x.1.1)) ((addAt_len _ _ _).trans hl) fun y hy => h y (List.mem_cons_of_mem _ hy)
    refine ⟨h1, ?_⟩
    show (sums up (xs.foldl _ (addAt l x.2 (x.1.2.k * x.1.1)))).getD s 0 = _
    rw [h2, sums_add up hl hx _ hs]
    show _ = (sums up l).getD s 0 + ((if inG s x.2 = true then x.1.2.k * x.1.1 else 0) + costW (inG s) xs)
    omega
theorem sums_len (up : Nat) {l : List Nat} (hl : l.length = 4) : (sums up l).length = 16 := by
  obtain ⟨a, b, c, d, rfl⟩ := list4 hl
  rfl
theorem fold_len4 : ∀ (xs : List ((Nat × Ask) × Nat)) (l : List Nat), l.length = 4 → (xs.foldl (fun l x => addAt l x.2 (x.1.2.k * x.1.1)) l).length = 4
  | [], l, hl => hl
  | x :: xs, l, hl => fold_len4 xs _ ((addAt_len _ _ _).trans hl)
theorem leaf_len (t : Table) (who : Who) (c : Nat) (s : State) : (leafCosts t who c s).length = 16 := sums_len _ (fold_len4 _ _ rfl)
theorem zip_snd {α β : Type} {x : α × β} {l : List α} {m : List β} (h : x ∈ l.zip m) : x.2 ∈ m := (List.of_mem_zip h).2
theorem leaf_at (t : Table) (who : Who) (c : Nat) (st : State) (hw : ∀ r ∈ who, r < 4) {s : Nat} (hs : s < 16) :
    (leafCosts t who c st).getD s 0 = 2 * c * st.kept.length + costW (inG s) ((st.reads.zip t.asks).zip who) := by
  have h := (sums_fold (Vamvsf.upkeep c st.kept) hs ((st.reads.zip t.asks).zip who) (List.replicate READERS 0) rfl fun x hx => hw _ (zip_snd hx)).2
  show (sums (Vamvsf.upkeep c st.kept) (readerCosts t who st)).getD s 0 = _
  unfold readerCosts
  rw [h]
  have e : (sums (Vamvsf.upkeep c st.kept) (List.replicate READERS 0)).getD s 0 = Vamvsf.upkeep c st.kept := by
    show (sums (Vamvsf.upkeep c st.kept) [0, 0, 0, 0]).getD s 0 = _
    rw [sums_at _ _ _ _ _ s hs]
    simp
  rw [e]
  rfl
end Sr
set_option linter.all false
namespace Sr
open Vamvsa Vamvsb Vamvsf

/-! # Groupings that can't help may be left out -/
/-- lists without doubles are no longer than lists that hold them -/
theorem nodup_leM : ∀ {l m : List Nat}, l.Nodup → (∀ x ∈ l, x ∈ m) → l.length ≤ m.length
  | [], m, _, _ => Nat.zero_le _
  | a :: l, m, hn, hs => by
    obtain ⟨h1, h2⟩ := List.nodup_cons.mp hn
    have ha : a ∈ m := hs a List.mem_cons_self
    have ih := nodup_leM (l := l) (m := m.erase a) h2 fun x hx => by
      have hxm := hs x (List.mem_cons_of_mem _ hx)
      have ne : x ≠ a := fun e => h1 (e ▸ hx)
      exact (List.mem_erase_of_ne ne).mpr hxm
    have hl := List.length_erase_of_mem ha
    have hp : 0 < m.length := List.length_pos_of_mem ha
    simp only [List.length_cons]
    omega
def canA (t : Table) (g : Nat) (a : Ask) : Bool := canFrom (width t) g a.g
def foldR (t : Table) (a : Ask) (K : List Nat) (r : Nat) : Nat := K.foldl (fun m g => if canFrom (width t) g a.g = true then min m (sizeOf_ t g) else m) r
theorem foldR_le (t : Table) (a : Ask) : ∀ (K : List Nat) (r : Nat), foldR t a K r ≤ r
  | [], r => Nat.le_refl _
  | g :: K, r => by
    have ih := foldR_le t a K (if canFrom (width t) g a.g = true then min r (sizeOf_ t g) else r)
    show foldR t a K (if canFrom (width t) g a.g = true then min r (sizeOf_ t g) else r) ≤ r
    by_cases c : canFrom (width t) g a.g = true
    · rw [if_pos c] at ih ⊢
      omega
    · rw [if_neg c] at ih ⊢
      exact ih
theorem foldR_mem (t : Table) (a : Ask) : ∀ (K : List Nat) (r g : Nat), g ∈ K → canA t g a = true → foldR t a K r ≤ sizeOf_ t g
  | x :: K, r, g, hg, hc => by
    show foldR t a K (if canFrom (width t) x a.g = true then min r (sizeOf_ t x) else r) ≤ sizeOf_ t g
    rcases List.mem_cons.mp hg with e | h
    · have c : canFrom (width t) x a.g = true := by rw [← e]; exact hc
      have z := foldR_le t a K (if canFrom (width t) x a.g = true then min r (sizeOf_ t x) else r)
      rw [if_pos c] at z ⊢
      rw [e]
      omega
    · exact foldR_mem t a K _ g h hc
theorem foldR_at (t : Table) (a : Ask) : ∀ (K : List Nat) (r : Nat), foldR t a K r = r ∨ ∃ g ∈ K, canA t g a = true ∧ foldR t a K r = sizeOf_ t g
  | [], r => Or.inl rfl
  | x :: K, r => by
    rcases foldR_at t a K (if canFrom (width t) x a.g = true then min r (sizeOf_ t x) else r) with h | ⟨g, h1, h2, h3⟩
    · by_cases c : canFrom (width t) x a.g = true
      · have h' : foldR t a (x :: K) r = min r (sizeOf_ t x) := by
          show foldR t a K (if canFrom (width t) x a.g = true then min r (sizeOf_ t x) else r) = _
          rw [h, if_pos c]
        by_cases q : r ≤ sizeOf_ t x
        · left
          rw [h']
          omega
        · right
          exact ⟨x, List.mem_cons_self, c, by rw [h']; omega⟩
      · left
        show foldR t a K (if canFrom (width t) x a.g = true then min r (sizeOf_ t x) else r) = _
        rw [h, if_neg c]
    · right
      exact ⟨g, List.mem_cons_of_mem _ h1, h2, h3⟩
theorem rdG_fold (t : Table) (K : List Nat) (a : Ask) : rdG t K a = foldR t a K t.rows.length := rfl
/-- what cannot help at all: no question reads it, or it is as large as the table -/
def Triv (t : Table) (g : Nat) : Prop := t.rows.length ≤ sizeOf_ t g ∨ ∀ a ∈ t.asks, canA t g a = false
def Dom (t : Table) (x y : Nat) : Prop := sizeOf_ t y ≤ sizeOf_ t x ∧ ∀ a ∈ t.asks, canA t x a = true → canA t y a = true
def cnt (t : Table) (g : Nat) : Nat := t.asks.countP (canA t g)
theorem cnt_le (t : Table) (g : Nat) : cnt t g ≤ t.asks.length := List.countP_le_length
theorem countP_mono {p q : Ask → Bool} : ∀ l : List Ask, (∀ a ∈ l, p a = true → q a = true) → l.countP p ≤ l.countP q ∧ (l.map p ≠ l.map q → l.countP p < l.countP q)
  | [], _ => ⟨Nat.le_refl _, fun h => absurd rfl h⟩
  | a :: l, h => by
    obtain ⟨h1, h2⟩ := countP_mono (p := p) (q := q) l fun b hb => h b (List.mem_cons_of_mem _ hb)
    have ha := h a List.mem_cons_self
    cases hp : p a with
    | true =>
      have hq := ha hp
      rw [List.countP_cons_of_pos hp, List.countP_cons_of_pos hq]
      refine ⟨by omega, fun hne => ?_⟩
      have : l.map p ≠ l.map q := fun e => hne (by rw [List.map_cons, List.map_cons, e, hp, hq])
      have := h2 this
      omega
    | false =>
      rw [List.countP_cons_of_neg (by rw [hp]; decide)]
      cases hq : q a with
      | true =>
        rw [List.countP_cons_of_pos hq]
        exact ⟨by omega, fun _ => by omega⟩
      | false =>
        rw [List.countP_cons_of_neg (by rw [hq]; decide)]
        refine ⟨h1, fun hne => h2 fun e => hne (by rw [List.map_cons, List.map_cons, e, hp, hq])⟩
/-- what falls from a grouping to one that stands for it -/
def meas (t : Table) (g : Nat) : Nat := (sizeOf_ t g * (t.asks.length + 1) + (t.asks.length - cnt t g)) * 2 ^ width t + g
theorem all_or {p : Ask → Bool} : ∀ l : List Ask, (l.map p).any (fun b => b) = true ∨ ∀ a ∈ l, p a = false
  | [] => Or.inr fun _ h => nomatch h
  | a :: l => by
    cases h : p a with
    | true => left; simp [h]
    | false =>
      rcases all_or (p := p) l with q | q
      · left
        rw [List.map_cons, List.any_cons, q, Bool.or_true]
      · right
        intro b hb
        rcases List.mem_cons.mp hb with e | hb
        · rw [e]; exact h
        · exact q b hb
theorem zip_all {p q : Ask → Bool} : ∀ l : List Ask, ((l.map p).zip (l.map q)).all (fun z => !z.1 || z.2) = true → ∀ a ∈ l, p a = true → q a = true
  | [], _ => fun _ h => nomatch h
  | a :: l, h => by
    rw [List.map_cons, List.map_cons, List.zip_cons_cons, List.all_cons, Bool.and_eq_true] at h
    intro b hb hp
    rcases List.mem_cons.mp hb with e | hb
    · subst e
      have h1 := h.1
      simp only [hp, Bool.not_true, Bool.false_or] at h1
      exact h1
    · exact zip_all l h.2 b hb hp
theorem lex3 {a b c a' b' c' N P : Nat} (hb : b < N) (hb' : b' < N) (hc : c < P) (hc' : c' < P) (h : a' < a ∨ (a' ≤ a ∧ b' < b) ∨ (a' ≤ a ∧ b' ≤ b ∧ c' < c)) : (a' * N + b') * P + c' < (a * N + b) * P + c := by
  have step : ∀ x y : Nat, x < y → x * P + c' < y * P + c := fun x y hxy => by
    have h1 : (x + 1) * P ≤ y * P := Nat.mul_le_mul_right _ hxy
    rw [Nat.add_mul, Nat.one_mul] at h1
    omega
  rcases h with h | ⟨h, h2⟩ | ⟨h, h2, h3⟩
  · refine step _ _ ?_
    have h1 : (a' + 1) * N ≤ a * N := Nat.mul_le_mul_right _ h
    rw [Nat.add_mul, Nat.one_mul] at h1
    omega
  · refine step _ _ ?_
    have h1 : a' * N ≤ a * N := Nat.mul_le_mul_right _ h
    omega
  · have h1 : a' * N ≤ a * N := Nat.mul_le_mul_right _ h
    have h4 : (a' * N + b') * P ≤ (a * N + b) * P := Nat.mul_le_mul_right _ (by omega)
    omega
/-- a useful one that stands for it, unless it cannot help -/
theorem stands (t : Table) : ∀ (n g : Nat), meas t g ≤ n → g < 2 ^ width t → Triv t g ∨ ∃ y, y < 2 ^ width t ∧ useless t.rows.length (items t) (item t y) = false ∧ Dom t g y := by
  intro n
  induction n with
  | zero =>
    intro g hm hg
    exact main 0 g hm hg (fun g' h' _ => absurd h' (by omega))
  | succ n ih =>
    intro g hm hg
    exact main (n + 1) g hm hg fun g' h' hg' => ih g' (by omega) hg'
where
  main (n g : Nat) (hm : meas t g ≤ n) (hg : g < 2 ^ width t) (ih : ∀ g', meas t g' < n → g' < 2 ^ width t → Triv t g' ∨ ∃ y, y < 2 ^ width t ∧ useless t.rows.length (items t) (item t y) = false ∧ Dom t g' y) :
      Triv t g ∨ ∃ y, y < 2 ^ width t ∧ useless t.rows.length (items t) (item t y) = false ∧ Dom t g y := by
    cases hu : useless t.rows.length (items t) (item t g) with
    | false => exact Or.inr ⟨g, hg, hu, Nat.le_refl _, fun _ _ h => h⟩
    | true =>
      unfold useless at hu
      rw [Bool.or_eq_true, Bool.or_eq_true] at hu
      rcases hu with h | h | h
      · left; left
        exact of_decide_eq_true h
      · left; right
        rcases all_or (p := canA t g) t.asks with q | q
        · have h' : (!(t.asks.map (canA t g)).any (fun b => b)) = true := h
          rw [q] at h'
          cases h'
        · exact q
      · obtain ⟨y, hy, hy2⟩ := List.any_eq_true.mp h
        rw [items_eq] at hy
        obtain ⟨v, hv, rfl⟩ := List.mem_map.mp hy
        have hv' : v < 2 ^ width t := List.mem_range.mp hv
        rw [Bool.and_eq_true, Bool.and_eq_true] at hy2
        obtain ⟨h1, h2, h3⟩ := hy2
        have hs : sizeOf_ t v ≤ sizeOf_ t g := of_decide_eq_true h1
        have hd := zip_all (p := canA t g) (q := canA t v) t.asks h2
        have hc := countP_mono (p := canA t g) (q := canA t v) t.asks hd
        have l1 := cnt_le t g
        have l2 := cnt_le t v
        have lt : meas t v < meas t g := by
          refine lex3 (by omega) (by omega) hg hv' ?_ |> fun z => z
          rw [Bool.or_eq_true, Bool.or_eq_true] at h3
          have e1 : cnt t g ≤ cnt t v := hc.1
          rcases h3 with h3 | h3 | h3
          · left
            exact of_decide_eq_true h3
          · right; left
            have hne : t.asks.map (canA t g) ≠ t.asks.map (canA t v) := by
              have h4 : (t.asks.map (canA t g) != t.asks.map (canA t v)) = true := h3
              exact bne_iff_ne.mp h4
            have e2 : cnt t g < cnt t v := hc.2 hne
            exact ⟨hs, by omega⟩
          · right; right
            exact ⟨hs, by omega, of_decide_eq_true h3⟩
        rcases ih v (by omega) hv' with q | ⟨y, y1, y2, y3, y4⟩
        · left
          rcases q with q | q
          · left; omega
          · right
            intro a ha
            cases hx : canA t g a with
            | false => rfl
            | true =>
              have := hd a ha hx
              rw [q a ha] at this
              cases this
        · exact Or.inr ⟨y, y1, y2, Nat.le_trans y3 hs, fun a ha hx => y4 a ha (hd a ha hx)⟩
/-- the useful groupings -/
def usefulG (t : Table) : List Nat := (groupings t).filter fun g => !useless t.rows.length (items t) (item t g)
theorem useful_eq (t : Table) : useful t = (usefulG t).map (item t) := by
  show (items t).filter (fun x => !useless t.rows.length (items t) x) = _
  rw [items_eq t, List.filter_map]
  rfl
theorem mem_useful {t : Table} {g : Nat} : g ∈ usefulG t ↔ g < 2 ^ width t ∧ useless t.rows.length (items t) (item t g) = false := by
  unfold usefulG
  rw [List.mem_filter]
  have : g ∈ groupings t ↔ g < 2 ^ width t := List.mem_range
  rw [this, Bool.not_eq_true']
/-- instead of any set one of useful ones, that reads no more and has no more -/
theorem instead (t : Table) (K : List Nat) (hK : ∀ g ∈ K, g < 2 ^ width t) : ∃ K', K'.Sublist (usefulG t) ∧ K'.length ≤ K.length ∧ ∀ a ∈ t.asks, rdG t K' a ≤ rdG t K a := by
  have pick : ∀ g, ∃ y : Option Nat, (g < 2 ^ width t → (y = none ∧ Triv t g) ∨ ∃ z, y = some z ∧ z ∈ usefulG t ∧ Dom t g z) := fun g => by
    by_cases hg : g < 2 ^ width t
    · rcases stands t (meas t g) g (Nat.le_refl _) hg with h | ⟨y, h1, h2, h3⟩
      · exact ⟨none, fun _ => Or.inl ⟨rfl, h⟩⟩
      · exact ⟨some y, fun _ => Or.inr ⟨y, rfl, mem_useful.mpr ⟨h1, h2⟩, h3⟩⟩
    · exact ⟨none, fun h => absurd h hg⟩
  let f : Nat → Option Nat := fun g => Classical.choose (pick g)
  have hf : ∀ g, g < 2 ^ width t → (f g = none ∧ Triv t g) ∨ ∃ z, f g = some z ∧ z ∈ usefulG t ∧ Dom t g z := fun g => Classical.choose_spec (pick g)
  let Y := K.filterMap f
  refine ⟨(usefulG t).filter fun g => Y.contains g, List.filter_sublist, ?_, fun a ha => ?_⟩
  · have h1 : ((usefulG t).filter fun g => Y.contains g).length ≤ Y.length := by
      refine nodup_leM (List.Nodup.sublist List.filter_sublist (List.Nodup.sublist List.filter_sublist List.nodup_range)) fun x hx => ?_
      have := (List.mem_filter.mp hx).2
      exact List.contains_iff_mem.mp this
    have h2 : Y.length ≤ K.length := List.length_filterMap_le f K
    omega
  · rw [rdG_fold, rdG_fold]
    rcases foldR_at t a K t.rows.length with h | ⟨g, h1, h2, h3⟩
    · rw [h]
      exact foldR_le t a _ _
    · rw [h3]
      rcases hf g (hK g h1) with ⟨_, q⟩ | ⟨z, e, hz, d1, d2⟩
      · rcases q with q | q
        · exact Nat.le_trans (foldR_le t a _ _) q
        · rw [q a ha] at h2
          cases h2
      · refine Nat.le_trans (foldR_mem t a _ _ z ?_ (d2 a ha h2)) d1
        refine List.mem_filter.mpr ⟨hz, List.contains_iff_mem.mpr ?_⟩
        exact List.mem_filterMap.mpr ⟨g, h1, e⟩
/-! ## what a group pays alone -/
theorem costW_mono (w : Nat → Bool) (R R' : Ask → Nat) : ∀ (l : List Ask) (who : List Nat), (∀ a ∈ l, R a ≤ R' a) → costW w (((l.map R).zip l).zip who) ≤ costW w (((l.map R').zip l).zip who)
  | [], who, _ => Nat.le_refl _
  | a :: l, [], _ => Nat.le_refl _
  | a :: l, r :: who, h => by
    have ih := costW_mono w R R' l who fun b hb => h b (List.mem_cons_of_mem _ hb)
    have ha : a.k * R a ≤ a.k * R' a := Nat.mul_le_mul_left _ (h a List.mem_cons_self)
    show (if w r = true then a.k * R a else 0) + costW w (((l.map R).zip l).zip who) ≤ (if w r = true then a.k * R' a else 0) + costW w (((l.map R').zip l).zip who)
    cases w r
    · simp only [Bool.false_eq_true, if_false]; omega
    · simp only [if_true]; omega
/-- all that a set costs the wanted questions, changes too -/
def paysG (t : Table) (who : Who) (c s : Nat) (K : List Nat) : Nat := 2 * c * K.length + costW (inG s) (((readsG t K).zip t.asks).zip who)
theorem map_sublist_inv {f : Nat → Item} {l : List Nat} {K : List Item} (h : K.Sublist (l.map f)) : ∃ L : List Nat, List.Sublist L l ∧ K = L.map f := List.sublist_map_iff.mp h
theorem pays_least (t : Table) (who : Who) (c : Nat) (hw : ∀ r ∈ who, r < 4) {s : Nat} (hs : s < 16) :
    (∀ K : List Nat, (∀ g ∈ K, g < 2 ^ width t) → (groupCosts t who c).getD s 0 ≤ paysG t who c s K) ∧ ∃ K : List Nat, K.Sublist (groupings t) ∧ (groupCosts t who c).getD s 0 = paysG t who c s K := by
  have leaf : ∀ K : List Nat, (leafCosts t who c ((K.map (item t)).foldl add (firstState t))).getD s 0 = paysG t who c s K := fun K => by
    rw [leaf_at t who c _ hw hs, reads_of, fold_kept]
    show 2 * c * (0 + K.length) + _ = _
    rw [Nat.zero_add]
    rfl
  have hF := leaf_len t who c
  constructor
  · intro K hK
    obtain ⟨K', h1, h2, h3⟩ := instead t K hK
    have h4 := walk_le hF hs (useful t) (firstState t) (leafCosts t who c (firstState t)) (K'.map (item t)) (hF _) (by rw [useful_eq]; exact h1.map _)
    rw [leaf K'] at h4
    refine Nat.le_trans h4 ?_
    unfold paysG
    have h5 : 2 * c * K'.length ≤ 2 * c * K.length := Nat.mul_le_mul_left _ h2
    have h6 := costW_mono (inG s) (rdG t K') (rdG t K) t.asks who h3
    exact Nat.add_le_add h5 h6
  · rcases walk_at hF hs (useful t) (firstState t) (leafCosts t who c (firstState t)) (hF _) with h | ⟨K, h1, h2⟩
    · refine ⟨[], List.nil_sublist _, ?_⟩
      rw [← leaf []]
      exact h
    · rw [useful_eq] at h1
      obtain ⟨L, h3, rfl⟩ := map_sublist_inv h1
      refine ⟨L, h3.trans List.filter_sublist, ?_⟩
      rw [← leaf L]
      exact h2
theorem costs_len (t : Table) (who : Who) (c : Nat) : (groupCosts t who c).length = 16 := walk_len (leaf_len t who c) _ _ _ (leaf_len t who c _)
end Sr
set_option Elab.async false
set_option linter.all false
set_option maxRecDepth 100000
set_option maxHeartbeats 4000000
/-! # What questions cost -/
namespace Sr
open PySem PySem.Spec PyProof.Rows L2
open Evl (Ex)
open Vamvsa (Table Ask)
theorem within_eq : ∀ n : Nat, n < 5 → ∀ gr : Nat, gr < 2 ^ n → ∀ one : Nat, one < 2 ^ n → decide (V.int (Builtin.bitAnd (gr : Int) (Builtin.bitNot (one : Int))) = V.int 0) = Vamvsa.canFrom n one gr := by decide +kernel
theorem size_le (t : Table) (gr : Nat) : Vamvsa.sizeOf_ t gr ≤ t.rows.length := by
  have hlen : ∀ x ∈ t.rows.map (fun r => (⟨Vamvsa.keyOf (Vamvsa.width t) gr r.vs, r.m, 1⟩ : Vamvsa.Group)), x.key.length = (Vamvsa.columnsOf t.cols.length gr).length := fun x hx => by
    obtain ⟨r, _, e⟩ := List.mem_map.mp hx
    rw [← e]
    exact List.length_map _
  obtain ⟨s, m⟩ := collect_ok _ [] hlen ⟨.nil, fun x hx => by cases hx⟩
  have nd2 := sortK_nd s
  have h := nd_len _ (t.rows.map fun r => Vamvsa.keyOf (Vamvsa.width t) gr r.vs) nd2 fun k hk => by
    have := (m k).mp hk
    simp only [List.map_nil, List.not_mem_nil, or_false, List.map_map] at this
    exact this
  rw [List.length_map, List.length_map] at h
  exact h
def sizesT (t : Table) : List Nat := (Vamvsa.groupings t).map (Vamvsa.sizeOf_ t)
theorem sizes_at {t : Table} {m : Nat} (h : m < 2 ^ t.cols.length) : (sizesT t)[m]? = some (Vamvsa.sizeOf_ t m) := by
  unfold sizesT
  rw [List.getElem?_map, show Vamvsa.groupings t = List.range (2 ^ t.cols.length) from rfl, List.getElem?_range h]
  rfl
theorem sizes_len (t : Table) : (sizesT t).length = 2 ^ t.cols.length := by
  unfold sizesT
  rw [List.length_map, show Vamvsa.groupings t = List.range (2 ^ t.cols.length) from rfl, List.length_range]
theorem lo62 (n : Nat) : -(2 ^ 62) ≤ (n : Int) := Int.le_trans (by decide) (Int.natCast_nonneg n)
theorem hi62 {n : Nat} (h : n ≤ 16) : (n : Int) < 2 ^ 62 := by omega
def sp_all_sizes (g : Gx) : Sp := fun vs H Q _ => ∃ (v : V) (t : Table), vs = [v] ∧ TblAt g H v t ∧ TOk t ∧ ∀ p H', H p = none → Ex H H' → H' p = some (.lst ((sizesT t).map nV)) → Q (.ref p) H'
abbrev N_all_sizes : List Str := ["table", "grouping"]
theorem sc_all_sizes : FnScope N_all_sizes ["table"] (defScope s_all_sizes) := ⟨rfl, rfl, rfl, by decide +kernel, rfl, by decide +kernel, by decide +kernel⟩
set_option maxHeartbeats 8000000 in
theorem ok_all_sizes {g : Gx} (T : Tx g) : RGl g CX0 3 "all_sizes" (sp_all_sizes g) := by
  refine gl0 (N := N_all_sizes) (ps := ["table"]) (st := s_all_sizes) T 2 rfl T.d_all_sizes sc_all_sizes (fun _ _ _ _ _ _ us hl => match us, hl with | [_], _ => rfl) (fun vs H Q E h => by obtain ⟨v, t, rfl, ht, ok, q⟩ := h; rfl) (fun f cdv A outer s H vs Q E hr h => ?_)
  obtain ⟨v, t, rfl, ht, ok, q⟩ := h
  refine ⟨_, (pss_one (ps_ret (pe_lc (own := [("grouping", 1)]) (tt := tYes) rfl sc_all_sizes.nd (pi_range1 rfl T.f_range (pa_cons (pe_me0 (ok_Table_how_many_groupings T) hr (by decide) pass0 (pv 0)) pa_nil)) (blkOk_by (N := N_all_sizes) (sc := defScope s_all_sizes) (by decide +kernel)) (fun _ _ _ _ _ => (pg_name (i := 1) sc_all_sizes.nd rfl (Or.inl rfl))) (fun _ _ _ _ _ => pts_nil) (fun _ _ _ _ _ => (pe_me (ok_Table_size_of T) hr (by decide) pass0 (pv 0) (pa_cons (pv 1) pa_nil)))))), ?_⟩

  obtain ⟨ta, dx, ln, lr, lq, rfl, w⟩ := id ht
  have h16 := ok.w16
  refine ⟨_, rfl, ta, _, _, rfl, w.ob, rfl, _, t, rfl, ht, ok.c4, _, rfl, lo62 _, hi62 h16, fun D hD => ?_⟩
  rw [Int.toNat_natCast]
  refine lc_range (lo := 0) (n := 2 ^ t.cols.length) (fun i H' => Ex H H' ∧ H' D = some (.lst (((sizesT t).take i).map nV))) ⟨Ex.new hD, upd_same⟩ (fun i H' hi hP => ⟨rfl, ?_⟩) (fun H' hP => ?_)
  · refine ⟨_, rfl, ta, _, _, rfl, (w.ex hP.1).ob, rfl, _, rfl, _, t, i, ?_, ht.ex hP.1, ok, by omega, fun H2 e2 => ⟨_, e2 _ _ hP.2, ?_, Ex.mut (hP.1.trans e2) hD, ?_⟩⟩
    · show [V.ref ta, V.int ((0 : Int) + (i : Nat))] = _
      rw [Int.zero_add]
    · rw [List.length_map, List.length_take]; have := sizeLine_eq; omega
    · rw [upd_same, List.take_add_one, sizes_at hi, List.map_append]; rfl
  · rw [List.take_of_length_le (by rw [sizes_len]; exact Nat.le_refl _)] at hP
    exact q D H' hD hP.1 hP.2
def oneMore (t : Table) (m : Nat) (rd : List Nat) : List Nat := (t.asks.zip rd).map fun x => if Vamvsa.canFrom t.cols.length m x.1.g = true then (if Vamvsa.sizeOf_ t m < x.2 then Vamvsa.sizeOf_ t m else x.2) else x.2
theorem oneMore_reads (t : Table) (K : List Nat) (m : Nat) : oneMore t m (readsG t K) = readsG t (K ++ [m]) := by
  unfold oneMore readsG
  have e : t.asks.zip (t.asks.map (rdG t K)) = t.asks.map fun a => (a, rdG t K a) := by
    induction t.asks with
    | nil => rfl
    | cons a l ih => rw [List.map_cons, List.zip_cons_cons, ih]; rfl
  rw [e, List.map_map]
  refine List.map_congr_left fun a _ => ?_
  show (if Vamvsa.canFrom t.cols.length m a.g = true then (if Vamvsa.sizeOf_ t m < rdG t K a then Vamvsa.sizeOf_ t m else rdG t K a) else rdG t K a) = rdG t (K ++ [m]) a
  unfold rdG
  rw [List.foldl_append]
  show _ = if Vamvsa.canFrom t.cols.length m a.g = true then min _ (Vamvsa.sizeOf_ t m) else _
  split
  · split <;> omega
  · rfl
def sp_with_one_more (g : Gx) : Sp := fun vs H Q _ => ∃ (v : V) (t : Table) (s : Addr) (p : Addr) (rd : List Nat) (m : Nat), vs = [v, .ref s, .ref p, nV m] ∧ TblAt g H v t ∧ TOk t ∧ H s = some (.lst ((sizesT t).map nV)) ∧ H p = some (.tup (rd.map nV)) ∧ rd.length = t.asks.length ∧ m < 2 ^ t.cols.length ∧ ∀ p H', H p = none → Ex H H' → H' p = some (.tup ((oneMore t m rd).map nV)) → Q (.ref p) H'
abbrev N_with_one_more : List Str := ["table", "sizes", "read", "more", "found", "grouping", "often", "size"]
theorem sc_with_one_more : FnScope N_with_one_more ["table", "sizes", "read", "more"] (defScope s_with_one_more) := ⟨rfl, rfl, rfl, by decide +kernel, rfl, by decide +kernel, by decide +kernel⟩
set_option maxHeartbeats 8000000 in
theorem ok_with_one_more {g : Gx} (T : Tx g) : RGl g CX0 2 "with_one_more" (sp_with_one_more g) := by
  refine gl0 (N := N_with_one_more) (ps := ["table", "sizes", "read", "more"]) (st := s_with_one_more) T 3 rfl T.d_with_one_more sc_with_one_more (fun _ _ _ _ _ _ us hl => match us, hl with | [_, _, _, _], _ => rfl) (fun vs H Q E h => by obtain ⟨v, t, s', p, rd, m, rfl, ht, ok, hs, hp, hrl, hm, q⟩ := h; rfl) (fun f cdv A outer s H vs Q E hr h => ?_)
  obtain ⟨v, t, s', p, rd, m, rfl, ht, ok, hs, hp, hrl, hm, q⟩ := h
  refine ⟨_, (pss_cons (ps_set (i := 4) sc_with_one_more.nd rfl (Or.inl rfl) (pe_lst pa_nil)) (pss_cons (ps_for PassesOwn.never rfl (pi_zipM2 true false rfl T.f_zip (pa_cons (pe_fld (pv 0) rfl) (pa_cons (pv 2) pa_nil))) (pg_tup rfl (pgs_cons (pg_tup rfl (pgs_cons (pg_name (i := 5) sc_with_one_more.nd rfl (Or.inl rfl)) (pgs_cons (pg_name (i := 6) sc_with_one_more.nd rfl (Or.inl rfl)) pgs_nil))) (pgs_cons (pg_name (i := 7) sc_with_one_more.nd rfl (Or.inl rfl)) pgs_nil))) (pss_one (ps_expr (pe_bm PySem.F.plainAttrs_list PySem.F.slot_list_append PySem.F.type_list_append mt_append (pv 4) (pa_cons (pe_ifExp (pt_val (pe_gl (ok_is_within T) hr (by decide) pass0 rfl (pa_cons (pv 5) (pa_cons (pv 3) pa_nil)))) (pe_callB (call_min2 rfl) rfl T.f_min (by decide +kernel) (pa_cons (pv 7) (pa_cons (pe_ix (r := rIxL g.K) ix_list (pv 1) (pv 3) (fun _ _ => rfl)) pa_nil))) (pv 7)) pa_nil))))) (pss_one (ps_ret (pe_callTy call_tuple_of rfl T.f_tuple (by decide +kernel) (pa_cons (pv 4) pa_nil)))))), ?_⟩

  obtain ⟨ta, dx, ln, lr, lq, rfl, w⟩ := id ht
  obtain ⟨qs, hq1, hq2⟩ := w.hq
  have hql := Paired.length hq2
  have h16 := ok.w16
  have hq8 := ok.q8
  have hc4 := ok.c4
  refine ⟨by decide, fun pf hpf => ?_⟩
  have e0 := Ex.new (o := HO.lst []) hpf
  refine ⟨_, rfl, ta, _, _, _, _, rfl, (w.ex e0).ob, T.cl_Table, T.na_Table_questions, rfl, _, rfl, lq, p, qs, rd.map nV, rfl, .inl (.inl (e0 _ _ hq1)), .inl (.inl (e0 _ _ hp)), ?_⟩
  refine for_it (walk_zipM2 (xs := qs) (ys := rd.map nV) (by rw [List.length_map]; omega)) (fun i σ H' => Ex H H' ∧ H' pf = some (.lst (((oneMore t m rd).take i).map nV)) ∧ ∃ z1 z2 z3 : Option V, σ = [some (.ref ta), some (.ref s'), some (.ref p), some (nV m), some (.ref pf), z1, z2, z3]) ⟨e0, upd_same, none, none, none, rfl⟩ (fun i σ H' _ hP => ⟨.inl (.inl (hP.1 _ _ hq1)), .inl (.inl (hP.1 _ _ hp))⟩) (fun i x σ H1 H2 hi hP hy => ?_) (fun σ H1 hP => ?_)
  · obtain ⟨e1, h1, z1, z2, z3, rfl⟩ := hP
    obtain ⟨Tp, x1, y1, rfl, hT, rfl, hx1, hy1⟩ := hy
    obtain ⟨ak, hak, pa, rfl, hpa⟩ := L2.paired_get hq2 hx1
    replace hy1 : (rd.map nV)[i]? = some y1 := hy1
    rw [List.getElem?_map] at hy1
    cases hrd : rd[i]? with
    | none => rw [hrd] at hy1; cases hy1
    | some r0 =>
      rw [hrd] at hy1
      cases hy1
      have e2 := e1.trans (Ex.new (o := HO.tup [V.ref pa, nV r0]) hT)
      have h2 := Ex.new (o := HO.tup [V.ref pa, nV r0]) hT _ _ h1
      refine ⟨Tp, _, rfl, .inl (.inl upd_same), rfl, _, _, rfl, pa, _, rfl, .inl (.inl (e2 _ _ hpa)), rfl, _, _, rfl, _, _, rfl, rfl, _, _, rfl, rfl, ?_⟩
      generalize (upd H1 Tp (HO.tup [V.ref pa, nV r0])) = H2 at *
      have hakm := List.mem_of_getElem? hak
      have hgk := (ok.qv ak hakm).1
      have hi8 : i < 8 := by have := (List.getElem?_eq_some_iff.mp hak).1; omega
      have hone : (oneMore t m rd)[i]? = some (if Vamvsa.canFrom t.cols.length m ak.g = true then (if Vamvsa.sizeOf_ t m < r0 then Vamvsa.sizeOf_ t m else r0) else r0) := by
        unfold oneMore
        rw [List.getElem?_map, List.getElem?_zip_eq_some.mpr (show t.asks[i]? = some (ak, r0).1 ∧ rd[i]? = some (ak, r0).2 from ⟨hak, hrd⟩)]
        rfl
      have fin : ∀ y : Nat, y = (if Vamvsa.canFrom t.cols.length m ak.g = true then (if Vamvsa.sizeOf_ t m < r0 then Vamvsa.sizeOf_ t m else r0) else r0) → Ex H (upd H2 pf (.lst (((oneMore t m rd).take i).map nV ++ [nV y]))) ∧ (upd H2 pf (.lst (((oneMore t m rd).take i).map nV ++ [nV y]))) pf = some (.lst (((oneMore t m rd).take (i + 1)).map nV)) := fun y hy => ⟨Ex.mut e2 hpf, by
        rw [upd_same, List.take_add_one, hone, ← hy, List.map_append]; rfl⟩
      have hlt : (((oneMore t m rd).take i).map nV).length < sizeLine := by rw [List.length_map, List.length_take]; have := sizeLine_eq; omega
      refine ⟨_, rfl, .inl ⟨rfl, _, .inl (.inl h2)⟩, ?_⟩
      refine ⟨_, rfl, _, rfl, (ak.g : Int), (m : Int), rfl, _, rfl, ?_⟩
      rw [show decide (V.int (Builtin.bitAnd (ak.g : Int) (Builtin.bitNot (m : Int))) = V.int 0) = Vamvsa.canFrom t.cols.length m ak.g from within_eq _ (by omega) _ hgk _ hm]
      cases hcf : Vamvsa.canFrom t.cols.length m ak.g with
      | false =>
        rw [hcf] at fin
        refine iteF ⟨_, rfl, pf, _, _, rfl, rfl, h2, hlt, ?_⟩
        obtain ⟨f1, f2⟩ := fin r0 (by rw [if_neg (by decide)])
        exact ⟨f1, f2, _, _, _, rfl⟩
      | true =>
        rw [hcf, if_pos rfl] at fin
        refine iteT ⟨_, rfl, _, rfl, _, rfl, s', _, (m : Int), _, rfl, rfl, .inl (.inl (e2 _ _ hs)), atI_n (by rw [List.getElem?_map, sizes_at hm]; rfl), (r0 : Int), (Vamvsa.sizeOf_ t m : Int), rfl, pf, _, _, rfl, rfl, h2, hlt, ?_⟩
        have ey : (V.int (if (Vamvsa.sizeOf_ t m : Int) < (r0 : Int) then (Vamvsa.sizeOf_ t m : Int) else (r0 : Int))) = nV (if Vamvsa.sizeOf_ t m < r0 then Vamvsa.sizeOf_ t m else r0) := by
          by_cases c : Vamvsa.sizeOf_ t m < r0
          · rw [if_pos c, if_pos (by omega)]
          · rw [if_neg c, if_neg (by omega)]
        rw [ey]
        obtain ⟨f1, f2⟩ := fin _ rfl
        exact ⟨f1, f2, _, _, _, rfl⟩
  · obtain ⟨e1, h1, z1, z2, z3, rfl⟩ := hP
    have hol : (oneMore t m rd).length = qs.length := by unfold oneMore; rw [List.length_map, List.length_zip]; omega
    rw [← hol, List.take_length] at h1
    exact ⟨_, rfl, pf, _, rfl, .inl ⟨.inl (.inl h1), fun l hl => q l _ (Evl.fresh_back e1 hl) (e1.trans (Ex.new hl)) upd_same⟩⟩
end Sr
set_option Elab.async false
set_option linter.all false
set_option maxRecDepth 100000
set_option maxHeartbeats 4000000
/-! # All that can be read -/
namespace Sr
open PySem PySem.Spec PyProof.Rows L2
open Evl (Ex)
open Vamvsa (Table Ask)
def subs {α : Type} : List α → List (List α)
  | [] => [[]]
  | a :: l => subs l ++ (subs l).map (a :: ·)
theorem subs_len {α : Type} : ∀ l : List α, (subs l).length = 2 ^ l.length
  | [] => rfl
  | a :: l => by
    show (subs l ++ (subs l).map (a :: ·)).length = 2 ^ (l.length + 1)
    rw [List.length_append, List.length_map, subs_len l, Nat.pow_succ]
    omega
theorem subs_mem {α : Type} : ∀ {l K : List α}, K.Sublist l → K ∈ subs l
  | _, _, .slnil => by simp [subs]
  | _, _, .cons a h => List.mem_append_left _ (subs_mem h)
  | _, _, .cons_cons a h => List.mem_append_right _ (List.mem_map.mpr ⟨_, subs_mem h, rfl⟩)
theorem valV_mem {κ : Type} [DecidableEq κ] : ∀ {kvs : List (κ × V)} {k : κ} {x : V}, valV kvs k = some x → (k, x) ∈ kvs
  | [], _, _, h => by cases h
  | p :: r, k, x, h => by
    by_cases e : p.1 = k
    · rw [valV_pos e] at h
      cases h
      rw [← e]
      exact List.mem_cons_self
    · rw [valV_neg e] at h
      exact List.mem_cons_of_mem _ (valV_mem h)
theorem mem_valV {κ : Type} [DecidableEq κ] : ∀ {kvs : List (κ × V)} {k : κ} {x : V}, (kvs.map (·.1)).Nodup → (k, x) ∈ kvs → valV kvs k = some x
  | [], _, _, _, h => by cases h
  | p :: r, k, x, nd, h => by
    obtain ⟨n1, n2⟩ := List.nodup_cons.mp nd
    rcases List.mem_cons.mp h with e | h
    · rw [← e]; exact valV_pos rfl
    · have ne : ¬ p.1 = k := fun e => n1 (by show p.1 ∈ _; rw [e]; exact List.mem_map.mpr ⟨_, h, rfl⟩)
      rw [valV_neg ne]
      exact mem_valV n2 h
structure RdsN (t : Table) (n : Nat) (kvs : List (List Key × V)) : Prop where
  nd : (kvs.map (·.1)).Nodup
  s : ∀ k x, valV kvs k = some x → ∃ K : List Nat, K.Sublist (List.range n) ∧ k = keyK (readsG t K) ∧ x = nV K.length
  c : ∀ K : List Nat, K.Sublist (List.range n) → ∃ m : Nat, valV kvs (keyK (readsG t K)) = some (nV m) ∧ m ≤ K.length
structure RdsI (t : Table) (n : Nat) (kvs0 : List (List Key × V)) (j : Nat) (kvs : List (List Key × V)) : Prop where
  nd : (kvs.map (·.1)).Nodup
  s : ∀ k x, valV kvs k = some x → ∃ K : List Nat, K.Sublist (List.range (n + 1)) ∧ k = keyK (readsG t K) ∧ x = nV K.length
  k : ∀ k (m : Nat), valV kvs0 k = some (nV m) → ∃ m' : Nat, valV kvs k = some (nV m') ∧ m' ≤ m
  d : ∀ j' : Nat, j' < j → ∀ (K : List Nat) (m : Nat), kvs0[j']? = some (keyK (readsG t K), nV m) → ∃ m' : Nat, valV kvs (keyK (readsG t (K ++ [n]))) = some (nV m') ∧ m' ≤ m + 1
theorem rds_len {t : Table} {n : Nat} {kvs : List (List Key × V)} (hn : n ≤ 16) (nd : (kvs.map (·.1)).Nodup) (s : ∀ k x, valV kvs k = some x → ∃ K : List Nat, K.Sublist (List.range n) ∧ k = keyK (readsG t K) ∧ x = nV K.length) : kvs.length ≤ 65536 := by
  have h := nd_len _ ((subs (List.range n)).map fun K => keyK (readsG t K)) nd fun k hk => by
    obtain ⟨⟨k', x⟩, hm, e⟩ := List.mem_map.mp hk
    cases e
    obtain ⟨K, hK, e, _⟩ := s k' x (mem_valV nd hm)
    exact List.mem_map.mpr ⟨K, subs_mem hK, e.symm⟩
  rw [List.length_map, List.length_map, subs_len, List.length_range] at h
  have : 2 ^ n ≤ 2 ^ 16 := Nat.pow_le_pow_right (by decide) hn
  omega
theorem readsG_one {t : Table} {K K' : List Nat} (n : Nat) (h : readsG t K = readsG t K') : readsG t (K ++ [n]) = readsG t (K' ++ [n]) := by
  rw [← oneMore_reads, ← oneMore_reads, h]
theorem nV_inj {a b : Nat} (h : nV a = nV b) : a = b := by have := V.int.inj h; omega
theorem RdsI.start {t : Table} {n : Nat} {kvs : List (List Key × V)} (h : RdsN t n kvs) : RdsI t n kvs 0 kvs :=
  ⟨h.nd, fun k x e => let ⟨K, h1, h2⟩ := h.s k x e; ⟨K, h1.trans (by rw [List.range_succ]; exact List.sublist_append_left _ _), h2⟩, fun k m e => ⟨m, e, Nat.le_refl _⟩, fun j' h => absurd h (Nat.not_lt_zero _)⟩
theorem RdsI.finish {t : Table} {n : Nat} {kvs0 kvs : List (List Key × V)} (h0 : RdsN t n kvs0) (h : RdsI t n kvs0 kvs0.length kvs) : RdsN t (n + 1) kvs := by
  refine ⟨h.nd, h.s, fun K hK => ?_⟩
  rw [List.range_succ] at hK
  obtain ⟨K1, K2, rfl, h1, h2⟩ := List.sublist_append_iff.mp hK
  obtain ⟨m, hm, hle⟩ := h0.c K1 h1
  have h3 : K2 = [] ∨ K2 = [n] := by
    cases h2 with
    | cons _ h => exact .inl (List.sublist_nil.mp h)
    | cons_cons _ h => exact .inr (by rw [List.sublist_nil.mp h])
  rcases h3 with e | e
  · subst e
    rw [List.append_nil]
    obtain ⟨m', a, b⟩ := h.k _ m hm
    exact ⟨m', a, by omega⟩
  · subst e
    obtain ⟨j, hj⟩ := List.mem_iff_getElem?.mp (valV_mem hm)
    obtain ⟨m', a, b⟩ := h.d j (List.getElem?_eq_some_iff.mp hj).1 K1 m hj
    exact ⟨m', a, by rw [List.length_append, List.length_singleton]; omega⟩
theorem RdsI.put {t : Table} {n j : Nat} {kvs0 kvs : List (List Key × V)} {K : List Nat} (h0 : RdsN t n kvs0) (h : RdsI t n kvs0 j kvs) (hK : K.Sublist (List.range n)) (hj : kvs0[j]? = some (keyK (readsG t K), nV K.length))
    (hlt : ∀ m : Nat, valV kvs (keyK (readsG t (K ++ [n]))) = some (nV m) → K.length + 1 < m) : RdsI t n kvs0 (j + 1) (putK kvs (keyK (readsG t (K ++ [n]))) (nV (K.length + 1))) := by
  refine ⟨(putK_keys kvs _ _ h.nd).1, fun k x e => ?_, fun k m e => ?_, fun j' hj' K' m e => ?_⟩
  · rw [valV_put] at e
    split at e
    · rename_i c
      cases e
      refine ⟨K ++ [n], ?_, c, by rw [List.length_append, List.length_singleton]⟩
      rw [List.range_succ]
      exact List.Sublist.append hK (List.Sublist.refl _)
    · exact h.s k x e
  · rw [valV_put]
    obtain ⟨m', a, b⟩ := h.k k m e
    split
    · rename_i c
      rw [c] at a
      have := hlt m' a
      exact ⟨_, rfl, by omega⟩
    · exact ⟨m', a, b⟩
  · rw [valV_put]
    rcases Nat.lt_or_ge j' j with hlt' | hge
    · obtain ⟨m', a, b⟩ := h.d j' hlt' K' m e
      split
      · rename_i c
        rw [c] at a
        have := hlt m' a
        exact ⟨_, rfl, by omega⟩
      · exact ⟨m', a, b⟩
    · have ej : j' = j := by omega
      subst ej
      rw [hj] at e
      obtain ⟨e1, e2⟩ := Prod.mk.inj (Option.some.inj e)
      rw [readsG_one n (keyK_inj.mp e1).symm, if_pos rfl]
      exact ⟨_, rfl, by have := nV_inj e2; omega⟩
theorem RdsI.skip {t : Table} {n j : Nat} {kvs0 kvs : List (List Key × V)} {K : List Nat} {m' : Nat} (h : RdsI t n kvs0 j kvs) (hj : kvs0[j]? = some (keyK (readsG t K), nV K.length))
    (hv : valV kvs (keyK (readsG t (K ++ [n]))) = some (nV m')) (hle : ¬ K.length + 1 < m') : RdsI t n kvs0 (j + 1) kvs := by
  refine ⟨h.nd, h.s, h.k, fun j' hj' K' m e => ?_⟩
  rcases Nat.lt_or_ge j' j with hlt' | hge
  · exact h.d j' hlt' K' m e
  · have ej : j' = j := by omega
    subst ej
    rw [hj] at e
    obtain ⟨e1, e2⟩ := Prod.mk.inj (Option.some.inj e)
    rw [readsG_one n (keyK_inj.mp e1).symm]
    exact ⟨m', hv, by have := nV_inj e2; omega⟩
theorem readsG_len (t : Table) (K : List Nat) : (readsG t K).length = t.asks.length := List.length_map _
theorem key_refs (k : List Nat) : (keyK k).map kV = k.map nV := key_vals k
def sp_all_reads (g : Gx) : Sp := fun vs H Q _ => ∃ (v : V) (t : Table) (s : Addr), vs = [v, .ref s] ∧ TblAt g H v t ∧ TOk t ∧ H s = some (.lst ((sizesT t).map nV)) ∧ ∀ p H' kvs, H p = none → Ex H H' → H' p = some (.dT kvs) → RdsN t (2 ^ t.cols.length) kvs → Q (.ref p) H'
abbrev N_all_reads : List Str := ["table", "sizes", "found", "more", "read", "many", "made"]
theorem sc_all_reads : FnScope N_all_reads ["table", "sizes"] (defScope s_all_reads) := ⟨rfl, rfl, rfl, by decide +kernel, rfl, by decide +kernel, by decide +kernel⟩
set_option maxHeartbeats 8000000 in
theorem ok_all_reads {g : Gx} (T : Tx g) : RGl g CX0 3 "all_reads" (sp_all_reads g) := by
  refine gl0 (N := N_all_reads) (ps := ["table", "sizes"]) (st := s_all_reads) T 4 rfl T.d_all_reads sc_all_reads (fun _ _ _ _ _ _ us hl => match us, hl with | [_, _], _ => rfl) (fun vs H Q E h => by obtain ⟨v, t, s', rfl, ht, ok, hs, q⟩ := h; rfl) (fun f cdv A outer s H vs Q E hr h => ?_)
  obtain ⟨v, t, s', rfl, ht, ok, hs, q⟩ := h
  refine ⟨_, (pss_cons (ps_set (i := 2) sc_all_reads.nd rfl (Or.inl rfl) (pe_disp1T (u2 hr) (pe_callTy call_tuple_of rfl T.f_tuple (by decide +kernel) (pa_cons (pe_op op_rep (pe_lst (pa_cons (pe_callB call_len_seq rfl T.f_len PySem.boot_len (pa_cons (pe_fld (pv 0) rfl) pa_nil)) pa_nil)) (pe_callB call_len_seq rfl T.f_len PySem.boot_len (pa_cons (pe_fld (pv 0) rfl) pa_nil))) pa_nil)) pe_int)) (pss_cons (ps_for PassesOwn.never rfl (pi_range1 rfl T.f_range (pa_cons (pe_me0 (ok_Table_how_many_groupings T) hr (by decide) pass0 (pv 0)) pa_nil)) (pg_name (i := 3) sc_all_reads.nd rfl (Or.inl rfl)) (pss_one (ps_for PassesOwn.never rfl (pi_list (pe_listItemsT rfl rfl T.f_list (pv 2))) (pg_tup rfl (pgs_cons (pg_name (i := 4) sc_all_reads.nd rfl (Or.inl rfl)) (pgs_cons (pg_name (i := 5) sc_all_reads.nd rfl (Or.inl rfl)) pgs_nil))) (pss_cons (ps_set (i := 6) sc_all_reads.nd rfl (Or.inl rfl) (pe_gl (ok_with_one_more T) hr (by decide) pass0 rfl (pa_cons (pv 0) (pa_cons (pv 1) (pa_cons (pv 4) (pa_cons (pv 3) pa_nil)))))) (pss_one (ps_if (PW.pt (pw_or (pt_cmp (pc_dnotin (u1 hr) (pv 6) (pv 2))) (pw_or1 (pt_cmpR op_lt (pe_op op_add (pv 5) pe_int) (pe_dget (u1 hr) (pv 2) (pv 6) (fun _ _ => rfl)) (nomark _))))) (pss_one (ps_dput (u1 hr) (pv 2) (pv 6) (pe_op op_add (pv 5) pe_int) rfl)) pss_nil)))))) (pss_one (ps_ret (pv 2))))), ?_⟩

  obtain ⟨ta, dx, ln, lr, lq, rfl, w⟩ := id ht
  obtain ⟨rs, hr1, hr2⟩ := w.hr
  obtain ⟨qs, hq1, hq2⟩ := w.hq
  have hrl := Paired.length hr2
  have hql := Paired.length hq2
  have h16 := ok.w16
  have hq8 := ok.q8
  have hr16 := ok.r16
  intro pd hpd
  have e0 := Ex.new (o := HO.dT []) hpd
  refine ⟨_, rfl, ta, _, _, _, _, rfl, (w.ex e0).ob, T.cl_Table, T.na_Table_rows, rfl, lr, rs, rfl, .inl (.inl (.inl (e0 _ _ hr1))), s1, fun pl hpl => ?_⟩
  have e1 := e0.trans (Ex.new (o := HO.lst [nV rs.length]) hpl)
  refine ⟨_, rfl, ta, _, _, _, _, rfl, (w.ex e1).ob, T.cl_Table, T.na_Table_questions, rfl, lq, qs, rfl, .inl (.inl (.inl (e1 _ _ hq1))), pl, (qs.length : Int), [nV rs.length], rfl, rfl, upd_same, by omega, by omega, ?_, fun p2 hp2 => ?_⟩
  · rw [List.length_singleton, Int.toNat_natCast]; have := sizeLine_eq; omega
  rw [Int.toNat_natCast]
  have hrep : (List.replicate qs.length [nV rs.length]).flatten = (keyK (readsG t [])).map kV := by
    rw [key_vals, hql, hrl]
    have e : readsG t [] = List.replicate t.asks.length t.rows.length := by
      show t.asks.map (fun _ => t.rows.length) = _
      exact List.map_const' ..
    rw [e, List.map_replicate]
    generalize t.asks.length = n
    induction n with
    | zero => rfl
    | succ n ih => rw [List.replicate_succ, List.flatten_cons, ih]; rfl
  rw [hrep]
  have e2 := e1.trans (Ex.new (o := HO.lst ((keyK (readsG t [])).map kV)) hp2)
  refine ⟨p2, _, rfl, .inl ⟨.inl (.inl upd_same), fun pk hpk => ?_⟩⟩
  have e3 := e2.trans (Ex.new (o := HO.tup ((keyK (readsG t [])).map kV)) hpk)
  have f1 := ((Ex.new (o := HO.lst [nV rs.length]) hpl).trans (Ex.new (o := HO.lst ((keyK (readsG t [])).map kV)) hp2)).trans (Ex.new (o := HO.tup ((keyK (readsG t [])).map kV)) hpk)
  refine ⟨_, _, rfl, f1 _ _ upd_same, pk, keyK (readsG t []), rfl, upd_same, ?_⟩
  have e4 := Ex.mut e3 (o := HO.dT [(keyK (readsG t []), nV 0)]) hpd
  change tSeq _ _ _ _ (upd (upd (upd (upd (upd H pd (HO.dT [])) pl (HO.lst [nV rs.length])) p2 (HO.lst ((keyK (readsG t [])).map kV))) pk (HO.tup ((keyK (readsG t [])).map kV))) pd (HO.dT [(keyK (readsG t []), nV 0)]))
  have h4 : (upd (upd (upd (upd (upd H pd (HO.dT [])) pl (HO.lst [nV rs.length])) p2 (HO.lst ((keyK (readsG t [])).map kV))) pk (HO.tup ((keyK (readsG t [])).map kV))) pd (HO.dT [(keyK (readsG t []), nV 0)])) pd = some (.dT [(keyK (readsG t []), nV 0)]) := upd_same
  generalize (upd (upd (upd (upd (upd H pd (HO.dT [])) pl (HO.lst [nV rs.length])) p2 (HO.lst ((keyK (readsG t [])).map kV))) pk (HO.tup ((keyK (readsG t [])).map kV))) pd (HO.dT [(keyK (readsG t []), nV 0)])) = H4 at e4 h4 ⊢
  have w4 := w.ex e4
  refine ⟨_, rfl, ta, _, _, rfl, w4.ob, rfl, _, t, rfl, ht.ex e4, ok.c4, _, rfl, lo62 _, hi62 h16, ?_⟩
  rw [Int.toNat_natCast]
  refine for_range (lo := 0) (n := 2 ^ t.cols.length) (fun n σ H' => Ex H H' ∧ (∃ kvs, H' pd = some (.dT kvs) ∧ RdsN t n kvs) ∧ ∃ z1 z2 z3 z4 : Option V, σ = [some (.ref ta), some (.ref s'), some (.ref pd), z1, z2, z3, z4])
    ⟨e4, ⟨_, h4, by simp, fun k x e => ?_, fun K hK => ?_⟩, none, none, none, none, rfl⟩ (fun n σ H5 hn hP => ?_) (fun σ H5 hP => ?_)
  · by_cases c : keyK (readsG t []) = k
    · rw [valV_pos (p := (keyK (readsG t []), nV 0)) c] at e
      exact ⟨[], List.Sublist.refl _, c.symm, (Option.some.inj e).symm⟩
    · rw [valV_neg (p := (keyK (readsG t []), nV 0)) c] at e
      cases e
  · have e : K = [] := List.sublist_nil.mp hK
    subst e
    exact ⟨0, valV_pos rfl, Nat.le_refl _⟩
  · obtain ⟨e5, ⟨kvs0, hk0, R0⟩, z1, z2, z3, z4, rfl⟩ := hP
    have hn16 : n < 16 := by omega
    refine ⟨_, rfl, pd, kvs0, rfl, hk0, fun H6 pl2 ts e6 hpl2 hl6 hpr6 => ⟨pl2, rfl, ⟨_, .inl (.inl hl6)⟩, ?_⟩⟩
    have n1 : pl2 ≠ pd := fun z => by rw [z, hk0] at hpl2; cases hpl2
    have hlt := Paired.length hpr6
    have hL0 := rds_len (Nat.le_of_lt hn16) R0.nd R0.s
    refine for_list (xs := ts.map V.ref) (fun j σ H' => Ex H H' ∧ H' pl2 = some (.lst (ts.map V.ref)) ∧ (∀ a xs, H6 a = some (.tup xs) → H' a = some (.tup xs)) ∧ (∃ kvs, H' pd = some (.dT kvs) ∧ RdsI t n kvs0 j kvs) ∧ ∃ z2 z3 z4 : Option V, σ = [some (.ref ta), some (.ref s'), some (.ref pd), some (.int (n : Nat)), z2, z3, z4])
      ⟨e5.trans e6, hl6, fun _ _ h => h, ⟨kvs0, e6 _ _ hk0, RdsI.start R0⟩, z2, z3, z4, by rw [Int.zero_add]; rfl⟩ (fun j σ H' _ hP => .inl (.inl hP.2.1)) (fun j x σ H7 hx hP => ?_) (fun σ H7 hP => ?_)
    · obtain ⟨e7, hl7, kt7, ⟨kvs, hk7, RI⟩, z2, z3, z4, rfl⟩ := hP
      rw [List.getElem?_map] at hx
      cases htj : ts[j]? with
      | none => rw [htj] at hx; cases hx
      | some tj =>
        rw [htj] at hx
        cases hx
        obtain ⟨⟨kk, xx⟩, hkj, bq, htq, hbq⟩ := L2.paired_get hpr6 htj
        obtain ⟨K, hK, ek, ex⟩ := R0.s kk xx (mem_valV R0.nd (List.mem_of_getElem? hkj))
        subst ek ex
        have hbq7 := kt7 _ _ (e6 _ _ hbq)
        rw [key_vals] at hbq7
        have htq7 := kt7 _ _ htq
        refine ⟨tj, _, rfl, .inl (.inl htq7), rfl, _, _, rfl, _, _, rfl, rfl, ?_⟩
        refine ⟨_, rfl, _, rfl, _, rfl, _, rfl, .ref ta, t, s', bq, readsG t K, n, rfl, ht.ex e7, ok, e7 _ _ hs, hbq7, readsG_len t K, hn, fun pm H8 hpm e8 h8 => ?_⟩
        rw [oneMore_reads, ← key_vals] at h8
        have hk8 := e8 _ _ hk7
        have hKl : K.length ≤ 16 := by have := hK.length_le; rw [List.length_range] at this; omega
        have hLk := rds_len (t := t) (n := n + 1) (by omega) RI.nd RI.s
        have store : (∀ m : Nat, valV kvs (keyK (readsG t (K ++ [n]))) = some (nV m) → K.length + 1 < m) → (Ex H (upd H8 pd (.dT (putK kvs (keyK (readsG t (K ++ [n]))) (nV (K.length + 1))))) ∧ (upd H8 pd (.dT (putK kvs (keyK (readsG t (K ++ [n]))) (nV (K.length + 1))))) pl2 = some (.lst (ts.map V.ref)) ∧ (∀ a xs, H6 a = some (.tup xs) → (upd H8 pd (.dT (putK kvs (keyK (readsG t (K ++ [n]))) (nV (K.length + 1))))) a = some (.tup xs)) ∧
            (∃ kvs2, (upd H8 pd (.dT (putK kvs (keyK (readsG t (K ++ [n]))) (nV (K.length + 1))))) pd = some (.dT kvs2) ∧ RdsI t n kvs0 (j + 1) kvs2)) := fun hm => by
          refine ⟨Ex.mut (e7.trans e8) hpd, by rw [upd_ne n1]; exact e8 _ _ hl7, fun a xs h => ?_, ⟨_, upd_same, RdsI.put R0 RI hK hkj hm⟩⟩
          have := e8 _ _ (kt7 a xs h)
          rw [upd_ne (fun z => by rw [z, hk8] at this; cases this)]
          exact this
        have hlen : kvs.length < sizeLine := by have := sizeLine_eq; omega
        refine ⟨_, rfl, _, rfl, pd, _, rfl, DGet.t hk8 h8, _, rfl, ?_⟩
        cases hv : valV kvs (keyK (readsG t (K ++ [n]))) with
        | none =>
          obtain ⟨a1, a2, a3, a4⟩ := store fun m e => by rw [hv] at e; cases e
          exact ⟨_, rfl, _, _, rfl, rfl, _, rfl, _, rfl, pd, _, rfl, DPut.t hk8 h8 hlen, a1, a2, a3, a4, _, _, _, rfl⟩
        | some y =>
          obtain ⟨K2, hK2, _, ey⟩ := RI.s _ _ hv
          subst ey
          refine ⟨_, rfl, _, _, rfl, rfl, _, rfl, _, rfl, pd, nV K2.length, rfl, by rw [← hv]; exact DGet.t hk8 h8, _, _, rfl, rfl, _, rfl, ?_⟩
          by_cases c : K.length + 1 < K2.length
          · rw [decide_eq_true (by omega : (K.length : Int) + 1 < (K2.length : Int))]
            obtain ⟨a1, a2, a3, a4⟩ := store fun m e => by rw [hv] at e; have := nV_inj (Option.some.inj e); omega
            exact ⟨_, rfl, _, _, rfl, rfl, _, rfl, _, rfl, pd, _, rfl, DPut.t hk8 h8 hlen, a1, a2, a3, a4, _, _, _, rfl⟩
          · rw [decide_eq_false (by omega : ¬ (K.length : Int) + 1 < (K2.length : Int))]
            exact ⟨e7.trans e8, e8 _ _ hl7, fun a xs h => e8 _ _ (kt7 a xs h), ⟨kvs, hk8, RI.skip hkj hv c⟩, _, _, _, rfl⟩
    · obtain ⟨e7, hl7, kt7, ⟨kvs, hk7, RI⟩, z2, z3, z4, rfl⟩ := hP
      rw [List.length_map, hlt] at RI
      exact ⟨e7, ⟨kvs, hk7, RI.finish R0⟩, _, _, _, _, rfl⟩
  · obtain ⟨e5, ⟨kvs0, hk0, R0⟩, z1, z2, z3, z4, rfl⟩ := hP
    exact ⟨_, rfl, q pd H5 kvs0 hpd e5 hk0 R0⟩
end Sr
set_option Elab.async false
set_option linter.all false
set_option maxRecDepth 100000
set_option maxHeartbeats 4000000
/-! # What groups pay alone -/
namespace Sr
open PySem PySem.Spec PyProof.Rows L2
open Evl (Ex)
open Vamvsa (Table Ask)
def costL (l : List ((Ask × Nat) × Bool)) : Nat := l.foldl (fun m x => if x.2 = true then m + x.1.1.k * x.1.2 else m) 0
theorem costL_snoc (l : List ((Ask × Nat) × Bool)) (x : (Ask × Nat) × Bool) : costL (l ++ [x]) = if x.2 = true then costL l + x.1.1.k * x.1.2 else costL l := by
  unfold costL
  rw [List.foldl_append]; rfl
theorem costL_acc (w : Nat → Bool) : ∀ (as : List Ask) (rd who : List Nat) (m : Nat), ((as.zip rd).zip (who.map w)).foldl (fun m (x : (Ask × Nat) × Bool) => if x.2 = true then m + x.1.1.k * x.1.2 else m) m = m + costW w ((rd.zip as).zip who)
  | [], rd, who, m => by
    have : (rd.zip ([] : List Ask)) = [] := List.zip_nil_right
    rw [this]; rfl
  | a :: as, [], who, m => rfl
  | a :: as, r :: rd, [], m => rfl
  | a :: as, r :: rd, x :: who, m => by
    show ((as.zip rd).zip (who.map w)).foldl _ (if w x = true then m + a.k * r else m) = m + ((if w x = true then a.k * r else 0) + costW w ((rd.zip as).zip who))
    rw [costL_acc w as rd who]
    split <;> omega
theorem costL_eq (w : Nat → Bool) (as : List Ask) (rd who : List Nat) : costL ((as.zip rd).zip (who.map w)) = costW w ((rd.zip as).zip who) := by
  have := costL_acc w as rd who 0
  rw [Nat.zero_add] at this
  exact this
def sp_cost_of (g : Gx) : Sp := fun vs H Q _ => ∃ (v : V) (t : Table) (p wa : Addr) (rd : List Nat) (ws : List Bool), vs = [v, .ref p, .ref wa] ∧ TblAt g H v t ∧ TOk t ∧ H p = some (.tup (rd.map nV)) ∧ H wa = some (.lst (ws.map V.bl)) ∧ rd.length = t.asks.length ∧ ws.length = t.asks.length ∧ (∀ r ∈ rd, r ≤ 16) ∧ ∀ H', Ex H H' → Q (nV (costL ((t.asks.zip rd).zip ws))) H'
abbrev N_cost_of : List Str := ["table", "read", "wanted", "found", "grouping", "often", "size", "is_wanted"]
theorem sc_cost_of : FnScope N_cost_of ["table", "read", "wanted"] (defScope s_cost_of) := ⟨rfl, rfl, rfl, by decide +kernel, rfl, by decide +kernel, by decide +kernel⟩
set_option maxHeartbeats 8000000 in
theorem ok_cost_of {g : Gx} (T : Tx g) : RGl g CX0 1 "cost_of" (sp_cost_of g) := by
  refine gl0 (N := N_cost_of) (ps := ["table", "read", "wanted"]) (st := s_cost_of) T 5 rfl T.d_cost_of sc_cost_of (fun _ _ _ _ _ _ us hl => match us, hl with | [_, _, _], _ => rfl) (fun vs H Q E h => by obtain ⟨v, t, p, wa, rd, ws, rfl, ht, ok, hp, hw, hrl, hwl, hr16, q⟩ := h; rfl) (fun f cdv A outer s H vs Q E hr h => ?_)
  obtain ⟨v, t, p, wa, rd, ws, rfl, ht, ok, hp, hw, hrl, hwl, hr16, q⟩ := h
  refine ⟨_, (pss_cons (ps_set (i := 3) sc_cost_of.nd rfl (Or.inl rfl) pe_int) (pss_cons (ps_for PassesOwn.never rfl (pi_zipM3 true false true rfl T.f_zip (pa_cons (pe_fld (pv 0) rfl) (pa_cons (pv 1) (pa_cons (pv 2) pa_nil)))) (pg_tup rfl (pgs_cons (pg_tup rfl (pgs_cons (pg_name (i := 4) sc_cost_of.nd rfl (Or.inl rfl)) (pgs_cons (pg_name (i := 5) sc_cost_of.nd rfl (Or.inl rfl)) pgs_nil))) (pgs_cons (pg_name (i := 6) sc_cost_of.nd rfl (Or.inl rfl)) (pgs_cons (pg_name (i := 7) sc_cost_of.nd rfl (Or.inl rfl)) pgs_nil)))) (pss_one (ps_if (pt_val (pv 7)) (pss_one (ps_set (i := 3) sc_cost_of.nd rfl (Or.inl rfl) (pe_op op_add (pv 3) (pe_op op_mulW (pv 5) (pv 6))))) pss_nil))) (pss_one (ps_ret (pv 3))))), ?_⟩

  obtain ⟨ta, dx, ln, lr, lq, rfl, w⟩ := id ht
  obtain ⟨qs, hq1, hq2⟩ := w.hq
  have hql := Paired.length hq2
  refine ⟨_, rfl, ta, _, _, _, _, rfl, w.ob, T.cl_Table, T.na_Table_questions, rfl, _, rfl, _, rfl, lq, p, wa, qs, rd.map nV, ws.map V.bl, rfl, .inl (.inl hq1), .inl (.inl hp), .inl (.inl hw), ?_⟩
  refine for_it (walk_zipM3 (xs := qs) (ys := rd.map nV) (zs := ws.map V.bl) (by rw [List.length_map]; omega) (by rw [List.length_map]; omega)) (fun i σ H' => Ex H H' ∧ ∃ z1 z2 z3 z4 : Option V, σ = [some (.ref ta), some (.ref p), some (.ref wa), some (nV (costL (((t.asks.zip rd).zip ws).take i))), z1, z2, z3, z4]) ⟨Ex.refl _, none, none, none, none, rfl⟩ (fun i σ H' _ hP => ⟨.inl (.inl (hP.1 _ _ hq1)), .inl (.inl (hP.1 _ _ hp)), .inl (.inl (hP.1 _ _ hw))⟩) (fun i x σ H1 H2 hi hP hy => ?_) (fun σ H1 hP => ?_)
  · obtain ⟨e1, z1, z2, z3, z4, rfl⟩ := hP
    obtain ⟨Tp, x1, y1, w1, rfl, hT, rfl, hx1, hy1, hw1⟩ := hy
    obtain ⟨ak, hak, pa, rfl, hpa⟩ := L2.paired_get hq2 hx1
    replace hy1 : (rd.map nV)[i]? = some y1 := hy1
    replace hw1 : (ws.map V.bl)[i]? = some w1 := hw1
    rw [List.getElem?_map] at hy1 hw1
    cases hrd : rd[i]? with
    | none => rw [hrd] at hy1; cases hy1
    | some r0 =>
      rw [hrd] at hy1
      cases hy1
      cases hws : ws[i]? with
      | none => rw [hws] at hw1; cases hw1
      | some b0 =>
        rw [hws] at hw1
        cases hw1
        have e2 := e1.trans (Ex.new (o := HO.tup [V.ref pa, nV r0, V.bl b0]) hT)
        refine ⟨Tp, _, rfl, .inl (.inl upd_same), rfl, _, _, rfl, pa, _, rfl, .inl (.inl (e2 _ _ hpa)), rfl, _, _, rfl, _, _, rfl, rfl, _, _, rfl, _, _, rfl, rfl, ?_⟩
        generalize (upd H1 Tp (HO.tup [V.ref pa, nV r0, V.bl b0])) = H2 at *
        have hz : ((t.asks.zip rd).zip ws)[i]? = some ((ak, r0), b0) := List.getElem?_zip_eq_some.mpr ⟨List.getElem?_zip_eq_some.mpr ⟨hak, hrd⟩, hws⟩
        have htk : (((t.asks.zip rd).zip ws).take (i + 1)) = ((t.asks.zip rd).zip ws).take i ++ [((ak, r0), b0)] := by rw [List.take_add_one, hz]; rfl
        have hcs := costL_snoc (((t.asks.zip rd).zip ws).take i) ((ak, r0), b0)
        obtain ⟨_, hk1, hk99⟩ := ok.qv ak (List.mem_of_getElem? hak)
        have hr0 := hr16 r0 (List.mem_of_getElem? hrd)
        refine ⟨_, rfl, b0, rfl, ?_⟩
        cases b0 with
        | false =>
          exact iteF ⟨e2, some (nV ak.g), some (nV ak.k), some (nV r0), some (V.bl false), by rw [htk, hcs, if_neg (by simp)]; rfl⟩
        | true =>
          refine iteT ⟨_, rfl, _, rfl, _, rfl, (ak.k : Int), (r0 : Int), rfl, rfl, wide_mul (a := 8) (b := 8) (by rw [Int.natAbs_natCast]; omega) (by rw [Int.natAbs_natCast]; omega) (by decide) (by decide) (by decide), _, _, rfl, rfl, e2, some (nV ak.g), some (nV ak.k), some (nV r0), some (V.bl true), by rw [htk, hcs, if_pos rfl]; rfl⟩
  · obtain ⟨e1, z1, z2, z3, z4, rfl⟩ := hP
    have : ((t.asks.zip rd).zip ws).length = qs.length := by rw [List.length_zip, List.length_zip]; omega
    refine ⟨_, rfl, ?_⟩
    rw [← this, List.take_length]
    exact q H1 e1
theorem rdG_le (t : Table) (K : List Nat) (a : Ask) : rdG t K a ≤ t.rows.length := by rw [rdG_fold]; exact foldR_le t a K _
def sp_pays_alone (g : Gx) : Sp := fun vs H Q _ => ∃ (v : V) (t : Table) (d wa : Addr) (kvs : List (List Key × V)) (who : List Nat) (s c : Nat), vs = [v, .ref d, .ref wa, nV c] ∧ TblAt g H v t ∧ TOk t ∧ H d = some (.dT kvs) ∧ RdsN t (2 ^ t.cols.length) kvs ∧ H wa = some (.lst ((who.map (inG s)).map V.bl)) ∧ who.length = t.asks.length ∧ (∀ r ∈ who, r < 4) ∧ s < 16 ∧ c ≤ 1000 ∧ ∀ H', Ex H H' → Q (nV ((Vamvsf.groupCosts t who c).getD s 0)) H'
abbrev N_pays_alone : List Str := ["table", "reads", "wanted", "changes", "many", "read"]
theorem sc_pays_alone : FnScope N_pays_alone ["table", "reads", "wanted", "changes"] (defScope s_pays_alone) := ⟨rfl, rfl, rfl, by decide +kernel, rfl, by decide +kernel, by decide +kernel⟩
set_option maxHeartbeats 8000000 in
theorem ok_pays_alone {g : Gx} (T : Tx g) : RGl g CX0 2 "pays_alone" (sp_pays_alone g) := by
  refine gl0 (N := N_pays_alone) (ps := ["table", "reads", "wanted", "changes"]) (st := s_pays_alone) T 6 rfl T.d_pays_alone sc_pays_alone (fun _ _ _ _ _ _ us hl => match us, hl with | [_, _, _, _], _ => rfl) (fun vs H Q E h => by obtain ⟨v, t, d, wa, kvs, who, s0, c, rfl, ht, ok, hd, RN, hw, hwl, hw4, hs, hc, q⟩ := h; rfl) (fun f cdv A outer s H vs Q E hr h => ?_)
  obtain ⟨v, t, d, wa, kvs, who, s0, c, rfl, ht, ok, hd, RN, hw, hwl, hw4, hs, hc, q⟩ := h
  refine ⟨_, (pss_one (ps_ret (pe_lock (pe_callB (cr_min rfl) rfl T.f_min (by decide +kernel) (pa_cons (pe_lc (own := [("read", 5), ("many", 4)]) (tt := tYes) rfl sc_pays_alone.nd (pi_itemsT (pv 1)) (blkOk_by (N := N_pays_alone) (sc := defScope s_pays_alone) (by decide +kernel)) (fun _ _ _ _ _ => (pg_tupK (K := g.K) (n := 2) rfl (pgs_cons (pg_name (i := 5) sc_pays_alone.nd rfl (Or.inl rfl)) (pgs_cons (pg_name (i := 4) sc_pays_alone.nd rfl (Or.inl rfl)) pgs_nil)))) (fun _ _ _ _ _ => pts_nil) (fun _ _ _ _ _ => (pe_op op_add (pe_gl (ok_cost_of T) hr (by decide) pass0 rfl (pa_cons (pv 0) (pa_cons (pv 5) (pa_cons (pv 2) pa_nil)))) (pe_op op_mulW (pe_op op_mulW (pe_gc rfl T.g_CHANGE_COST) (pv 3)) (pv 4))))) pa_nil))))), ?_⟩

  obtain ⟨ta, dx, ln, lr, lq, rfl, w⟩ := id ht
  have h16 := ok.w16
  refine ⟨d, _, hd, trivial, fun od => ?_⟩
  have hH0 : ∀ b o, H b = some o → b ≠ d → (upd H d (.frz od (.dT kvs))) b = some o := fun b o h n => by rw [upd_ne n]; exact h
  have hfd : (upd H d (.frz od (.dT kvs))) d = some (.frz od (.dT kvs)) := upd_same
  have hnone : ∀ b, (upd H d (.frz od (.dT kvs))) b = none → H b = none ∧ b ≠ d := fun b h => by
    have n : b ≠ d := fun z => by rw [z, upd_same] at h; cases h
    exact ⟨by rw [upd_ne n] at h; exact h, n⟩
  have back : ∀ {H' : Hp}, Ex (upd H d (.frz od (.dT kvs))) H' → Ex H (upd H' d (.dT kvs)) := fun {H'} e b o h => by
    by_cases n : b = d
    · rw [n, upd_same]; rw [n, hd] at h; exact h
    · rw [upd_ne n]; exact e _ _ (hH0 b o h n)
  have nd : ∀ {b : Addr} {o : HO}, H b = some o → o ≠ .dT kvs → b ≠ d := fun h n z => by rw [z, hd] at h; cases h; exact n rfl
  have w0 : TbW g (upd H d (.frz od (.dT kvs))) ta dx ln lr lq t := by
    obtain ⟨ob, ⟨ns, n1, n2⟩, ⟨rs, r1, r2⟩, ⟨qs, q1, q2⟩⟩ := w
    have kt : Kt H (upd H d (.frz od (.dT kvs))) := fun a xs h => hH0 a _ h (nd h (fun z => nomatch z))
    exact ⟨hH0 _ _ ob (nd ob (fun z => nomatch z)), ⟨ns, hH0 _ _ n1 (nd n1 (fun z => nomatch z)), paired_keep (fun _ _ => BtAt.keep kt) n2⟩, ⟨rs, hH0 _ _ r1 (nd r1 (fun z => nomatch z)), paired_keep (fun _ _ => RowAt.keep kt) r2⟩, ⟨qs, hH0 _ _ q1 (nd q1 (fun z => nomatch z)), paired_keep (fun _ _ => AskAt.keep kt) q2⟩⟩
  have hw0 := hH0 _ _ hw (nd hw (fun z => nomatch z))
  have ht0 : TblAt g (upd H d (.frz od (.dT kvs))) (.ref ta) t := ⟨ta, dx, ln, lr, lq, rfl, w0⟩
  generalize (upd H d (.frz od (.dT kvs))) = H0 at *
  refine ⟨_, rfl, d, od, kvs, rfl, hfd, fun D hD => ?_⟩
  have hkl := rds_len h16 RN.nd RN.s
  refine lc_it walk_itemsT (fun i H' => Ex H0 H' ∧ ∃ ns : List Int, H' D = some (.lst (ns.map V.int)) ∧ Paired (fun (n : Int) (kv : List Key × V) => ∃ K : List Nat, K.Sublist (List.range (2 ^ t.cols.length)) ∧ kv.1 = keyK (readsG t K) ∧ kv.2 = nV K.length ∧ n = ((paysG t who c s0 K : Nat) : Int)) ns (kvs.take i)) ⟨Ex.new hD, [], upd_same, .nil⟩ (fun i H' _ hP => hP.1 _ _ hfd) (fun i x H1 H2 hi hP hy => ?_) (fun H1 hP => ?_)
  · obtain ⟨e1, ns, hns, hpr⟩ := hP
    obtain ⟨Tp, b, kk, vv, hkv, rfl, hb, hT, rfl⟩ := hy
    obtain ⟨K, hK, ek, ev⟩ := RN.s kk vv (mem_valV RN.nd (List.mem_of_getElem? hkv))
    subst ek ev
    have e2 := e1.trans (Ex.new (o := HO.tup [V.ref b, nV K.length]) hT)
    have hb2 := Ex.new (o := HO.tup [V.ref b, nV K.length]) hT _ _ hb
    have hns2 := Ex.new (o := HO.tup [V.ref b, nV K.length]) hT _ _ hns
    rw [key_vals] at hb2
    refine ⟨Tp, _, rfl, .inl (.inl upd_same), rfl, _, _, rfl, _, _, rfl, rfl, rfl, ?_⟩
    generalize (upd H1 Tp (HO.tup [V.ref b, nV K.length])) = H2 at *
    have hKl : K.length ≤ 16 := by have := hK.length_le; rw [List.length_range] at this; omega
    refine ⟨_, rfl, _, rfl, _, rfl, .ref ta, t, b, wa, readsG t K, who.map (inG s0), rfl, ht0.ex e2, ok, hb2, e2 _ _ hw0, readsG_len t K, by rw [List.length_map]; exact hwl, (fun r hr => ?_), fun H3 e3 => ?_⟩
    · obtain ⟨a, _, e⟩ := List.mem_map.mp hr
      have := rdG_le t K a
      have := ok.r16
      omega
    rw [costL_eq]
    refine ⟨_, rfl, 2, (c : Int), rfl, rfl, wide_mul (a := 8) (b := 12) (by decide) (by rw [Int.natAbs_natCast]; omega) (by decide) (by decide) (by decide), _, rfl, 2 * (c : Int), (K.length : Int), rfl, rfl, wide_mul (a := 16) (b := 8) (by omega) (by rw [Int.natAbs_natCast]; omega) (by decide) (by decide) (by decide), _, _, rfl, rfl, _, e3 _ _ hns2, ?_, Ex.mut (e2.trans e3) hD, ns ++ [((paysG t who c s0 K : Nat) : Int)], ?_, ?_⟩
    · have := Paired.length hpr
      rw [List.length_take] at this
      rw [List.length_map]
      have := sizeLine_eq
      omega
    · rw [upd_same, List.map_append]
      have e : (costW (inG s0) (((readsG t K).zip t.asks).zip who) : Int) + 2 * (c : Int) * (K.length : Int) = ((paysG t who c s0 K : Nat) : Int) := by
        unfold paysG
        rw [Int.natCast_add, Int.natCast_mul, Int.natCast_mul]
        exact Int.add_comm _ _
      show some (HO.lst (_ ++ [V.int ((costW (inG s0) (((readsG t K).zip t.asks).zip who) : Int) + 2 * (c : Int) * (K.length : Int))])) = _
      rw [e]
      rfl
    · rw [List.take_add_one, hkv]
      exact paired_snoc hpr ⟨K, hK, rfl, rfl, rfl⟩
  · obtain ⟨e1, ns, hns, hpr⟩ := hP
    rw [List.take_length] at hpr
    obtain ⟨p1, K0, p2, p3⟩ := pays_least t who c hw4 hs
    obtain ⟨m0, hm0, hle0⟩ := RN.c K0 p2
    obtain ⟨j0, hj0⟩ := List.mem_iff_getElem?.mp (valV_mem hm0)
    obtain ⟨n0, hn0, K1, hK1, ek1, ev1, en1⟩ := paired_at hpr hj0
    have hlen : 0 < ns.length := by have := (List.getElem?_eq_some_iff.mp hn0).1; omega
    refine ⟨D, ns, rfl, .inl (.inl hns), hlen, fun m hm hmin => ⟨e1 _ _ hfd, ?_⟩⟩
    have hmv : m = (((Vamvsf.groupCosts t who c).getD s0 0 : Nat) : Int) := by
      obtain ⟨i, hi⟩ := List.mem_iff_getElem?.mp hm
      obtain ⟨kv, hkv, K, hK, _, _, eK⟩ := L2.paired_get hpr hi
      have h1 := p1 K fun gg hg => List.mem_range.mp (hK.subset hg)
      have h2 := hmin n0 (List.mem_of_getElem? hn0)
      have h3 : paysG t who c s0 K1 ≤ paysG t who c s0 K0 := by
        unfold paysG
        rw [show readsG t K1 = readsG t K0 from (keyK_inj.mp ek1).symm]
        have e1' : K1.length = m0 := (nV_inj ev1).symm
        have : 2 * c * K1.length ≤ 2 * c * K0.length := Nat.mul_le_mul_left _ (by omega)
        omega
      omega
    rw [hmv]
    exact q _ (back e1)
end Sr
set_option Elab.async false
set_option linter.all false
set_option maxRecDepth 100000
set_option maxHeartbeats 4000000
/-! # What questions read with a few; sets of at most two -/
namespace Sr
open PySem PySem.Spec PyProof.Rows L2
open Evl (Ex)
open Vamvsa (Table Ask better sizeOf_ canFrom width)
theorem best_fold (t : Table) (gr : Nat) : ∀ (L : List Nat) (b : Option Nat), ((L.foldl (better t gr) b) = none → b = none ∧ ∀ v ∈ L, canFrom (width t) v gr = false) ∧
    ∀ v, L.foldl (better t gr) b = some v → ((v ∈ L ∧ canFrom (width t) v gr = true) ∨ b = some v) ∧ (∀ u ∈ L, canFrom (width t) u gr = true → sizeOf_ t v ≤ sizeOf_ t u) ∧ ∀ u, b = some u → sizeOf_ t v ≤ sizeOf_ t u
  | [], b => ⟨fun h => ⟨h, fun v hv => by cases hv⟩, fun v h => ⟨.inr h, fun u hu => by (cases hu), fun u hu => by
      have h' : b = some v := h
      rw [h'] at hu; cases hu; exact Nat.le_refl _⟩⟩
  | x :: L, b => by
    obtain ⟨i1, i2⟩ := best_fold t gr L (better t gr b x)
    rw [List.foldl_cons]
    by_cases c : canFrom (width t) x gr = false
    · have e : better t gr b x = b := by unfold better; rw [if_pos c]
      rw [e] at i1 i2 ⊢
      refine ⟨fun h => ⟨(i1 h).1, fun v hv => ?_⟩, fun v h => ?_⟩
      · rcases List.mem_cons.mp hv with q | q
        · rw [q]; exact c
        · exact (i1 h).2 v q
      · obtain ⟨a1, a2, a3⟩ := i2 v h
        refine ⟨?_, fun u hu hc => ?_, a3⟩
        · rcases a1 with q | q
          · exact .inl ⟨List.mem_cons_of_mem _ q.1, q.2⟩
          · exact .inr q
        · rcases List.mem_cons.mp hu with q | q
          · rw [q, c] at hc; cases hc
          · exact a2 u q hc
    · have ct : canFrom (width t) x gr = true := by cases h : canFrom (width t) x gr with | true => rfl | false => exact absurd h c
      cases b with
      | none =>
        have e : better t gr none x = some x := by unfold better; rw [if_neg c]
        rw [e] at i1 i2 ⊢
        refine ⟨fun h => (by have := (i1 h).1; cases this), fun v h => ?_⟩
        obtain ⟨a1, a2, a3⟩ := i2 v h
        refine ⟨.inl ?_, fun u hu hc => ?_, fun u hu => by cases hu⟩
        · rcases a1 with q | q
          · exact ⟨List.mem_cons_of_mem _ q.1, q.2⟩
          · cases q; exact ⟨List.mem_cons_self, ct⟩
        · rcases List.mem_cons.mp hu with q | q
          · rw [q]; exact a3 x rfl
          · exact a2 u q hc
      | some z =>
        have e : better t gr (some z) x = if sizeOf_ t x < sizeOf_ t z then some x else some z := by unfold better; rw [if_neg c]
        by_cases l : sizeOf_ t x < sizeOf_ t z
        · rw [e, if_pos l] at i1 i2 ⊢
          refine ⟨fun h => (by have := (i1 h).1; cases this), fun v h => ?_⟩
          obtain ⟨a1, a2, a3⟩ := i2 v h
          have hx := a3 x rfl
          refine ⟨.inl ?_, fun u hu hc => ?_, fun u hu => by cases hu; omega⟩
          · rcases a1 with q | q
            · exact ⟨List.mem_cons_of_mem _ q.1, q.2⟩
            · cases q; exact ⟨List.mem_cons_self, ct⟩
          · rcases List.mem_cons.mp hu with q | q
            · rw [q]; exact hx
            · exact a2 u q hc
        · rw [e, if_neg l] at i1 i2 ⊢
          refine ⟨fun h => (by have := (i1 h).1; cases this), fun v h => ?_⟩
          obtain ⟨a1, a2, a3⟩ := i2 v h
          have hz := a3 z rfl
          refine ⟨?_, fun u hu hc => ?_, a3⟩
          · rcases a1 with q | q
            · exact .inl ⟨List.mem_cons_of_mem _ q.1, q.2⟩
            · exact .inr q
          · rcases List.mem_cons.mp hu with q | q
            · rw [q]; omega
            · exact a2 u q hc
theorem costOf_min (t : Table) (ks : List Nat) (gr m : Nat) (hk : ∀ k ∈ ks, k < 2 ^ t.cols.length) (h0 : (ks.filter fun k => canFrom t.cols.length k gr) = [] → m = t.rows.length)
    (h1 : (ks.filter fun k => canFrom t.cols.length k gr) ≠ [] → (∃ k ∈ ks, canFrom t.cols.length k gr = true ∧ m = sizeOf_ t k) ∧ ∀ k ∈ ks, canFrom t.cols.length k gr = true → m ≤ sizeOf_ t k) : m = Vamvsa.costOf t ks gr := by
  have hm : ∀ v, v ∈ Vamvsa.sortedKept t ks ↔ v ∈ ks := fun v => by
    unfold Vamvsa.sortedKept
    rw [List.mem_filter]
    constructor
    · rintro ⟨_, h⟩; simpa using h
    · intro h; exact ⟨List.mem_range.mpr (hk v h), by simpa using h⟩
  obtain ⟨i1, i2⟩ := best_fold t gr (Vamvsa.sortedKept t ks) none
  unfold Vamvsa.costOf
  cases e : Vamvsa.reader t ks gr with
  | none =>
    have hno := (i1 e).2
    exact h0 (List.filter_eq_nil_iff.mpr fun k hk' => by
      rw [show canFrom t.cols.length k gr = false from hno k ((hm k).mpr hk')]; decide)
  | some v =>
    obtain ⟨a1, a2, _⟩ := i2 v e
    rcases a1 with ⟨a1, a1'⟩ | a1
    · have hv := (hm v).mp a1
      obtain ⟨⟨k, hk1, hk2, hk3⟩, hmin⟩ := h1 fun z => by
        have := List.filter_eq_nil_iff.mp z v hv
        exact this a1'
      have l1 := hmin v hv a1'
      have l2 := a2 k ((hm k).mpr hk1) hk2
      show m = sizeOf_ t v
      omega
    · cases a1
def sp_read_sizes (g : Gx) : Sp := fun vs H Q _ => ∃ (v : V) (t : Table) (s ka : Addr) (ks : List Nat), vs = [v, .ref s, .ref ka] ∧ TblAt g H v t ∧ TOk t ∧ H s = some (.lst ((sizesT t).map nV)) ∧ H ka = some (.lst (ks.map nV)) ∧ (∀ k ∈ ks, k < 2 ^ t.cols.length) ∧ ks.length ≤ 16 ∧ ∀ p H', H p = none → Ex H H' → H' p = some (.lst ((Vamvsf.rowCosts t ks).map nV)) → Q (.ref p) H'
abbrev N_read_sizes : List Str := ["table", "sizes", "kept", "found", "grouping", "often", "one"]
theorem sc_read_sizes : FnScope N_read_sizes ["table", "sizes", "kept"] (defScope s_read_sizes) := ⟨rfl, rfl, rfl, by decide +kernel, rfl, by decide +kernel, by decide +kernel⟩
set_option maxHeartbeats 8000000 in
theorem ok_read_sizes {g : Gx} (T : Tx g) : RGl g CX0 2 "read_sizes" (sp_read_sizes g) := by
  refine gl0 (N := N_read_sizes) (ps := ["table", "sizes", "kept"]) (st := s_read_sizes) T 1 rfl T.d_read_sizes sc_read_sizes (fun _ _ _ _ _ _ us hl => match us, hl with | [_, _, _], _ => rfl) (fun vs H Q E h => by obtain ⟨v, t, s', ka, ks, rfl, ht, ok, hs, hka, hk2, hk16, q⟩ := h; rfl) (fun f cdv A outer s H vs Q E hr h => ?_)
  obtain ⟨v, t, s', ka, ks, rfl, ht, ok, hs, hka, hk2, hk16, q⟩ := h
  refine ⟨_, (pss_cons (ps_set (i := 3) sc_read_sizes.nd rfl (Or.inl rfl) (pe_lst pa_nil)) (pss_cons (ps_for PassesOwn.never rfl (pi_list (pe_fld (pv 0) rfl)) (pg_tup rfl (pgs_cons (pg_name (i := 4) sc_read_sizes.nd rfl (Or.inr rfl)) (pgs_cons (pg_name (i := 5) sc_read_sizes.nd rfl (Or.inl rfl)) pgs_nil))) (pss_one (ps_expr (pe_bm PySem.F.plainAttrs_list PySem.F.slot_list_append PySem.F.type_list_append mt_append (pv 3) (pa_cons (pe_callBK (call_min_dflt rfl (u1 hr)) rfl T.f_min (by decide +kernel) (pa_cons (pe_lc (own := [("one", 6)]) rfl sc_read_sizes.nd (pi_list (pv 2)) (blkOk_by (N := N_read_sizes) (sc := defScope s_read_sizes) (by decide +kernel)) (fun _ _ _ _ _ => (pg_name (i := 6) sc_read_sizes.nd rfl (Or.inl rfl))) (fun _ _ _ _ _ => (pts_one (pt_val (pe_gl (ok_is_within T) hr (by decide) pass0 rfl (pa_cons (pv 4) (pa_cons (pv 6) pa_nil)))))) (fun _ _ _ _ _ => (pe_ix (r := rIxL g.K) ix_list (pv 1) (pv 6) (fun _ _ => rfl)))) pa_nil) (pk_cons (pe_callB call_len_seq rfl T.f_len PySem.boot_len (pa_cons (pe_fld (pv 0) rfl) pa_nil)) pk_nil)) pa_nil))))) (pss_one (ps_ret (pv 3))))), ?_⟩

  obtain ⟨ta, dx, ln, lr, lq, rfl, w⟩ := id ht
  obtain ⟨qs, hq1, hq2⟩ := w.hq
  obtain ⟨rs, hr1, hr2⟩ := w.hr
  have hql := Paired.length hq2
  have hrl := Paired.length hr2
  have hq8 := ok.q8
  have hc4 := ok.c4
  refine ⟨by decide, fun pf hpf => ?_⟩
  have e0 := Ex.new (o := HO.lst []) hpf
  refine ⟨_, rfl, ta, _, _, _, _, rfl, (w.ex e0).ob, T.cl_Table, T.na_Table_questions, rfl, lq, rfl, ⟨qs, .inl (.inl (e0 _ _ hq1))⟩, ?_⟩
  refine for_list (xs := qs) (fun i σ H' => Ex H H' ∧ H' pf = some (.lst (((Vamvsf.rowCosts t ks).take i).map nV)) ∧ ∃ z1 z2 : Option V, σ = [some (.ref ta), some (.ref s'), some (.ref ka), some (.ref pf), z1, z2, none])
    ⟨e0, upd_same, none, none, rfl⟩ (fun i σ H' _ hP => .inl (.inl (hP.1 _ _ hq1))) (fun i x σ H1 hx hP => ?_) (fun σ H1 hP => ?_)
  · obtain ⟨e1, h1, z1, z2, rfl⟩ := hP
    obtain ⟨ak, hak, pa, rfl, hpa⟩ := L2.paired_get hq2 hx
    have hakm := List.mem_of_getElem? hak
    have hgk := (ok.qv ak hakm).1
    refine ⟨pa, _, rfl, .inl (.inl (e1 _ _ hpa)), rfl, _, _, rfl, _, _, rfl, rfl, ?_⟩
    refine ⟨_, rfl, .inl ⟨rfl, _, .inl (.inl h1)⟩, ?_⟩
    refine ⟨_, rfl, ka, rfl, ⟨_, .inl (.inl (e1 _ _ hka))⟩, fun D hD => ?_⟩
    refine lc_list (xs := ks.map nV) (fun j H' => Ex H1 H' ∧ H' D = some (.lst (((ks.take j).filter fun k => canFrom t.cols.length k ak.g).map fun k => nV (sizeOf_ t k)))) ⟨Ex.new hD, upd_same⟩ (fun j H' _ hQ => .inl (.inl (hQ.1 _ _ (e1 _ _ hka)))) (fun j y H2 hy hQ => ⟨rfl, ?_⟩) (fun H2 hQ => ?_)
    · rw [List.getElem?_map] at hy
      cases hkj : ks[j]? with
      | none => rw [hkj] at hy; cases hy
      | some k =>
        rw [hkj] at hy
        cases hy
        have hkm := hk2 k (List.mem_of_getElem? hkj)
        have htk : (ks.take (j + 1)).filter (fun k => canFrom t.cols.length k ak.g) = (ks.take j).filter (fun k => canFrom t.cols.length k ak.g) ++ (if canFrom t.cols.length k ak.g = true then [k] else []) := by
          rw [List.take_add_one, hkj, Option.toList_some, List.filter_append, List.filter_cons]
          congr 1
        refine ⟨_, rfl, _, rfl, (ak.g : Int), (k : Int), rfl, _, rfl, ?_⟩
        rw [show decide (V.int (Builtin.bitAnd (ak.g : Int) (Builtin.bitNot (k : Int))) = V.int 0) = canFrom t.cols.length k ak.g from within_eq _ (by omega) _ hgk _ hkm]
        cases hc : canFrom t.cols.length k ak.g with
        | false =>
          rw [hc, if_neg (by decide), List.append_nil] at htk
          exact iteF ⟨hQ.1, by rw [hQ.2, htk]⟩
        | true =>
          rw [hc, if_pos rfl] at htk
          refine iteT ⟨_, rfl, _, rfl, s', _, (k : Int), _, rfl, rfl, .inl (.inl ((e1.trans hQ.1) _ _ hs)), atI_n (by rw [List.getElem?_map, sizes_at hkm]; rfl), _, hQ.2, ?_, Ex.mut hQ.1 hD, ?_⟩
          · have := List.length_filter_le (fun k => canFrom t.cols.length k ak.g) (ks.take j)
            rw [List.length_take] at this
            rw [List.length_map]
            have := sizeLine_eq
            omega
          · rw [upd_same, htk, List.map_append]; rfl
    · rw [List.length_map, List.take_length] at hQ
      have e2 := e1.trans hQ.1
      refine ⟨_, rfl, ta, _, _, _, _, rfl, (w.ex e2).ob, T.cl_Table, T.na_Table_rows, rfl, lr, rs, rfl, .inl (.inl (.inl (e2 _ _ hr1))), ?_⟩
      have hmap : ((ks.filter fun k => canFrom t.cols.length k ak.g).map fun k => nV (sizeOf_ t k)) = ((ks.filter fun k => canFrom t.cols.length k ak.g).map fun k => (sizeOf_ t k : Int)).map V.int := by rw [List.map_map]; rfl
      refine ⟨D, (ks.filter fun k => canFrom t.cols.length k ak.g).map fun k => (sizeOf_ t k : Int), (rs.length : Int), rfl, rfl, .inl (.inl (by rw [hQ.2, hmap])), fun m hm0 hm1 => ?_⟩
      have hmn : ∃ n : Nat, m = (n : Int) ∧ n = Vamvsa.costOf t ks ak.g := by
        by_cases hf : (ks.filter fun k => canFrom t.cols.length k ak.g) = []
        · refine ⟨rs.length, hm0 (by rw [hf]; rfl), costOf_min t ks ak.g _ hk2 (fun _ => hrl) fun z => absurd hf z⟩
        · obtain ⟨hin, hle⟩ := hm1 fun z => hf (List.map_eq_nil_iff.mp z)
          obtain ⟨k, hk, ek⟩ := List.mem_map.mp hin
          obtain ⟨hk', hkc⟩ := List.mem_filter.mp hk
          refine ⟨sizeOf_ t k, ek.symm, costOf_min t ks ak.g _ hk2 (fun z => absurd z hf) fun _ => ⟨⟨k, hk', hkc, rfl⟩, fun u hu huc => ?_⟩⟩
          have := hle _ (List.mem_map.mpr ⟨u, List.mem_filter.mpr ⟨hu, huc⟩, rfl⟩)
          omega
      obtain ⟨n, rfl, hn⟩ := hmn
      have hi8 : i < 8 := by have := (List.getElem?_eq_some_iff.mp hak).1; omega
      refine ⟨pf, _, _, rfl, rfl, hQ.1 _ _ h1, ?_, Ex.mut e2 hpf, ?_, _, _, rfl⟩
      · rw [List.length_map, List.length_take]; have := sizeLine_eq; omega
      · have hrc : (Vamvsf.rowCosts t ks)[i]? = some n := by
          unfold Vamvsf.rowCosts
          rw [List.getElem?_map, hak, hn]; rfl
        rw [upd_same, List.take_add_one, hrc, List.map_append]; rfl
  · obtain ⟨e1, h1, z1, z2, rfl⟩ := hP
    have : (Vamvsf.rowCosts t ks).length = qs.length := by unfold Vamvsf.rowCosts; rw [List.length_map]; omega
    rw [← this, List.take_length] at h1
    exact ⟨_, rfl, q pf H1 hpf e1 h1⟩
end Sr
set_option Elab.async false
set_option linter.all false
set_option maxRecDepth 100000
set_option maxHeartbeats 4000000
/-! # Small sets; the regrets' object -/
namespace Sr
open PySem PySem.Spec PyProof.Rows L2
open Evl (Ex)
open Vamvsa (Table Ask)
def fewN (n : Nat) : List (List Nat) := [[]] ++ ((List.range n).map (fun g => [g]) ++ (List.range n).flatMap fun g => ((List.range n).filter fun u => decide (g < u)).map fun u => [g, u])
theorem few_eq (t : Table) : Vamvsf.few t = fewN (2 ^ t.cols.length) := rfl
theorem range_above : ∀ n g : Nat, g < n → (List.range n).filter (fun u => decide (g < u)) = (List.range (n - (g + 1))).map fun k => g + 1 + k := by
  intro n
  induction n with
  | zero => intro g h; omega
  | succ n ih =>
    intro g h
    rw [List.range_succ, List.filter_append]
    by_cases e : g = n
    · subst e
      rw [show g + 1 - (g + 1) = 0 by omega]
      have h1 : (List.range g).filter (fun u => decide (g < u)) = [] := List.filter_eq_nil_iff.mpr fun a ha => by
        have := List.mem_range.mp ha
        rw [decide_eq_false (by omega)]; decide
      rw [h1]
      simp
    · rw [ih g (by omega), show n + 1 - (g + 1) = (n - (g + 1)) + 1 by omega, List.range_succ, List.map_append]
      congr 1
      rw [List.filter_cons, if_pos (decide_eq_true (by omega)), List.filter_nil, List.map_cons, List.map_nil]
      congr 1
      omega
theorem few_len16 : ∀ n : Nat, n < 17 → (fewN n).length ≤ 200 := by decide +kernel
theorem take_len {n : Nat} (h : n ≤ 16) (i : Nat) (hi : i ≤ n) : ([[]] ++ (List.range n).map (fun g => [g]) ++ ((List.range n).take i).flatMap fun g => ((List.range n).filter fun u => decide (g < u)).map fun u => [g, u]).length ≤ 200 := by
  have h1 := few_len16 n (by omega)
  unfold fewN at h1
  have h2 : (((List.range n).take i).flatMap fun g => ((List.range n).filter fun u => decide (g < u)).map fun u => [g, u]).length ≤ ((List.range n).flatMap fun g => ((List.range n).filter fun u => decide (g < u)).map fun u => [g, u]).length := by
    have e : List.range n = (List.range n).take i ++ (List.range n).drop i := (List.take_append_drop i _).symm
    conv => rhs; rw [show (List.range n).flatMap (fun g => ((List.range n).filter fun u => decide (g < u)).map fun u => [g, u]) = ((List.range n).take i ++ (List.range n).drop i).flatMap (fun g => ((List.range n).filter fun u => decide (g < u)).map fun u => [g, u]) by rw [← e]]
    rw [List.flatMap_append, List.length_append]
    omega
  simp only [List.length_append] at h1 ⊢
  omega
def sp_small_sets (g : Gx) : Sp := fun vs H Q _ => ∃ n : Nat, vs = [nV n] ∧ n ≤ 16 ∧ ∀ p xs H', H p = none → Ex H H' → H' p = some (.lst xs) → Paired (NlAt H') xs (fewN n) → Q (.ref p) H'
abbrev N_small_sets : List Str := ["many", "found", "one", "other"]
theorem sc_small_sets : FnScope N_small_sets ["many"] (defScope s_small_sets) := ⟨rfl, rfl, rfl, by decide +kernel, rfl, by decide +kernel, by decide +kernel⟩
set_option maxHeartbeats 8000000 in
theorem ok_small_sets {g : Gx} (T : Tx g) : RGl g CX0 1 "small_sets" (sp_small_sets g) := by
  refine gl0 (N := N_small_sets) (ps := ["many"]) (st := s_small_sets) T 51 rfl T.d_small_sets sc_small_sets (fun _ _ _ _ _ _ us hl => match us, hl with | [_], _ => rfl) (fun vs H Q E h => by obtain ⟨n, rfl, hn, q⟩ := h; rfl) (fun f cdv A outer s H vs Q E hr h => ?_)
  obtain ⟨n, rfl, hn, q⟩ := h
  refine ⟨_, (pss_cons (ps_set (i := 1) sc_small_sets.nd rfl (Or.inl rfl) (pe_op op_cat (pe_lst (pa_cons (pe_lst pa_nil) pa_nil)) (pe_lc (own := [("one", 2)]) (tt := tYes) rfl sc_small_sets.nd (pi_range1 rfl T.f_range (pa_cons (pv 0) pa_nil)) (blkOk_by (N := N_small_sets) (sc := defScope s_small_sets) (by decide +kernel)) (fun _ _ _ _ _ => (pg_name (i := 2) sc_small_sets.nd rfl (Or.inl rfl))) (fun _ _ _ _ _ => pts_nil) (fun _ _ _ _ _ => (pe_lst (pa_cons (pv 2) pa_nil)))))) (pss_cons (ps_for PassesOwn.never rfl (pi_range1 rfl T.f_range (pa_cons (pv 0) pa_nil)) (pg_name (i := 2) sc_small_sets.nd rfl (Or.inr rfl)) (pss_one (ps_expr (pe_bm PySem.F.plainAttrs_list PySem.F.slot_list_extend PySem.F.type_list_extend mt_extend (pv 1) (pa_cons (pe_lc (own := [("other", 3)]) (tt := tYes) rfl sc_small_sets.nd (pi_range2 rfl T.f_range (pa_cons (pe_op op_add (pv 2) pe_int) (pa_cons (pv 0) pa_nil))) (blkOk_by (N := N_small_sets) (sc := defScope s_small_sets) (by decide +kernel)) (fun _ _ _ _ _ => (pg_name (i := 3) sc_small_sets.nd rfl (Or.inl rfl))) (fun _ _ _ _ _ => pts_nil) (fun _ _ _ _ _ => (pe_lst (pa_cons (pv 2) (pa_cons (pv 3) pa_nil))))) pa_nil))))) (pss_one (ps_ret (pv 1))))), ?_⟩

  refine ⟨by decide, fun p0 hp0 => ⟨s1, fun p1 hp1 => ?_⟩⟩
  have e0 := Ex.new (o := HO.lst []) hp0
  have e1 := e0.trans (Ex.new (o := HO.lst [V.ref p0]) hp1)
  have h0 := Ex.new (o := HO.lst [V.ref p0]) hp1 _ _ (upd_same (H := H) (a := p0) (o := HO.lst []))
  have h1 : (upd (upd H p0 (HO.lst [])) p1 (HO.lst [V.ref p0])) p1 = some (.lst [V.ref p0]) := upd_same
  generalize (upd (upd H p0 (HO.lst [])) p1 (HO.lst [V.ref p0])) = H1 at *
  refine ⟨_, rfl, (n : Int), rfl, by omega, by omega, fun D hD => ?_⟩
  rw [Int.toNat_natCast]
  refine lcP (walk_range (lo := 0) (n := n)) (fun H v d => NlAt H v d) (fun H H' v d h k b => nl_mono h k b) ((List.range n).map fun g => [g]) (by rw [List.length_map, List.length_range]) (by omega) hD (fun _ _ => trivial) (fun i x H2 H3 d hi hd e2 hy => ?_) gName_mono (fun H2 acc e2 hacc hpr => ?_)
  · obtain ⟨rfl, hx⟩ := hy
    rw [List.getElem?_map, List.getElem?_range hi] at hd
    cases hd
    subst hx
    refine ⟨Ex.refl _, rfl, Ex.refl _, fun hDn Q' hQ => ⟨_, rfl, s1, fun p hp => hQ _ _ (Ex.new hp) ⟨⟨p, rfl, ?_⟩, ref_new hDn hp⟩⟩⟩
    rw [upd_same]
    show some (HO.lst [V.int ((0 : Int) + (i : Nat))]) = _
    rw [Int.zero_add]
    rfl
  · refine ⟨p1, D, [V.ref p0], acc, rfl, rfl, e2 _ _ h1, hacc, ?_, fun pf hpf => ?_⟩
    · have := Paired.length hpr
      rw [List.length_map, List.length_range] at this
      have := sizeLine_eq
      simp only [List.length_singleton]
      omega
    have e3 := (e1.trans e2).trans (Ex.new (o := HO.lst ([V.ref p0] ++ acc)) hpf)
    have hpf0 := Evl.fresh_back (e1.trans e2) hpf
    have base : Paired (fun v d => NlAt (upd H2 pf (HO.lst ([V.ref p0] ++ acc))) v d ∧ v ≠ .ref pf) ([V.ref p0] ++ acc) ([[]] ++ (List.range n).map fun g => [g]) := by
      have stay : ∀ {v : V} {d : List Nat}, NlAt H2 v d → NlAt (upd H2 pf (HO.lst ([V.ref p0] ++ acc))) v d ∧ v ≠ .ref pf := fun {v d} h => by
        obtain ⟨a, rfl, ha⟩ := h
        have n1 : V.ref a ≠ .ref pf := ref_old hpf ha
        exact ⟨⟨a, rfl, by rw [upd_ne (fun z => n1 (by rw [z]))]; exact ha⟩, n1⟩
      exact .cons (stay ⟨p0, rfl, e2 _ _ h0⟩) (paired_keep (fun v d h => stay h) hpr)
    have hbl := Paired.length base
    have hpfL : (upd H2 pf (HO.lst ([V.ref p0] ++ acc))) pf = some (.lst ([V.ref p0] ++ acc)) := upd_same
    change tSeq _ _ _ _ (upd H2 pf (HO.lst ([V.ref p0] ++ acc)))
    generalize hxs0 : [V.ref p0] ++ acc = xs0 at *
    generalize (upd H2 pf (HO.lst xs0)) = H4 at e3 base hpfL ⊢
    refine ⟨_, rfl, (n : Int), rfl, by omega, by omega, ?_⟩
    rw [Int.toNat_natCast]
    refine for_range (lo := 0) (n := n) (fun i σ H' => Ex H H' ∧ (∃ xs, H' pf = some (.lst xs) ∧ Paired (fun v d => NlAt H' v d ∧ v ≠ .ref pf) xs ([[]] ++ (List.range n).map (fun g => [g]) ++ ((List.range n).take i).flatMap fun g => ((List.range n).filter fun u => decide (g < u)).map fun u => [g, u])) ∧ ∃ z : Option V, σ = [some (nV n), some (.ref pf), z, none])
      ⟨e3, ⟨xs0, hpfL, by simpa using base⟩, none, rfl⟩ (fun i σ H5 hi hP => ?_) (fun σ H5 hP => ?_)
    · obtain ⟨e5, ⟨xs, hxs, hpx⟩, z, rfl⟩ := hP
      have ei : V.int ((0 : Int) + (i : Nat)) = nV i := by rw [Int.zero_add]
      have hxl := Paired.length hpx
      have hbound := take_len hn i (by omega)
      have hbound2 := take_len hn (i + 1) (by omega)
      refine ⟨_, rfl, .inl ⟨rfl, _, .inl (.inl hxs)⟩, ?_⟩
      refine ⟨_, rfl, (0 : Int) + (i : Nat), 1, rfl, rfl, _, rfl, (0 : Int) + (i : Nat) + 1, (n : Int), rfl, ⟨by omega, by omega, by omega, by omega⟩, fun D2 hD2 => ?_⟩
      have enn : ((n : Int) - ((0 : Int) + (i : Nat) + 1)).toNat = n - (i + 1) := by omega
      rw [enn]
      have hra := range_above n i hi
      refine lcP (walk_range (lo := (0 : Int) + (i : Nat) + 1) (n := n - (i + 1))) (fun H v d => NlAt H v d ∧ v ≠ .ref pf) (fun H H' v d h k b => ⟨nl_mono h k b.1, b.2⟩) ((List.range (n - (i + 1))).map fun k => [i, i + 1 + k]) (by rw [List.length_map, List.length_range]) (by omega) hD2 (fun _ _ => trivial) (fun j x H6 H7 d hj hd e6 hy => ?_) gName_mono (fun H6 acc2 e6 hacc2 hpr2 => ?_)
      · obtain ⟨rfl, hx⟩ := hy
        rw [List.getElem?_map, List.getElem?_range hj] at hd
        cases hd
        subst hx
        refine ⟨Ex.refl _, rfl, Ex.refl _, fun hDn Q' hQ => ⟨_, rfl, _, rfl, s2, fun p hp => hQ _ _ (Ex.new hp) ⟨⟨⟨p, rfl, ?_⟩, ref_new (by rw [e6 _ _ hxs]; exact fun z => nomatch z) hp⟩, ref_new hDn hp⟩⟩⟩
        rw [upd_same]
        show some (HO.lst [V.int ((0 : Int) + (i : Nat)), V.int ((0 : Int) + (i : Nat) + 1 + (j : Nat))]) = some (HO.lst [nV i, nV (i + 1 + j)])
        rw [show ((0 : Int) + (i : Nat) + 1 + (j : Nat)) = ((i + 1 + j : Nat) : Int) by omega, Int.zero_add]
      · have hl2 := Paired.length hpr2
        have hmm : (List.range (n - (i + 1))).map (fun k => [i, i + 1 + k]) = ((List.range n).filter fun u => decide (i < u)).map fun u => [i, u] := by rw [hra, List.map_map]; rfl
        rw [hmm] at hpr2 hl2
        have htk : ((List.range n).take (i + 1)).flatMap (fun g => ((List.range n).filter fun u => decide (g < u)).map fun u => [g, u]) = ((List.range n).take i).flatMap (fun g => ((List.range n).filter fun u => decide (g < u)).map fun u => [g, u]) ++ ((List.range n).filter fun u => decide (i < u)).map fun u => [i, u] := by
          rw [List.take_add_one, List.getElem?_range hi, List.flatMap_append]
          simp
        have hxs6 := e6 _ _ hxs
        have nD : D2 ≠ pf := fun z => by rw [z, hxs] at hD2; cases hD2
        refine ⟨pf, D2, xs, acc2, rfl, rfl, hxs6, hacc2, ?_, Ex.mut (e5.trans e6) hpf0, ⟨_, upd_same, ?_⟩, _, rfl⟩
        · rw [htk, ← List.append_assoc, List.length_append] at hbound2
          rw [hxl, hl2]
          have := sizeLine_eq
          omega
        · rw [htk, ← List.append_assoc]
          have stay : ∀ {v : V} {d : List Nat}, NlAt H6 v d ∧ v ≠ .ref pf → NlAt (upd H6 pf (HO.lst (xs ++ acc2))) v d ∧ v ≠ .ref pf := fun {v d} h => by
            obtain ⟨⟨a, rfl, ha⟩, n1⟩ := h
            exact ⟨⟨a, rfl, by rw [upd_ne (fun z => n1 (by rw [z]))]; exact ha⟩, n1⟩
          have h1 := paired_keep (fun v d h => stay ⟨NlAt.ex e6 h.1, h.2⟩) hpx
          have h2 := paired_keep (fun v d h => stay h) hpr2
          have app : ∀ {xs ys : List V} {as bs : List (List Nat)} {F : V → List Nat → Prop}, Paired F xs as → Paired F ys bs → Paired F (xs ++ ys) (as ++ bs) := fun {xs ys as bs F} h => by
            induction h with
            | nil => exact fun h => h
            | cons r _ ih => exact fun h => .cons r (ih h)
          exact app h1 h2
    · obtain ⟨e5, ⟨xs, hxs, hpx⟩, z, rfl⟩ := hP
      rw [List.take_of_length_le (by simp), List.append_assoc] at hpx
      exact ⟨_, rfl, q pf xs H5 hpf0 e5 hxs (paired_keep (fun _ _ h => h.1) hpx)⟩
end Sr
set_option Elab.async false
set_option linter.all false
set_option maxRecDepth 100000
set_option maxHeartbeats 4000000
/-! # Regrets -/
namespace Sr
open PySem PySem.Spec PyProof.Rows L2
open Evl (Ex)
open Vamvsa (Table Ask)
def PrAt (H : Hp) (v : V) (p : Nat × Nat) : Prop := ∃ a, v = .ref a ∧ H a = some (.tup [nV p.1, nV p.2])
theorem PrAt.keep {H H' : Hp} {v : V} {p : Nat × Nat} (k : Kt H H') (h : PrAt H v p) : PrAt H' v p := let ⟨a, e, h1⟩ := h; ⟨a, e, k _ _ h1⟩
structure RgW (g : Gx) (H : Hp) (a : Addr) (t : Table) (c : Nat) (b : Vamvsf.Bounds) : Prop where
  ex : ∃ (dx ls lrd lb : Addr) (sx rx bx : List V), H a = some (.ins (g.C "Regrets") dx [("sets", .ref ls), ("reads", .ref lrd), ("bounds", .ref lb), ("changes", nV c)]) ∧ H ls = some (.lst sx) ∧ Paired (NlAt H) sx (Vamvsf.few t) ∧ H lrd = some (.lst rx) ∧ Paired (NlAt H) rx ((Vamvsf.few t).map (Vamvsf.rowCosts t)) ∧
    H lb = some (.lst bx) ∧ Paired (PrAt H) bx (b.low.zip b.high)
theorem RgW.mono {g : Gx} {H H' : Hp} {a : Addr} {t : Table} {c : Nat} {b : Vamvsf.Bounds} (h : RgW g H a t c b) (e : Ex H H') : RgW g H' a t c b := by
  obtain ⟨dx, ls, lrd, lb, sx, rx, bx, h1, h2, h3, h4, h5, h6, h7⟩ := h.ex
  exact ⟨dx, ls, lrd, lb, sx, rx, bx, e _ _ h1, e _ _ h2, paired_keep (fun _ _ => NlAt.ex e) h3, e _ _ h4, paired_keep (fun _ _ => NlAt.ex e) h5, e _ _ h6, paired_keep (fun _ _ => PrAt.keep (Ex.kt e)) h7⟩
theorem ins_ne {C C' dx dx' : Addr} {fs fs' : List (Str × V)} (n : fs.length ≠ fs'.length) (h : (some (HO.ins C dx fs)) = some (HO.ins C' dx' fs')) : False := n (by
  have h3 := congrArg (fun o => match o with | some (HO.ins _ _ fs) => fs.length | _ => 0) h
  exact h3)
theorem TbW.offI {g : Gx} {H : Hp} {ta dxt ln lr lq a C dx : Addr} {fs : List (Str × V)} {o : HO} {t : Table} (w : TbW g H ta dxt ln lr lq t) (ha : H a = some (.ins C dx fs)) (hne : ta ≠ a) : TbW g (upd H a o) ta dxt ln lr lq t := by
  have kt : Kt H (upd H a o) := Kt.upd fun xs z => by rw [ha] at z; cases z
  obtain ⟨ob, ⟨ns, n1, n2⟩, ⟨rs, r1, r2⟩, ⟨qs, q1, q2⟩⟩ := w
  have nl : ∀ {b : Addr} {xs : List V}, H b = some (.lst xs) → b ≠ a := fun h z => by rw [z, ha] at h; cases h
  exact ⟨by rw [upd_ne hne]; exact ob, ⟨ns, by rw [upd_ne (nl n1)]; exact n1, paired_keep (fun _ _ => BtAt.keep kt) n2⟩, ⟨rs, by rw [upd_ne (nl r1)]; exact r1, paired_keep (fun _ _ => RowAt.keep kt) r2⟩, ⟨qs, by rw [upd_ne (nl q1)]; exact q1, paired_keep (fun _ _ => AskAt.keep kt) q2⟩⟩
theorem nl_off {H : Hp} {a C dx : Addr} {fs : List (Str × V)} {o : HO} (ha : H a = some (.ins C dx fs)) {v : V} {d : List Nat} (h : NlAt H v d) : NlAt (upd H a o) v d := by
  obtain ⟨b, e, h⟩ := h
  exact ⟨b, e, by rw [upd_ne (fun z => by rw [z, ha] at h; cases h)]; exact h⟩
theorem few_mem {n : Nat} {ks : List Nat} (h : ks ∈ fewN n) : (∀ k ∈ ks, k < n) ∧ ks.length ≤ 2 := by
  unfold fewN at h
  rw [List.mem_append, List.mem_append] at h
  rcases h with h | h | h
  · rw [List.mem_singleton] at h; rw [h]; exact ⟨(fun k hk => by cases hk), by simp⟩
  · obtain ⟨g, hg, e⟩ := List.mem_map.mp h
    rw [← e]
    exact ⟨fun k hk => by rw [List.mem_singleton] at hk; rw [hk]; exact List.mem_range.mp hg, by simp⟩
  · obtain ⟨g, hg, h2⟩ := List.mem_flatMap.mp h
    obtain ⟨u, hu, e⟩ := List.mem_map.mp h2
    rw [← e]
    refine ⟨fun k hk => ?_, by simp⟩
    simp only [List.mem_cons, List.not_mem_nil, or_false] at hk
    rcases hk with rfl | rfl
    · exact List.mem_range.mp hg
    · exact List.mem_range.mp (List.mem_filter.mp hu).1
def sp_Regrets_init (g : Gx) : Sp := fun vs H Q _ => ∃ (a dx : Addr) (v : V) (t : Table) (s lb : Addr) (bx : List V) (c : Nat) (b : Vamvsf.Bounds), vs = [.ref a, v, .ref s, .ref lb, nV c] ∧ H a = some (.ins (g.C "Regrets") dx []) ∧ TblAt g H v t ∧ TOk t ∧ H s = some (.lst ((sizesT t).map nV)) ∧ H lb = some (.lst bx) ∧ Paired (PrAt H) bx (b.low.zip b.high) ∧ ∀ H', (∀ x o, H x = some o → x ≠ a → H' x = some o) → RgW g H' a t c b → Q .non H'
abbrev N_Regrets_init : List Str := ["self", "table", "sizes", "bounds", "changes", "kept"]
theorem sc_Regrets_init : FnScope N_Regrets_init ["self", "table", "sizes", "bounds", "changes"] (defScope s_Regrets_init) := ⟨rfl, rfl, rfl, by decide +kernel, rfl, by decide +kernel, by decide +kernel⟩
set_option maxHeartbeats 8000000 in
theorem ok_Regrets_init {g : Gx} (T : Tx g) : RMk g CX0 3 "Regrets" (g.C "Regrets") (sp_Regrets_init g) := by
  refine mk0 (N := N_Regrets_init) (ps := ["self", "table", "sizes", "bounds", "changes"]) (st := s_Regrets_init) T 52 rfl T.mk_Regrets T.c_Regrets sc_Regrets_init (fun _ _ _ _ _ _ us hl => match us, hl with | [_, _, _, _, _], _ => rfl) (fun vs H Q E h => by obtain ⟨a, dx, v, t, s', lb, bx, c, b, rfl, ha, ht, ok, hs, hlb, hbx, q⟩ := h; rfl) (fun f cdv A outer s H vs Q E hr h => ?_)
  obtain ⟨a, dx, v, t, s', lb, bx, c, b, rfl, ha, ht, ok, hs, hlb, hbx, q⟩ := h
  refine ⟨_, (pss_cons (ps_fld (pv 0) (pe_gl (ok_small_sets T) hr (by decide) pass0 rfl (pa_cons (pe_me0 (ok_Table_how_many_groupings T) hr (by decide) pass0 (pv 1)) pa_nil)) rfl) (pss_cons (ps_fld (pv 0) (pe_lc (own := [("kept", 5)]) (tt := tYes) rfl sc_Regrets_init.nd (pi_list (pe_fld (pv 0) rfl)) (blkOk_by (N := N_Regrets_init) (sc := defScope s_Regrets_init) (by decide +kernel)) (fun _ _ _ _ _ => (pg_name (i := 5) sc_Regrets_init.nd rfl (Or.inl rfl))) (fun _ _ _ _ _ => pts_nil) (fun _ _ _ _ _ => (pe_gl (ok_read_sizes T) hr (by decide) pass0 rfl (pa_cons (pv 1) (pa_cons (pv 2) (pa_cons (pv 5) pa_nil)))))) rfl) (pss_cons (ps_fld (pv 0) (pv 3) rfl) (pss_one (ps_fld (pv 0) (pv 4) rfl))))), ?_⟩

  obtain ⟨ta, dxt, ln, lr, lq, rfl, w⟩ := id ht
  have h16 := ok.w16
  have nta : ta ≠ a := fun z => by
    have h := w.ob
    rw [z, ha] at h
    refine ins_ne ?_ h
    show (0 : Nat) ≠ 3
    decide
  refine ⟨_, rfl, ta, _, _, rfl, w.ob, rfl, _, t, rfl, ht, ok.c4, 2 ^ t.cols.length, rfl, h16, fun ls sx H1 hls e1 h1 hp1 => ?_⟩
  have ha1 := e1 _ _ ha
  refine ⟨_, rfl, a, _, dx, [], rfl, ha1, T.cl_Regrets, T.na_Regrets_sets, by show 0 < 1000; omega, ?_⟩
  have nls : ls ≠ a := fun z => by rw [z, ha1] at h1; cases h1
  have w1 := w.ex e1
  have w2 := w1.offI (o := .ins (g.C "Regrets") dx [("sets", .ref ls)]) ha1 nta
  have n1 : ∀ {x : Addr} {o : HO}, H x = some o → x ≠ a → (upd H1 a (.ins (g.C "Regrets") dx [("sets", .ref ls)])) x = some o := fun h n => by rw [upd_ne n]; exact e1 _ _ h
  have ns' : s' ≠ a := fun z => by rw [z, ha] at hs; cases hs
  have hs2 := n1 hs ns'
  have h2 : (upd H1 a (.ins (g.C "Regrets") dx [("sets", .ref ls)])) ls = some (.lst sx) := by rw [upd_ne nls]; exact h1
  have hp2 : Paired (NlAt (upd H1 a (.ins (g.C "Regrets") dx [("sets", .ref ls)]))) sx (fewN (2 ^ t.cols.length)) := paired_keep (fun v d h => nl_off ha1 h) hp1
  have ha2 : (upd H1 a (.ins (g.C "Regrets") dx [("sets", .ref ls)])) a = some (.ins (g.C "Regrets") dx [("sets", .ref ls)]) := upd_same
  change tSeq _ _ _ _ (upd H1 a (.ins (g.C "Regrets") dx [("sets", .ref ls)]))
  have ext2 : ∀ x o, H x = some o → x ≠ a → (upd H1 a (.ins (g.C "Regrets") dx [("sets", .ref ls)])) x = some o := fun x o h n => n1 h n
  generalize (upd H1 a (.ins (g.C "Regrets") dx [("sets", .ref ls)])) = H2 at w2 hs2 h2 hp2 ha2 ext2 ⊢
  have hl2 := Paired.length hp2
  have hf16 := few_len16 (2 ^ t.cols.length) (Nat.lt_succ_of_le h16)
  refine ⟨_, rfl, a, _, _, _, _, rfl, ha2, T.cl_Regrets, T.na_Regrets_sets, rfl, ls, rfl, ⟨_, .inl (.inl h2)⟩, fun D hD => ?_⟩
  refine lcP (walk_list (xs := sx)) (fun H v d => NlAt H v d) (fun H H' v d h k b => nl_mono h k b) ((fewN (2 ^ t.cols.length)).map (Vamvsf.rowCosts t)) (by rw [List.length_map]; omega) (by omega) hD (fun H' e => .inl (.inl (e _ _ h2))) (fun i x H3 H4 d hi hd e3 hy => ?_) gName_mono (fun H3 acc e3 hacc hpr => ?_)
  · obtain ⟨rfl, hx⟩ := hy
    rw [List.getElem?_map] at hd
    cases hk : (fewN (2 ^ t.cols.length))[i]? with
    | none => rw [hk] at hd; cases hd
    | some ks =>
      rw [hk] at hd
      cases hd
      obtain ⟨x', hx', ka, rfl, hka⟩ := paired_at hp2 hk
      rw [hx'] at hx
      cases hx
      obtain ⟨hk1, hk2⟩ := few_mem (List.mem_of_getElem? hk)
      have w3 := w2.ex e3
      refine ⟨Ex.refl _, rfl, Ex.refl _, fun hDn Q' hQ => ⟨_, rfl, _, rfl, _, rfl, .ref ta, t, s', ka, ks, rfl, ⟨ta, _, _, _, _, rfl, w3⟩, ok, e3 _ _ hs2, e3 _ _ hka, hk1, by omega, fun p H5 hp e5 h5 => hQ _ _ e5 ⟨⟨p, rfl, h5⟩, ref_new hDn hp⟩⟩⟩
  · have ha3 := e3 _ _ ha2
    refine ⟨_, rfl, a, _, dx, [("sets", .ref ls)], rfl, ha3, T.cl_Regrets, T.na_Regrets_reads, by show 1 < 1000; omega, ?_⟩
    have nD : D ≠ a := fun z => by rw [z, ha3] at hacc; cases hacc
    refine ⟨_, rfl, _, rfl, a, _, dx, [("sets", .ref ls), ("reads", .ref D)], rfl, upd_same, T.cl_Regrets, T.na_Regrets_bounds, by show 2 < 1000; omega, ?_⟩
    rw [upd_upd]
    refine ⟨_, rfl, _, rfl, a, _, dx, [("sets", .ref ls), ("reads", .ref D), ("bounds", .ref lb)], rfl, upd_same, T.cl_Regrets, T.na_Regrets_changes, by show 3 < 1000; omega, ?_⟩
    rw [upd_upd]
    have nlb : lb ≠ a := fun z => by rw [z, ha] at hlb; cases hlb
    have hlb3 := e3 _ _ (ext2 _ _ hlb nlb)
    have kt3 : Kt H H3 := fun x xs h => e3 _ _ (ext2 x _ h (fun z => by rw [z, ha] at h; cases h))
    have kta : ∀ {o : HO}, Kt H3 (upd H3 a o) := Kt.upd fun xs z => by rw [ha3] at z; cases z
    refine q _ (fun x o h n => by rw [upd_ne n]; exact e3 _ _ (ext2 x o h n)) ⟨dx, ls, D, lb, sx, acc, bx, upd_same, ?_, ?_, ?_, ?_, ?_, ?_⟩
    · rw [upd_ne nls]; exact e3 _ _ h2
    · exact paired_keep (fun v d h => nl_off ha3 (NlAt.ex e3 h)) hp2
    · rw [upd_ne nD]; exact hacc
    · exact paired_keep (fun v d h => nl_off ha3 h) hpr
    · rw [upd_ne nlb]; exact hlb3
    · exact paired_keep (fun v d h => PrAt.keep (kt3.trans kta) h) hbx
/-! ## by how much one costs more -/
abbrev famL (t : Table) : List (Vamvsa.Kept × List Nat) := Vamvsf.family t
theorem fam_at {t : Table} {i : Nat} {ks : List Nat} (h : (Vamvsf.few t)[i]? = some ks) : (famL t)[i]? = some (ks, Vamvsf.rowCosts t ks) := by
  unfold famL Vamvsf.family
  rw [List.getElem?_map, h]; rfl
/-- the sum, from the left -/
def wsum (l : List ((Nat × Nat) × (Nat × Nat))) : Int := (l.map fun z => let d : Int := (z.1.1 : Int) - (z.1.2 : Int); if 0 ≤ d then d * (z.2.2 : Int) else d * (z.2.1 : Int)).sum
theorem wsum_snoc (l : List ((Nat × Nat) × (Nat × Nat))) (z : (Nat × Nat) × (Nat × Nat)) : wsum (l ++ [z]) = wsum l + (if 0 < ((z.1.1 : Int) - (z.1.2 : Int)) then (z.2.2 : Int) * ((z.1.1 : Int) - (z.1.2 : Int)) else (z.2.1 : Int) * ((z.1.1 : Int) - (z.1.2 : Int))) := by
  unfold wsum
  rw [List.map_append, List.sum_append]
  congr 1
  show (if 0 ≤ _ then _ else _) + 0 = _
  rw [Int.add_zero]
  by_cases c : 0 < ((z.1.1 : Int) - (z.1.2 : Int))
  · rw [if_pos (by omega), if_pos c, Int.mul_comm]
  · by_cases c2 : ((z.1.1 : Int) - (z.1.2 : Int)) = 0
    · rw [c2, if_pos (by omega), if_neg (by omega)]; simp
    · rw [if_neg (by omega), if_neg c, Int.mul_comm]
/-- bounds that were told -/
structure BOk (t : Table) (b : Vamvsf.Bounds) : Prop where
  l1 : b.low.length = t.asks.length
  l2 : b.high.length = t.asks.length
  m1 : ∀ x ∈ b.low, x ≤ 99
  m2 : ∀ x ∈ b.high, x ≤ 99
theorem costOf_le (t : Table) (ks : List Nat) (gr : Nat) : Vamvsa.costOf t ks gr ≤ t.rows.length := by
  unfold Vamvsa.costOf
  cases Vamvsa.reader t ks gr with
  | none => exact Nat.le_refl _
  | some v => exact size_le t v
def sp_Regrets_regret_to (g : Gx) : Sp := fun vs H Q _ => ∃ (a : Addr) (t : Table) (c : Nat) (b : Vamvsf.Bounds) (i j : Nat) (x y : List Nat), vs = [.ref a, nV i, nV j] ∧ RgW g H a t c b ∧ TOk t ∧ BOk t b ∧ c ≤ 1000 ∧ (Vamvsf.few t)[i]? = some x ∧ (Vamvsf.few t)[j]? = some y ∧ ∀ H', Ex H H' → Q (.int (Vamvsf.worseBy c b (x, Vamvsf.rowCosts t x) (y, Vamvsf.rowCosts t y))) H'
abbrev N_Regrets_regret_to : List Str := ["self", "i", "j", "found", "one", "other", "low", "high", "more"]
theorem sc_Regrets_regret_to : FnScope N_Regrets_regret_to ["self", "i", "j"] (defScope s_Regrets_regret_to) := ⟨rfl, rfl, rfl, by decide +kernel, rfl, by decide +kernel, by decide +kernel⟩
set_option maxHeartbeats 8000000 in
theorem ok_Regrets_regret_to {g : Gx} (T : Tx g) : RMt g CX0 1 (g.C "Regrets") "regret_to" (sp_Regrets_regret_to g) := by
  refine mt0 (N := N_Regrets_regret_to) (ps := ["self", "i", "j"]) (st := s_Regrets_regret_to) T 53 rfl T.cl_Regrets T.m_Regrets_regret_to sc_Regrets_regret_to (fun _ _ _ _ _ _ us hl => match us, hl with | [_, _, _], _ => rfl) (fun vs H Q E h => by obtain ⟨a, t, c, b, i, j, x, y, rfl, R, ok, bo, hc, hx, hy, q⟩ := h; rfl) (fun f cdv A outer s H vs Q E hr h => ?_)
  obtain ⟨a, t, c, b, i, j, x, y, rfl, R, ok, bo, hc, hx, hy, q⟩ := h
  refine ⟨_, (pss_cons (ps_set (i := 3) sc_Regrets_regret_to.nd rfl (Or.inl rfl) (pe_op op_mulW (pe_op op_mulW (pe_gc rfl T.g_CHANGE_COST) (pe_fld (pv 0) rfl)) (pe_op op_sub (pe_callB call_len_seq rfl T.f_len PySem.boot_len (pa_cons (pe_ix (r := rIxL g.K) ix_list (pe_fld (pv 0) rfl) (pv 1) (fun _ _ => rfl)) pa_nil)) (pe_callB call_len_seq rfl T.f_len PySem.boot_len (pa_cons (pe_ix (r := rIxL g.K) ix_list (pe_fld (pv 0) rfl) (pv 2) (fun _ _ => rfl)) pa_nil))))) (pss_cons (ps_for PassesOwn.never rfl (pi_zipM3 true true true rfl T.f_zip (pa_cons (pe_ix (r := rIxL g.K) ix_list (pe_fld (pv 0) rfl) (pv 1) (fun _ _ => rfl)) (pa_cons (pe_ix (r := rIxL g.K) ix_list (pe_fld (pv 0) rfl) (pv 2) (fun _ _ => rfl)) (pa_cons (pe_fld (pv 0) rfl) pa_nil)))) (pg_tup rfl (pgs_cons (pg_name (i := 4) sc_Regrets_regret_to.nd rfl (Or.inl rfl)) (pgs_cons (pg_name (i := 5) sc_Regrets_regret_to.nd rfl (Or.inl rfl)) (pgs_cons (pg_tup rfl (pgs_cons (pg_name (i := 6) sc_Regrets_regret_to.nd rfl (Or.inl rfl)) (pgs_cons (pg_name (i := 7) sc_Regrets_regret_to.nd rfl (Or.inl rfl)) pgs_nil))) pgs_nil)))) (pss_cons (ps_set (i := 8) sc_Regrets_regret_to.nd rfl (Or.inl rfl) (pe_op op_sub (pv 4) (pv 5))) (pss_one (ps_set (i := 3) sc_Regrets_regret_to.nd rfl (Or.inl rfl) (pe_op op_add (pv 3) (pe_ifExp (pt_cmpR op_gt (pv 8) pe_int (nomark _)) (pe_op op_mulW (pv 7) (pv 8)) (pe_op op_mulW (pv 6) (pv 8)))))))) (pss_one (ps_ret (pv 3))))), ?_⟩

  obtain ⟨dx, ls, lrd, lb, sx, rx, bx, h1, h2, h3, h4, h5, h6, h7⟩ := R.ex
  have hxl : x.length ≤ 2 := (few_mem (n := 2 ^ t.cols.length) (List.mem_of_getElem? hx)).2
  have hyl : y.length ≤ 2 := (few_mem (n := 2 ^ t.cols.length) (List.mem_of_getElem? hy)).2
  obtain ⟨xv, hxv, xa, rfl, hxa⟩ := paired_at h3 hx
  obtain ⟨yv, hyv, ya, rfl, hya⟩ := paired_at h3 hy
  obtain ⟨xr, hxr, xra, rfl, hxra⟩ := paired_at h5 (i := i) (y := Vamvsf.rowCosts t x) (by rw [List.getElem?_map, hx]; rfl)
  obtain ⟨yr, hyr, yra, rfl, hyra⟩ := paired_at h5 (i := j) (y := Vamvsf.rowCosts t y) (by rw [List.getElem?_map, hy]; rfl)
  have cl : ∀ ks, (Vamvsf.rowCosts t ks).length = t.asks.length := fun ks => List.length_map _
  have hbl := Paired.length h7
  rw [List.length_zip, bo.l1, bo.l2, Nat.min_self] at hbl
  have q8 := ok.q8
  have r16 := ok.r16
  refine ⟨_, rfl, a, _, _, _, _, rfl, h1, T.cl_Regrets, T.na_Regrets_changes, rfl, 2, (c : Int), rfl, rfl, wide_mul (a := 8) (b := 12) (by decide) (by rw [Int.natAbs_natCast]; omega) (by decide) (by decide) (by decide), ?_⟩
  refine ⟨_, rfl, a, _, _, _, _, rfl, h1, T.cl_Regrets, T.na_Regrets_sets, rfl, _, rfl, ls, sx, (i : Int), _, rfl, rfl, .inl (.inl h2), atI_n hxv, xa, _, rfl, .inl (.inl (.inl hxa)), ?_⟩
  refine ⟨_, rfl, a, _, _, _, _, rfl, h1, T.cl_Regrets, T.na_Regrets_sets, rfl, _, rfl, ls, sx, (j : Int), _, rfl, rfl, .inl (.inl h2), atI_n hyv, ya, _, rfl, .inl (.inl (.inl hya)), ?_⟩
  rw [List.length_map, List.length_map]
  refine ⟨_, _, rfl, rfl, 2 * (c : Int), (x.length : Int) - (y.length : Int), rfl, rfl, wide_mul (a := 16) (b := 4) (by omega) (by omega) (by decide) (by decide) (by decide), ?_⟩
  refine ⟨_, rfl, a, _, _, _, _, rfl, h1, T.cl_Regrets, T.na_Regrets_reads, rfl, _, rfl, lrd, rx, (i : Int), _, rfl, rfl, .inl (.inl h4), atI_n hxr, ?_⟩
  refine ⟨_, rfl, a, _, _, _, _, rfl, h1, T.cl_Regrets, T.na_Regrets_reads, rfl, _, rfl, lrd, rx, (j : Int), _, rfl, rfl, .inl (.inl h4), atI_n hyr, ?_⟩
  refine ⟨_, rfl, a, _, _, _, _, rfl, h1, T.cl_Regrets, T.na_Regrets_bounds, rfl, xra, yra, lb, _, _, bx, rfl, .inl (.inl hxra), .inl (.inl hyra), .inl (.inl h6), ?_⟩
  have zl : (((Vamvsf.rowCosts t x).zip (Vamvsf.rowCosts t y)).zip (b.low.zip b.high)).length = t.asks.length := by
    rw [List.length_zip, List.length_zip, List.length_zip, cl, cl, bo.l1, bo.l2]; omega
  refine for_it (walk_zipM3 (xs := (Vamvsf.rowCosts t x).map nV) (ys := (Vamvsf.rowCosts t y).map nV) (zs := bx) (by rw [List.length_map, List.length_map, cl, cl]) (by rw [List.length_map, cl]; omega)) (fun k σ H' => Ex H H' ∧ ∃ z4 z5 z6 z7 z8 : Option V, σ = [some (.ref a), some (nV i), some (nV j), some (.int (2 * (c : Int) * ((x.length : Int) - (y.length : Int)) + wsum ((((Vamvsf.rowCosts t x).zip (Vamvsf.rowCosts t y)).zip (b.low.zip b.high)).take k))), z4, z5, z6, z7, z8])
    ⟨Ex.refl _, none, none, none, none, none, by rw [List.take_zero]; show _ = [_, _, _, some (V.int (_ + 0)), _, _, _, _, _]; rw [Int.add_zero]; rfl⟩ (fun k σ H' _ hP => ⟨.inl (.inl (hP.1 _ _ hxra)), .inl (.inl (hP.1 _ _ hyra)), .inl (.inl (hP.1 _ _ h6))⟩) (fun k v σ H1 H2 hk hP hv => ?_) (fun σ H1 hP => ?_)
  · obtain ⟨e1, z4, z5, z6, z7, z8, rfl⟩ := hP
    obtain ⟨Tp, x1, y1, w1, rfl, hT, rfl, hx1, hy1, hw1⟩ := hv
    replace hx1 : ((Vamvsf.rowCosts t x).map nV)[k]? = some x1 := hx1
    replace hy1 : ((Vamvsf.rowCosts t y).map nV)[k]? = some y1 := hy1
    replace hw1 : bx[k]? = some w1 := hw1
    rw [List.getElem?_map] at hx1 hy1
    obtain ⟨⟨lo, hi⟩, hbz, pa, rfl, hpa⟩ := L2.paired_get h7 hw1
    cases hxc : (Vamvsf.rowCosts t x)[k]? with
    | none => rw [hxc] at hx1; cases hx1
    | some cx =>
      rw [hxc] at hx1
      cases hx1
      cases hyc : (Vamvsf.rowCosts t y)[k]? with
      | none => rw [hyc] at hy1; cases hy1
      | some cy =>
        rw [hyc] at hy1
        cases hy1
        have e2 := e1.trans (Ex.new (o := HO.tup [nV cx, nV cy, V.ref pa]) hT)
        refine ⟨Tp, _, rfl, .inl (.inl upd_same), rfl, _, _, rfl, _, _, rfl, _, _, rfl, pa, _, rfl, .inl (.inl (e2 _ _ hpa)), rfl, _, _, rfl, _, _, rfl, rfl, rfl, ?_⟩
        generalize (upd H1 Tp (HO.tup [nV cx, nV cy, V.ref pa])) = H2 at *
        have cxl : cx ≤ 16 := by
          obtain ⟨ak, _, e⟩ := List.mem_map.mp (List.mem_of_getElem? hxc)
          have := costOf_le t x ak.g
          omega
        have cyl : cy ≤ 16 := by
          obtain ⟨ak, _, e⟩ := List.mem_map.mp (List.mem_of_getElem? hyc)
          have := costOf_le t y ak.g
          omega
        obtain ⟨hlo, hhi⟩ := List.getElem?_zip_eq_some.mp hbz
        have hlo9 := bo.m1 lo (List.mem_of_getElem? hlo)
        have hhi9 := bo.m2 hi (List.mem_of_getElem? hhi)
        have hz : (((Vamvsf.rowCosts t x).zip (Vamvsf.rowCosts t y)).zip (b.low.zip b.high))[k]? = some ((cx, cy), (lo, hi)) := List.getElem?_zip_eq_some.mpr ⟨List.getElem?_zip_eq_some.mpr ⟨hxc, hyc⟩, hbz⟩
        have htk : wsum ((((Vamvsf.rowCosts t x).zip (Vamvsf.rowCosts t y)).zip (b.low.zip b.high)).take (k + 1)) = wsum ((((Vamvsf.rowCosts t x).zip (Vamvsf.rowCosts t y)).zip (b.low.zip b.high)).take k) + (if 0 < ((cx : Int) - (cy : Int)) then (hi : Int) * ((cx : Int) - (cy : Int)) else (lo : Int) * ((cx : Int) - (cy : Int))) := by
          rw [List.take_add_one, hz]
          exact wsum_snoc _ _
        refine ⟨_, rfl, _, rfl, _, _, rfl, rfl, _, rfl, _, rfl, (cx : Int) - (cy : Int), 0, rfl, rfl, _, rfl, ?_⟩
        by_cases cp : 0 < ((cx : Int) - (cy : Int))
        · rw [decide_eq_true cp]
          rw [if_pos cp] at htk
          refine iteT ⟨_, rfl, _, rfl, (hi : Int), (cx : Int) - (cy : Int), rfl, rfl, wide_mul (a := 8) (b := 8) (by rw [Int.natAbs_natCast]; omega) (by omega) (by decide) (by decide) (by decide), _, _, rfl, rfl, e2, some (nV cx), some (nV cy), some (nV lo), some (nV hi), some (.int ((cx : Int) - (cy : Int))), ?_⟩
          rw [htk, ← Int.add_assoc]
          rfl
        · rw [decide_eq_false cp]
          rw [if_neg cp] at htk
          refine iteF ⟨_, rfl, _, rfl, (lo : Int), (cx : Int) - (cy : Int), rfl, rfl, wide_mul (a := 8) (b := 8) (by rw [Int.natAbs_natCast]; omega) (by omega) (by decide) (by decide) (by decide), _, _, rfl, rfl, e2, some (nV cx), some (nV cy), some (nV lo), some (nV hi), some (.int ((cx : Int) - (cy : Int))), ?_⟩
          rw [htk, ← Int.add_assoc]
          rfl
  · obtain ⟨e1, z4, z5, z6, z7, z8, rfl⟩ := hP
    refine ⟨_, rfl, ?_⟩
    rw [List.length_map, cl, ← zl, List.take_length]
    have e : (2 * (c : Int) * ((x.length : Int) - (y.length : Int)) + wsum (((Vamvsf.rowCosts t x).zip (Vamvsf.rowCosts t y)).zip (b.low.zip b.high))) = Vamvsf.worseBy c b (x, Vamvsf.rowCosts t x) (y, Vamvsf.rowCosts t y) := by
      have hup : ∀ k : List Nat, ((Vamvsf.upkeep c k : Nat) : Int) = 2 * (c : Int) * (k.length : Int) := fun k => by
        show (((2 * c * k.length : Nat)) : Int) = _
        rw [Int.natCast_mul, Int.natCast_mul]; rfl
      show _ = wsum (((Vamvsf.rowCosts t x).zip (Vamvsf.rowCosts t y)).zip (b.low.zip b.high)) + (((Vamvsf.upkeep c x : Nat) : Int) - ((Vamvsf.upkeep c y : Nat) : Int))
      rw [hup, hup, Int.mul_sub]
      omega
    rw [e]
    exact q H1 e1
end Sr
set_option Elab.async false
set_option linter.all false
set_option maxRecDepth 100000
set_option maxHeartbeats 4000000
/-! # The greatest regret, the least of them -/
namespace Sr
open PySem PySem.Spec PyProof.Rows L2
open Evl (Ex)
open Vamvsa (Table Ask)
theorem fam_len (t : Table) : (famL t).length = (Vamvsf.few t).length := List.length_map _
theorem few_bound {t : Table} (ok : TOk t) : (Vamvsf.few t).length ≤ 200 := few_len16 (2 ^ t.cols.length) (Nat.lt_succ_of_le ok.w16)
def sp_Regrets_greatest (g : Gx) : Sp := fun vs H Q _ => ∃ (a : Addr) (t : Table) (c : Nat) (b : Vamvsf.Bounds) (i : Nat) (x : List Nat), vs = [.ref a, nV i] ∧ RgW g H a t c b ∧ TOk t ∧ BOk t b ∧ c ≤ 1000 ∧ (Vamvsf.few t)[i]? = some x ∧ ∀ p H' (r : Int) (k : Nat) (y : List Nat), Ex H H' → H' p = some (.tup [.int r, nV k]) → (Vamvsf.few t)[k]? = some y → Vamvsf.regret c b (famL t) (x, Vamvsf.rowCosts t x) = (r, y) → Q (.ref p) H'
abbrev N_Regrets_greatest : List Str := ["self", "i", "best", "j", "regret"]
theorem sc_Regrets_greatest : FnScope N_Regrets_greatest ["self", "i"] (defScope s_Regrets_greatest) := ⟨rfl, rfl, rfl, by decide +kernel, rfl, by decide +kernel, by decide +kernel⟩
set_option maxHeartbeats 8000000 in
theorem ok_Regrets_greatest {g : Gx} (T : Tx g) : RMt g CX0 2 (g.C "Regrets") "greatest" (sp_Regrets_greatest g) := by
  refine mt0 (N := N_Regrets_greatest) (ps := ["self", "i"]) (st := s_Regrets_greatest) T 54 rfl T.cl_Regrets T.m_Regrets_greatest sc_Regrets_greatest (fun _ _ _ _ _ _ us hl => match us, hl with | [_, _], _ => rfl) (fun vs H Q E h => by obtain ⟨a, t, c, b, i, x, rfl, R, ok, bo, hc, hx, q⟩ := h; rfl) (fun f cdv A outer s H vs Q E hr h => ?_)
  obtain ⟨a, t, c, b, i, x, rfl, R, ok, bo, hc, hx, q⟩ := h
  refine ⟨_, (pss_cons (ps_set (i := 2) sc_Regrets_greatest.nd rfl (Or.inl rfl) (pe_tup (pa_cons pe_int (pa_cons (pv 1) pa_nil)))) (pss_cons (ps_for PassesOwn.never rfl (pi_range1 rfl T.f_range (pa_cons (pe_callB call_len_seq rfl T.f_len PySem.boot_len (pa_cons (pe_fld (pv 0) rfl) pa_nil)) pa_nil)) (pg_name (i := 3) sc_Regrets_greatest.nd rfl (Or.inl rfl)) (pss_cons (ps_set (i := 4) sc_Regrets_greatest.nd rfl (Or.inl rfl) (pe_me (ok_Regrets_regret_to T) hr (by decide) pass0 (pv 0) (pa_cons (pv 1) (pa_cons (pv 3) pa_nil)))) (pss_one (ps_if (pt_cmpR op_gt (pv 4) (pe_ix (r := rIxT g.K) ix_tup (pv 2) pe_int (fun _ _ => rfl)) (nomark _)) (pss_one (ps_set (i := 2) sc_Regrets_greatest.nd rfl (Or.inl rfl) (pe_tup (pa_cons (pv 4) (pa_cons (pv 3) pa_nil))))) pss_nil)))) (pss_one (ps_ret (pv 2))))), ?_⟩

  refine ⟨_, rfl, s2, fun p0 hp0 => ?_⟩
  have e0 := Ex.new (o := HO.tup [V.int 0, nV i]) hp0
  have h0 : (upd H p0 (HO.tup [V.int 0, nV i])) p0 = some (.tup [V.int 0, nV i]) := upd_same
  change tSeq _ _ _ _ (upd H p0 (HO.tup [V.int 0, nV i]))
  generalize (upd H p0 (HO.tup [V.int 0, nV i])) = H0 at e0 h0 ⊢
  obtain ⟨dx, ls, lrd, lb, sx, rx, bx, h1, h2, h3, h4, h5, h6, h7⟩ := (R.mono e0).ex
  have hl := Paired.length h3
  have hfb := few_bound ok
  refine ⟨_, rfl, a, _, _, _, _, rfl, h1, T.cl_Regrets, T.na_Regrets_sets, rfl, ls, sx, rfl, .inl (.inl (.inl h2)), _, rfl, by omega, by omega, ?_⟩
  rw [Int.toNat_natCast]
  refine for_range (lo := 0) (n := sx.length) (fun j σ H' => Ex H H' ∧ ∃ (p : Addr) (r : Int) (k : Nat) (y : List Nat) (z3 z4 : Option V), σ = [some (.ref a), some (nV i), some (.ref p), z3, z4] ∧ H' p = some (.tup [.int r, nV k]) ∧ (Vamvsf.few t)[k]? = some y ∧ ((famL t).take j).foldl (fun (m : Int × Vamvsa.Kept) y => let d := Vamvsf.worseBy c b (x, Vamvsf.rowCosts t x) y; if m.1 < d then (d, y.1) else m) (0, x) = (r, y))
    ⟨e0, p0, 0, i, x, none, none, rfl, h0, hx, rfl⟩ (fun j σ H1 hj hP => ?_) (fun σ H1 hP => ?_)
  · obtain ⟨e1, p, r, k, y, z3, z4, rfl, hp, hy, hf⟩ := hP
    obtain ⟨yj, hyj⟩ : ∃ yj, (Vamvsf.few t)[j]? = some yj := ⟨_, List.getElem?_eq_getElem (by omega)⟩
    obtain ⟨dx1, ls1, lrd1, lb1, sx1, rx1, bx1, h1', -⟩ := (R.mono e1).ex
    refine ⟨_, rfl, a, dx1, _, rfl, h1', rfl, _, rfl, _, rfl, a, t, c, b, i, j, x, yj, by rw [Int.zero_add]; rfl, R.mono e1, ok, bo, hc, hx, hyj, fun H2 e2 => ?_⟩
    have eD : Vamvsf.worseBy c b (x, Vamvsf.rowCosts t x) (yj, Vamvsf.rowCosts t yj) = Vamvsf.worseBy c b (x, Vamvsf.rowCosts t x) (yj, Vamvsf.rowCosts t yj) := rfl
    have hstep : ((famL t).take (j + 1)).foldl (fun (m : Int × Vamvsa.Kept) y => let d := Vamvsf.worseBy c b (x, Vamvsf.rowCosts t x) y; if m.1 < d then (d, y.1) else m) (0, x) = (if r < Vamvsf.worseBy c b (x, Vamvsf.rowCosts t x) (yj, Vamvsf.rowCosts t yj) then (Vamvsf.worseBy c b (x, Vamvsf.rowCosts t x) (yj, Vamvsf.rowCosts t yj), yj) else (r, y)) := by
      rw [List.take_add_one, fam_at hyj, List.foldl_append, hf]; rfl
    generalize Vamvsf.worseBy c b (x, Vamvsf.rowCosts t x) (yj, Vamvsf.rowCosts t yj) = D at hstep ⊢
    have hp2 := e2 _ _ hp
    refine ⟨_, rfl, _, rfl, p, _, (0 : Int), _, rfl, rfl, .inl (.inl hp2), rfl, D, r, rfl, rfl, _, rfl, ?_⟩
    by_cases cD : r < D
    · rw [decide_eq_true cD]
      rw [if_pos cD] at hstep
      refine iteT ⟨_, rfl, _, rfl, s2, fun p3 hp3 => ?_⟩
      have e3 := (e1.trans e2).trans (Ex.new (o := HO.tup [V.int D, V.int (0 + (j : Nat))]) hp3)
      refine ⟨e3, p3, D, j, yj, _, _, rfl, ?_, hyj, hstep⟩
      rw [Int.zero_add]
      exact upd_same
    · rw [decide_eq_false cD]
      rw [if_neg cD] at hstep
      exact iteF ⟨e1.trans e2, p, r, k, y, _, _, rfl, hp2, hy, hstep⟩
  · obtain ⟨e1, p, r, k, y, z3, z4, rfl, hp, hy, hf⟩ := hP
    rw [hl, ← fam_len, List.take_length] at hf
    exact ⟨_, rfl, q p H1 r k y e1 hp hy hf⟩
/-! ## the least of them -/
theorem least_first (c : Nat) (b : Vamvsf.Bounds) (fam : List (Vamvsa.Kept × List Nat)) : ∀ (l : List (Vamvsa.Kept × List Nat)) (m : Option ((Vamvsa.Kept × List Nat) × Int)) (z : (Vamvsa.Kept × List Nat) × Int), l.foldl (fun (m : Option ((Vamvsa.Kept × List Nat) × Int)) x => let d := (Vamvsf.regret c b fam x).1; match m with
  | none => some (x, d)
  | some z => if d < z.2 then some (x, d) else some z) m = some z →
    ((m = some z ∧ ∀ x ∈ l, z.2 ≤ (Vamvsf.regret c b fam x).1) ∨
     ∃ i x, l[i]? = some x ∧ z = (x, (Vamvsf.regret c b fam x).1) ∧ (∀ (j : Nat) y, l[j]? = some y → (if j < i then z.2 < (Vamvsf.regret c b fam y).1 else z.2 ≤ (Vamvsf.regret c b fam y).1)) ∧ ∀ w, m = some w → z.2 < w.2)
  | [], m, z, h => .inl ⟨h, fun x hx => by cases hx⟩
  | x :: l, none, z, h => by
      rcases least_first c b fam l _ z h with ⟨e, hl⟩ | ⟨i, y, h1, h2, h3, h4⟩
      · refine .inr ⟨0, x, rfl, (Option.some.inj e).symm, fun j y hj => ?_, fun w hw => by cases hw⟩
        rw [if_neg (by omega)]
        cases j with
        | zero => cases Option.some.inj hj; cases Option.some.inj e; exact Int.le_refl _
        | succ j => exact hl y (List.mem_of_getElem? hj)
      · refine .inr ⟨i + 1, y, h1, h2, fun j y' hj => ?_, fun w hw => by cases hw⟩
        cases j with
        | zero => cases Option.some.inj hj; rw [if_pos (by omega)]; exact h4 _ rfl
        | succ j =>
          have := h3 j y' hj
          by_cases c : j < i
          · rw [if_pos c] at this; rw [if_pos (by omega)]; exact this
          · rw [if_neg c] at this; rw [if_neg (by omega)]; exact this
  | x :: l, some w, z, h => by
      have h : l.foldl _ (if (Vamvsf.regret c b fam x).1 < w.2 then some (x, (Vamvsf.regret c b fam x).1) else some w) = some z := h
      by_cases cw : (Vamvsf.regret c b fam x).1 < w.2
      · rw [if_pos cw] at h
        rcases least_first c b fam l _ z h with ⟨e, hl⟩ | ⟨i, y, h1, h2, h3, h4⟩
        · refine .inr ⟨0, x, rfl, (Option.some.inj e).symm, fun j y hj => ?_, fun w' hw => by cases hw; cases Option.some.inj e; exact cw⟩
          rw [if_neg (by omega)]
          cases j with
          | zero => cases Option.some.inj hj; cases Option.some.inj e; exact Int.le_refl _
          | succ j => exact hl y (List.mem_of_getElem? hj)
        · have h5 := h4 _ rfl
          refine .inr ⟨i + 1, y, h1, h2, fun j y' hj => ?_, fun w' hw => by cases hw; exact Int.lt_trans h5 cw⟩
          cases j with
          | zero => cases Option.some.inj hj; rw [if_pos (by omega)]; exact h5
          | succ j =>
            have := h3 j y' hj
            by_cases c : j < i
            · rw [if_pos c] at this; rw [if_pos (by omega)]; exact this
            · rw [if_neg c] at this; rw [if_neg (by omega)]; exact this
      · rw [if_neg cw] at h
        rcases least_first c b fam l _ z h with ⟨e, hl⟩ | ⟨i, y, h1, h2, h3, h4⟩
        · refine .inl ⟨e, fun y hy => ?_⟩
          cases Option.some.inj e
          cases hy with
          | head => omega
          | tail _ hy => exact hl y hy
        · have h5 := h4 _ rfl
          refine .inr ⟨i + 1, y, h1, h2, fun j y' hj => ?_, fun w' hw => by cases hw; exact h5⟩
          cases j with
          | zero => cases Option.some.inj hj; rw [if_pos (by omega)]; omega
          | succ j =>
            have := h3 j y' hj
            by_cases c : j < i
            · rw [if_pos c] at this; rw [if_pos (by omega)]; exact this
            · rw [if_neg c] at this; rw [if_neg (by omega)]; exact this
theorem reg_some (c : Nat) (b : Vamvsf.Bounds) (fam : List (Vamvsa.Kept × List Nat)) : ∀ (l : List (Vamvsa.Kept × List Nat)) (m : Option ((Vamvsa.Kept × List Nat) × Int)), (m ≠ none ∨ l ≠ []) → ∃ z, l.foldl (fun (m : Option ((Vamvsa.Kept × List Nat) × Int)) x => let d := (Vamvsf.regret c b fam x).1; match m with
  | none => some (x, d)
  | some z => if d < z.2 then some (x, d) else some z) m = some z
  | [], none, h => (h.elim (fun n => (n rfl).elim) (fun n => (n rfl).elim))
  | [], some z, _ => ⟨z, rfl⟩
  | x :: l, none, _ => reg_some c b fam l _ (.inl (fun z => by cases z))
  | x :: l, some w, _ => by
      show ∃ z, l.foldl _ (if (Vamvsf.regret c b fam x).1 < w.2 then some (x, (Vamvsf.regret c b fam x).1) else some w) = some z
      by_cases c1 : (Vamvsf.regret c b fam x).1 < w.2
      · rw [if_pos c1]; exact reg_some c b fam l _ (.inl (fun z => by cases z))
      · rw [if_neg c1]; exact reg_some c b fam l _ (.inl (fun z => by cases z))
theorem least_at (t : Table) (c : Nat) (b : Vamvsf.Bounds) : ∃ i x, (Vamvsf.few t)[i]? = some x ∧ Vamvsf.leastRegret c b (famL t) = some ((x, Vamvsf.rowCosts t x), (Vamvsf.regret c b (famL t) (x, Vamvsf.rowCosts t x)).1) ∧
    ∀ (j : Nat) y, (famL t)[j]? = some y → (if j < i then (Vamvsf.regret c b (famL t) (x, Vamvsf.rowCosts t x)).1 < (Vamvsf.regret c b (famL t) y).1 else (Vamvsf.regret c b (famL t) (x, Vamvsf.rowCosts t x)).1 ≤ (Vamvsf.regret c b (famL t) y).1) := by
  obtain ⟨z, hz⟩ := reg_some c b (famL t) (famL t) none (.inr (fun e => by
    have h := fam_len t
    rw [e] at h
    have h2 : (Vamvsf.few t).length = _ := (show Vamvsf.few t = [] ++ [] :: _ from rfl) ▸ List.length_append
    rw [h2] at h
    simp at h))
  rcases least_first c b (famL t) (famL t) none z hz with ⟨e, -⟩ | ⟨i, x, h1, h2, h3, -⟩
  · cases e
  · have hx : (Vamvsf.few t)[i]? = some x.1 ∧ x = (x.1, Vamvsf.rowCosts t x.1) := by
      unfold famL Vamvsf.family at h1
      rw [List.getElem?_map] at h1
      cases hk : (Vamvsf.few t)[i]? with
      | none => rw [hk] at h1; cases h1
      | some ks => rw [hk] at h1; cases h1; exact ⟨rfl, rfl⟩
    obtain ⟨hx, ex⟩ := hx
    refine ⟨i, x.1, hx, ?_, ?_⟩
    · rw [← ex]; exact hz.trans (by rw [h2])
    · rw [← ex]
      intro j y hj
      have := h3 j y hj
      rw [h2] at this
      exact this
def sp_Regrets_least (g : Gx) : Sp := fun vs H Q _ => ∃ (a : Addr) (t : Table) (c : Nat) (b : Vamvsf.Bounds), vs = [.ref a] ∧ RgW g H a t c b ∧ TOk t ∧ BOk t b ∧ c ≤ 1000 ∧ ∀ H' (i : Nat) (x : List Nat), Ex H H' → (Vamvsf.few t)[i]? = some x → Vamvsf.leastRegret c b (famL t) = some ((x, Vamvsf.rowCosts t x), (Vamvsf.regret c b (famL t) (x, Vamvsf.rowCosts t x)).1) → Q (nV i) H'
abbrev N_Regrets_least : List Str := ["self", "all_greatest", "i"]
theorem sc_Regrets_least : FnScope N_Regrets_least ["self"] (defScope s_Regrets_least) := ⟨rfl, rfl, rfl, by decide +kernel, rfl, by decide +kernel, by decide +kernel⟩
set_option maxHeartbeats 8000000 in
theorem ok_Regrets_least {g : Gx} (T : Tx g) : RMt g CX0 3 (g.C "Regrets") "least" (sp_Regrets_least g) := by
  refine mt0 (N := N_Regrets_least) (ps := ["self"]) (st := s_Regrets_least) T 55 rfl T.cl_Regrets T.m_Regrets_least sc_Regrets_least (fun _ _ _ _ _ _ us hl => match us, hl with | [_], _ => rfl) (fun vs H Q E h => by obtain ⟨a, t, c, b, rfl, R, ok, bo, hc, q⟩ := h; rfl) (fun f cdv A outer s H vs Q E hr h => ?_)
  obtain ⟨a, t, c, b, rfl, R, ok, bo, hc, q⟩ := h
  refine ⟨_, (pss_cons (ps_setLc (i := 1) (own := [("i", 2)]) (tt := tYes) rfl sc_Regrets_least.nd rfl rfl (sw_true rfl rfl rfl (by decide +kernel)) (pi_range1 rfl T.f_range (pa_cons (pe_callB call_len_seq rfl T.f_len PySem.boot_len (pa_cons (pe_fld (pv 0) rfl) pa_nil)) pa_nil)) (blkOk_by (N := N_Regrets_least) (sc := defScope s_Regrets_least) (by decide +kernel)) (fun _ _ _ _ _ => (pg_name (i := 2) sc_Regrets_least.nd rfl (Or.inl rfl))) (fun _ _ _ _ _ => pts_nil) (fun _ _ _ _ _ => (pe_ix (r := rIxT g.K) ix_tup (pe_me (ok_Regrets_greatest T) hr (by decide) pass0 (pv 0) (pa_cons (pv 2) pa_nil)) pe_int (fun _ _ => rfl)))) (pss_one (ps_ret (pe_bm PySem.F.plainAttrs_list PySem.F.slot_list_index PySem.F.type_list_index mt_index (pv 1) (pa_cons (pe_callB (cr_min rfl) rfl T.f_min (by decide +kernel) (pa_cons (pv 1) pa_nil)) pa_nil))))), ?_⟩

  obtain ⟨dx, ls, lrd, lb, sx, rx, bx, h1, h2, h3, h4, h5, h6, h7⟩ := id R.ex
  have hl := Paired.length h3
  have hfb := few_bound ok
  have hgl : ((famL t).map fun x => (Vamvsf.regret c b (famL t) x).1).length = sx.length := by rw [List.length_map, fam_len, hl]
  refine ⟨_, rfl, a, _, _, _, _, rfl, h1, T.cl_Regrets, T.na_Regrets_sets, rfl, ls, sx, rfl, .inl (.inl (.inl h2)), _, rfl, by omega, by omega, ?_⟩
  rw [Int.toNat_natCast]
  intro D hD
  refine lc_range (lo := 0) (n := sx.length) (fun i H' => Ex H H' ∧ H' D = some (.lst ((((famL t).map fun x => (Vamvsf.regret c b (famL t) x).1).take i).map V.int))) ⟨Ex.new hD, upd_same⟩ (fun i H' hi hP => ⟨rfl, ?_⟩) (fun H' hP => ?_)
  · obtain ⟨e1, hacc⟩ := hP
    obtain ⟨x, hx⟩ : ∃ x, (Vamvsf.few t)[i]? = some x := ⟨_, List.getElem?_eq_getElem (by omega)⟩
    obtain ⟨dx1, ls1, lrd1, lb1, sx1, rx1, bx1, h1', -⟩ := (R.mono e1).ex
    refine ⟨_, rfl, a, dx1, _, rfl, h1', rfl, _, rfl, a, t, c, b, i, x, by rw [Int.zero_add]; rfl, R.mono e1, ok, bo, hc, hx, fun p H2 r k y e2 hp hk hr2 => ?_⟩
    refine ⟨p, _, (0 : Int), _, rfl, rfl, .inl (.inl hp), rfl, _, e2 _ _ hacc, ?_, Ex.mut (e1.trans e2) hD, ?_⟩
    · rw [List.length_map, List.length_take]; have := sizeLine_eq; omega
    · rw [upd_same, List.take_add_one, List.getElem?_map, fam_at hx, List.map_append]
      show _ = some (HO.lst (_ ++ [V.int (Vamvsf.regret c b (famL t) (x, Vamvsf.rowCosts t x)).1]))
      rw [hr2]
  · obtain ⟨e1, hacc⟩ := hP
    rw [← hgl, List.take_length] at hacc
    obtain ⟨i, x, hx, hle, hfst⟩ := least_at t c b
    have hfl := fam_len t
    have hi : i < (Vamvsf.few t).length := (List.getElem?_eq_some_iff.mp hx).1
    refine ⟨_, rfl, .inl ⟨rfl, _, .inl (.inl hacc)⟩, _, rfl, D, _, rfl, .inl (.inl hacc), (by rw [List.length_map, hfl]; omega), fun m hm hmin => ?_⟩
    have em : m = (Vamvsf.regret c b (famL t) (x, Vamvsf.rowCosts t x)).1 := by
      have g1 := hmin _ (List.mem_map_of_mem (List.mem_of_getElem? (fam_at hx)))
      obtain ⟨y, hy, ey⟩ := List.mem_map.mp hm
      obtain ⟨j, hj, ej⟩ := List.mem_iff_getElem.mp hy
      have g2 := hfst j y (by rw [List.getElem?_eq_getElem hj, ej])
      replace g1 : m ≤ (Vamvsf.regret c b (famL t) (x, Vamvsf.rowCosts t x)).1 := g1
      have g3 : (Vamvsf.regret c b (famL t) (x, Vamvsf.rowCosts t x)).1 ≤ (Vamvsf.regret c b (famL t) y).1 := by
        by_cases cj : j < i
        · rw [if_pos cj] at g2; exact Int.le_of_lt g2
        · rw [if_neg cj] at g2; exact g2
      rw [← ey] at g1 ⊢
      exact Int.le_antisymm g1 g3
    subst em
    refine ⟨D, _, _, i, V.int (Vamvsf.regret c b (famL t) (x, Vamvsf.rowCosts t x)).1, rfl, rfl, .inl (.inl hacc), rfl, ?_, ?_, ?_, ?_, q H' i x e1 hx hle⟩
    · rw [List.all_eq_true]
      intro v hv
      obtain ⟨z, _, rfl⟩ := List.mem_map.mp hv
      rfl
    · rw [List.getElem?_map, List.getElem?_map, fam_at hx]; rfl
    · exact decide_eq_true rfl
    · intro j z' hj hz
      rw [List.getElem?_map, List.getElem?_map] at hz
      cases hy : (famL t)[j]? with
      | none => rw [hy] at hz; cases hz
      | some y =>
        rw [hy] at hz
        cases hz
        have g2 := hfst j y hy
        rw [if_pos hj] at g2
        exact decide_eq_false (fun e => (Int.ne_of_lt g2) e.symm)
end Sr
set_option Elab.async false
set_option linter.all false
set_option maxRecDepth 100000
set_option maxHeartbeats 4000000
/-! # Shares -/
namespace Sr
open PySem PySem.Spec PyProof.Rows L2
open Evl (Ex)
open Vamvsa (Table Ask)
theorem facts_at {g : Gx} (T : Tx g) (H : Hp) : SqT g.K H (He.ga g.K "FACTORIALS") [.int 1, .int 1, .int 2, .int 6] := He.tupB_ok T.tups.1 H
def memL (s : Nat) : List Nat := (List.range 4).filter fun r => s / 2 ^ r % 2 == 1
theorem memL_len (s : Nat) : (memL s).length = Vamvsf.members s := rfl
theorem memL_le (s : Nat) : (memL s).length ≤ 4 := by
  have := List.length_filter_le (fun r => s / 2 ^ r % 2 == 1) (List.range 4)
  rw [List.length_range] at this
  exact this
def sp_members (g : Gx) : Sp := fun vs H Q _ => ∃ s : Nat, vs = [nV s] ∧ s < 16 ∧ ∀ p H', H p = none → Ex H H' → H' p = some (.lst ((memL s).map nV)) → Q (.ref p) H'
abbrev N_members : List Str := ["group", "reader"]
theorem sc_members : FnScope N_members ["group"] (defScope s_members) := ⟨rfl, rfl, rfl, by decide +kernel, rfl, by decide +kernel, by decide +kernel⟩
set_option maxHeartbeats 8000000 in
theorem ok_members {g : Gx} (T : Tx g) : RGl g CX0 1 "members" (sp_members g) := by
  refine gl0 (N := N_members) (ps := ["group"]) (st := s_members) T 7 rfl T.d_members sc_members (fun _ _ _ _ _ _ us hl => match us, hl with | [_], _ => rfl) (fun vs H Q E h => by obtain ⟨s', rfl, hs, q⟩ := h; rfl) (fun f cdv A outer s H vs Q E hr h => ?_)
  obtain ⟨s', rfl, hs, q⟩ := h
  refine ⟨_, (pss_one (ps_ret (pe_lc (own := [("reader", 1)]) rfl sc_members.nd (pi_range1 rfl T.f_range (pa_cons (pe_gc rfl T.g_READERS) pa_nil)) (blkOk_by (N := N_members) (sc := defScope s_members) (by decide +kernel)) (fun _ _ _ _ _ => (pg_name (i := 1) sc_members.nd rfl (Or.inl rfl))) (fun _ _ _ _ _ => (pts_one (pt_cmpR op_eq (pe_op op_and (pe_op op_shr (pv 0) (pv 1)) pe_int) pe_int (nomark _)))) (fun _ _ _ _ _ => (pv 1))))), ?_⟩

  refine ⟨4, rfl, by decide, by decide, fun D hD => ?_⟩
  refine lc_range (lo := 0) (n := 4) (fun i H' => Ex H H' ∧ H' D = some (.lst ((((List.range 4).take i).filter fun k => s' / 2 ^ k % 2 == 1).map nV))) ⟨Ex.new hD, upd_same⟩ (fun i H' hi hP => ⟨rfl, ?_⟩) (fun H' hP => ?_)
  · refine ⟨_, rfl, _, rfl, _, _, rfl, rfl, by omega, _, _, rfl, rfl, rfl, _, rfl, ?_⟩
    rw [bit_at s' hs i (by omega)]
    have ct := cols_take (n := 4) (g := s') (i := i) hi
    cases hb : (s' / 2 ^ i % 2 == 1) with
    | true =>
      rw [hb, if_pos rfl] at ct
      refine iteT ⟨_, rfl, _, hP.2, ?_, Ex.mut hP.1 hD, ?_⟩
      · rw [List.length_map]
        have := List.length_filter_le (fun k => s' / 2 ^ k % 2 == 1) ((List.range 4).take i)
        rw [List.length_take] at this
        have := sizeLine_eq
        omega
      · rw [upd_same, ct, List.map_append]
        show some (HO.lst (_ ++ [V.int ((0 : Int) + (i : Nat))])) = some (HO.lst (_ ++ [nV i]))
        rw [Int.zero_add]
    | false =>
      rw [hb, if_neg (by decide), List.append_nil] at ct
      exact iteF ⟨hP.1, by rw [hP.2, ct]⟩
  · rw [List.take_of_length_le (by simp)] at hP
    exact q D H' hD hP.1 hP.2
theorem facts_ok : ∀ n : Nat, n ≤ 3 → ∃ a b : Nat, a ≤ 6 ∧ b ≤ 6 ∧ atI [V.int 1, .int 1, .int 2, .int 6] (n : Int) = some (nV a) ∧ atI [V.int 1, .int 1, .int 2, .int 6] (4 - 1 - (n : Int)) = some (nV b) ∧ a * b = Vamvsf.weight n := by
  intro n h
  match n, h with
  | 0, _ => exact ⟨1, 6, by decide, by decide, rfl, rfl, rfl⟩
  | 1, _ => exact ⟨1, 2, by decide, by decide, rfl, rfl, rfl⟩
  | 2, _ => exact ⟨2, 1, by decide, by decide, rfl, rfl, rfl⟩
  | 3, _ => exact ⟨6, 1, by decide, by decide, rfl, rfl, rfl⟩
def sp_orders_behind (g : Gx) : Sp := fun vs H Q _ => ∃ s : Nat, vs = [nV s] ∧ s < 16 ∧ (memL s).length ≤ 3 ∧ ∀ H', Ex H H' → Q (nV (Vamvsf.weight (Vamvsf.members s))) H'
abbrev N_orders_behind : List Str := ["group", "ahead"]
theorem sc_orders_behind : FnScope N_orders_behind ["group"] (defScope s_orders_behind) := ⟨rfl, rfl, rfl, by decide +kernel, rfl, by decide +kernel, by decide +kernel⟩
set_option maxHeartbeats 8000000 in
theorem ok_orders_behind {g : Gx} (T : Tx g) : RGl g CX0 2 "orders_behind" (sp_orders_behind g) := by
  refine gl0 (N := N_orders_behind) (ps := ["group"]) (st := s_orders_behind) T 8 rfl T.d_orders_behind sc_orders_behind (fun _ _ _ _ _ _ us hl => match us, hl with | [_], _ => rfl) (fun vs H Q E h => by obtain ⟨s', rfl, hs, h3, q⟩ := h; rfl) (fun f cdv A outer s H vs Q E hr h => ?_)
  obtain ⟨s', rfl, hs, h3, q⟩ := h
  refine ⟨_, (pss_cons (ps_set (i := 1) sc_orders_behind.nd rfl (Or.inl rfl) (pe_callB call_len_seq rfl T.f_len PySem.boot_len (pa_cons (pe_gl (ok_members T) hr (by decide) pass0 rfl (pa_cons (pv 0) pa_nil)) pa_nil))) (pss_one (ps_ret (pe_op op_mulW (pe_ix (r := rIxT g.K) ix_tup (pe_gc rfl T.g_FACTORIALS) (pv 1) (fun _ _ => rfl)) (pe_ix (r := rIxT g.K) ix_tup (pe_gc rfl T.g_FACTORIALS) (pe_op op_sub (pe_op op_sub (pe_gc rfl T.g_READERS) pe_int) (pv 1)) (fun _ _ => rfl)))))), ?_⟩

  refine ⟨_, rfl, s', rfl, hs, fun p H1 hp e1 h1 => ?_⟩
  refine ⟨p, _, rfl, .inl (.inl (.inl h1)), ?_⟩
  rw [List.length_map]
  obtain ⟨a, b, ha6, hb6, ha, hb, hab⟩ := facts_ok _ h3
  refine ⟨_, rfl, _, _, ((memL s').length : Int), _, rfl, rfl, facts_at T H1, ha, ?_⟩
  refine ⟨4, 1, rfl, rfl, _, rfl, 4 - 1, ((memL s').length : Int), rfl, rfl, _, _, (4 - 1 - ((memL s').length : Int)), _, rfl, rfl, facts_at T H1, hb, ?_⟩
  refine ⟨(a : Int), (b : Int), rfl, rfl, wide_mul (a := 8) (b := 8) (by rw [Int.natAbs_natCast]; omega) (by rw [Int.natAbs_natCast]; omega) (by decide) (by decide) (by decide), ?_⟩
  have e : V.int ((a : Int) * (b : Int)) = nV (Vamvsf.weight (Vamvsf.members s')) := by
    rw [← memL_len, ← hab]; show _ = V.int ((a * b : Nat) : Int); rw [Int.natCast_mul]
  show Q (V.int ((a : Int) * (b : Int))) H1
  rw [e]
  exact q H1 e1
/-! ## one share -/
def shT (paid : List Nat) (r s : Nat) : Int := ((Vamvsf.weight (Vamvsf.members s) : Nat) : Int) * (((paid.getD (s + 2 ^ r) 0 : Nat) : Int) - ((paid.getD s 0 : Nat) : Int))
def shL (paid : List Nat) (r : Nat) (l : List Nat) : Int := ((l.filter fun s => !Vamvsf.inGroup s r).map (shT paid r)).sum
def shN (paid : List Nat) (r : Nat) : Int := shL paid r (List.range 16)
theorem shL_snoc (paid : List Nat) (r : Nat) (l : List Nat) (s : Nat) : shL paid r (l ++ [s]) = shL paid r l + (if Vamvsf.inGroup s r = true then 0 else shT paid r s) := by
  unfold shL
  rw [List.filter_append, List.map_append, List.sum_append]
  congr 1
  rw [List.filter_cons]
  cases Vamvsf.inGroup s r with
  | true => rfl
  | false => show shT paid r s + 0 = shT paid r s; exact Int.add_zero _
theorem bit_at0 : ∀ gr : Nat, gr < 16 → ∀ k : Nat, k < 4 → decide (V.int (Builtin.bitAnd (((0 : Int) + (gr : Nat)) / 2 ^ ((k : Nat) : Int).toNat) 1) = V.int 0) = !Vamvsf.inGroup gr k := by decide +kernel
theorem mem3 : ∀ gr : Nat, gr < 16 → ∀ k : Nat, k < 4 → Vamvsf.inGroup gr k = false → (memL gr).length ≤ 3 ∧ gr + 2 ^ k < 16 := by decide +kernel
theorem weight_le (n : Nat) : Vamvsf.weight n ≤ 6 := by
  show (if n = 0 then 6 else if n = 1 then 2 else if n = 2 then 2 else 6) ≤ 6
  split
  · decide
  split
  · decide
  split <;> decide
theorem shl4 : ∀ k : Nat, k < 4 → (1 : Int) * 2 ^ ((k : Nat) : Int).toNat = ((2 ^ k : Nat) : Int) := by decide +kernel
def sp_share_of (g : Gx) : Sp := fun vs H Q _ => ∃ (a : Addr) (paid : List Nat) (r : Nat), vs = [.ref a, nV r] ∧ H a = some (.lst (paid.map nV)) ∧ paid.length = 16 ∧ (∀ x ∈ paid, x < 2 ^ 40) ∧ r < 4 ∧ ∀ H', Ex H H' → Q (.int (shN paid r)) H'
abbrev N_share_of : List Str := ["paid", "reader", "found", "group"]
theorem sc_share_of : FnScope N_share_of ["paid", "reader"] (defScope s_share_of) := ⟨rfl, rfl, rfl, by decide +kernel, rfl, by decide +kernel, by decide +kernel⟩
set_option maxHeartbeats 8000000 in
theorem ok_share_of {g : Gx} (T : Tx g) : RGl g CX0 3 "share_of" (sp_share_of g) := by
  refine gl0 (N := N_share_of) (ps := ["paid", "reader"]) (st := s_share_of) T 9 rfl T.d_share_of sc_share_of (fun _ _ _ _ _ _ us hl => match us, hl with | [_, _], _ => rfl) (fun vs H Q E h => by obtain ⟨a, paid, r, rfl, ha, hl, h40, hr4, q⟩ := h; rfl) (fun f cdv A outer s H vs Q E hr h => ?_)
  obtain ⟨a, paid, r, rfl, ha, hl, h40, hr4, q⟩ := h
  refine ⟨_, (pss_cons (ps_set (i := 2) sc_share_of.nd rfl (Or.inl rfl) pe_int) (pss_cons (ps_for PassesOwn.never rfl (pi_range1 rfl T.f_range (pa_cons (pe_gc rfl T.g_GROUPS) pa_nil)) (pg_name (i := 3) sc_share_of.nd rfl (Or.inl rfl)) (pss_one (ps_if (pt_cmpR op_eq (pe_op op_and (pe_op op_shr (pv 3) (pv 1)) pe_int) pe_int (nomark _)) (pss_one (ps_set (i := 2) sc_share_of.nd rfl (Or.inl rfl) (pe_op op_add (pv 2) (pe_op op_mulW (pe_gl (ok_orders_behind T) hr (by decide) pass0 rfl (pa_cons (pv 3) pa_nil)) (pe_op op_sub (pe_ix (r := rIxL g.K) ix_list (pv 0) (pe_op op_add (pv 3) (pe_op op_shl pe_int (pv 1))) (fun _ _ => rfl)) (pe_ix (r := rIxL g.K) ix_list (pv 0) (pv 3) (fun _ _ => rfl))))))) pss_nil))) (pss_one (ps_ret (pv 2))))), ?_⟩

  refine ⟨16, rfl, by decide, by decide, ?_⟩
  refine for_range (lo := 0) (n := 16) (fun j σ H' => Ex H H' ∧ ∃ z : Option V, σ = [some (.ref a), some (nV r), some (.int (shL paid r ((List.range 16).take j))), z]) ⟨Ex.refl _, none, rfl⟩ (fun j σ H1 hj hP => ?_) (fun σ H1 hP => ?_)
  · obtain ⟨e1, z, rfl⟩ := hP
    have htk : shL paid r ((List.range 16).take (j + 1)) = shL paid r ((List.range 16).take j) + (if Vamvsf.inGroup j r = true then 0 else shT paid r j) := by
      rw [List.take_add_one, List.getElem?_range hj]; exact shL_snoc _ _ _ _
    refine ⟨_, rfl, _, rfl, _, _, rfl, rfl, by omega, _, _, rfl, rfl, rfl, _, rfl, ?_⟩
    rw [bit_at0 j hj r hr4]
    cases hb : Vamvsf.inGroup j r with
    | true =>
      rw [hb, if_pos rfl, Int.add_zero] at htk
      exact iteF ⟨e1, _, by rw [htk]; rfl⟩
    | false =>
      rw [hb, if_neg (by decide)] at htk
      obtain ⟨h3, hlt⟩ := mem3 j hj r hr4 hb
      have hj1 : j < paid.length := by omega
      have hj2 : j + 2 ^ r < paid.length := by omega
      have w6 := weight_le (Vamvsf.members j)
      have m1 := h40 _ (List.getElem_mem hj1)
      have m2 := h40 _ (List.getElem_mem hj2)
      have a1 : atI (paid.map nV) ((j : Nat) : Int) = some (nV paid[j]) := atI_n (by rw [List.getElem?_map, List.getElem?_eq_getElem hj1]; rfl)
      have a2 : atI (paid.map nV) (((j + 2 ^ r : Nat)) : Int) = some (nV paid[j + 2 ^ r]) := atI_n (by rw [List.getElem?_map, List.getElem?_eq_getElem hj2]; rfl)
      have es : shT paid r j = ((Vamvsf.weight (Vamvsf.members j) : Nat) : Int) * (((paid[j + 2 ^ r] : Nat) : Int) - ((paid[j] : Nat) : Int)) := by
        unfold shT
        rw [List.getD_eq_getElem?_getD, List.getD_eq_getElem?_getD, List.getElem?_eq_getElem hj1, List.getElem?_eq_getElem hj2]; rfl
      refine iteT ⟨_, rfl, _, rfl, j, by rw [Int.zero_add]; rfl, hj, h3, fun H2 e2 => ?_⟩
      refine ⟨_, rfl, _, rfl, _, rfl, 1, (r : Int), rfl, rfl, ⟨by omega, by omega, by decide⟩, _, _, rfl, rfl, a, _, _, _, rfl, rfl, .inl (.inl ((e1.trans e2) _ _ ha)), (by rw [Int.zero_add, shl4 r hr4, ← Int.natCast_add]; exact a2), ?_⟩
      refine ⟨_, rfl, _, rfl, a, _, _, _, rfl, rfl, .inl (.inl ((e1.trans e2) _ _ ha)), (by rw [Int.zero_add]; exact a1), _, _, rfl, rfl, _, _, rfl, rfl, wide_mul (a := 8) (b := 42) (by rw [Int.natAbs_natCast]; omega) (by omega) (by decide) (by decide) (by decide), _, _, rfl, rfl, ?_⟩
      exact ⟨e1.trans e2, _, by rw [htk, es]; rfl⟩
  · obtain ⟨e1, z, rfl⟩ := hP
    exact ⟨_, rfl, q H1 e1⟩
def shsT (paid : List Nat) : List Int := (List.range 4).map (shN paid)
def sp_shares_of (g : Gx) : Sp := fun vs H Q _ => ∃ (a : Addr) (paid : List Nat), vs = [.ref a] ∧ H a = some (.lst (paid.map nV)) ∧ paid.length = 16 ∧ (∀ x ∈ paid, x < 2 ^ 40) ∧ ∀ p H', H p = none → Ex H H' → H' p = some (.lst ((shsT paid).map V.int)) → Q (.ref p) H'
abbrev N_shares_of : List Str := ["paid", "reader"]
theorem sc_shares_of : FnScope N_shares_of ["paid"] (defScope s_shares_of) := ⟨rfl, rfl, rfl, by decide +kernel, rfl, by decide +kernel, by decide +kernel⟩
set_option maxHeartbeats 8000000 in
theorem ok_shares_of {g : Gx} (T : Tx g) : RGl g CX0 4 "shares_of" (sp_shares_of g) := by
  refine gl0 (N := N_shares_of) (ps := ["paid"]) (st := s_shares_of) T 10 rfl T.d_shares_of sc_shares_of (fun _ _ _ _ _ _ us hl => match us, hl with | [_], _ => rfl) (fun vs H Q E h => by obtain ⟨a, paid, rfl, ha, hl, h40, q⟩ := h; rfl) (fun f cdv A outer s H vs Q E hr h => ?_)
  obtain ⟨a, paid, rfl, ha, hl, h40, q⟩ := h
  refine ⟨_, (pss_one (ps_ret (pe_lc (own := [("reader", 1)]) (tt := tYes) rfl sc_shares_of.nd (pi_range1 rfl T.f_range (pa_cons (pe_gc rfl T.g_READERS) pa_nil)) (blkOk_by (N := N_shares_of) (sc := defScope s_shares_of) (by decide +kernel)) (fun _ _ _ _ _ => (pg_name (i := 1) sc_shares_of.nd rfl (Or.inl rfl))) (fun _ _ _ _ _ => pts_nil) (fun _ _ _ _ _ => (pe_gl (ok_share_of T) hr (by decide) pass0 rfl (pa_cons (pv 0) (pa_cons (pv 1) pa_nil))))))), ?_⟩

  refine ⟨4, rfl, by decide, by decide, fun D hD => ?_⟩
  refine lc_range (lo := 0) (n := 4) (fun i H' => Ex H H' ∧ H' D = some (.lst (((shsT paid).take i).map V.int))) ⟨Ex.new hD, upd_same⟩ (fun i H' hi hP => ⟨rfl, ?_⟩) (fun H' hP => ?_)
  · refine ⟨_, rfl, _, rfl, a, paid, i, by rw [Int.zero_add]; rfl, hP.1 _ _ ha, hl, h40, hi, fun H2 e2 => ⟨_, e2 _ _ hP.2, ?_, Ex.mut (hP.1.trans e2) hD, ?_⟩⟩
    · rw [List.length_map, List.length_take]; have := sizeLine_eq; omega
    · rw [upd_same, List.take_add_one, List.map_append]
      have : (shsT paid)[i]? = some (shN paid i) := by unfold shsT; rw [List.getElem?_map, List.getElem?_range hi]; rfl
      rw [this]; rfl
  · rw [List.take_of_length_le (by unfold shsT; simp)] at hP
    exact q D H' hD hP.1 hP.2
/-! ## in lowest terms -/
theorem gcd_step (x y : Int) : Int.gcd y (x % y) = Int.gcd x y := by
  have h : Int.gcd (x % y + y * (x / y)) y = Int.gcd (x % y) y := Int.gcd_add_mul_left_left ..
  have e : x % y + y * (x / y) = x := by rw [Int.emod_def]; omega
  rw [e] at h
  rw [Int.gcd_comm]
  exact h.symm
def sp_lowest_terms (g : Gx) : Sp := fun vs H Q _ => ∃ (x : Int) (b : Nat), vs = [.int x, nV b] ∧ 0 < b ∧ b < 1073741824 ∧ ∀ p H', H p = none → Ex H H' → H' p = some (.lst ((VamvsBase.fracRow (VamvsBase.frac x b)).map V.int)) → Q (.ref p) H'
abbrev N_lowest_terms : List Str := ["top", "bottom", "one", "other"]
theorem sc_lowest_terms : FnScope N_lowest_terms ["top", "bottom"] (defScope s_lowest_terms) := ⟨rfl, rfl, rfl, by decide +kernel, rfl, by decide +kernel, by decide +kernel⟩
set_option maxHeartbeats 8000000 in
theorem ok_lowest_terms {g : Gx} (T : Tx g) : RGl g CX0 1 "lowest_terms" (sp_lowest_terms g) := by
  refine gl0 (N := N_lowest_terms) (ps := ["top", "bottom"]) (st := s_lowest_terms) T 12 rfl T.d_lowest_terms sc_lowest_terms (fun _ _ _ _ _ _ us hl => match us, hl with | [_, _], _ => rfl) (fun vs H Q E h => by obtain ⟨x, b, rfl, hb, hb30, q⟩ := h; rfl) (fun f cdv A outer s H vs Q E hr h => ?_)
  obtain ⟨x, b, rfl, hb, hb30, q⟩ := h
  refine ⟨_, (pss_cons (ps_par (i := 2) (j := 3) rfl sc_lowest_terms.nd rfl rfl (by decide) rfl rfl (pa_cons (pv 0) (pa_cons (pv 1) pa_nil)) rfl) (pss_cons (ps_while PassesOwn.never (pt_cmpR op_gt (pv 3) pe_int (nomark _)) (pss_one (ps_par (i := 2) (j := 3) rfl sc_lowest_terms.nd rfl rfl (by decide) rfl rfl (pa_cons (pv 3) (pa_cons (pe_op op_mod (pv 2) (pv 3)) pa_nil)) rfl))) (pss_one (ps_ret (pe_lst (pa_cons (pe_op op_fdiv (pv 0) (pv 2)) (pa_cons (pe_op op_fdiv (pv 1) (pv 2)) pa_nil))))))), ?_⟩

  have hgp : 0 < Int.gcd x (b : Int) := Int.gcd_pos_of_ne_zero_right _ (by omega)
  have hgb : Int.gcd x (b : Int) ≤ b := Nat.le_of_dvd hb (by have := Int.gcd_dvd_natAbs_right x (b : Int); rwa [Int.natAbs_natCast] at this)
  have hrow : (VamvsBase.fracRow (VamvsBase.frac x b)).map V.int = [V.int (x / ((Int.gcd x (b : Int) : Nat) : Int)), V.int ((b : Int) / ((Int.gcd x (b : Int) : Nat) : Int))] := by
    have e : VamvsBase.frac x b = ⟨x / ((Int.gcd x (b : Int) : Nat) : Int), b / Int.gcd x (b : Int)⟩ := by
      show (if Int.gcd x (b : Int) = 0 then _ else _) = _
      rw [if_neg (by omega)]
      rfl
    rw [e]
    show [V.int _, V.int (((b / Int.gcd x (b : Int) : Nat)) : Int)] = _
    rw [Int.natCast_ediv]
  rw [hrow] at q
  generalize hG : Int.gcd x (b : Int) = G at *
  refine ⟨_, rfl, _, rfl, _, _, rfl, ?_⟩
  refine ⟨fun m σ H' => H' = H ∧ ∃ (y z : Int), m = z.toNat ∧ σ = [some (.int x), some (nV b), some (.int y), some (.int z)] ∧ 0 ≤ z ∧ (z = 0 → 0 < y) ∧ Int.gcd y z = G, ⟨_, rfl, x, b, rfl, rfl, by omega, by omega, hG⟩, ?_⟩
  rintro m σ H' ⟨rfl, y, z, rfl, rfl, hz, hy, hg⟩
  refine ⟨_, rfl, z, 0, rfl, rfl, _, rfl, ?_⟩
  by_cases c : 0 < z
  · rw [decide_eq_true c]
    have h1 := Int.emod_nonneg y (show z ≠ 0 by omega)
    have h2 := Int.emod_lt_of_pos y c
    refine iteT ⟨fun σ' H'' => H'' = H' ∧ σ' = [some (.int x), some (nV b), some (.int z), some (.int (y % z))], ?_, ?_⟩
    · rintro σ' H'' ⟨rfl, rfl⟩
      exact ⟨(y % z).toNat, by omega, rfl, z, y % z, rfl, rfl, h1, fun _ => c, by rw [gcd_step]; exact hg⟩
    · exact ⟨_, rfl, _, rfl, _, rfl, y, z, rfl, rfl, c, _, _, rfl, rfl, rfl⟩
  · rw [decide_eq_false c]
    have z0 : z = 0 := by omega
    subst z0
    have hyG : y = (G : Int) := by rw [← hg, Int.gcd_zero]; have := hy rfl; omega
    subst hyG
    refine iteF ⟨_, rfl, _, rfl, x, (G : Int), rfl, rfl, ⟨by omega, by omega⟩, _, rfl, _, rfl, (b : Int), (G : Int), rfl, rfl, ⟨by omega, by omega⟩, s2, fun p hp => q p _ hp (Ex.new hp) upd_same⟩
end Sr
set_option Elab.async false
set_option linter.all false
set_option maxRecDepth 100000
set_option maxHeartbeats 4000000
/-! # Unhappy groups -/
namespace Sr
open PySem PySem.Spec PyProof.Rows L2
open Evl (Ex)
open Vamvsa (Table Ask)
open VamvsBase (Frac frac whole plus less)
def Rep (f : Frac) (x : Int) : Prop := f.num * 24 = x * (f.den : Int) ∧ 0 < f.den
theorem frac_rep (a : Int) {b : Nat} (hb : 0 < b) : (frac a b).num * (b : Int) = a * ((frac a b).den : Int) ∧ 0 < (frac a b).den := by
  have hg : 0 < Nat.gcd a.natAbs b := Nat.gcd_pos_of_pos_right _ hb
  have e : frac a b = ⟨a / ((Nat.gcd a.natAbs b : Nat) : Int), b / Nat.gcd a.natAbs b⟩ := by
    show (if Nat.gcd a.natAbs b = 0 then _ else _) = _
    rw [if_neg (by omega)]
  rw [e]
  have d1 : ((Nat.gcd a.natAbs b : Nat) : Int) ∣ a := (Int.gcd_dvd_left a (b : Int))
  have d2 : Nat.gcd a.natAbs b ∣ b := Nat.gcd_dvd_right _ _
  generalize Nat.gcd a.natAbs b = g at hg d1 d2
  obtain ⟨u, rfl⟩ := d1
  obtain ⟨v, rfl⟩ := d2
  show (((g : Int) * u) / (g : Int)) * ((g * v : Nat) : Int) = ((g : Int) * u) * (((g * v / g : Nat)) : Int) ∧ 0 < g * v / g
  rw [Nat.mul_div_cancel_left _ hg, Int.mul_ediv_cancel_left _ (by omega), Int.natCast_mul]
  refine ⟨?_, Nat.pos_of_mul_pos_left hb⟩
  rw [Int.mul_comm u, Int.mul_assoc, Int.mul_comm (v : Int) u, ← Int.mul_assoc]
theorem rep_plus {a b : Frac} {x y : Int} (ha : Rep a x) (hb : Rep b y) : Rep (plus a b) (x + y) := by
  obtain ⟨a1, a2⟩ := ha
  obtain ⟨b1, b2⟩ := hb
  obtain ⟨h1, h2⟩ := frac_rep (a.num * (b.den : Int) + b.num * (a.den : Int)) (b := a.den * b.den) (Nat.mul_pos a2 b2)
  refine ⟨?_, h2⟩
  show (frac _ _).num * 24 = (x + y) * ((frac _ _).den : Int)
  generalize frac (a.num * (b.den : Int) + b.num * (a.den : Int)) (a.den * b.den) = f at h1 h2 ⊢
  rw [Int.natCast_mul] at h1
  have ha0 : (0 : Int) < (a.den : Int) := by omega
  have hb0 : (0 : Int) < (b.den : Int) := by omega
  have hD : ((a.den : Int) * (b.den : Int)) ≠ 0 := by have := Int.mul_pos ha0 hb0; omega
  refine Int.eq_of_mul_eq_mul_right hD ?_
  have e1 : f.num * 24 * ((a.den : Int) * (b.den : Int)) = (f.num * ((a.den : Int) * (b.den : Int))) * 24 := by ac_rfl
  have e2 : (a.num * (b.den : Int) + b.num * (a.den : Int)) * (f.den : Int) * 24 = ((a.num * 24) * (b.den : Int) + (b.num * 24) * (a.den : Int)) * (f.den : Int) := by
    rw [Int.add_mul, Int.add_mul, Int.add_mul]
    congr 1 <;> ac_rfl
  rw [e1, h1, e2, a1, b1, Int.add_mul, Int.add_mul, Int.add_mul]
  congr 1 <;> ac_rfl
theorem rep_sum (F : Nat → Frac) (X : Nat → Int) : ∀ (l : List Nat) (acc : Frac) (v : Int), (∀ r ∈ l, Rep (F r) (X r)) → Rep acc v → Rep ((l.map F).foldl plus acc) (v + (l.map X).sum)
  | [], acc, v, _, h => by rw [show v + ([].map X).sum = v from Int.add_zero v]; exact h
  | r :: l, acc, v, hl, h => by
      have := rep_sum F X l (plus acc (F r)) (v + X r) (fun r' h' => hl r' (List.mem_cons_of_mem _ h')) (rep_plus h (hl r List.mem_cons_self))
      rw [List.map_cons, List.map_cons, List.sum_cons, ← Int.add_assoc]
      exact this
theorem share_rep (cs : List Nat) (r : Nat) : Rep (Vamvsf.share cs r) (shN cs r) := frac_rep (b := 24) (shN cs r) (by decide)
theorem share_eq (cs : List Nat) (r : Nat) : Vamvsf.share cs r = frac (shN cs r) 24 := rfl
theorem zero_rep : Rep (whole 0) 0 := ⟨rfl, by decide⟩
theorem sum_filter (p : Nat → Bool) (f : Nat → Int) : ∀ l : List Nat, (l.map fun r => if p r = true then f r else 0).sum = ((l.filter p).map f).sum
  | [] => rfl
  | r :: l => by
      rw [List.map_cons, List.sum_cons, sum_filter p f l, List.filter_cons]
      cases p r with
      | true => rfl
      | false => exact Int.zero_add _
theorem group_rep (cs : List Nat) (s : Nat) : Rep (Vamvsf.groupShare (Vamvsf.shares cs) s) (((memL s).map (shN cs)).sum) := by
  have h := rep_sum (fun r => if Vamvsf.inGroup s r = true then (Vamvsf.shares cs).getD r (whole 0) else whole 0) (fun r => if Vamvsf.inGroup s r = true then shN cs r else 0) (List.range 4) (whole 0) 0 (fun r hr => by
    show Rep (if Vamvsf.inGroup s r = true then (Vamvsf.shares cs).getD r (whole 0) else whole 0) (if Vamvsf.inGroup s r = true then shN cs r else 0)
    by_cases c : Vamvsf.inGroup s r = true
    · rw [if_pos c, if_pos c]
      have : (Vamvsf.shares cs).getD r (whole 0) = Vamvsf.share cs r := by
        show ((List.range 4).map (Vamvsf.share cs)).getD r (whole 0) = _
        rw [List.getD_eq_getElem?_getD, List.getElem?_map, List.getElem?_range (List.mem_range.mp hr)]; rfl
      rw [this]
      exact share_rep cs r
    · rw [if_neg c, if_neg c]; exact zero_rep) zero_rep
  rw [Int.zero_add, sum_filter] at h
  exact h
theorem less_rep {f : Frac} {x : Int} (h : Rep f x) (p : Nat) : less (whole (p : Int)) f = decide (24 * (p : Int) < x) := by
  obtain ⟨h1, h2⟩ := h
  show decide ((p : Int) * (f.den : Int) < f.num * ((1 : Nat) : Int)) = _
  have hd : (0 : Int) < (f.den : Int) := by omega
  have e : (24 * (p : Int) < x) ↔ (24 * (p : Int)) * (f.den : Int) < x * (f.den : Int) := ⟨fun h => Int.mul_lt_mul_of_pos_right h hd, fun h => Int.lt_of_mul_lt_mul_right h (Int.le_of_lt hd)⟩
  rw [decide_eq_decide, e, ← h1, Int.mul_assoc]
  generalize (p : Int) * (f.den : Int) = u
  omega
theorem unhappy_eq (cs : List Nat) : Vamvsf.unhappy cs = (List.range 16).filter fun s => decide (24 * ((cs.getD s 0 : Nat) : Int) < ((memL s).map (shN cs)).sum) := by
  show ((List.range 16).filter fun s => less (whole ((cs.getD s 0 : Nat) : Int)) (Vamvsf.groupShare (Vamvsf.shares cs) s)) = _
  exact List.filter_congr fun s _ => less_rep (group_rep cs s) (cs.getD s 0)
theorem memL_lt {s r i : Nat} (h : (memL s)[i]? = some r) : r < 4 := List.mem_range.mp (List.mem_filter.mp (List.mem_of_getElem? h)).1
theorem flt_take {p : Nat → Bool} {n i : Nat} (h : i < n) : ((List.range n).take (i + 1)).filter p = ((List.range n).take i).filter p ++ (if p i = true then [i] else []) := by
  rw [List.take_add_one, List.getElem?_eq_getElem (by simpa using h), List.getElem_range, Option.toList_some, List.filter_append]
  congr 1
  rw [List.filter_cons]
  split <;> rfl
def sp_unhappy_groups (g : Gx) : Sp := fun vs H Q _ => ∃ (a : Addr) (paid : List Nat), vs = [.ref a] ∧ H a = some (.lst (paid.map nV)) ∧ paid.length = 16 ∧ (∀ x ∈ paid, x < 2 ^ 40) ∧ ∀ p H', H p = none → Ex H H' → H' p = some (.lst ((Vamvsf.unhappy paid).map nV)) → Q (.ref p) H'
abbrev N_unhappy_groups : List Str := ["paid", "shares", "found", "group", "reader"]
theorem sc_unhappy_groups : FnScope N_unhappy_groups ["paid"] (defScope s_unhappy_groups) := ⟨rfl, rfl, rfl, by decide +kernel, rfl, by decide +kernel, by decide +kernel⟩
set_option maxHeartbeats 8000000 in
theorem ok_unhappy_groups {g : Gx} (T : Tx g) : RGl g CX0 5 "unhappy_groups" (sp_unhappy_groups g) := by
  refine gl0 (N := N_unhappy_groups) (ps := ["paid"]) (st := s_unhappy_groups) T 11 rfl T.d_unhappy_groups sc_unhappy_groups (fun _ _ _ _ _ _ us hl => match us, hl with | [_], _ => rfl) (fun vs H Q E h => by obtain ⟨a, paid, rfl, ha, hl, h40, q⟩ := h; rfl) (fun f cdv A outer s H vs Q E hr h => ?_)
  obtain ⟨a, paid, rfl, ha, hl, h40, q⟩ := h
  refine ⟨_, (pss_cons (ps_set (i := 1) sc_unhappy_groups.nd rfl (Or.inr rfl) (pe_gl (ok_shares_of T) hr (by decide) pass0 rfl (pa_cons (pv 0) pa_nil))) (pss_cons (ps_set (i := 2) sc_unhappy_groups.nd rfl (Or.inl rfl) (pe_lst pa_nil)) (pss_cons (ps_for PassesOwn.never rfl (pi_range1 rfl T.f_range (pa_cons (pe_gc rfl T.g_GROUPS) pa_nil)) (pg_name (i := 3) sc_unhappy_groups.nd rfl (Or.inl rfl)) (pss_one (ps_if (pt_cmpR op_gt (pe_callB (cr_sum rfl) rfl T.f_sum (by decide +kernel) (pa_cons (pe_lc (own := [("reader", 4)]) (tt := tYes) rfl sc_unhappy_groups.nd (pi_list (pe_gl (ok_members T) hr (by decide) pass0 rfl (pa_cons (pv 3) pa_nil))) (blkOk_by (N := N_unhappy_groups) (sc := defScope s_unhappy_groups) (by decide +kernel)) (fun _ _ _ _ _ => (pg_name (i := 4) sc_unhappy_groups.nd rfl (Or.inl rfl))) (fun _ _ _ _ _ => pts_nil) (fun _ _ _ _ _ => (pe_ix (r := rIxL g.K) ix_list (pv 1) (pv 4) (fun _ _ => rfl)))) pa_nil)) (pe_op op_mulW (pe_gc rfl T.g_ORDERS) (pe_ix (r := rIxL g.K) ix_list (pv 0) (pv 3) (fun _ _ => rfl))) (nomark _)) (pss_one (ps_expr (pe_bm PySem.F.plainAttrs_list PySem.F.slot_list_append PySem.F.type_list_append mt_append (pv 2) (pa_cons (pv 3) pa_nil)))) pss_nil))) (pss_one (ps_ret (pv 2)))))), ?_⟩

  rw [unhappy_eq] at q
  refine ⟨_, rfl, a, paid, rfl, ha, hl, h40, fun ps H1 hps e1 h1 => ?_⟩
  refine ⟨by decide, fun pf hpf => ?_⟩
  have e2 := e1.trans (Ex.new (o := HO.lst []) hpf)
  have h2 := Ex.new (o := HO.lst []) hpf _ _ h1
  have hpf2 : (upd H1 pf (HO.lst [])) pf = some (.lst []) := upd_same
  have npf : ps ≠ pf := fun z => by rw [z, hpf] at h1; cases h1
  have hpf0 := Evl.fresh_back e1 hpf
  change tSeq _ _ _ _ (upd H1 pf (HO.lst []))
  generalize (upd H1 pf (HO.lst [])) = H2 at e2 h2 hpf2 ⊢
  refine ⟨16, rfl, by decide, by decide, ?_⟩
  refine for_range (lo := 0) (n := 16) (fun j σ H' => Ex H H' ∧ H' ps = some (.lst ((shsT paid).map V.int)) ∧ ps ≠ pf ∧ H' pf = some (.lst ((((List.range 16).take j).filter fun s => decide (24 * ((paid.getD s 0 : Nat) : Int) < ((memL s).map (shN paid)).sum)).map nV)) ∧ ∃ z z2 : Option V, σ = [some (.ref a), some (.ref ps), some (.ref pf), z, z2]) ⟨e2, h2, npf, hpf2, none, none, rfl⟩ (fun j σ H3 hj hP => ?_) (fun σ H3 hP => ?_)
  · obtain ⟨e3, h3, npf, hf3, z, z2, rfl⟩ := hP
    refine ⟨_, rfl, j, by rw [Int.zero_add]; rfl, hj, fun pm H4 hpm e4 h4 => ⟨pm, rfl, ⟨_, .inl (.inl h4)⟩, fun D hD => ?_⟩⟩
    refine lc_list (xs := (memL j).map nV) (fun i H' => Ex H4 H' ∧ H' D = some (.lst (((memL j).take i).map fun r => V.int (shN paid r)))) ⟨Ex.new hD, upd_same⟩ (fun i H' _ hQ => .inl (.inl (hQ.1 _ _ h4))) (fun i y H' hy hQ => ⟨rfl, ?_⟩) (fun H5 hQ => ?_)
    · rw [List.getElem?_map] at hy
      cases hk : (memL j)[i]? with
      | none => rw [hk] at hy; cases hy
      | some r =>
        rw [hk] at hy
        cases hy
        have hr4 := memL_lt hk
        refine ⟨_, rfl, _, rfl, ps, _, (r : Int), _, rfl, rfl, .inl (.inl (hQ.1 _ _ (e4 _ _ h3))), atI_n (v := V.int (shN paid r)) (by unfold shsT; rw [List.getElem?_map, List.getElem?_map, List.getElem?_range hr4]; rfl), _, hQ.2, ?_, Ex.mut hQ.1 hD, ?_⟩
        · rw [List.length_map, List.length_take]; have := memL_le j; have := sizeLine_eq; omega
        · rw [upd_same, List.take_add_one, hk, List.map_append]; rfl
    · obtain ⟨e5, h5⟩ := hQ
      rw [show ((memL j).map nV).length = (memL j).length from List.length_map _, List.take_length, show ((memL j).map fun r => V.int (shN paid r)) = (((memL j).map (shN paid)).map V.int) by rw [List.map_map]; rfl] at h5
      have hjp : j < paid.length := by omega
      have m1 := h40 _ (List.getElem_mem hjp)
      have a1 : atI (paid.map nV) ((j : Nat) : Int) = some (nV paid[j]) := atI_n (by rw [List.getElem?_map, List.getElem?_eq_getElem hjp]; rfl)
      have ft := flt_take (p := fun s => decide (24 * ((paid.getD s 0 : Nat) : Int) < ((memL s).map (shN paid)).sum)) hj
      have eg : paid.getD j 0 = paid[j] := by rw [List.getD_eq_getElem?_getD, List.getElem?_eq_getElem hjp]; rfl
      have e35 := e4.trans e5
      refine ⟨D, _, rfl, .inl (.inl h5), ?_⟩
      refine ⟨_, rfl, _, rfl, a, _, _, _, rfl, rfl, .inl (.inl (e35 _ _ (e3 _ _ ha))), (by rw [Int.zero_add]; exact a1), 24, ((paid[j] : Nat) : Int), rfl, rfl, wide_mul (a := 8) (b := 42) (by decide) (by rw [Int.natAbs_natCast]; omega) (by decide) (by decide) (by decide), _, _, rfl, rfl, _, rfl, ?_⟩
      rw [eg] at ft
      cases hb : decide (24 * ((paid[j] : Nat) : Int) < ((memL j).map (shN paid)).sum) with
      | true =>
        rw [hb, if_pos rfl] at ft
        refine iteT ⟨_, rfl, .inl ⟨rfl, _, .inl (.inl (e35 _ _ hf3))⟩, _, rfl, pf, _, _, rfl, rfl, e35 _ _ hf3, ?_, Ex.mut (e3.trans e35) hpf0, ?_, npf, ?_, _, _, rfl⟩
        · rw [List.length_map]
          have := List.length_filter_le (fun s => decide (24 * ((paid.getD s 0 : Nat) : Int) < ((memL s).map (shN paid)).sum)) ((List.range 16).take j)
          rw [List.length_take] at this
          have := sizeLine_eq
          omega
        · rw [upd_ne npf]
          exact e35 _ _ h3
        · rw [upd_same, ft, List.map_append, Int.zero_add]; rfl
      | false =>
        rw [hb, if_neg (by decide), List.append_nil] at ft
        exact iteF ⟨e3.trans e35, e35 _ _ h3, npf, by rw [ft]; exact e35 _ _ hf3, _, _, rfl⟩
  · obtain ⟨e3, h3, npf, hf3, z, z2, rfl⟩ := hP
    rw [List.take_of_length_le (by simp)] at hf3
    exact ⟨_, rfl, q pf H3 hpf0 e3 hf3⟩
end Sr
set_option Elab.async false
set_option linter.all false
set_option maxRecDepth 100000
/-! # What is read is in bounds -/
namespace Sr
open Vamvsa (Table Ask Row)
open VamvsBase (Toks PTok Fault Bytes)
theorem ok_bind {α β : Type} {x : Except Fault α} {f : α → Except Fault β} {y : β} (h : x.bind f = .ok y) : ∃ a, x = .ok a ∧ f a = .ok y := by
  cases x with
  | error e => cases h
  | ok a => exact ⟨a, rfl, h⟩
theorem ok_map {α β : Type} {x : Except Fault α} {f : α → β} {y : β} (h : x.map f = .ok y) : ∃ a, x = .ok a ∧ f a = y := by
  cases x with
  | error e => cases h
  | ok a => cases h; exact ⟨a, rfl, rfl⟩
def Nm16 (l : Toks) : Prop := ∀ q ∈ l, ∀ b, q.tok = .name b → b.length ≤ 16
theorem token_nm {l : Bytes} {b : Bytes} {n : Nat} (h : VamvsBase.token l = some (.name b, n)) : b.length ≤ 16 := by
  unfold VamvsBase.token at h
  cases l with
  | nil => cases h
  | cons c r =>
    simp only at h
    by_cases c1 : VamvsBase.isLetter c = true
    · rw [if_pos c1] at h
      by_cases c2 : VamvsBase.NAME < ((c :: r).takeWhile fun c => VamvsBase.isLetter c || VamvsBase.isDigit c).length
      · rw [if_pos c2] at h; cases h
      · rw [if_neg c2] at h
        cases h
        exact Nat.le_of_not_lt c2
    · rw [if_neg c1] at h
      by_cases c2 : VamvsBase.isDigit c = true
      · rw [if_pos c2] at h
        cases hn : VamvsBase.numberOf ((c :: r).takeWhile VamvsBase.isDigit) with
        | none => rw [hn] at h; cases h
        | some n => rw [hn] at h; cases h
      · rw [if_neg c2] at h
        by_cases c3 : VamvsBase.SIGNS.contains c = true
        · rw [if_pos c3] at h; cases h
        · rw [if_neg c3] at h; cases h
theorem lex_nm : ∀ (n at_ : Nat) (bs : Bytes) (l : Toks), VamvsBase.lex n at_ bs = .ok l → Nm16 l
  | 0, at_, bs, l, h => by
      cases h
      intro q hq b hb
      rw [List.mem_singleton] at hq
      rw [hq] at hb
      cases hb
  | n + 1, at_, [], l, h => by
      cases h
      intro q hq b hb
      rw [List.mem_singleton] at hq
      rw [hq] at hb
      cases hb
  | n + 1, at_, b :: r, l, h => by
      rw [lex_cons] at h
      by_cases c1 : VamvsBase.isBlank b = true
      · rw [if_pos c1] at h; exact lex_nm n _ _ l h
      · rw [if_neg c1] at h
        by_cases c2 : (b == 35) = true
        · rw [if_pos c2] at h; exact lex_nm n _ _ l h
        · rw [if_neg c2] at h
          cases ht : VamvsBase.token (b :: r) with
          | none => rw [ht] at h; cases h
          | some x =>
            rw [ht] at h
            obtain ⟨l', h1, h2⟩ := ok_map h
            have ih := lex_nm n _ _ l' h1
            rw [← h2]
            intro q hq c hc
            cases hq with
            | head =>
              obtain ⟨tk, k⟩ := x
              replace hc : tk = .name c := hc
              rw [hc] at ht
              exact token_nm ht
            | tail _ hq => exact ih q hq c hc
theorem name_ok {l : Toks} {x : VamvsBase.PName × Toks} (h : VamvsBase.takeName l = .ok x) : ∃ p, l = ⟨p, .name x.1.name⟩ :: x.2 := by
  unfold VamvsBase.takeName at h
  split at h
  · rename_i p b r
    by_cases c : VamvsBase.RESERVED.contains b = true
    · rw [if_pos c] at h; cases h
    · rw [if_neg c] at h; cases h; exact ⟨p, rfl⟩
  · cases h
theorem cols_ok : ∀ (n : Nat) (cs : List Bytes) (l : Toks) (y : List Bytes × Toks), Vamvsa.takeColumns n cs l = .ok y → Nm16 l → (∀ c ∈ cs, c.length ≤ 16) → ∀ c ∈ y.1, c.length ≤ 16
  | 0, cs, l, y, h, _, _ => by cases h
  | n + 1, cs, l, y, h, hl, hc => by
      unfold Vamvsa.takeColumns at h
      replace h := ok_bind h
      obtain ⟨x, hx, h⟩ := h
      obtain ⟨p, rfl⟩ := name_ok hx
      by_cases c1 : Vamvsa.COLUMNS ≤ cs.length
      · rw [if_pos c1] at h; cases h
      rw [if_neg c1] at h
      by_cases c2 : cs.contains x.1.name = true
      · rw [if_pos c2] at h; cases h
      rw [if_neg c2] at h
      have hc' : ∀ c ∈ cs ++ [x.1.name], c.length ≤ 16 := fun c hcm => by
        rw [List.mem_append, List.mem_singleton] at hcm
        rcases hcm with hcm | rfl
        · exact hc c hcm
        · exact hl _ List.mem_cons_self _ rfl
      by_cases c3 : VamvsBase.next (.sign 44) x.2 = true
      · rw [if_pos c3] at h
        exact cols_ok n _ _ y h (fun q hq => hl q (List.mem_cons_of_mem _ (List.mem_of_mem_drop hq))) hc'
      · rw [if_neg c3] at h
        obtain ⟨m, _, e⟩ := ok_map h
        rw [← e]
        exact hc'
theorem nat_ok {most : Nat} {l : Toks} {x : Nat × Toks} (h : Vamvsa.takeNat most l = .ok x) : x.1 ≤ most := by
  unfold Vamvsa.takeNat at h
  split at h
  · rename_i q n r
    by_cases c : most < n
    · rw [if_pos c] at h; cases h
    · rw [if_neg c] at h; cases h; exact Nat.le_of_not_lt c
  · cases h
theorem values_ok : ∀ (n : Nat) (vs : List Nat) (l : Toks) (y : List Nat × Toks), Vamvsa.takeValues n vs l = .ok y → (∀ x ∈ vs, x ≤ 9) → y.1.length = vs.length + n ∧ ∀ x ∈ y.1, x ≤ 9
  | 0, vs, l, y, h, hv => by cases h; exact ⟨rfl, hv⟩
  | n + 1, vs, l, y, h, hv => by
      unfold Vamvsa.takeValues at h
      obtain ⟨r, _, h⟩ := ok_bind h
      obtain ⟨x, hx, h⟩ := ok_bind h
      obtain ⟨h1, h2⟩ := values_ok n _ _ y h (fun z hz => by
        rw [List.mem_append, List.mem_singleton] at hz
        rcases hz with hz | rfl
        · exact hv z hz
        · exact nat_ok hx)
      rw [List.length_append] at h1
      exact ⟨by rw [h1]; show vs.length + 1 + n = _; omega, h2⟩
theorem int_ok {l : Toks} {x : Int × Toks} (h : Vamvsa.takeInt l = .ok x) : -1000 ≤ x.1 ∧ x.1 ≤ 1000 := by
  unfold Vamvsa.takeInt at h
  obtain ⟨y, hy, e⟩ := ok_map h
  have := nat_ok hy
  have h1 : y.1 ≤ 1000 := this
  clear this
  rw [← e]
  show -1000 ≤ (if VamvsBase.next (.sign 45) l = true then -((y.1 : Nat) : Int) else ((y.1 : Nat) : Int)) ∧ (if VamvsBase.next (.sign 45) l = true then -((y.1 : Nat) : Int) else ((y.1 : Nat) : Int)) ≤ 1000
  by_cases c : VamvsBase.next (.sign 45) l = true
  · rw [if_pos c]; constructor <;> omega
  · rw [if_neg c]; constructor <;> omega
theorem bit_room : ∀ w : Nat, w ≤ 4 → ∀ gr : Nat, gr < 2 ^ w → ∀ i : Nat, i < w → ¬ gr / 2 ^ i % 2 = 1 → gr + 2 ^ i < 2 ^ w := by
  intro w hw
  match w, hw with
  | 0, _ => decide
  | 1, _ => decide
  | 2, _ => decide
  | 3, _ => decide +kernel
  | 4, _ => decide +kernel
theorem asked_ok (cs : List Bytes) (h4 : cs.length ≤ 4) : ∀ (n gr : Nat) (l : Toks) (y : Nat × Toks), Vamvsa.takeAsked cs n gr l = .ok y → gr < 2 ^ cs.length → y.1 < 2 ^ cs.length
  | 0, gr, l, y, h, _ => by cases h
  | n + 1, gr, l, y, h, hg => by
      unfold Vamvsa.takeAsked at h
      obtain ⟨x, hx, h⟩ := ok_bind h
      cases hf : (cs.findIdx? fun c => c == x.1.name) with
      | none => rw [hf] at h; cases h
      | some i =>
        rw [hf] at h
        have hi : i < cs.length := (List.getElem?_eq_some_iff.mp (find_of hf).1).1
        replace h : (if gr / 2 ^ i % 2 = 1 then Except.error ⟨6, x.1.place⟩ else if VamvsBase.next (.sign 44) x.2 = true then Vamvsa.takeAsked cs n (gr + 2 ^ i) (x.2.drop 1) else .ok (gr + 2 ^ i, x.2)) = .ok y := h
        by_cases c : gr / 2 ^ i % 2 = 1
        · rw [if_pos c] at h; cases h
        rw [if_neg c] at h
        have hr := bit_room _ h4 gr hg i hi c
        by_cases c2 : VamvsBase.next (.sign 44) x.2 = true
        · rw [if_pos c2] at h
          exact asked_ok cs h4 n _ _ y h hr
        · rw [if_neg c2] at h; cases h; exact hr
theorem times_ok {l : Toks} {x : Nat × Toks} (h : Vamvsa.takeTimes l = .ok x) : 1 ≤ x.1 ∧ x.1 ≤ 99 := by
  unfold Vamvsa.takeTimes at h
  by_cases c : VamvsBase.nextWord "times" l = true
  · rw [if_pos c] at h
    split at h
    · rename_i q n r _
      by_cases c2 : n < 1 ∨ Vamvsa.TIMES < n
      · rw [if_pos c2] at h; cases h
      · rw [if_neg c2] at h
        cases h
        have h99 : Vamvsa.TIMES = 99 := rfl
        show 1 ≤ n ∧ n ≤ 99
        omega
    · cases h
  · rw [if_neg c] at h; cases h; show 1 ≤ 1 ∧ 1 ≤ 99; omega
theorem ask_ok {cs : List Bytes} (h4 : cs.length ≤ 4) {l : Toks} {x : Ask × Toks} (h : Vamvsa.takeAsk cs l = .ok x) : x.1.g < 2 ^ cs.length ∧ 1 ≤ x.1.k ∧ x.1.k ≤ 99 := by
  unfold Vamvsa.takeAsk at h
  obtain ⟨gr, hg, h⟩ := ok_bind h
  obtain ⟨k, hk, h⟩ := ok_bind h
  obtain ⟨m, hm, e⟩ := ok_map h
  rw [← e]
  refine ⟨?_, times_ok hk⟩
  show gr.1 < _
  by_cases c : VamvsBase.nextWord "times" l = true ∨ VamvsBase.next (.sign 59) l = true
  · rw [if_pos c] at hg; cases hg; exact Nat.pow_pos (by decide)
  · rw [if_neg c] at hg; exact asked_ok cs h4 _ _ _ gr hg (Nat.pow_pos (by decide))
theorem lines_ok : ∀ (n : Nat) (t : Table) (l : Toks) (t' : Table), Vamvsa.takeLines n t l = .ok t' → TOk t → TOk t'
  | 0, t, l, t', h, _ => by cases h
  | n + 1, t, l, t', h, ok => by
      unfold Vamvsa.takeLines at h
      by_cases c1 : VamvsBase.next .last l = true
      · rw [if_pos c1] at h; cases h; exact ok
      rw [if_neg c1] at h
      by_cases c2 : VamvsBase.nextWord "row" l = true
      · rw [if_pos c2] at h
        by_cases c3 : Vamvsa.ROWS ≤ t.rows.length
        · rw [if_pos c3] at h; cases h
        rw [if_neg c3] at h
        obtain ⟨v, hv, h⟩ := ok_bind h
        obtain ⟨r, hr, h⟩ := ok_bind h
        obtain ⟨x, hx, h⟩ := ok_bind h
        obtain ⟨m, hm, h⟩ := ok_bind h
        obtain ⟨v1, v2⟩ := values_ok _ _ _ _ hv (fun x hx => by cases hx)
        have hi := int_ok hx
        have h16 : Vamvsa.ROWS = 16 := rfl
        refine lines_ok n _ _ t' h ⟨ok.c1, ok.c4, ok.cb, ?_, ok.q8, ?_, ok.qv⟩
        · show (t.rows ++ [_]).length ≤ 16
          rw [List.length_append]
          show t.rows.length + 1 ≤ 16
          omega
        · intro q hq
          replace hq : q ∈ t.rows ++ [⟨v.1, x.1⟩] := hq
          rw [List.mem_append, List.mem_singleton] at hq
          rcases hq with hq | rfl
          · exact ok.rv q hq
          · exact ⟨by rw [v1]; exact Nat.zero_add _, v2, hi⟩
      · rw [if_neg c2] at h
        obtain ⟨r, hr, h⟩ := ok_bind h
        by_cases c3 : Vamvsa.ASKS ≤ t.asks.length
        · rw [if_pos c3] at h; cases h
        rw [if_neg c3] at h
        obtain ⟨a, ha, h⟩ := ok_bind h
        have h8 : Vamvsa.ASKS = 8 := rfl
        refine lines_ok n _ _ t' h ⟨ok.c1, ok.c4, ok.cb, ok.r16, ?_, ok.rv, ?_⟩
        · show (t.asks ++ [_]).length ≤ 8
          rw [List.length_append]
          show t.asks.length + 1 ≤ 8
          omega
        · intro q hq
          replace hq : q ∈ t.asks ++ [a.1] := hq
          rw [List.mem_append, List.mem_singleton] at hq
          rcases hq with hq | rfl
          · exact ok.qv q hq
          · exact ask_ok ok.c4 ha
theorem read_ok {b : Bytes} {t : Table} (h : Vamvsa.read b = .ok t) : TOk t := by
  unfold Vamvsa.read at h
  obtain ⟨l, hl, h⟩ := ok_bind h
  obtain ⟨r, hr, h⟩ := ok_bind h
  obtain ⟨x, hx, h⟩ := ok_bind h
  have hnm : Nm16 l := by
    unfold VamvsBase.tokens at hl
    by_cases c : VamvsBase.TEXT < b.length
    · rw [if_pos c] at hl; cases hl
    · rw [if_neg c] at hl; exact lex_nm _ _ _ l hl
  have hr' : r = l.drop 1 := by
    rw [takeWord_of] at hr
    by_cases c : VamvsBase.nextWord "columns" l = true
    · rw [if_pos c] at hr; cases hr; rfl
    · rw [if_neg c] at hr; cases hr
  have hnr : Nm16 r := fun q hq => hnm q (by rw [hr'] at hq; exact List.mem_of_mem_drop hq)
  obtain ⟨c1, c4⟩ := cols_len _ _ _ x.1 x.2 hx
  refine lines_ok _ _ _ t h ⟨c1, c4, cols_ok _ _ _ x hx hnr (fun c hc => by cases hc), by show 0 ≤ 16; omega, by show 0 ≤ 8; omega, (fun r hr => by cases hr), (fun r hr => by cases hr)⟩
/-! ## what a group pays is small -/
open Vamvsf (groupCosts)
theorem costW_le (w : Nat → Bool) : ∀ (l : List ((Nat × Ask) × Nat)), (∀ x ∈ l, x.1.2.k * x.1.1 ≤ 1584) → costW w l ≤ l.length * 1584
  | [], _ => Nat.le_refl _
  | x :: r, h => by
      have h1 := h x List.mem_cons_self
      have h2 := costW_le w r fun y hy => h y (List.mem_cons_of_mem _ hy)
      show (if w x.2 = true then x.1.2.k * x.1.1 else 0) + costW w r ≤ (r.length + 1) * 1584
      split <;> omega
theorem paid_le {t : Table} (ok : TOk t) {who : Vamvsf.Who} (hw : ∀ r ∈ who, r < 4) (c : Nat) {s : Nat} (hs : s < 16) : (groupCosts t who c).getD s 0 ≤ 12672 := by
  have h1 := (pays_least t who c hw hs).1 [] (fun g hg => by cases hg)
  refine Nat.le_trans h1 ?_
  show 2 * c * 0 + costW (inG s) (((readsG t []).zip t.asks).zip who) ≤ 12672
  have h2 := costW_le (inG s) (((readsG t []).zip t.asks).zip who) (fun x hx => by
    have m1 := (List.of_mem_zip hx).1
    obtain ⟨m2, m3⟩ := List.of_mem_zip m1
    obtain ⟨a, _, e⟩ := List.mem_map.mp m2
    have q := (ok.qv _ m3).2.2
    have r : x.1.1 ≤ 16 := by rw [← e]; have := rdG_le t [] a; have := ok.r16; omega
    have := Nat.mul_le_mul q r
    omega)
  have h3 : (((readsG t []).zip t.asks).zip who).length ≤ 8 := by
    rw [List.length_zip, List.length_zip]
    have := ok.q8
    omega
  omega
theorem paid_lt {t : Table} (ok : TOk t) {who : Vamvsf.Who} (hw : ∀ r ∈ who, r < 4) (c : Nat) : ∀ x ∈ groupCosts t who c, x < 2 ^ 40 := by
  intro x hx
  obtain ⟨s, hs, e⟩ := List.mem_iff_getElem.mp hx
  have hl := costs_len t who c
  have := paid_le ok hw c (s := s) (by omega)
  rw [List.getD_eq_getElem?_getD, List.getElem?_eq_getElem hs] at this
  replace this : (groupCosts t who c)[s] ≤ 12672 := this
  omega
end Sr
set_option Elab.async false
set_option linter.all false
set_option maxRecDepth 100000
set_option maxHeartbeats 4000000
/-! # The desk: what it holds -/
namespace Sr
open PySem PySem.Spec PyProof.Rows L2
open Evl (Ex)
open Vamvsa (Table Ask)
open Vamvsf (Held)
/-- all but one place stays -/
def Fd (a : Addr) (H H' : Hp) : Prop := ∀ x o, H x = some o → x ≠ a → H' x = some o
theorem Ex.fd {a : Addr} {H H' : Hp} (e : Ex H H') : Fd a H H' := fun x o h _ => e x o h
theorem Fd.trans {a : Addr} {H H1 H2 : Hp} (f : Fd a H H1) (f2 : Fd a H1 H2) : Fd a H H2 := fun x o h n => f2 x o (f x o h n) n
theorem Fd.upd {a : Addr} {H : Hp} {o : HO} : Fd a H (L2.upd H a o) := fun x o' h n => by rw [upd_ne n]; exact h
/-- no list, tuple, dict stands there, and no instance but one of seven fields -/
structure Big (H : Hp) (a : Addr) : Prop where
  l : ∀ xs, H a ≠ some (.lst xs)
  t : ∀ xs, H a ≠ some (.tup xs)
  d : ∀ kvs, H a ≠ some (.dT kvs)
  i : ∀ C dx fs, H a = some (.ins C dx fs) → fs.length = 7
theorem Big.ne_i {H : Hp} {a b C dx : Addr} {fs : List (Str × V)} (h : Big H a) (hb : H b = some (.ins C dx fs)) (n : fs.length ≠ 7) : b ≠ a := fun z => n (h.i C dx fs (by rw [← z]; exact hb))
theorem Big.ne_l {H : Hp} {a b : Addr} {xs : List V} (h : Big H a) (hb : H b = some (.lst xs)) : b ≠ a := fun z => h.l xs (by rw [← z]; exact hb)
theorem Big.ne_t {H : Hp} {a b : Addr} {xs : List V} (h : Big H a) (hb : H b = some (.tup xs)) : b ≠ a := fun z => h.t xs (by rw [← z]; exact hb)
theorem Big.ne_d {H : Hp} {a b : Addr} {xs : List (List Key × V)} (h : Big H a) (hb : H b = some (.dT xs)) : b ≠ a := fun z => h.d xs (by rw [← z]; exact hb)
theorem big_frz {H : Hp} {a : Addr} {ob : Obj} {u : HO} (h : H a = some (.frz ob u)) : Big H a := ⟨fun xs e => (by rw [h] at e; cases e), fun xs e => (by rw [h] at e; cases e), fun xs e => (by rw [h] at e; cases e), fun C dx fs e => (by rw [h] at e; cases e)⟩
theorem big_ins {H : Hp} {a C dx : Addr} {fs : List (Str × V)} (h : H a = some (.ins C dx fs)) (n : fs.length = 7) : Big H a := ⟨fun xs e => (by rw [h] at e; cases e), fun xs e => (by rw [h] at e; cases e), fun xs e => (by rw [h] at e; cases e), fun C' dx' fs' e => Decidable.byContradiction fun c => ins_ne (fun z => c (by rw [← z]; exact n)) (h.symm.trans e)⟩
theorem Fd.kt {a : Addr} {H H' : Hp} (f : Fd a H H') (b : Big H a) : Kt H H' := fun x xs h => f x _ h (b.ne_t h)
theorem Fd.nl {a : Addr} {H H' : Hp} (f : Fd a H H') (b : Big H a) {v : V} {d : List Nat} (h : NlAt H v d) : NlAt H' v d := let ⟨p, e, h⟩ := h; ⟨p, e, f _ _ h (b.ne_l h)⟩
theorem Fd.tbw {g : Gx} {a ta dx ln lr lq : Addr} {t : Table} {H H' : Hp} (f : Fd a H H') (b : Big H a) (w : TbW g H ta dx ln lr lq t) : TbW g H' ta dx ln lr lq t := by
  obtain ⟨ob, ⟨ns, n1, n2⟩, ⟨rs, r1, r2⟩, ⟨qs, q1, q2⟩⟩ := w
  have kt := f.kt b
  exact ⟨f _ _ ob (b.ne_i ob (by show (3 : Nat) ≠ 7; decide)), ⟨ns, f _ _ n1 (b.ne_l n1), paired_keep (fun _ _ => BtAt.keep kt) n2⟩, ⟨rs, f _ _ r1 (b.ne_l r1), paired_keep (fun _ _ => RowAt.keep kt) r2⟩, ⟨qs, f _ _ q1 (b.ne_l q1), paired_keep (fun _ _ => AskAt.keep kt) q2⟩⟩
theorem Fd.tbl {g : Gx} {a : Addr} {v : V} {t : Table} {H H' : Hp} (f : Fd a H H') (b : Big H a) (h : TblAt g H v t) : TblAt g H' v t := let ⟨p, dx, ln, lr, lq, e, w⟩ := h; ⟨p, dx, ln, lr, lq, e, f.tbw b w⟩
theorem Fd.rgw {g : Gx} {a ra : Addr} {t : Table} {c : Nat} {bd : Vamvsf.Bounds} {H H' : Hp} (f : Fd a H H') (b : Big H a) (h : RgW g H ra t c bd) : RgW g H' ra t c bd := by
  obtain ⟨dx, ls, lrd, lb, sx, rx, bx, h1, h2, h3, h4, h5, h6, h7⟩ := h.ex
  exact ⟨dx, ls, lrd, lb, sx, rx, bx, f _ _ h1 (b.ne_i h1 (by show (4 : Nat) ≠ 7; decide)), f _ _ h2 (b.ne_l h2), paired_keep (fun _ _ => f.nl b) h3, f _ _ h4 (b.ne_l h4), paired_keep (fun _ _ => f.nl b) h5, f _ _ h6 (b.ne_l h6), paired_keep (fun _ _ => PrAt.keep (f.kt b)) h7⟩
/-- the object -/
def DkO (g : Gx) (dx : Addr) (vt vs vr vo vb vc vk : V) : HO := .ins (g.C "Desk") dx [("table", vt), ("sizes", vs), ("reads", vr), ("owners", vo), ("bounds", vb), ("changes", vc), ("known_regrets", vk)]
theorem big_of {g : Gx} {H : Hp} {a dx : Addr} {vt vs vr vo vb vc vk : V} (h : H a = some (DkO g dx vt vs vr vo vb vc vk)) : Big H a := big_ins h rfl
/-- what its fields tell -/
structure DkP (g : Gx) (H : Hp) (h : Held) (vt vk : V) (ls ld lo lb : Addr) : Prop where
  tb : TblAt g H vt h.t
  sz : H ls = some (.lst ((sizesT h.t).map nV))
  rd : ∃ kvs, H ld = some (.dT kvs) ∧ RdsN h.t (2 ^ h.t.cols.length) kvs
  ow : H lo = some (.lst (h.who.map nV))
  bd : ∃ bx, H lb = some (.lst bx) ∧ Paired (PrAt H) bx (h.b.low.zip h.b.high)
  kn : vk = .non ∨ ∃ ra, vk = .ref ra ∧ RgW g H ra h.t h.c h.b
theorem DkP.fd {g : Gx} {H H' : Hp} {h : Held} {vt vk : V} {ls ld lo lb a : Addr} (w : DkP g H h vt vk ls ld lo lb) (b : Big H a) (f : Fd a H H') : DkP g H' h vt vk ls ld lo lb := by
  obtain ⟨tb, sz, ⟨kvs, r1, r2⟩, ow, ⟨bx, b1, b2⟩, kn⟩ := w
  refine ⟨f.tbl b tb, f _ _ sz (b.ne_l sz), ⟨kvs, f _ _ r1 (b.ne_d r1), r2⟩, f _ _ ow (b.ne_l ow), ⟨bx, f _ _ b1 (b.ne_l b1), paired_keep (fun _ _ => PrAt.keep (f.kt b)) b2⟩, ?_⟩
  rcases kn with e | ⟨ra, e, k⟩
  · exact .inl e
  · exact .inr ⟨ra, e, f.rgw b k⟩
structure HeldOk (h : Held) : Prop where
  t : TOk h.t
  b : BOk h.t h.b
  wl : h.who.length = h.t.asks.length
  w4 : ∀ r ∈ h.who, r < 4
  c : h.c ≤ 1000
def DkW (g : Gx) (H : Hp) (a dx : Addr) (h : Held) : Prop := HeldOk h ∧ ∃ vt vk ls ld lo lb, H a = some (DkO g dx vt (.ref ls) (.ref ld) (.ref lo) (.ref lb) (nV h.c) vk) ∧ DkP g H h vt vk ls ld lo lb
/-- the object for the told state -/
def ObjAt (g : Gx) (H : Hp) (a dx : Addr) (o : Vamvsf.Obj) : Prop := match o with
  | none => ∃ vs vr vo vb vc vk, H a = some (DkO g dx .non vs vr vo vb vc vk)
  | some h => DkW g H a dx h
theorem DkW.ex {g : Gx} {H H' : Hp} {a dx : Addr} {h : Held} (w : DkW g H a dx h) (e : Ex H H') : DkW g H' a dx h := by
  obtain ⟨ok, vt, vk, ls, ld, lo, lb, h1, p⟩ := w
  exact ⟨ok, vt, vk, ls, ld, lo, lb, e _ _ h1, p.fd (big_of h1) (Ex.fd e)⟩
theorem ObjAt.ex {g : Gx} {H H' : Hp} {a dx : Addr} {o : Vamvsf.Obj} (w : ObjAt g H a dx o) (e : Ex H H') : ObjAt g H' a dx o := by
  cases o with
  | none => obtain ⟨vs, vr, vo, vb, vc, vk, h⟩ := w; exact ⟨vs, vr, vo, vb, vc, vk, e _ _ h⟩
  | some h => exact DkW.ex w e
theorem ObjAt.some_at {g : Gx} {H : Hp} {a dx : Addr} {o : Vamvsf.Obj} (w : ObjAt g H a dx o) : ∃ x, H a = some x := by
  cases o with
  | none => obtain ⟨vs, vr, vo, vb, vc, vk, h⟩ := w; exact ⟨_, h⟩
  | some h => obtain ⟨_, vt, vk, ls, ld, lo, lb, h1, _⟩ := w; exact ⟨_, h1⟩
/-- what a call gives back -/
def RetD (g : Gx) (a dx : Addr) (H : Hp) (o : Vamvsf.Obj) (row : List Int) (Q : VK) : Prop := ∀ p H', H p = none → Fd a H H' → ObjAt g H' a dx o → H' p = some (.lst (row.map V.int)) → Q (.ref p) H'
/-- what it refuses -/
def RefE (g : Gx) (H : Hp) (E : XK) (n : Int) : Prop := ∀ d H', Ex H H' → H' d = some (.xd [("refusal", .int n)]) → E (.ref (g.C "Refused")) (some d) H'
theorem RefE.ex {g : Gx} {H H' : Hp} {E : XK} {n : Int} (h : RefE g H E n) (e : Ex H H') : RefE g H' E n := fun d H2 e2 hd => h d H2 (e.trans e2) hd
def sp_want (g : Gx) : Sp := fun vs H Q E => ∃ (b : Bool) (n : Int), vs = [.bl b, .int n] ∧ (b = true → Q .non H) ∧ (b = false → RefE g H E n)
abbrev N_want : List Str := ["is_so", "refusal"]
theorem sc_want : FnScope N_want ["is_so", "refusal"] (defScope s_want) := ⟨rfl, rfl, rfl, by decide +kernel, rfl, by decide +kernel, by decide +kernel⟩
set_option maxHeartbeats 8000000 in
theorem ok_want {g : Gx} (T : Tx g) : RGl g (CXr g) 3 "want" (sp_want g) := by
  refine glX (N := N_want) (ps := ["is_so", "refusal"]) (st := s_want) T 57 rfl T.d_want sc_want (fun _ _ _ _ _ _ us hl => match us, hl with | [_, _], _ => rfl) (fun vs H Q E h => by obtain ⟨b, n, rfl, q1, q2⟩ := h; rfl) (fun f cdv A outer s H vs Q E hr h => ?_)
  obtain ⟨b, n, rfl, q1, q2⟩ := h
  refine ⟨_, (pss_one (ps_if (pt_not (pt_val (pv 0))) (pss_one (ps_xRefused T hr (by decide) rfl tkR rfl (pa_cons (pv 1) pa_nil))) pss_nil)), ?_⟩

  refine ⟨_, rfl, b, rfl, ?_⟩
  cases b with
  | true => exact iteF (q1 rfl)
  | false => exact iteT ⟨_, rfl, _, rfl, q2 rfl⟩
def sp_counted (g : Gx) : Sp := fun vs H Q _ => ∃ (a : Addr) (xs : List Int), vs = [.ref a] ∧ H a = some (.lst (xs.map V.int)) ∧ xs.length ≤ 1000000 ∧ ∀ p H', H p = none → Ex H H' → H' p = some (.lst (((xs.length : Int) :: xs).map V.int)) → Q (.ref p) H'
abbrev N_counted : List Str := ["some"]
theorem sc_counted : FnScope N_counted ["some"] (defScope s_counted) := ⟨rfl, rfl, rfl, by decide +kernel, rfl, by decide +kernel, by decide +kernel⟩
set_option maxHeartbeats 8000000 in
theorem ok_counted {g : Gx} (T : Tx g) : RGl g CX0 1 "counted" (sp_counted g) := by
  refine gl0 (N := N_counted) (ps := ["some"]) (st := s_counted) T 58 rfl T.d_counted sc_counted (fun _ _ _ _ _ _ us hl => match us, hl with | [_], _ => rfl) (fun vs H Q E h => by obtain ⟨a, xs, rfl, ha, hl, q⟩ := h; rfl) (fun f cdv A outer s H vs Q E hr h => ?_)
  obtain ⟨a, xs, rfl, ha, hl, q⟩ := h
  refine ⟨_, (pss_one (ps_ret (pe_op op_cat (pe_lst (pa_cons (pe_callB call_len_seq rfl T.f_len PySem.boot_len (pa_cons (pv 0) pa_nil)) pa_nil)) (pe_callTy call_list_of rfl T.f_list (by decide +kernel) (pa_cons (pv 0) pa_nil))))), ?_⟩

  have hz : (xs.map V.int).length ≤ 1000000 := by rw [List.length_map]; exact hl
  refine ⟨_, rfl, a, _, rfl, .inl (.inl (.inl ha)), s1, fun p1 hp1 => ?_⟩
  have e1 := Ex.new (o := HO.lst [V.int ((xs.map V.int).length : Nat)]) hp1
  have h1 : (upd H p1 (HO.lst [V.int ((xs.map V.int).length : Nat)])) p1 = some (.lst [V.int ((xs.map V.int).length : Nat)]) := upd_same
  generalize (upd H p1 (HO.lst [V.int ((xs.map V.int).length : Nat)])) = H1 at e1 h1 ⊢
  refine ⟨_, rfl, a, _, rfl, .inl (.inl (.inl (e1 _ _ ha))), fun p2 hp2 => ?_⟩
  have e2 := Ex.new (o := HO.lst (xs.map V.int)) hp2
  have h2 : (upd H1 p2 (HO.lst (xs.map V.int))) p2 = some (.lst (xs.map V.int)) := upd_same
  have h21 := e2 _ _ h1
  generalize (upd H1 p2 (HO.lst (xs.map V.int))) = H2 at e2 h2 h21 ⊢
  have hsz := sizeLine_eq
  refine ⟨p1, p2, _, _, rfl, rfl, h21, h2, by show 1 + (xs.map V.int).length ≤ sizeLine; omega, fun p3 hp3 => ?_⟩
  refine q p3 _ (Evl.fresh_back (e1.trans e2) hp3) ((e1.trans e2).trans (Ex.new hp3)) ?_
  rw [upd_same, List.length_map]
  rfl
def sp_Desk_init (g : Gx) : Sp := fun vs H Q _ => ∃ a dx : Addr, vs = [.ref a] ∧ H a = some (.ins (g.C "Desk") dx []) ∧ ∀ H', Fd a H H' → ObjAt g H' a dx none → Q .non H'
abbrev N_Desk_init : List Str := ["self"]
theorem sc_Desk_init : FnScope N_Desk_init ["self"] (defScope s_Desk_init) := ⟨rfl, rfl, rfl, by decide +kernel, rfl, by decide +kernel, by decide +kernel⟩
set_option maxHeartbeats 8000000 in
theorem ok_Desk_init {g : Gx} (T : Tx g) : RMk g CX0 1 "Desk" (g.C "Desk") (sp_Desk_init g) := by
  refine mk0 (N := N_Desk_init) (ps := ["self"]) (st := s_Desk_init) T 59 rfl T.mk_Desk T.c_Desk sc_Desk_init (fun _ _ _ _ _ _ us hl => match us, hl with | [_], _ => rfl) (fun vs H Q E h => by obtain ⟨a, dx, rfl, ha, q⟩ := h; rfl) (fun f cdv A outer s H vs Q E hr h => ?_)
  obtain ⟨a, dx, rfl, ha, q⟩ := h
  refine ⟨_, (pss_cons (ps_fld (pv 0) pe_non rfl) (pss_cons (ps_fld (pv 0) (pe_lst pa_nil) rfl) (pss_cons (ps_fld (pv 0) pe_dnewT rfl) (pss_cons (ps_fld (pv 0) (pe_lst pa_nil) rfl) (pss_cons (ps_fld (pv 0) (pe_lst pa_nil) rfl) (pss_cons (ps_fld (pv 0) pe_int rfl) (pss_one (ps_fld (pv 0) pe_non rfl)))))))), ?_⟩

  refine ⟨_, rfl, a, _, dx, [], rfl, ha, T.cl_Desk, T.na_Desk_table, by show 0 < 1000; omega, ?_⟩
  have F0 : Fd a H (upd H a (.ins (g.C "Desk") dx [("table", .non)])) := Fd.upd
  have A0 : (upd H a (.ins (g.C "Desk") dx [("table", .non)])) a = some (.ins (g.C "Desk") dx [("table", .non)]) := upd_same
  change tSeq _ _ _ _ (upd H a (.ins (g.C "Desk") dx [("table", .non)]))
  generalize (upd H a (.ins (g.C "Desk") dx [("table", .non)])) = H0 at F0 A0 ⊢
  refine ⟨by decide, fun p1 hp1 => ?_⟩
  have G1 := F0.trans (Ex.fd (a := a) (Ex.new (o := HO.lst []) hp1))
  have B1 := Ex.new (o := HO.lst []) hp1 _ _ A0
  refine ⟨_, rfl, a, _, dx, _, rfl, B1, T.cl_Desk, T.na_Desk_sizes, by show 1 < 1000; omega, ?_⟩
  have F1 : Fd a H (upd (upd H0 p1 (HO.lst [])) a (.ins (g.C "Desk") dx [("table", .non), ("sizes", .ref p1)])) := G1.trans Fd.upd
  have A1 : (upd (upd H0 p1 (HO.lst [])) a (.ins (g.C "Desk") dx [("table", .non), ("sizes", .ref p1)])) a = some (.ins (g.C "Desk") dx [("table", .non), ("sizes", .ref p1)]) := upd_same
  change tSeq _ _ _ _ (upd (upd H0 p1 (HO.lst [])) a (.ins (g.C "Desk") dx [("table", .non), ("sizes", .ref p1)]))
  generalize (upd (upd H0 p1 (HO.lst [])) a (.ins (g.C "Desk") dx [("table", .non), ("sizes", .ref p1)])) = H1 at F1 A1 ⊢
  refine fun p2 hp2 => ?_
  have G2 := F1.trans (Ex.fd (a := a) (Ex.new (o := HO.dT []) hp2))
  have B2 := Ex.new (o := HO.dT []) hp2 _ _ A1
  refine ⟨_, rfl, a, _, dx, _, rfl, B2, T.cl_Desk, T.na_Desk_reads, by show 2 < 1000; omega, ?_⟩
  have F2 : Fd a H (upd (upd H1 p2 (HO.dT [])) a (.ins (g.C "Desk") dx [("table", .non), ("sizes", .ref p1), ("reads", .ref p2)])) := G2.trans Fd.upd
  have A2 : (upd (upd H1 p2 (HO.dT [])) a (.ins (g.C "Desk") dx [("table", .non), ("sizes", .ref p1), ("reads", .ref p2)])) a = some (.ins (g.C "Desk") dx [("table", .non), ("sizes", .ref p1), ("reads", .ref p2)]) := upd_same
  change tSeq _ _ _ _ (upd (upd H1 p2 (HO.dT [])) a (.ins (g.C "Desk") dx [("table", .non), ("sizes", .ref p1), ("reads", .ref p2)]))
  generalize (upd (upd H1 p2 (HO.dT [])) a (.ins (g.C "Desk") dx [("table", .non), ("sizes", .ref p1), ("reads", .ref p2)])) = H2 at F2 A2 ⊢
  refine ⟨by decide, fun p3 hp3 => ?_⟩
  have G3 := F2.trans (Ex.fd (a := a) (Ex.new (o := HO.lst []) hp3))
  have B3 := Ex.new (o := HO.lst []) hp3 _ _ A2
  refine ⟨_, rfl, a, _, dx, _, rfl, B3, T.cl_Desk, T.na_Desk_owners, by show 3 < 1000; omega, ?_⟩
  have F3 : Fd a H (upd (upd H2 p3 (HO.lst [])) a (.ins (g.C "Desk") dx [("table", .non), ("sizes", .ref p1), ("reads", .ref p2), ("owners", .ref p3)])) := G3.trans Fd.upd
  have A3 : (upd (upd H2 p3 (HO.lst [])) a (.ins (g.C "Desk") dx [("table", .non), ("sizes", .ref p1), ("reads", .ref p2), ("owners", .ref p3)])) a = some (.ins (g.C "Desk") dx [("table", .non), ("sizes", .ref p1), ("reads", .ref p2), ("owners", .ref p3)]) := upd_same
  change tSeq _ _ _ _ (upd (upd H2 p3 (HO.lst [])) a (.ins (g.C "Desk") dx [("table", .non), ("sizes", .ref p1), ("reads", .ref p2), ("owners", .ref p3)]))
  generalize (upd (upd H2 p3 (HO.lst [])) a (.ins (g.C "Desk") dx [("table", .non), ("sizes", .ref p1), ("reads", .ref p2), ("owners", .ref p3)])) = H3 at F3 A3 ⊢
  refine ⟨by decide, fun p4 hp4 => ?_⟩
  have G4 := F3.trans (Ex.fd (a := a) (Ex.new (o := HO.lst []) hp4))
  have B4 := Ex.new (o := HO.lst []) hp4 _ _ A3
  refine ⟨_, rfl, a, _, dx, _, rfl, B4, T.cl_Desk, T.na_Desk_bounds, by show 4 < 1000; omega, ?_⟩
  have F4 : Fd a H (upd (upd H3 p4 (HO.lst [])) a (.ins (g.C "Desk") dx [("table", .non), ("sizes", .ref p1), ("reads", .ref p2), ("owners", .ref p3), ("bounds", .ref p4)])) := G4.trans Fd.upd
  have A4 : (upd (upd H3 p4 (HO.lst [])) a (.ins (g.C "Desk") dx [("table", .non), ("sizes", .ref p1), ("reads", .ref p2), ("owners", .ref p3), ("bounds", .ref p4)])) a = some (.ins (g.C "Desk") dx [("table", .non), ("sizes", .ref p1), ("reads", .ref p2), ("owners", .ref p3), ("bounds", .ref p4)]) := upd_same
  change tSeq _ _ _ _ (upd (upd H3 p4 (HO.lst [])) a (.ins (g.C "Desk") dx [("table", .non), ("sizes", .ref p1), ("reads", .ref p2), ("owners", .ref p3), ("bounds", .ref p4)]))
  generalize (upd (upd H3 p4 (HO.lst [])) a (.ins (g.C "Desk") dx [("table", .non), ("sizes", .ref p1), ("reads", .ref p2), ("owners", .ref p3), ("bounds", .ref p4)])) = H4 at F4 A4 ⊢
  refine ⟨_, rfl, a, _, dx, _, rfl, A4, T.cl_Desk, T.na_Desk_changes, by show 5 < 1000; omega, ?_⟩
  refine ⟨_, rfl, a, _, dx, _, rfl, upd_same, T.cl_Desk, T.na_Desk_known_regrets, by show 6 < 1000; omega, ?_⟩
  rw [upd_upd]
  exact q _ (F4.trans Fd.upd) ⟨_, _, _, _, _, _, upd_same⟩
end Sr
set_option Elab.async false
set_option linter.all false
set_option maxRecDepth 100000
set_option maxHeartbeats 4000000
/-! # The desk: readers, changes, what a group pays -/
namespace Sr
open PySem PySem.Spec PyProof.Rows L2
open Evl (Ex)
open Vamvsa (Table Ask)
open Vamvsf (Held)
theorem int_nat {z : Int} (h : 0 ≤ z) : V.int z = nV z.toNat := by show V.int z = V.int ((z.toNat : Nat) : Int); rw [Int.toNat_of_nonneg h]
theorem chain_ll {te : TE} {σ : L2.St} {H : Hp} {Q : VK} {lo x hi : Int} (hx : ∀ Q', Q' (V.int x) H → te σ H Q') (q : Q (.bl (decide (lo ≤ x ∧ x ≤ hi))) H) :
    tChain (rI0 fun i j => V.bl (decide (i ≤ j))) (rI0 fun i j => V.bl (decide (i ≤ j))) (tC (.int lo)) te (tC (.int hi)) σ H Q := by
  refine hx _ ⟨lo, x, rfl, rfl, _, rfl, ?_⟩
  by_cases c : lo ≤ x
  · rw [if_pos (decide_eq_true c)]
    refine ⟨x, hi, rfl, rfl, ?_⟩
    have e : decide (lo ≤ x ∧ x ≤ hi) = decide (x ≤ hi) := by rw [decide_eq_decide]; exact ⟨fun h => h.2, fun h => ⟨c, h⟩⟩
    rw [e] at q; exact q
  · rw [if_neg (by simpa using c)]
    rw [decide_eq_false (fun h => c h.1)] at q; exact q
theorem chain_lt {te : TE} {σ : L2.St} {H : Hp} {Q : VK} {lo x hi : Int} (hx : ∀ Q', Q' (V.int x) H → te σ H Q') (q : Q (.bl (decide (lo ≤ x ∧ x < hi))) H) :
    tChain (rI0 fun i j => V.bl (decide (i ≤ j))) (rI0 fun i j => V.bl (decide (i < j))) (tC (.int lo)) te (tC (.int hi)) σ H Q := by
  refine hx _ ⟨lo, x, rfl, rfl, _, rfl, ?_⟩
  by_cases c : lo ≤ x
  · rw [if_pos (decide_eq_true c)]
    refine ⟨x, hi, rfl, rfl, ?_⟩
    have e : decide (lo ≤ x ∧ x < hi) = decide (x < hi) := by rw [decide_eq_decide]; exact ⟨fun h => h.2, fun h => ⟨c, h⟩⟩
    rw [e] at q; exact q
  · rw [if_neg (by simpa using c)]
    rw [decide_eq_false (fun h => c h.1)] at q; exact q
theorem Fd.back {a p : Addr} {H H' : Hp} (f : Fd a H H') (ha : ∃ x, H' a = some x) (hp : H' p = none) : H p = none := by
  cases h : H p with
  | none => rfl
  | some o =>
    by_cases e : p = a
    · obtain ⟨x, hx⟩ := ha
      rw [e, hx] at hp; cases hp
    · rw [f _ _ h e] at hp; cases hp
theorem retd_new {g : Gx} {a dx : Addr} {H H1 : Hp} {o : Vamvsf.Obj} {row : List Int} {Q : VK} (q : RetD g a dx H o row Q) (f : Fd a H H1) (w : ObjAt g H1 a dx o) {p : Addr} (hp : H1 p = none) : Q (.ref p) (upd H1 p (.lst (row.map V.int))) :=
  q p _ (f.back w.some_at hp) (f.trans (Ex.fd (Ex.new hp))) (w.ex (Ex.new hp)) upd_same
def sp_Desk_tell_changes (g : Gx) : Sp := fun vs H Q E => ∃ (a dx : Addr) (h : Held) (c : Int), vs = [.ref a, .int c] ∧ DkW g H a dx h ∧ ((0 ≤ c ∧ c ≤ 1000) → RetD g a dx H (some { h with c := c.toNat }) [1] Q) ∧ (¬ (0 ≤ c ∧ c ≤ 1000) → RefE g H E (-4))
abbrev N_Desk_tell_changes : List Str := ["self", "c"]
theorem sc_Desk_tell_changes : FnScope N_Desk_tell_changes ["self", "c"] (defScope s_Desk_tell_changes) := ⟨rfl, rfl, rfl, by decide +kernel, rfl, by decide +kernel, by decide +kernel⟩
set_option maxHeartbeats 8000000 in
theorem ok_Desk_tell_changes {g : Gx} (T : Tx g) : RMt g (CXr g) 4 (g.C "Desk") "tell_changes" (sp_Desk_tell_changes g) := by
  refine mtX (N := N_Desk_tell_changes) (ps := ["self", "c"]) (st := s_Desk_tell_changes) T 63 rfl T.cl_Desk T.m_Desk_tell_changes sc_Desk_tell_changes (fun _ _ _ _ _ _ us hl => match us, hl with | [_, _], _ => rfl) (fun vs H Q E h => by obtain ⟨a, dx, h, c, rfl, w, q1, q2⟩ := h; rfl) (fun f cdv A outer s H vs Q E hr h => ?_)
  obtain ⟨a, dx, h, c, rfl, w, q1, q2⟩ := h
  refine ⟨_, (pss_cons (ps_expr (pe_gl (ok_want T) hr (by decide) pxR rfl (pa_cons (pe_chain op_le op_le pe_int (pv 1) (pe_gc rfl T.g_MOST_CHANGES)) (pa_cons (pe_gc rfl T.g_NO_CHANGES) pa_nil)))) (pss_cons (ps_fld (pv 0) (pv 1) rfl) (pss_cons (ps_fld (pv 0) pe_non rfl) (pss_one (ps_ret (pe_lst (pa_cons pe_int pa_nil))))))), ?_⟩

  obtain ⟨ok, vt, vk, ls, ld, lo, lb, ha, p⟩ := id w
  refine chain_ll (x := c) (fun Q' q' => ⟨_, rfl, q'⟩) ⟨_, -4, rfl, fun hb => ?_, fun hb => q2 (of_decide_eq_false hb)⟩
  have hc := of_decide_eq_true hb
  obtain ⟨n, rfl⟩ := Int.eq_ofNat_of_zero_le hc.1
  refine ⟨_, rfl, _, rfl, a, _, dx, _, rfl, ha, T.cl_Desk, T.na_Desk_changes, by show 7 < 1000; omega, ?_⟩
  refine ⟨_, rfl, a, _, dx, _, rfl, upd_same, T.cl_Desk, T.na_Desk_known_regrets, by show 7 < 1000; omega, ?_⟩
  rw [upd_upd]
  have F : Fd a H (upd H a (DkO g dx vt (.ref ls) (.ref ld) (.ref lo) (.ref lb) (nV n) .non)) := Fd.upd
  have P := p.fd (big_of ha) F
  exact ⟨s1, fun p1 hp1 => retd_new (H1 := upd H a (DkO g dx vt (.ref ls) (.ref ld) (.ref lo) (.ref lb) (nV n) .non)) (q1 hc) F ⟨⟨ok.t, ok.b, ok.wl, ok.w4, by show n ≤ 1000; omega⟩, vt, .non, ls, ld, lo, lb, upd_same, ⟨P.tb, P.sz, P.rd, P.ow, P.bd, .inl rfl⟩⟩ hp1⟩
def sp_Desk_tell_readers (g : Gx) : Sp := fun vs H Q E => ∃ (a dx : Addr) (h : Held) (l0 : Addr) (l : List Int), vs = [.ref a, .ref l0] ∧ DkW g H a dx h ∧ H l0 = some (.lst (l.map V.int)) ∧ l.length ≤ 2000 ∧ ((l.length = h.t.asks.length ∧ ∀ z ∈ l, 0 ≤ z ∧ z < 4) → RetD g a dx H (some { h with who := l.map fun z => z.toNat }) [1] Q) ∧ (¬ (l.length = h.t.asks.length ∧ ∀ z ∈ l, 0 ≤ z ∧ z < 4) → RefE g H E (-3))
abbrev N_Desk_tell_readers : List Str := ["self", "owners", "owner"]
theorem sc_Desk_tell_readers : FnScope N_Desk_tell_readers ["self", "owners"] (defScope s_Desk_tell_readers) := ⟨rfl, rfl, rfl, by decide +kernel, rfl, by decide +kernel, by decide +kernel⟩
set_option maxHeartbeats 8000000 in
theorem ok_Desk_tell_readers {g : Gx} (T : Tx g) : RMt g (CXr g) 4 (g.C "Desk") "tell_readers" (sp_Desk_tell_readers g) := by
  refine mtX (N := N_Desk_tell_readers) (ps := ["self", "owners"]) (st := s_Desk_tell_readers) T 62 rfl T.cl_Desk T.m_Desk_tell_readers sc_Desk_tell_readers (fun _ _ _ _ _ _ us hl => match us, hl with | [_, _], _ => rfl) (fun vs H Q E h => by obtain ⟨a, dx, h, l0, l, rfl, w, hl0, hll, q1, q2⟩ := h; rfl) (fun f cdv A outer s H vs Q E hr h => ?_)
  obtain ⟨a, dx, h, l0, l, rfl, w, hl0, hll, q1, q2⟩ := h
  refine ⟨_, (pss_cons (ps_expr (pe_gl (ok_want T) hr (by decide) pxR rfl (pa_cons (pe_cmpR op_eq (pe_callB call_len_seq rfl T.f_len PySem.boot_len (pa_cons (pv 1) pa_nil)) (pe_callB call_len_seq rfl T.f_len PySem.boot_len (pa_cons (pe_fld (pe_fld (pv 0) rfl) rfl) pa_nil)) (nomark _)) (pa_cons (pe_gc rfl T.g_NOT_AS_TOLD) pa_nil)))) (pss_cons (ps_expr (pe_gl (ok_want T) hr (by decide) pxR rfl (pa_cons (pe_callB (cr_all rfl) rfl T.f_all (by decide +kernel) (pa_cons (pe_lc (own := [("owner", 2)]) (tt := tYes) rfl sc_Desk_tell_readers.nd (pi_list (pv 1)) (blkOk_by (N := N_Desk_tell_readers) (sc := defScope s_Desk_tell_readers) (by decide +kernel)) (fun _ _ _ _ _ => (pg_name (i := 2) sc_Desk_tell_readers.nd rfl (Or.inl rfl))) (fun _ _ _ _ _ => pts_nil) (fun _ _ _ _ _ => (pe_chain op_le op_lt pe_int (pv 2) (pe_gc rfl T.g_READERS)))) pa_nil)) (pa_cons (pe_gc rfl T.g_NOT_AS_TOLD) pa_nil)))) (pss_cons (ps_fld (pv 0) (pe_callTy call_list_of rfl T.f_list (by decide +kernel) (pa_cons (pv 1) pa_nil)) rfl) (pss_one (ps_ret (pe_lst (pa_cons pe_int pa_nil))))))), ?_⟩

  obtain ⟨ok, vt, vk, ls, ld, lo, lb, ha, p⟩ := id w
  obtain ⟨ta, dxt, ln, lr, lq, rfl, tw⟩ := id p.tb
  obtain ⟨qs, hq1, hq2⟩ := tw.hq
  have hql := Paired.length hq2
  refine ⟨_, rfl, l0, _, rfl, .inl (.inl (.inl hl0)), _, rfl, a, _, _, _, _, rfl, ha, T.cl_Desk, T.na_Desk_table, rfl, ta, _, _, _, _, rfl, tw.ob, T.cl_Table, T.na_Table_questions, rfl, lq, qs, rfl, .inl (.inl (.inl hq1)), rfl, ?_⟩
  rw [List.length_map]
  have dl : ∀ n m : Nat, decide (V.int (n : Int) = V.int (m : Int)) = decide (n = m) := fun n m => by
    rw [decide_eq_decide]
    exact ⟨fun e => by have := V.int.inj e; omega, fun e => by rw [e]⟩
  rw [dl]
  refine ⟨_, -3, rfl, fun hb => ?_, fun hb => q2 fun h1 => of_decide_eq_false hb (by omega)⟩
  have hb := of_decide_eq_true hb
  refine ⟨_, rfl, l0, rfl, ⟨_, .inl (.inl hl0)⟩, fun D hD => ?_⟩
  refine lc_list (xs := l.map V.int) (fun i H' => Ex H H' ∧ H' D = some (.lst (((l.take i).map fun z => decide (0 ≤ z ∧ z < 4)).map V.bl))) ⟨Ex.new hD, upd_same⟩ (fun i H' _ hQ => .inl (.inl (hQ.1 _ _ hl0))) (fun i y H' hy hQ => ⟨rfl, ?_⟩) (fun H1 hQ => ?_)
  · rw [List.getElem?_map] at hy
    cases hk : l[i]? with
    | none => rw [hk] at hy; cases hy
    | some z =>
      rw [hk] at hy
      cases hy
      have hi := (List.getElem?_eq_some_iff.mp hk).1
      refine chain_lt (x := z) (fun Q' q' => ⟨_, rfl, q'⟩) ⟨_, hQ.2, ?_, Ex.mut hQ.1 hD, ?_⟩
      · rw [List.length_map, List.length_map, List.length_take]; have := sizeLine_eq; omega
      · rw [upd_same, List.take_add_one, hk, List.map_append, List.map_append]; rfl
  · obtain ⟨e1, h1⟩ := hQ
    rw [List.length_map, List.take_length] at h1
    have hall : ((l.map fun z => decide (0 ≤ z ∧ z < 4)).all id = true) ↔ ∀ z ∈ l, 0 ≤ z ∧ z < 4 := by
      rw [List.all_map, List.all_eq_true]
      exact ⟨fun h z hz => of_decide_eq_true (h z hz), fun h z hz => decide_eq_true (h z hz)⟩
    refine ⟨D, _, rfl, .inl (.inl h1), _, -3, rfl, fun ht => ?_, fun hf => RefE.ex (q2 fun h2 => by rw [hall.mpr h2.2] at hf; cases hf) e1⟩
    have ht := hall.mp ht
    have ha1 := e1 _ _ ha
    refine ⟨_, rfl, l0, _, rfl, .inl (.inl (.inl (e1 _ _ hl0))), fun p1 hp1 => ?_⟩
    have e2 := e1.trans (Ex.new (o := HO.lst (l.map V.int)) hp1)
    have h2 : (upd H1 p1 (HO.lst (l.map V.int))) p1 = some (HO.lst (l.map V.int)) := upd_same
    change tVar 0 _ (upd H1 p1 (HO.lst (l.map V.int))) _
    generalize (upd H1 p1 (HO.lst (l.map V.int))) = H2 at e2 h2 ⊢
    refine ⟨_, rfl, a, _, dx, _, rfl, e2 _ _ ha, T.cl_Desk, T.na_Desk_owners, by show 7 < 1000; omega, ?_⟩
    have F : Fd a H2 (upd H2 a (DkO g dx (.ref ta) (.ref ls) (.ref ld) (.ref p1) (.ref lb) (nV h.c) vk)) := Fd.upd
    have B2 := big_of (e2 _ _ ha)
    have P := (p.fd (big_of ha) (Ex.fd e2)).fd B2 F
    have eow : l.map V.int = (l.map fun z => z.toNat).map nV := by
      rw [List.map_map]
      exact List.map_congr_left fun z hz => int_nat (ht z hz).1
    refine ⟨s1, fun p3 hp3 => retd_new (H1 := upd H2 a (DkO g dx (.ref ta) (.ref ls) (.ref ld) (.ref p1) (.ref lb) (nV h.c) vk)) (q1 ⟨by omega, ht⟩) ((Ex.fd e2).trans F) ⟨⟨ok.t, ok.b, by show (l.map fun z => z.toNat).length = h.t.asks.length; rw [List.length_map]; omega, fun r hr => ?_, ok.c⟩, .ref ta, vk, ls, ld, p1, lb, upd_same, ⟨P.tb, P.sz, P.rd, ?_, P.bd, P.kn⟩⟩ hp3⟩
    · obtain ⟨z, hz, e⟩ := List.mem_map.mp hr
      have := ht z hz
      omega
    · show _ = some (HO.lst ((l.map fun z => z.toNat).map nV))
      rw [← eow]
      exact F _ _ h2 (B2.ne_l h2)
theorem bit_atG : ∀ s : Nat, s < 16 → ∀ r : Nat, r < 4 → decide (V.int (Builtin.bitAnd ((s : Int) / 2 ^ ((r : Nat) : Int).toNat) 1) = V.int 1) = inG s r := by decide +kernel
def sp_Desk_paid_by (g : Gx) : Sp := fun vs H Q E => ∃ (a dx : Addr) (h : Held) (s : Nat), vs = [.ref a, nV s] ∧ DkW g H a dx h ∧ s < 16 ∧ ∀ H', Ex H H' → Q (nV ((Vamvsf.costsOf h).getD s 0)) H'
abbrev N_Desk_paid_by : List Str := ["self", "group", "wanted", "owner"]
theorem sc_Desk_paid_by : FnScope N_Desk_paid_by ["self", "group"] (defScope s_Desk_paid_by) := ⟨rfl, rfl, rfl, by decide +kernel, rfl, by decide +kernel, by decide +kernel⟩
set_option maxHeartbeats 8000000 in
theorem ok_Desk_paid_by {g : Gx} (T : Tx g) : RMt g CX0 3 (g.C "Desk") "paid_by" (sp_Desk_paid_by g) := by
  refine mt0 (N := N_Desk_paid_by) (ps := ["self", "group"]) (st := s_Desk_paid_by) T 64 rfl T.cl_Desk T.m_Desk_paid_by sc_Desk_paid_by (fun _ _ _ _ _ _ us hl => match us, hl with | [_, _], _ => rfl) (fun vs H Q E h => by obtain ⟨a, dx, h, s', rfl, w, hs, q⟩ := h; rfl) (fun f cdv A outer s H vs Q E hr h => ?_)
  obtain ⟨a, dx, h, s', rfl, w, hs, q⟩ := h
  refine ⟨_, (pss_cons (ps_setLc (i := 2) (own := [("owner", 3)]) (tt := tYes) rfl sc_Desk_paid_by.nd rfl rfl (sw_true rfl rfl rfl (by decide +kernel)) (pi_list (pe_fld (pv 0) rfl)) (blkOk_by (N := N_Desk_paid_by) (sc := defScope s_Desk_paid_by) (by decide +kernel)) (fun _ _ _ _ _ => (pg_name (i := 3) sc_Desk_paid_by.nd rfl (Or.inl rfl))) (fun _ _ _ _ _ => pts_nil) (fun _ _ _ _ _ => (pe_cmpR op_eq (pe_op op_and (pe_op op_shr (pv 1) (pv 3)) pe_int) pe_int (nomark _)))) (pss_one (ps_ret (pe_gl (ok_pays_alone T) hr (by decide) pass0 rfl (pa_cons (pe_fld (pv 0) rfl) (pa_cons (pe_fld (pv 0) rfl) (pa_cons (pv 2) (pa_cons (pe_fld (pv 0) rfl) pa_nil)))))))), ?_⟩

  obtain ⟨ok, vt, vk, ls, ld, lo, lb, ha, p⟩ := id w
  have hwl := ok.wl
  have hq8 := ok.t.q8
  refine ⟨_, rfl, a, _, _, _, _, rfl, ha, T.cl_Desk, T.na_Desk_owners, rfl, lo, rfl, ⟨_, .inl (.inl p.ow)⟩, fun D hD => ?_⟩
  refine lc_list (xs := h.who.map nV) (fun i H' => Ex H H' ∧ H' D = some (.lst (((h.who.take i).map (inG s')).map V.bl))) ⟨Ex.new hD, upd_same⟩ (fun i H' _ hQ => .inl (.inl (hQ.1 _ _ p.ow))) (fun i y H' hy hQ => ⟨rfl, ?_⟩) (fun H1 hQ => ?_)
  · rw [List.getElem?_map] at hy
    cases hk : h.who[i]? with
    | none => rw [hk] at hy; cases hy
    | some r =>
      rw [hk] at hy
      cases hy
      have hi := (List.getElem?_eq_some_iff.mp hk).1
      refine ⟨_, rfl, _, rfl, _, _, rfl, rfl, by omega, _, _, rfl, rfl, rfl, ?_⟩
      rw [bit_atG s' hs r (ok.w4 r (List.mem_of_getElem? hk))]
      refine ⟨_, hQ.2, ?_, Ex.mut hQ.1 hD, ?_⟩
      · rw [List.length_map, List.length_map, List.length_take]; have := sizeLine_eq; omega
      · rw [upd_same, List.take_add_one, hk, List.map_append, List.map_append]; rfl
  · obtain ⟨e1, h1⟩ := hQ
    rw [List.length_map, List.take_length] at h1
    obtain ⟨kvs, r1, r2⟩ := p.rd
    have ha1 := e1 _ _ ha
    refine ⟨_, rfl, a, _, _, _, _, rfl, ha1, T.cl_Desk, T.na_Desk_table, rfl, _, rfl, a, _, _, _, _, rfl, ha1, T.cl_Desk, T.na_Desk_reads, rfl, _, rfl, _, rfl, a, _, _, _, _, rfl, ha1, T.cl_Desk, T.na_Desk_changes, rfl, ?_⟩
    exact ⟨vt, h.t, ld, D, kvs, h.who, s', h.c, rfl, p.tb.ex e1, ok.t, e1 _ _ r1, r2, h1, hwl, ok.w4, hs, ok.c, fun H' e2 => q H' (e1.trans e2)⟩
def sp_Desk_paid (g : Gx) : Sp := fun vs H Q E => ∃ (a dx : Addr) (h : Held), vs = [.ref a] ∧ DkW g H a dx h ∧ ∀ p H', H p = none → Ex H H' → H' p = some (.lst ((Vamvsf.costsOf h).map nV)) → Q (.ref p) H'
abbrev N_Desk_paid : List Str := ["self", "group"]
theorem sc_Desk_paid : FnScope N_Desk_paid ["self"] (defScope s_Desk_paid) := ⟨rfl, rfl, rfl, by decide +kernel, rfl, by decide +kernel, by decide +kernel⟩
set_option maxHeartbeats 8000000 in
theorem ok_Desk_paid {g : Gx} (T : Tx g) : RMt g CX0 4 (g.C "Desk") "paid" (sp_Desk_paid g) := by
  refine mt0 (N := N_Desk_paid) (ps := ["self"]) (st := s_Desk_paid) T 65 rfl T.cl_Desk T.m_Desk_paid sc_Desk_paid (fun _ _ _ _ _ _ us hl => match us, hl with | [_], _ => rfl) (fun vs H Q E h => by obtain ⟨a, dx, h, rfl, w, q⟩ := h; rfl) (fun f cdv A outer s H vs Q E hr h => ?_)
  obtain ⟨a, dx, h, rfl, w, q⟩ := h
  refine ⟨_, (pss_one (ps_ret (pe_lc (own := [("group", 1)]) (tt := tYes) rfl sc_Desk_paid.nd (pi_range1 rfl T.f_range (pa_cons (pe_gc rfl T.g_GROUPS) pa_nil)) (blkOk_by (N := N_Desk_paid) (sc := defScope s_Desk_paid) (by decide +kernel)) (fun _ _ _ _ _ => (pg_name (i := 1) sc_Desk_paid.nd rfl (Or.inl rfl))) (fun _ _ _ _ _ => pts_nil) (fun _ _ _ _ _ => (pe_me (ok_Desk_paid_by T) hr (by decide) pass0 (pv 0) (pa_cons (pv 1) pa_nil)))))), ?_⟩

  have hl : (Vamvsf.costsOf h).length = 16 := costs_len h.t h.who h.c
  obtain ⟨ok, vt, vk, ls, ld, lo, lb, ha, p⟩ := id w
  refine ⟨16, rfl, by decide, by decide, fun D hD => ?_⟩
  refine lc_range (lo := 0) (n := 16) (fun i H' => Ex H H' ∧ H' D = some (.lst (((Vamvsf.costsOf h).take i).map nV))) ⟨Ex.new hD, upd_same⟩ (fun i H' hi hP => ⟨rfl, ?_⟩) (fun H' hP => ?_)
  · refine ⟨_, rfl, a, dx, _, rfl, hP.1 _ _ ha, rfl, _, rfl, a, dx, h, i, by rw [Int.zero_add]; rfl, w.ex hP.1, hi, fun H2 e2 => ⟨_, e2 _ _ hP.2, ?_, Ex.mut (hP.1.trans e2) hD, ?_⟩⟩
    · rw [List.length_map, List.length_take]; have := sizeLine_eq; omega
    · rw [upd_same, List.take_add_one, List.map_append, List.getD_eq_getElem?_getD, List.getElem?_eq_getElem (by omega)]; rfl
  · rw [List.take_of_length_le (by omega)] at hP
    exact q D H' hD hP.1 hP.2
def sp_Desk_alone (g : Gx) : Sp := fun vs H Q E => ∃ (a dx : Addr) (h : Held) (s : Int), vs = [.ref a, .int s] ∧ DkW g H a dx h ∧ ((0 ≤ s ∧ s < 16) → RetD g a dx H (some h) [((Vamvsf.costsOf h).getD s.toNat 0 : Int)] Q) ∧ (¬ (0 ≤ s ∧ s < 16) → RefE g H E (-2))
abbrev N_Desk_alone : List Str := ["self", "s"]
theorem sc_Desk_alone : FnScope N_Desk_alone ["self", "s"] (defScope s_Desk_alone) := ⟨rfl, rfl, rfl, by decide +kernel, rfl, by decide +kernel, by decide +kernel⟩
set_option maxHeartbeats 8000000 in
theorem ok_Desk_alone {g : Gx} (T : Tx g) : RMt g (CXr g) 4 (g.C "Desk") "alone" (sp_Desk_alone g) := by
  refine mtX (N := N_Desk_alone) (ps := ["self", "s"]) (st := s_Desk_alone) T 66 rfl T.cl_Desk T.m_Desk_alone sc_Desk_alone (fun _ _ _ _ _ _ us hl => match us, hl with | [_, _], _ => rfl) (fun vs H Q E h => by obtain ⟨a, dx, h, s', rfl, w, q1, q2⟩ := h; rfl) (fun f cdv A outer s H vs Q E hr h => ?_)
  obtain ⟨a, dx, h, s', rfl, w, q1, q2⟩ := h
  refine ⟨_, (pss_cons (ps_expr (pe_gl (ok_want T) hr (by decide) pxR rfl (pa_cons (pe_chain op_le op_lt pe_int (pv 1) (pe_gc rfl T.g_GROUPS)) (pa_cons (pe_gc rfl T.g_NONE_SUCH) pa_nil)))) (pss_one (ps_ret (pe_lst (pa_cons (pe_me (ok_Desk_paid_by T) hr (by decide) pass0 (pv 0) (pa_cons (pv 1) pa_nil)) pa_nil))))), ?_⟩

  obtain ⟨ok, vt, vk, ls, ld, lo, lb, ha, p⟩ := id w
  refine chain_lt (x := s') (fun Q' q' => ⟨_, rfl, q'⟩) ⟨_, -2, rfl, fun hb => ?_, fun hb => q2 (of_decide_eq_false hb)⟩
  have hc := of_decide_eq_true hb
  refine ⟨_, rfl, a, dx, _, rfl, ha, rfl, _, rfl, a, dx, h, s'.toNat, by rw [← int_nat hc.1]; rfl, w, by omega, fun H1 e1 => ⟨s1, fun p1 hp1 => retd_new (q1 hc) (Ex.fd e1) (w.ex e1) hp1⟩⟩
end Sr
set_option Elab.async false
set_option linter.all false
set_option maxRecDepth 100000
set_option maxHeartbeats 4000000
/-! # The desk: what it shows, shares, bounds -/
namespace Sr
open PySem PySem.Spec PyProof.Rows L2
open Evl (Ex)
open Vamvsa (Table Ask)
open Vamvsf (Held)
theorem shown_len {t : Table} (ok : TOk t) : (Vamvsa.shown t).length ≤ 200000 := by
  have hc := commas_len 16 t.cols ok.cb ok.c4
  have h1 := flat_len Vamvsa.showRow 11000 t.rows fun r hr => row_len ok hr
  have h2 := flat_len (Vamvsa.showAsk t.cols) 1000 t.asks fun a ha => ask_len ok ha
  have h3 : t.rows.length * 11000 ≤ 16 * 11000 := Nat.mul_le_mul_right _ ok.r16
  have h4 : t.asks.length * 1000 ≤ 8 * 1000 := Nat.mul_le_mul_right _ ok.q8
  have b1 : (VamvsBase.word "columns ").length = 8 := by decide
  have b2 : (VamvsBase.word " ;").length = 2 := by decide
  unfold Vamvsa.shown Vamvsa.line
  simp only [List.length_append, List.length_cons, List.length_nil]
  omega
theorem retd_ex {g : Gx} {a dx : Addr} {H H' : Hp} {h : Held} {row : List Int} {Q : VK} (q : RetD g a dx H (some h) row Q) (w : DkW g H a dx h) (e : Ex H H') {p : Addr} (hp : H p = none) (hr : H' p = some (.lst (row.map V.int))) : Q (.ref p) H' := q p H' hp (Ex.fd e) (w.ex e) hr
def sp_Desk_shown (g : Gx) : Sp := fun vs H Q E => ∃ (a dx : Addr) (h : Held), vs = [.ref a] ∧ DkW g H a dx h ∧ RetD g a dx H (some h) (((Vamvsa.shown h.t).length : Int) :: (Vamvsa.shown h.t).map fun c => (c.toNat : Int)) Q
abbrev N_Desk_shown : List Str := ["self"]
theorem sc_Desk_shown : FnScope N_Desk_shown ["self"] (defScope s_Desk_shown) := ⟨rfl, rfl, rfl, by decide +kernel, rfl, by decide +kernel, by decide +kernel⟩
set_option maxHeartbeats 8000000 in
theorem ok_Desk_shown {g : Gx} (T : Tx g) : RMt g CX0 5 (g.C "Desk") "shown" (sp_Desk_shown g) := by
  refine mt0 (N := N_Desk_shown) (ps := ["self"]) (st := s_Desk_shown) T 61 rfl T.cl_Desk T.m_Desk_shown sc_Desk_shown (fun _ _ _ _ _ _ us hl => match us, hl with | [_], _ => rfl) (fun vs H Q E h => by obtain ⟨a, dx, h, rfl, w, q⟩ := h; rfl) (fun f cdv A outer s H vs Q E hr h => ?_)
  obtain ⟨a, dx, h, rfl, w, q⟩ := h
  refine ⟨_, (pss_one (ps_ret (pe_gl (ok_counted T) hr (by decide) pass0 rfl (pa_cons (pe_gl (ok_one_form T) hr (by decide) pass0 rfl (pa_cons (pe_fld (pv 0) rfl) pa_nil)) pa_nil)))), ?_⟩

  obtain ⟨ok, vt, vk, ls, ld, lo, lb, ha, p⟩ := id w
  have hsl := shown_len ok.t
  refine ⟨_, rfl, a, _, _, _, _, rfl, ha, T.cl_Desk, T.na_Desk_table, rfl, vt, h.t, rfl, p.tb, ok.t, fun p1 H1 hp1 e1 h1 => ?_⟩
  refine ⟨p1, (Vamvsa.shown h.t).map fun c => (c.toNat : Int), rfl, by rw [h1, bt_ints], by rw [List.length_map]; omega, fun p2 H2 hp2 e2 h2 => ?_⟩
  rw [List.length_map] at h2
  exact retd_ex q w (e1.trans e2) (Evl.fresh_back e1 hp2) h2
theorem nats_int (l : List Nat) : l.map nV = (l.map fun (n : Nat) => (n : Int)).map V.int := by rw [List.map_map]; rfl
def sp_Desk_unhappy (g : Gx) : Sp := fun vs H Q E => ∃ (a dx : Addr) (h : Held), vs = [.ref a] ∧ DkW g H a dx h ∧ RetD g a dx H (some h) (((Vamvsf.unhappy (Vamvsf.costsOf h)).length : Int) :: Vamvsf.nats (Vamvsf.unhappy (Vamvsf.costsOf h))) Q
abbrev N_Desk_unhappy : List Str := ["self"]
theorem sc_Desk_unhappy : FnScope N_Desk_unhappy ["self"] (defScope s_Desk_unhappy) := ⟨rfl, rfl, rfl, by decide +kernel, rfl, by decide +kernel, by decide +kernel⟩
set_option maxHeartbeats 8000000 in
theorem ok_Desk_unhappy {g : Gx} (T : Tx g) : RMt g CX0 6 (g.C "Desk") "unhappy" (sp_Desk_unhappy g) := by
  refine mt0 (N := N_Desk_unhappy) (ps := ["self"]) (st := s_Desk_unhappy) T 68 rfl T.cl_Desk T.m_Desk_unhappy sc_Desk_unhappy (fun _ _ _ _ _ _ us hl => match us, hl with | [_], _ => rfl) (fun vs H Q E h => by obtain ⟨a, dx, h, rfl, w, q⟩ := h; rfl) (fun f cdv A outer s H vs Q E hr h => ?_)
  obtain ⟨a, dx, h, rfl, w, q⟩ := h
  refine ⟨_, (pss_one (ps_ret (pe_gl (ok_counted T) hr (by decide) pass0 rfl (pa_cons (pe_gl (ok_unhappy_groups T) hr (by decide) pass0 rfl (pa_cons (pe_me0 (ok_Desk_paid T) hr (by decide) pass0 (pv 0)) pa_nil)) pa_nil)))), ?_⟩

  obtain ⟨ok, vt, vk, ls, ld, lo, lb, ha, p⟩ := id w
  have hl : (Vamvsf.costsOf h).length = 16 := costs_len h.t h.who h.c
  have hul : (Vamvsf.unhappy (Vamvsf.costsOf h)).length ≤ 16 := by
    rw [unhappy_eq]
    have := List.length_filter_le (fun s => decide (24 * (((Vamvsf.costsOf h).getD s 0 : Nat) : Int) < ((memL s).map (shN (Vamvsf.costsOf h))).sum)) (List.range 16)
    rw [List.length_range] at this
    exact this
  refine ⟨_, rfl, a, dx, _, rfl, ha, rfl, a, dx, h, rfl, w, fun p1 H1 hp1 e1 h1 => ?_⟩
  refine ⟨p1, _, rfl, h1, hl, paid_lt ok.t ok.w4 h.c, fun p2 H2 hp2 e2 h2 => ?_⟩
  refine ⟨p2, Vamvsf.nats (Vamvsf.unhappy (Vamvsf.costsOf h)), rfl, by rw [h2, nats_int]; rfl, by unfold Vamvsf.nats; rw [List.length_map]; omega, fun p3 H3 hp3 e3 h3 => ?_⟩
  unfold Vamvsf.nats at h3
  rw [List.length_map] at h3
  exact retd_ex q w ((e1.trans e2).trans e3) (Evl.fresh_back (e1.trans e2) hp3) h3
def sp_Desk_shares (g : Gx) : Sp := fun vs H Q E => ∃ (a dx : Addr) (h : Held), vs = [.ref a] ∧ DkW g H a dx h ∧ RetD g a dx H (some h) ((((Vamvsf.costsOf h).getD 15 0 : Nat) : Int) :: (Vamvsf.shares (Vamvsf.costsOf h)).flatMap VamvsBase.fracRow) Q
abbrev N_Desk_shares : List Str := ["self", "paid", "found", "share"]
theorem sc_Desk_shares : FnScope N_Desk_shares ["self"] (defScope s_Desk_shares) := ⟨rfl, rfl, rfl, by decide +kernel, rfl, by decide +kernel, by decide +kernel⟩
set_option maxHeartbeats 8000000 in
theorem ok_Desk_shares {g : Gx} (T : Tx g) : RMt g CX0 5 (g.C "Desk") "shares" (sp_Desk_shares g) := by
  refine mt0 (N := N_Desk_shares) (ps := ["self"]) (st := s_Desk_shares) T 67 rfl T.cl_Desk T.m_Desk_shares sc_Desk_shares (fun _ _ _ _ _ _ us hl => match us, hl with | [_], _ => rfl) (fun vs H Q E h => by obtain ⟨a, dx, h, rfl, w, q⟩ := h; rfl) (fun f cdv A outer s H vs Q E hr h => ?_)
  obtain ⟨a, dx, h, rfl, w, q⟩ := h
  refine ⟨_, (pss_cons (ps_set (i := 1) sc_Desk_shares.nd rfl (Or.inl rfl) (pe_me0 (ok_Desk_paid T) hr (by decide) pass0 (pv 0))) (pss_cons (ps_set (i := 2) sc_Desk_shares.nd rfl (Or.inl rfl) (pe_lst (pa_cons (pe_ix (r := rIxL g.K) ix_list (pv 1) (pe_gc rfl T.g_EVERYBODY) (fun _ _ => rfl)) pa_nil))) (pss_cons (ps_for PassesOwn.never rfl (pi_list (pe_gl (ok_shares_of T) hr (by decide) pass0 rfl (pa_cons (pv 1) pa_nil))) (pg_name (i := 3) sc_Desk_shares.nd rfl (Or.inl rfl)) (pss_one (ps_expr (pe_bm PySem.F.plainAttrs_list PySem.F.slot_list_extend PySem.F.type_list_extend mt_extend (pv 2) (pa_cons (pe_gl (ok_lowest_terms T) hr (by decide) pass0 rfl (pa_cons (pv 3) (pa_cons (pe_gc rfl T.g_ORDERS) pa_nil))) pa_nil))))) (pss_one (ps_ret (pv 2)))))), ?_⟩

  obtain ⟨ok, vt, vk, ls, ld, lo, lb, ha, p⟩ := id w
  have hl : (Vamvsf.costsOf h).length = 16 := costs_len h.t h.who h.c
  have h15 : (Vamvsf.costsOf h)[15]? = some ((Vamvsf.costsOf h).getD 15 0) := by rw [List.getD_eq_getElem?_getD, List.getElem?_eq_getElem (by omega)]; rfl
  have eS : (Vamvsf.shares (Vamvsf.costsOf h)).flatMap VamvsBase.fracRow = (shsT (Vamvsf.costsOf h)).flatMap fun x => VamvsBase.fracRow (VamvsBase.frac x 24) := by
    show ((List.range 4).map (Vamvsf.share (Vamvsf.costsOf h))).flatMap _ = ((List.range 4).map (shN (Vamvsf.costsOf h))).flatMap _
    rw [List.flatMap_map, List.flatMap_map]; rfl
  rw [eS] at q
  refine ⟨_, rfl, a, dx, _, rfl, ha, rfl, a, dx, h, rfl, w, fun p1 H1 hp1 e1 h1 => ?_⟩
  refine ⟨_, rfl, p1, _, (15 : Int), _, rfl, rfl, .inl (.inl h1), atI_n (i := 15) (by rw [List.getElem?_map, h15]; rfl), s1, fun pf hpf => ?_⟩
  have e2 := e1.trans (Ex.new (o := HO.lst [nV ((Vamvsf.costsOf h).getD 15 0)]) hpf)
  have hf2 : (upd H1 pf (HO.lst [nV ((Vamvsf.costsOf h).getD 15 0)])) pf = some (.lst [nV ((Vamvsf.costsOf h).getD 15 0)]) := upd_same
  have hpf0 := Evl.fresh_back e1 hpf
  have h12 := Ex.new (o := HO.lst [nV ((Vamvsf.costsOf h).getD 15 0)]) hpf _ _ h1
  change tSeq _ _ _ _ (upd H1 pf (HO.lst [nV ((Vamvsf.costsOf h).getD 15 0)]))
  generalize (upd H1 pf (HO.lst [nV ((Vamvsf.costsOf h).getD 15 0)])) = H2 at e2 hf2 h12 ⊢
  refine ⟨_, rfl, p1, _, rfl, h12, hl, paid_lt ok.t ok.w4 h.c, fun ps H3 hps e3 h3 => ⟨ps, rfl, ⟨_, .inl (.inl h3)⟩, ?_⟩⟩
  have hf3 := e3 _ _ hf2
  have nps : ps ≠ pf := fun z => by rw [z, hf2] at hps; cases hps
  refine for_list (xs := (shsT (Vamvsf.costsOf h)).map V.int) (fun i σ H' => Ex H H' ∧ H' ps = some (.lst ((shsT (Vamvsf.costsOf h)).map V.int)) ∧ H' pf = some (.lst (((((Vamvsf.costsOf h).getD 15 0 : Nat) : Int) :: ((shsT (Vamvsf.costsOf h)).take i).flatMap fun x => VamvsBase.fracRow (VamvsBase.frac x 24)).map V.int)) ∧ ∃ z : Option V, σ = [some (.ref a), some (.ref p1), some (.ref pf), z]) ⟨e2.trans e3, h3, hf3, none, rfl⟩ (fun i σ H' _ hP => .inl (.inl hP.2.1)) (fun i x σ H4 hx hP => ?_) (fun σ H4 hP => ?_)
  · obtain ⟨e4, h4, hf4, z, rfl⟩ := hP
    rw [List.getElem?_map] at hx
    cases hk : (shsT (Vamvsf.costsOf h))[i]? with
    | none => rw [hk] at hx; cases hx
    | some y =>
      rw [hk] at hx
      cases hx
      have hi : i < 4 := (List.getElem?_eq_some_iff.mp hk).1
      refine ⟨_, rfl, .inl ⟨rfl, _, .inl (.inl hf4)⟩, _, rfl, y, 24, rfl, by decide, by decide, fun p5 H5 hp5 e5 h5 => ?_⟩
      refine ⟨pf, p5, _, _, rfl, rfl, e5 _ _ hf4, h5, ?_, Ex.mut (e4.trans e5) hpf0, ?_, ?_, _, rfl⟩
      · have hfr : ∀ l : List Int, (l.flatMap fun x => VamvsBase.fracRow (VamvsBase.frac x 24)).length = 2 * l.length := fun l => by
          induction l with
          | nil => rfl
          | cons x l ih => rw [List.flatMap_cons, List.length_append, ih, List.length_cons]; show 2 + _ = _; omega
        rw [List.length_map, List.length_map, List.length_cons, hfr, List.length_take]
        show _ + 2 ≤ _
        have := sizeLine_eq
        omega
      · rw [upd_ne nps]; exact e5 _ _ h4
      · rw [upd_same, List.take_add_one, hk, List.flatMap_append, ← List.map_append, List.cons_append]
        simp only [Option.toList_some, List.flatMap_cons, List.flatMap_nil, List.append_nil]
  · obtain ⟨e4, h4, hf4, z, rfl⟩ := hP
    rw [List.length_map, List.take_length] at hf4
    exact ⟨_, rfl, retd_ex q w e4 hpf0 hf4⟩
theorem chain_3 {te tf : TE} {σ : L2.St} {H : Hp} {Q : VK} {lo x y hi : Int} (hx : ∀ Q', Q' (V.int x) H → te σ H Q') (hy : ∀ Q', Q' (V.int y) H → tf σ H Q') (q : Q (.bl (decide (lo ≤ x ∧ x ≤ y ∧ y ≤ hi))) H) :
    tChain3 (rI0 fun i j => V.bl (decide (i ≤ j))) (rI0 fun i j => V.bl (decide (i ≤ j))) (rI0 fun i j => V.bl (decide (i ≤ j))) (tC (.int lo)) te tf (tC (.int hi)) σ H Q := by
  refine hx _ ⟨lo, x, rfl, rfl, _, rfl, ?_⟩
  by_cases c : lo ≤ x
  · rw [if_pos (decide_eq_true c)]
    refine hy _ ⟨x, y, rfl, rfl, _, rfl, ?_⟩
    by_cases c2 : x ≤ y
    · rw [if_pos (decide_eq_true c2)]
      refine ⟨y, hi, rfl, rfl, ?_⟩
      have e : decide (lo ≤ x ∧ x ≤ y ∧ y ≤ hi) = decide (y ≤ hi) := by rw [decide_eq_decide]; exact ⟨fun h => h.2.2, fun h => ⟨c, c2, h⟩⟩
      rw [e] at q; exact q
    · rw [if_neg (by simpa using c2)]
      rw [decide_eq_false (fun h => c2 h.2.1)] at q; exact q
  · rw [if_neg (by simpa using c)]
    rw [decide_eq_false (fun h => c h.1)] at q; exact q
theorem pr_of {H : Hp} : ∀ {ts : List Addr} {lo hi : List Int}, Paired (fun (t : Addr) (q : V × V) => H t = some (.tup [q.1, q.2])) ts ((lo.map V.int).zip (hi.map V.int)) → (∀ z ∈ lo.zip hi, 0 ≤ z.1 ∧ 0 ≤ z.2) → Paired (PrAt H) (ts.map V.ref) ((lo.map fun z => z.toNat).zip (hi.map fun z => z.toNat))
  | ts, [], hi, h, _ => by cases h; exact .nil
  | ts, x :: lo, [], h, _ => by cases h; exact .nil
  | ts, x :: lo, y :: hi, h, hz => by
      cases h with
      | cons h1 h2 =>
        have hxy := hz (x, y) List.mem_cons_self
        refine .cons ⟨_, rfl, ?_⟩ (pr_of h2 fun z hm => hz z (List.mem_cons_of_mem _ hm))
        show _ = some (HO.tup [nV x.toNat, nV y.toNat])
        rw [← int_nat hxy.1, ← int_nat hxy.2]
        exact h1
theorem bounds_some {h : Held} {lo hi : List Int} {b : Vamvsf.Bounds} (e : Vamvsf.boundsOf h lo hi = some b) : lo.length = h.t.asks.length ∧ hi.length = h.t.asks.length ∧ (∀ z ∈ lo.zip hi, 0 ≤ z.1 ∧ z.1 ≤ z.2 ∧ z.2 ≤ 99) ∧ b = ⟨lo.map fun z => z.toNat, hi.map fun z => z.toNat⟩ := by
  unfold Vamvsf.boundsOf at e
  split at e
  · cases e
  · rename_i n
    have n1 : lo.length = h.t.asks.length := Decidable.byContradiction fun c => n (.inl c)
    have n2 : hi.length = h.t.asks.length := Decidable.byContradiction fun c => n (.inr (.inl c))
    refine ⟨n1, n2, fun z hz => ?_, (Option.some.inj e).symm⟩
    have h99 : ((Vamvsa.TIMES : Nat) : Int) = 99 := rfl
    refine Decidable.byContradiction fun c => n (.inr (.inr (List.any_eq_true.mpr ⟨z, hz, decide_eq_true ?_⟩)))
    rw [h99]
    omega
theorem bounds_of {h : Held} {lo hi : List Int} (h1 : lo.length = h.t.asks.length) (h2 : hi.length = h.t.asks.length) (h3 : ∀ z ∈ lo.zip hi, 0 ≤ z.1 ∧ z.1 ≤ z.2 ∧ z.2 ≤ 99) : Vamvsf.boundsOf h lo hi = some ⟨lo.map fun z => z.toNat, hi.map fun z => z.toNat⟩ := by
  unfold Vamvsf.boundsOf
  rw [if_neg]
  rintro (c | c | c)
  · exact c h1
  · exact c h2
  · obtain ⟨z, hz, hd⟩ := List.any_eq_true.mp c
    have hd := of_decide_eq_true hd
    have h99 : ((Vamvsa.TIMES : Nat) : Int) = 99 := rfl
    have := h3 z hz
    rw [h99] at hd
    omega
def sp_Desk_tell_bounds (g : Gx) : Sp := fun vs H Q E => ∃ (a dx : Addr) (h : Held) (l1 l2 : Addr) (lo hi : List Int), vs = [.ref a, .ref l1, .ref l2] ∧ DkW g H a dx h ∧ H l1 = some (.lst (lo.map V.int)) ∧ H l2 = some (.lst (hi.map V.int)) ∧ lo.length ≤ 2000 ∧ hi.length ≤ 2000 ∧ (∀ b, Vamvsf.boundsOf h lo hi = some b → RetD g a dx H (some { h with b := b }) [1] Q) ∧ (Vamvsf.boundsOf h lo hi = none → RefE g H E (-3))
abbrev N_Desk_tell_bounds : List Str := ["self", "low", "high", "many", "one", "other"]
theorem sc_Desk_tell_bounds : FnScope N_Desk_tell_bounds ["self", "low", "high"] (defScope s_Desk_tell_bounds) := ⟨rfl, rfl, rfl, by decide +kernel, rfl, by decide +kernel, by decide +kernel⟩
set_option maxHeartbeats 8000000 in
theorem ok_Desk_tell_bounds {g : Gx} (T : Tx g) : RMt g (CXr g) 4 (g.C "Desk") "tell_bounds" (sp_Desk_tell_bounds g) := by
  refine mtX (N := N_Desk_tell_bounds) (ps := ["self", "low", "high"]) (st := s_Desk_tell_bounds) T 69 rfl T.cl_Desk T.m_Desk_tell_bounds sc_Desk_tell_bounds (fun _ _ _ _ _ _ us hl => match us, hl with | [_, _, _], _ => rfl) (fun vs H Q E h => by obtain ⟨a, dx, h, l1, l2, lo, hi, rfl, w, hl1, hl2, hz1, hz2, q1, q2⟩ := h; rfl) (fun f cdv A outer s H vs Q E hr h => ?_)
  obtain ⟨a, dx, h, l1, l2, lo, hi, rfl, w, hl1, hl2, hz1, hz2, q1, q2⟩ := h
  refine ⟨_, (pss_cons (ps_set (i := 3) sc_Desk_tell_bounds.nd rfl (Or.inl rfl) (pe_callB call_len_seq rfl T.f_len PySem.boot_len (pa_cons (pe_fld (pe_fld (pv 0) rfl) rfl) pa_nil))) (pss_cons (ps_expr (pe_gl (ok_want T) hr (by decide) pxR rfl (pa_cons (pe_and (pe_cmpR op_eq (pe_callB call_len_seq rfl T.f_len PySem.boot_len (pa_cons (pv 1) pa_nil)) (pv 3) (nomark _)) (pe_one (pe_cmpR op_eq (pe_callB call_len_seq rfl T.f_len PySem.boot_len (pa_cons (pv 2) pa_nil)) (pv 3) (nomark _)))) (pa_cons (pe_gc rfl T.g_NOT_AS_TOLD) pa_nil)))) (pss_cons (ps_expr (pe_gl (ok_want T) hr (by decide) pxR rfl (pa_cons (pe_callB (cr_all rfl) rfl T.f_all (by decide +kernel) (pa_cons (pe_lc (own := [("one", 4), ("other", 5)]) (tt := tYes) rfl sc_Desk_tell_bounds.nd (pi_zipM2 true true rfl T.f_zip (pa_cons (pv 1) (pa_cons (pv 2) pa_nil))) (blkOk_by (N := N_Desk_tell_bounds) (sc := defScope s_Desk_tell_bounds) (by decide +kernel)) (fun _ _ _ _ _ => (pg_tupK (K := g.K) (n := 2) rfl (pgs_cons (pg_name (i := 4) sc_Desk_tell_bounds.nd rfl (Or.inl rfl)) (pgs_cons (pg_name (i := 5) sc_Desk_tell_bounds.nd rfl (Or.inl rfl)) pgs_nil)))) (fun _ _ _ _ _ => pts_nil) (fun _ _ _ _ _ => (pe_chain3 op_le op_le op_le pe_int (pv 4) (pv 5) (pe_gc rfl T.g_MOST_OFTEN_desk)))) pa_nil)) (pa_cons (pe_gc rfl T.g_NOT_AS_TOLD) pa_nil)))) (pss_cons (ps_fld (pv 0) (pe_listZip rfl rfl T.f_list rfl T.f_zip (pa_cons (pv 1) (pa_cons (pv 2) pa_nil))) rfl) (pss_cons (ps_fld (pv 0) pe_non rfl) (pss_one (ps_ret (pe_lst (pa_cons pe_int pa_nil))))))))), ?_⟩

  obtain ⟨ok, vt, vk, ls, ld, low, lb, ha, p⟩ := id w
  obtain ⟨ta, dxt, ln, lr, lq, rfl, tw⟩ := id p.tb
  obtain ⟨qs, hq1, hq2⟩ := tw.hq
  have hql := Paired.length hq2
  refine ⟨_, rfl, a, _, _, _, _, rfl, ha, T.cl_Desk, T.na_Desk_table, rfl, ta, _, _, _, _, rfl, tw.ob, T.cl_Table, T.na_Table_questions, rfl, lq, qs, rfl, .inl (.inl (.inl hq1)), ?_⟩
  have dl : ∀ n m : Nat, decide (V.int (n : Int) = V.int (m : Int)) = decide (n = m) := fun n m => by
    rw [decide_eq_decide]
    exact ⟨fun e => by have := V.int.inj e; omega, fun e => by rw [e]⟩
  have bn : ¬ (lo.length = h.t.asks.length ∧ hi.length = h.t.asks.length ∧ ∀ z ∈ lo.zip hi, 0 ≤ z.1 ∧ z.1 ≤ z.2 ∧ z.2 ≤ 99) → Vamvsf.boundsOf h lo hi = none := fun n => by
    cases e : Vamvsf.boundsOf h lo hi with
    | none => rfl
    | some b => exact absurd ⟨(bounds_some e).1, (bounds_some e).2.1, (bounds_some e).2.2.1⟩ n
  refine ⟨_, rfl, l1, _, rfl, .inl (.inl (.inl hl1)), _, rfl, rfl, _, rfl, ?_⟩
  rw [List.length_map, dl]
  by_cases hb1 : lo.length = qs.length
  rotate_left
  · rw [decide_eq_false hb1]
    exact iteF ⟨false, -3, rfl, (fun z => by cases z), fun _ => q2 (bn fun h1 => hb1 (by omega))⟩
  rw [decide_eq_true hb1]
  refine iteT ⟨_, rfl, l2, _, rfl, .inl (.inl (.inl hl2)), _, rfl, rfl, ?_⟩
  rw [List.length_map, dl]
  refine ⟨_, -3, rfl, fun hb2 => ?_, fun hb2 => q2 (bn fun h1 => of_decide_eq_false hb2 (by omega))⟩
  have hb2 := of_decide_eq_true hb2
  refine ⟨_, rfl, _, rfl, l1, l2, lo.map V.int, hi.map V.int, rfl, .inl (.inl hl1), .inl (.inl hl2), fun D hD => ?_⟩
  have hzl : (lo.zip hi).length = (lo.map V.int).length := by rw [List.length_zip, List.length_map]; omega
  refine lc_it (walk_zipM2 (xs := lo.map V.int) (ys := hi.map V.int) (by rw [List.length_map, List.length_map]; omega)) (fun i H' => Ex H H' ∧ H' D = some (.lst ((((lo.zip hi).take i).map fun z => decide (0 ≤ z.1 ∧ z.1 ≤ z.2 ∧ z.2 ≤ 99)).map V.bl))) ⟨Ex.new hD, upd_same⟩ (fun i H' _ hP => ⟨.inl (.inl (hP.1 _ _ hl1)), .inl (.inl (hP.1 _ _ hl2))⟩) (fun i x H1 H2 hi' hP hy => ?_) (fun H1 hP => ?_)
  · obtain ⟨e1, h1⟩ := hP
    obtain ⟨Tp, x1, y1, rfl, hT, rfl, hx1, hy1⟩ := hy
    replace hx1 : (lo.map V.int)[i]? = some x1 := hx1
    replace hy1 : (hi.map V.int)[i]? = some y1 := hy1
    rw [List.getElem?_map] at hx1 hy1
    cases hk1 : lo[i]? with
    | none => rw [hk1] at hx1; cases hx1
    | some x =>
      rw [hk1] at hx1
      cases hx1
      cases hk2 : hi[i]? with
      | none => rw [hk2] at hy1; cases hy1
      | some y =>
        rw [hk2] at hy1
        cases hy1
        have e2 := e1.trans (Ex.new (o := HO.tup [V.int x, V.int y]) hT)
        have h2 := Ex.new (o := HO.tup [V.int x, V.int y]) hT _ _ h1
        refine ⟨Tp, _, rfl, .inl (.inl upd_same), rfl, _, _, rfl, _, _, rfl, rfl, rfl, ?_⟩
        generalize (upd H1 Tp (HO.tup [V.int x, V.int y])) = H2 at *
        refine chain_3 (x := x) (y := y) (fun Q' q' => ⟨_, rfl, q'⟩) (fun Q' q' => ⟨_, rfl, q'⟩) ⟨_, h2, ?_, Ex.mut e2 hD, ?_⟩
        · rw [List.length_map, List.length_map, List.length_take]; have := sizeLine_eq; have := (List.getElem?_eq_some_iff.mp hk1).1; omega
        · have hz : (lo.zip hi)[i]? = some (x, y) := List.getElem?_zip_eq_some.mpr ⟨hk1, hk2⟩
          rw [upd_same, List.take_add_one, hz, List.map_append, List.map_append]; rfl
  · obtain ⟨e1, h1⟩ := hP
    rw [← hzl, List.take_length] at h1
    have hall : (((lo.zip hi).map fun z => decide (0 ≤ z.1 ∧ z.1 ≤ z.2 ∧ z.2 ≤ 99)).all id = true) ↔ ∀ z ∈ lo.zip hi, 0 ≤ z.1 ∧ z.1 ≤ z.2 ∧ z.2 ≤ 99 := by
      rw [List.all_map, List.all_eq_true]
      exact ⟨fun h z hz => of_decide_eq_true (h z hz), fun h z hz => decide_eq_true (h z hz)⟩
    refine ⟨D, _, rfl, .inl (.inl h1), _, -3, rfl, fun ht => ?_, fun hf => RefE.ex (q2 (bn fun h2 => by rw [hall.mpr h2.2.2] at hf; cases hf)) e1⟩
    have ht := hall.mp ht
    have qq := q1 _ (bounds_of (by omega) (by omega) ht)
    refine ⟨_, rfl, _, rfl, l1, l2, _, _, rfl, .inl (.inl (e1 _ _ hl1)), .inl (.inl (e1 _ _ hl2)), by rw [List.length_map, List.length_map]; omega, fun H2 p2 ts e2 hp2 h2 hpr => ?_⟩
    have e12 : Ex H H2 := fun x o h => e2 x o (e1 x o h)
    refine ⟨_, rfl, a, _, dx, _, rfl, e12 _ _ ha, T.cl_Desk, T.na_Desk_bounds, by show 7 < 1000; omega, ?_⟩
    refine ⟨_, rfl, a, _, dx, _, rfl, upd_same, T.cl_Desk, T.na_Desk_known_regrets, by show 7 < 1000; omega, ?_⟩
    rw [upd_upd]
    have F : Fd a H2 (upd H2 a (DkO g dx (.ref ta) (.ref ls) (.ref ld) (.ref low) (.ref p2) (nV h.c) .non)) := Fd.upd
    have B2 := big_of (e12 _ _ ha)
    have P := (p.fd (big_of ha) (Ex.fd e12)).fd B2 F
    have hpr2 := pr_of hpr fun z hz => ⟨(ht z hz).1, by have := ht z hz; omega⟩
    refine ⟨s1, fun p3 hp3 => retd_new (H1 := upd H2 a (DkO g dx (.ref ta) (.ref ls) (.ref ld) (.ref low) (.ref p2) (nV h.c) .non)) qq ((Ex.fd e12).trans F) ⟨⟨ok.t, ⟨?_, ?_, ?_, ?_⟩, ok.wl, ok.w4, ok.c⟩, .ref ta, .non, ls, ld, low, p2, upd_same, ⟨P.tb, P.sz, P.rd, P.ow, ⟨ts.map V.ref, F _ _ h2 (B2.ne_l h2), paired_keep (fun _ _ => PrAt.keep (F.kt B2)) hpr2⟩, .inl rfl⟩⟩ hp3⟩
    · show (lo.map fun z => z.toNat).length = h.t.asks.length
      rw [List.length_map]; omega
    · show (hi.map fun z => z.toNat).length = h.t.asks.length
      rw [List.length_map]; omega
    · intro x hx
      obtain ⟨z, hz, e⟩ := List.mem_map.mp (show x ∈ lo.map fun z => z.toNat from hx)
      obtain ⟨i, hi1⟩ := List.mem_iff_getElem?.mp hz
      have hi2 : i < hi.length := by have := (List.getElem?_eq_some_iff.mp hi1).1; omega
      have := ht (z, hi[i]) (List.mem_of_getElem? (i := i) (List.getElem?_zip_eq_some.mpr ⟨hi1, List.getElem?_eq_getElem hi2⟩))
      have t1 : 0 ≤ z ∧ z ≤ hi[i] ∧ hi[i] ≤ 99 := this
      omega
    · intro x hx
      obtain ⟨z, hz, e⟩ := List.mem_map.mp (show x ∈ hi.map fun z => z.toNat from hx)
      obtain ⟨i, hi1⟩ := List.mem_iff_getElem?.mp hz
      have hi2 : i < lo.length := by have := (List.getElem?_eq_some_iff.mp hi1).1; omega
      have := ht (lo[i], z) (List.mem_of_getElem? (i := i) (List.getElem?_zip_eq_some.mpr ⟨List.getElem?_eq_getElem hi2, hi1⟩))
      have t1 : 0 ≤ lo[i] ∧ lo[i] ≤ z ∧ z ≤ 99 := this
      omega
end Sr
set_option Elab.async false
set_option linter.all false
set_option maxRecDepth 100000
/-! # Told sets: sorted, found among the small ones -/
namespace Sr
open PySem PySem.Spec PyProof.Rows L2
open Vamvsa (Table)
theorem sorted_ext : ∀ {a b : List Int}, a.Pairwise (· < ·) → b.Pairwise (· < ·) → (∀ k, k ∈ a ↔ k ∈ b) → a = b
  | [], [], _, _, _ => rfl
  | [], y :: b, _, _, h => by have := (h y).mpr List.mem_cons_self; cases this
  | x :: a, [], _, _, h => by have := (h x).mp List.mem_cons_self; cases this
  | x :: a, y :: b, ha, hb, h => by
      obtain ⟨ha1, ha2⟩ := List.pairwise_cons.mp ha
      obtain ⟨hb1, hb2⟩ := List.pairwise_cons.mp hb
      have e : x = y := by
        have h1 := (h x).mp List.mem_cons_self
        have h2 := (h y).mpr List.mem_cons_self
        rcases List.mem_cons.mp h1 with e | m1
        · exact e
        · rcases List.mem_cons.mp h2 with e | m2
          · exact e.symm
          · have := ha1 y m2
            have := hb1 x m1
            omega
      subst e
      congr 1
      refine sorted_ext ha2 hb2 fun k => ⟨fun hk => ?_, fun hk => ?_⟩
      · have h1 := ha1 k hk
        rcases List.mem_cons.mp ((h k).mp (List.mem_cons_of_mem _ hk)) with e | m
        · omega
        · exact m
      · have h1 := hb1 k hk
        rcases List.mem_cons.mp ((h k).mpr (List.mem_cons_of_mem _ hk)) with e | m
        · omega
        · exact m
theorem first_at {α : Type} [DecidableEq α] (x : α) : ∀ (l : List α), x ∈ l → ∃ i, l[i]? = some x ∧ ∀ m : Nat, m < i → ∀ y, l[m]? = some y → y ≠ x
  | [], h => by cases h
  | z :: l, h => by
      by_cases c : z = x
      · exact ⟨0, by rw [c]; rfl, fun m hm => by omega⟩
      · rcases List.mem_cons.mp h with e | m
        · exact absurd e.symm c
        · obtain ⟨i, h1, h2⟩ := first_at x l m
          refine ⟨i + 1, h1, fun m hm y hy => ?_⟩
          cases m with
          | zero => cases Option.some.inj hy; exact c
          | succ m => exact h2 m (by omega) y hy
theorem few_of_sub {n : Nat} {K : List Nat} (h : K.Sublist (List.range n)) (h2 : ¬ 2 < K.length) : K ∈ fewN n := by
  have hlt : ∀ x ∈ K, x < n := fun x hx => List.mem_range.mp (h.subset hx)
  have hp := List.pairwise_lt_range.sublist h
  unfold fewN
  match K, hlt, hp, h2 with
  | [], _, _, _ => simp
  | [x], hlt, _, _ =>
    refine List.mem_append_right _ (List.mem_append_left _ (List.mem_map.mpr ⟨x, List.mem_range.mpr (hlt x (by simp)), rfl⟩))
  | [x, y], hlt, hp, _ =>
    refine List.mem_append_right _ (List.mem_append_right _ (List.mem_flatMap.mpr ⟨x, List.mem_range.mpr (hlt x (by simp)), List.mem_map.mpr ⟨y, List.mem_filter.mpr ⟨List.mem_range.mpr (hlt y (by simp)), ?_⟩, rfl⟩⟩))
    have := (List.pairwise_cons.mp hp).1 y (by simp)
    exact decide_eq_true this
  | x :: y :: z :: r, _, _, h2 => exact absurd (by simp only [List.length_cons]; omega) h2
/-- a told set -/
theorem kept_some {t : Table} {l : List Int} {k : List Nat} (h : Vamvsb.keptOf t l = some k) : (∀ z ∈ l, 0 ≤ z ∧ z < ((2 ^ t.cols.length : Nat) : Int)) ∧ k = (List.range (2 ^ t.cols.length)).filter fun (g : Nat) => l.contains (g : Int) := by
  unfold Vamvsb.keptOf at h
  split at h
  · cases h
  · rename_i n
    refine ⟨fun z hz => Decidable.byContradiction fun c => n (List.any_eq_true.mpr ⟨z, hz, ?_⟩), (Option.some.inj h).symm⟩
    show (VamvsBase.index z (2 ^ Vamvsa.width t)).isNone = true
    unfold VamvsBase.index
    rw [if_neg (show ¬ (0 ≤ z ∧ z < ((2 ^ Vamvsa.width t : Nat) : Int)) from c)]; rfl
theorem kept_of {t : Table} {l : List Int} (h : ∀ z ∈ l, 0 ≤ z ∧ z < ((2 ^ t.cols.length : Nat) : Int)) : Vamvsb.keptOf t l = some ((List.range (2 ^ t.cols.length)).filter fun (g : Nat) => l.contains (g : Int)) := by
  unfold Vamvsb.keptOf
  rw [if_neg]
  · rfl
  · intro c
    obtain ⟨z, hz, hd⟩ := List.any_eq_true.mp c
    unfold VamvsBase.index at hd
    rw [if_pos (show 0 ≤ z ∧ z < ((2 ^ Vamvsa.width t : Nat) : Int) from h z hz)] at hd
    cases hd
theorem cast_pw : ∀ {l : List Nat}, l.Pairwise (· < ·) → (l.map fun (n : Nat) => (n : Int)).Pairwise (· < ·) := fun h => List.pairwise_map.mpr (h.imp fun h => by omega)
theorem kept_sorted {n : Nat} {l ns : List Int} (hl : ∀ z ∈ l, 0 ≤ z ∧ z < (n : Int)) (hs : ns.Pairwise (· < ·)) (hm : ∀ k : Int, k ∈ ns ↔ k ∈ l) : ns = ((List.range n).filter fun (g : Nat) => l.contains (g : Int)).map fun (n : Nat) => (n : Int) := by
  refine sorted_ext hs (cast_pw (List.pairwise_lt_range.sublist List.filter_sublist)) fun k => ?_
  rw [hm]
  constructor
  · intro hk
    have h1 := hl k hk
    refine List.mem_map.mpr ⟨k.toNat, List.mem_filter.mpr ⟨List.mem_range.mpr (by omega), ?_⟩, by omega⟩
    rw [List.contains_iff_mem, Int.toNat_of_nonneg h1.1]
    exact hk
  · intro hk
    obtain ⟨g, hg, e⟩ := List.mem_map.mp hk
    have h1 := (List.mem_filter.mp hg).2
    rw [List.contains_iff_mem, e] at h1
    exact h1
/-! ## lists of lists of numbers -/
def liD (ns : List Nat) : PyData := .list (iD (ns.map fun (n : Nat) => (n : Int)))
theorem dp_nl {K : PySem.W.Frag} {H : Hp} {v : V} {ns : List Nat} (h : NlAt H v ns) : Dp K H v (liD ns) := by
  obtain ⟨a, rfl, h⟩ := h
  rw [nats_int] at h
  exact .lst (.inl (.inl h)) (dp_ints _)
theorem dp_nls {K : PySem.W.Frag} {H : Hp} : ∀ {xs : List V} {ds : List (List Nat)}, Paired (NlAt H) xs ds → DpAll K H xs (ds.map liD)
  | _, _, .nil => .nil
  | _, _, .cons h r => .cons (dp_nl h) (dp_nls r)
theorem shaped_li (ns : List Nat) : SeqAt.shaped (liD ns) = true := by
  unfold SeqAt.shaped
  have h1 := lay_ints (ns.map fun (n : Nat) => (n : Int))
  have h2 := dep_ints (ns.map fun (n : Nat) => (n : Int))
  have h3 : (liD ns).depth ≤ 64 := by unfold liD; simp only [PyData.depth]; omega
  rw [decide_eq_true h3]
  simpa [PyData.canLay0, liD] using h1
theorem shaped_lis (cs : List (List Nat)) : SeqAt.shaped (.list (cs.map liD)) = true := by
  unfold SeqAt.shaped
  have h1 : ∀ cs : List (List Nat), PyData.canLayAll0 (cs.map liD) = true := fun cs => by
    induction cs with
    | nil => rfl
    | cons c cs ih =>
      show (PyData.canLay0 (liD c) && PyData.canLayAll0 (cs.map liD)) = true
      rw [ih, Bool.and_true]
      have := lay_ints (c.map fun (n : Nat) => (n : Int))
      simpa [PyData.canLay0, liD] using this
  have h2 : ∀ cs : List (List Nat), PyData.depthAll (cs.map liD) ≤ 2 := fun cs => by
    induction cs with
    | nil => simp [PyData.depthAll]
    | cons c cs ih =>
      have := dep_ints (c.map fun (n : Nat) => (n : Int))
      show PyData.depthAll (liD c :: cs.map liD) ≤ 2
      simp only [PyData.depthAll, liD, PyData.depth]
      omega
  have h3 : (PyData.list (cs.map liD)).depth ≤ 64 := by have := h2 cs; simp only [PyData.depth]; omega
  rw [decide_eq_true h3]
  have := h1 cs
  simpa [PyData.canLay0] using this
theorem nat_list_inj {a b : List Nat} : (a.map fun (n : Nat) => (n : Int)) = (b.map fun (n : Nat) => (n : Int)) ↔ a = b := by
  constructor
  · intro h
    induction a generalizing b with
    | nil => cases b with
      | nil => rfl
      | cons y ys => cases h
    | cons x xs ih => cases b with
      | nil => cases h
      | cons y ys =>
        simp only [List.map_cons, List.cons.injEq] at h
        obtain ⟨h1, h2⟩ := h
        rw [ih h2, show x = y by omega]
  · intro h; rw [h]
theorem eqv_li (a b : List Nat) : PyData.eqv (liD a) (liD b) = decide (a = b) := by
  show PyData.eqvAll _ _ = _
  rw [eqv_ints, decide_eq_decide, nat_list_inj]
end Sr
set_option Elab.async false
set_option linter.all false
set_option maxRecDepth 100000
set_option maxHeartbeats 4000000
/-! # The desk: regrets -/
namespace Sr
open PySem PySem.Spec PyProof.Rows L2
open Evl (Ex)
open Vamvsa (Table Ask)
open Vamvsf (Held)
def sp_Desk_regrets (g : Gx) : Sp := fun vs H Q E => ∃ (a dx : Addr) (h : Held), vs = [.ref a] ∧ DkW g H a dx h ∧ ∀ ra H', Fd a H H' → DkW g H' a dx h → RgW g H' ra h.t h.c h.b → Q (.ref ra) H'
abbrev N_Desk_regrets : List Str := ["self"]
theorem sc_Desk_regrets : FnScope N_Desk_regrets ["self"] (defScope s_Desk_regrets) := ⟨rfl, rfl, rfl, by decide +kernel, rfl, by decide +kernel, by decide +kernel⟩
set_option maxHeartbeats 8000000 in
theorem ok_Desk_regrets {g : Gx} (T : Tx g) : RMt g CX0 5 (g.C "Desk") "regrets" (sp_Desk_regrets g) := by
  refine mt0 (N := N_Desk_regrets) (ps := ["self"]) (st := s_Desk_regrets) T 70 rfl T.cl_Desk T.m_Desk_regrets sc_Desk_regrets (fun _ _ _ _ _ _ us hl => match us, hl with | [_], _ => rfl) (fun vs H Q E h => by obtain ⟨a, dx, h, rfl, w, q⟩ := h; rfl) (fun f cdv A outer s H vs Q E hr h => ?_)
  obtain ⟨a, dx, h, rfl, w, q⟩ := h
  refine ⟨_, (pss_cons (ps_if (pt_cmpR op_isN (pe_fld (pv 0) rfl) pe_non (nomark _)) (pss_one (ps_fld (pv 0) (pe_mk1 (ok_Regrets_init T) hr (by decide) pass0 rfl (pa_cons (pe_fld (pv 0) rfl) (pa_cons (pe_fld (pv 0) rfl) (pa_cons (pe_fld (pv 0) rfl) (pa_cons (pe_fld (pv 0) rfl) pa_nil))))) rfl)) pss_nil) (pss_one (ps_ret (pe_fld (pv 0) rfl)))), ?_⟩

  obtain ⟨ok, vt, vk, ls, ld, lo, lb, ha, p⟩ := id w
  refine ⟨_, rfl, a, _, _, _, _, rfl, ha, T.cl_Desk, T.na_Desk_known_regrets, rfl, rfl, _, rfl, ?_⟩
  rcases p.kn with e | ⟨ra, e, k⟩
  · subst e
    obtain ⟨bx, hb1, hb2⟩ := p.bd
    rw [show decide (V.non = V.non) = true from rfl]
    refine iteT ?_
    refine ⟨_, rfl, a, _, _, _, _, rfl, ha, T.cl_Desk, T.na_Desk_table, rfl, _, rfl, a, _, _, _, _, rfl, ha, T.cl_Desk, T.na_Desk_sizes, rfl, _, rfl, a, _, _, _, _, rfl, ha, T.cl_Desk, T.na_Desk_bounds, rfl, _, rfl, a, _, _, _, _, rfl, ha, T.cl_Desk, T.na_Desk_changes, rfl, fun x dxr hx hdx hne => ?_⟩
    have e2 : Ex H (upd (upd H dxr (.own x)) x (.ins (g.C "Regrets") dxr [])) := (Ex.new hdx).trans (Ex.new (by rw [upd_ne (Ne.symm hne)]; exact hx))
    refine ⟨x, dxr, vt, h.t, ls, lb, bx, h.c, h.b, rfl, upd_same, p.tb.ex e2, ok.t, e2 _ _ p.sz, e2 _ _ hb1, paired_keep (fun _ _ => PrAt.keep (Ex.kt e2)) hb2, fun H' hH' hr => ⟨rfl, ?_⟩⟩
    have eH : Ex H H' := fun b o hb => hH' b o (e2 _ _ hb) (fun z => by rw [z, hx] at hb; cases hb)
    refine ⟨_, rfl, a, _, dx, _, rfl, eH _ _ ha, T.cl_Desk, T.na_Desk_known_regrets, by show 7 < 1000; omega, ?_⟩
    have F : Fd a H' (upd H' a (DkO g dx vt (.ref ls) (.ref ld) (.ref lo) (.ref lb) (nV h.c) (.ref x))) := Fd.upd
    have B := big_of (eH _ _ ha)
    have P := (p.fd (big_of ha) (Ex.fd eH)).fd B F
    have R := F.rgw B hr
    exact ⟨_, rfl, a, _, _, _, _, rfl, upd_same, T.cl_Desk, T.na_Desk_known_regrets, rfl, q x _ ((Ex.fd eH).trans F) ⟨ok, vt, .ref x, ls, ld, lo, lb, upd_same, ⟨P.tb, P.sz, P.rd, P.ow, P.bd, .inr ⟨x, rfl, R⟩⟩⟩ R⟩
  · subst e
    rw [show decide (V.ref ra = V.non) = false from rfl]
    exact iteF ⟨_, rfl, a, _, _, _, _, rfl, ha, T.cl_Desk, T.na_Desk_known_regrets, rfl, q ra H (Ex.fd (Ex.refl H)) w k⟩
/-- the object and its regrets, later on -/
theorem RgW.at_ {g : Gx} {H : Hp} {a : Addr} {t : Table} {c : Nat} {b : Vamvsf.Bounds} (R : RgW g H a t c b) : ∃ (dx ls lrd lb : Addr) (sx : List V), H a = some (.ins (g.C "Regrets") dx [("sets", .ref ls), ("reads", .ref lrd), ("bounds", .ref lb), ("changes", nV c)]) ∧ H ls = some (.lst sx) ∧ Paired (NlAt H) sx (Vamvsf.few t) := by
  obtain ⟨dx, ls, lrd, lb, sx, rx, bx, h1, h2, h3, -⟩ := R.ex
  exact ⟨dx, ls, lrd, lb, sx, h1, h2, h3⟩
def sp_Desk_regret (g : Gx) : Sp := fun vs H Q E => ∃ (a dx : Addr) (h : Held) (l0 : Addr) (l : List Int), vs = [.ref a, .ref l0] ∧ DkW g H a dx h ∧ H l0 = some (.lst (l.map V.int)) ∧ l.length ≤ 2000 ∧ (Vamvsb.keptOf h.t l = none → RefE g H E (-2)) ∧ ∀ k, Vamvsb.keptOf h.t l = some k → (2 < k.length → RefE g H E (-5)) ∧ (¬ 2 < k.length → RetD g a dx H (some h) ((Vamvsf.regret h.c h.b (famL h.t) (k, Vamvsf.rowCosts h.t k)).1 :: Vamvsf.listRow (Vamvsf.regret h.c h.b (famL h.t) (k, Vamvsf.rowCosts h.t k)).2) Q)
abbrev N_Desk_regret : List Str := ["self", "groupings", "kept", "regrets", "greatest", "other", "one"]
theorem sc_Desk_regret : FnScope N_Desk_regret ["self", "groupings"] (defScope s_Desk_regret) := ⟨rfl, rfl, rfl, by decide +kernel, rfl, by decide +kernel, by decide +kernel⟩
set_option maxHeartbeats 8000000 in
theorem ok_Desk_regret {g : Gx} (T : Tx g) : RMt g (CXr g) 6 (g.C "Desk") "regret" (sp_Desk_regret g) := by
  refine mtX (N := N_Desk_regret) (ps := ["self", "groupings"]) (st := s_Desk_regret) T 71 rfl T.cl_Desk T.m_Desk_regret sc_Desk_regret (fun _ _ _ _ _ _ us hl => match us, hl with | [_, _], _ => rfl) (fun vs H Q E h => by obtain ⟨a, dx, h, l0, l, rfl, w, hl0, hll, q1, q2⟩ := h; rfl) (fun f cdv A outer s H vs Q E hr h => ?_)
  obtain ⟨a, dx, h, l0, l, rfl, w, hl0, hll, q1, q2⟩ := h
  refine ⟨_, (pss_cons (ps_expr (pe_gl (ok_want T) hr (by decide) pxR rfl (pa_cons (pe_callB (cr_all rfl) rfl T.f_all (by decide +kernel) (pa_cons (pe_lc (own := [("one", 6)]) (tt := tYes) rfl sc_Desk_regret.nd (pi_list (pv 1)) (blkOk_by (N := N_Desk_regret) (sc := defScope s_Desk_regret) (by decide +kernel)) (fun _ _ _ _ _ => (pg_name (i := 6) sc_Desk_regret.nd rfl (Or.inl rfl))) (fun _ _ _ _ _ => pts_nil) (fun _ _ _ _ _ => (pe_chain op_le op_lt pe_int (pv 6) (pe_me0 (ok_Table_how_many_groupings T) hr (by decide) pass0 (pe_fldK (K := g.K) (pv 0)))))) pa_nil)) (pa_cons (pe_gc rfl T.g_NONE_SUCH) pa_nil)))) (pss_cons (ps_set (i := 2) sc_Desk_regret.nd rfl (Or.inl rfl) (pe_callB (cr_sortedSet rfl) rfl T.f_sorted (by decide +kernel) (pa_cons (pe_callTy (cr_setL rfl) rfl T.f_set (by decide +kernel) (pa_cons (pv 1) pa_nil)) pa_nil))) (pss_cons (ps_expr (pe_gl (ok_want T) hr (by decide) pxR rfl (pa_cons (pe_cmpR op_le (pe_callB call_len_seq rfl T.f_len PySem.boot_len (pa_cons (pv 2) pa_nil)) (pe_gc rfl T.g_MOST_KEPT) (nomark _)) (pa_cons (pe_gc rfl T.g_TOO_MANY_desk) pa_nil)))) (pss_cons (ps_set (i := 3) sc_Desk_regret.nd rfl (Or.inl rfl) (pe_me0 (ok_Desk_regrets T) hr (by decide) pass0 (pv 0))) (pss_cons (ps_asg (pe_me (ok_Regrets_greatest T) hr (by decide) pass0 (pv 3) (pa_cons (pe_bm PySem.F.plainAttrs_list PySem.F.slot_list_index PySem.F.type_list_index (mt_indexD (u65 hr)) (pe_fld (pv 3) rfl) (pa_cons (pv 2) pa_nil)) pa_nil)) (pg_tup rfl (pgs_cons (pg_name (i := 4) sc_Desk_regret.nd rfl (Or.inl rfl)) (pgs_cons (pg_name (i := 5) sc_Desk_regret.nd rfl (Or.inl rfl)) pgs_nil)))) (pss_one (ps_ret (pe_op op_cat (pe_lst (pa_cons (pv 4) pa_nil)) (pe_gl (ok_counted T) hr (by decide) pass0 rfl (pa_cons (pe_ix (r := rIxL g.K) ix_list (pe_fld (pv 3) rfl) (pv 5) (fun _ _ => rfl)) pa_nil)))))))))), ?_⟩

  obtain ⟨ok, vt, vk, ls, ld, lo, lb, ha, p⟩ := id w
  have h16 := ok.t.w16
  obtain ⟨ta, dxt, ln, lr, lq, rfl, tw⟩ := id p.tb
  refine ⟨_, rfl, l0, rfl, ⟨_, .inl (.inl hl0)⟩, fun D hD => ?_⟩
  refine lc_list (xs := l.map V.int) (fun i H' => Ex H H' ∧ H' D = some (.lst (((l.take i).map fun z => decide (0 ≤ z ∧ z < ((2 ^ h.t.cols.length : Nat) : Int))).map V.bl))) ⟨Ex.new hD, upd_same⟩ (fun i H' _ hQ => .inl (.inl (hQ.1 _ _ hl0))) (fun i y H' hy hQ => ⟨rfl, ?_⟩) (fun H1 hQ => ?_)
  · rw [List.getElem?_map] at hy
    cases hk : l[i]? with
    | none => rw [hk] at hy; cases hy
    | some z =>
      rw [hk] at hy
      cases hy
      have hi := (List.getElem?_eq_some_iff.mp hk).1
      have tl : ∀ b : Bool, b = decide (0 ≤ z ∧ z < ((2 ^ h.t.cols.length : Nat) : Int)) → ∃ acc, H' D = some (HO.lst acc) ∧ acc.length < sizeLine ∧ Ex H (upd H' D (.lst (acc ++ [V.bl b]))) ∧ (upd H' D (.lst (acc ++ [V.bl b]))) D = some (.lst (((l.take (i + 1)).map fun z => decide (0 ≤ z ∧ z < ((2 ^ h.t.cols.length : Nat) : Int))).map V.bl)) := fun b hb => by
        refine ⟨_, hQ.2, ?_, Ex.mut hQ.1 hD, ?_⟩
        · rw [List.length_map, List.length_map, List.length_take]; have := sizeLine_eq; omega
        · rw [upd_same, List.take_add_one, hk, List.map_append, List.map_append, hb]; rfl
      refine ⟨_, rfl, 0, z, rfl, rfl, _, rfl, ?_⟩
      by_cases c : 0 ≤ z
      · rw [decide_eq_true c]
        refine iteT ⟨_, rfl, a, _, _, _, _, rfl, hQ.1 _ _ ha, T.cl_Desk, T.na_Desk_table, rfl, ta, _, _, rfl, (tw.ex hQ.1).ob, rfl, _, h.t, rfl, p.tb.ex hQ.1, ok.t.c4, z, _, rfl, rfl, tl _ ?_⟩
        rw [decide_eq_decide]
        exact ⟨fun h => ⟨c, h⟩, fun h => h.2⟩
      · rw [decide_eq_false c]
        refine iteF (tl false ?_)
        rw [decide_eq_false (fun h => c h.1)]
  · obtain ⟨e1, h1⟩ := hQ
    rw [List.length_map, List.take_length] at h1
    have hall : ((l.map fun z => decide (0 ≤ z ∧ z < ((2 ^ h.t.cols.length : Nat) : Int))).all id = true) ↔ ∀ z ∈ l, 0 ≤ z ∧ z < ((2 ^ h.t.cols.length : Nat) : Int) := by
      rw [List.all_map, List.all_eq_true]
      exact ⟨fun h z hz => of_decide_eq_true (h z hz), fun h z hz => decide_eq_true (h z hz)⟩
    refine ⟨D, _, rfl, .inl (.inl h1), _, -2, rfl, fun ht => ?_, fun hf => RefE.ex (q1 ?_) e1⟩
    rotate_left
    · cases hko : Vamvsb.keptOf h.t l with
      | none => rfl
      | some k => rw [hall.mpr (kept_some hko).1] at hf; cases hf
    have ht := hall.mp ht
    obtain ⟨q2, q3⟩ := q2 _ (kept_of ht)
    refine ⟨_, rfl, l0, l, rfl, .inl (.inl (e1 _ _ hl0)), by omega, fun ps c hc hps => ?_⟩
    have hc16 := hc 16 fun k hk => by have := ht k hk; omega
    refine ⟨ps, _, c, rfl, upd_same, by omega, fun ns pk hs hm hnl hpk => ?_⟩
    have e2 : Ex H (upd (upd H1 ps (SetO g.w ps (fun j => decide (j ∈ l)) c)) pk (HO.lst (ns.map V.int))) := (e1.trans (Ex.new hps)).trans (Ex.new hpk)
    have hns := kept_sorted ht hs fun k => by rw [hm]; exact decide_eq_true_iff
    have h2 : (upd (upd H1 ps (SetO g.w ps (fun j => decide (j ∈ l)) c)) pk (HO.lst (ns.map V.int))) pk = some (.lst (((List.range (2 ^ h.t.cols.length)).filter fun (g : Nat) => l.contains (g : Int)).map nV)) := by rw [upd_same, hns, nats_int]
    have hsub : ((List.range (2 ^ h.t.cols.length)).filter fun (g : Nat) => l.contains (g : Int)).Sublist (List.range (2 ^ h.t.cols.length)) := List.filter_sublist
    clear hns
    generalize (List.range (2 ^ h.t.cols.length)).filter (fun (g : Nat) => l.contains (g : Int)) = K at q2 q3 h2 hsub
    refine (?_ : ∀ H2, Ex H H2 → H2 pk = some (.lst (K.map nV)) → gName 2 (V.ref pk) _ H2 _) _ e2 h2
    clear e2 h2 hpk hm hs hnl
    intro H2 e2 h2
    refine ⟨_, rfl, pk, _, rfl, .inl (.inl (.inl h2)), _, 2, rfl, rfl, ?_⟩
    rw [List.length_map]
    refine ⟨_, -5, rfl, fun hb => ?_, fun hb => (q2 (by have := of_decide_eq_false hb; omega)).ex e2⟩
    have hb := of_decide_eq_true hb
    have qq := q3 (by omega)
    obtain ⟨i, hi, hfirst⟩ := first_at K (Vamvsf.few h.t) (by rw [few_eq]; exact few_of_sub hsub (by omega))
    refine ⟨_, rfl, a, dx, _, rfl, e2 _ _ ha, rfl, a, dx, h, rfl, w.ex e2, fun ra H3 f3 w3 R3 => ?_⟩
    have f23 : Fd a H H3 := (Ex.fd e2).trans f3
    have h3 := f3 _ _ h2 ((big_of (e2 _ _ ha)).ne_l h2)
    obtain ⟨dxr, lsr, lrd, lbr, sx, hra, hls, hsx⟩ := R3.at_
    refine ⟨_, rfl, ra, dxr, _, rfl, hra, rfl, _, rfl, ra, _, _, _, _, rfl, hra, T.cl_Regrets, T.na_Regrets_sets, rfl, .inl ⟨rfl, sx, .inl (.inl hls)⟩, _, rfl, lsr, .ref pk, liD K, (Vamvsf.few h.t).map liD, i, liD K, rfl, rfl, .lst (.inl (.inl hls)) (dp_nls hsx), dp_nl ⟨pk, rfl, h3⟩, shaped_lis _, shaped_li _, ?_, ?_, ?_, ?_⟩
    · rw [List.getElem?_map, hi]; rfl
    · rw [eqv_li]; exact decide_eq_true rfl
    · intro m z' hm' hz
      rw [List.getElem?_map] at hz
      cases hy : (Vamvsf.few h.t)[m]? with
      | none => rw [hy] at hz; cases hz
      | some y =>
        rw [hy] at hz
        cases hz
        rw [eqv_li]
        exact decide_eq_false (hfirst m hm' y hy)
    refine ⟨ra, h.t, h.c, h.b, i, K, rfl, R3, ok.t, ok.b, ok.c, hi, fun pp H4 r k y e4 hpp hk hr => ?_⟩
    rw [hr] at qq
    obtain ⟨yv, hyv, ya, rfl, hya⟩ := paired_at hsx hk
    have hyl : y.length ≤ 2 := (few_mem (n := 2 ^ h.t.cols.length) (List.mem_of_getElem? hk)).2
    refine ⟨pp, _, rfl, .inl (.inl hpp), rfl, _, _, rfl, _, _, rfl, rfl, ?_⟩
    refine ⟨_, rfl, s1, fun p1 hp1 => ?_⟩
    have e5 := Ex.new (o := HO.lst [V.int r]) hp1
    have h5 : (upd H4 p1 (HO.lst [V.int r])) p1 = some (HO.lst [V.int r]) := upd_same
    have e45 := e4.trans e5
    refine ⟨_, rfl, ra, _, _, _, _, rfl, e45 _ _ hra, T.cl_Regrets, T.na_Regrets_sets, rfl, _, rfl, lsr, sx, (k : Int), _, rfl, rfl, .inl (.inl (e45 _ _ hls)), atI_n hyv, ?_⟩
    refine ⟨ya, Vamvsf.nats y, rfl, by rw [e45 _ _ hya, nats_int]; rfl, by unfold Vamvsf.nats; rw [List.length_map]; omega, fun p3 H6 hp3 e6 h6 => ?_⟩
    refine ⟨p1, p3, _, _, rfl, rfl, e6 _ _ h5, h6, ?_, fun p4 hp4 => ?_⟩
    · unfold Vamvsf.nats
      simp only [List.length_map, List.length_cons, List.length_nil]
      have := sizeLine_eq
      omega
    have e46 := e45.trans e6
    have := retd_new qq (f23.trans (Ex.fd e46)) (w3.ex e46) hp4
    unfold Vamvsf.listRow at this
    unfold Vamvsf.nats at h6 this ⊢
    rw [List.length_map]
    exact this
def sp_Desk_least (g : Gx) : Sp := fun vs H Q E => ∃ (a dx : Addr) (h : Held), vs = [.ref a] ∧ DkW g H a dx h ∧ (∀ x r k, Vamvsf.leastRegret h.c h.b (famL h.t) = some ((x, Vamvsf.rowCosts h.t x), r) → Vamvsf.regret h.c h.b (famL h.t) (x, Vamvsf.rowCosts h.t x) = (r, k) → RetD g a dx H (some h) (r :: (Vamvsf.listRow x ++ Vamvsf.listRow k)) Q)
abbrev N_Desk_least : List Str := ["self", "regrets", "best", "greatest", "other"]
theorem sc_Desk_least : FnScope N_Desk_least ["self"] (defScope s_Desk_least) := ⟨rfl, rfl, rfl, by decide +kernel, rfl, by decide +kernel, by decide +kernel⟩
set_option maxHeartbeats 8000000 in
theorem ok_Desk_least {g : Gx} (T : Tx g) : RMt g CX0 6 (g.C "Desk") "least" (sp_Desk_least g) := by
  refine mt0 (N := N_Desk_least) (ps := ["self"]) (st := s_Desk_least) T 72 rfl T.cl_Desk T.m_Desk_least sc_Desk_least (fun _ _ _ _ _ _ us hl => match us, hl with | [_], _ => rfl) (fun vs H Q E h => by obtain ⟨a, dx, h, rfl, w, q⟩ := h; rfl) (fun f cdv A outer s H vs Q E hr h => ?_)
  obtain ⟨a, dx, h, rfl, w, q⟩ := h
  refine ⟨_, (pss_cons (ps_set (i := 1) sc_Desk_least.nd rfl (Or.inl rfl) (pe_me0 (ok_Desk_regrets T) hr (by decide) pass0 (pv 0))) (pss_cons (ps_set (i := 2) sc_Desk_least.nd rfl (Or.inl rfl) (pe_me0 (ok_Regrets_least T) hr (by decide) pass0 (pv 1))) (pss_cons (ps_asg (pe_me (ok_Regrets_greatest T) hr (by decide) pass0 (pv 1) (pa_cons (pv 2) pa_nil)) (pg_tup rfl (pgs_cons (pg_name (i := 3) sc_Desk_least.nd rfl (Or.inl rfl)) (pgs_cons (pg_name (i := 4) sc_Desk_least.nd rfl (Or.inl rfl)) pgs_nil)))) (pss_one (ps_ret (pe_op op_cat (pe_op op_cat (pe_lst (pa_cons (pv 3) pa_nil)) (pe_gl (ok_counted T) hr (by decide) pass0 rfl (pa_cons (pe_ix (r := rIxL g.K) ix_list (pe_fld (pv 1) rfl) (pv 2) (fun _ _ => rfl)) pa_nil))) (pe_gl (ok_counted T) hr (by decide) pass0 rfl (pa_cons (pe_ix (r := rIxL g.K) ix_list (pe_fld (pv 1) rfl) (pv 4) (fun _ _ => rfl)) pa_nil)))))))), ?_⟩

  obtain ⟨ok, vt, vk, ls, ld, lo, lb, ha, p⟩ := id w
  refine ⟨_, rfl, a, dx, _, rfl, ha, rfl, a, dx, h, rfl, w, fun ra H1 f1 w1 R1 => ?_⟩
  obtain ⟨dxr, lsr, lrd, lbr, sx, hra, hls, hsx⟩ := R1.at_
  refine ⟨_, rfl, ra, dxr, _, rfl, hra, rfl, ra, h.t, h.c, h.b, rfl, R1, ok.t, ok.b, ok.c, fun H2 i x e2 hx hle => ?_⟩
  refine ⟨_, rfl, ra, dxr, _, rfl, e2 _ _ hra, rfl, _, rfl, ra, h.t, h.c, h.b, i, x, rfl, R1.mono e2, ok.t, ok.b, ok.c, hx, fun pp H3 r k y e3 hpp hk hr => ?_⟩
  refine ⟨pp, _, rfl, .inl (.inl hpp), rfl, _, _, rfl, _, _, rfl, rfl, ?_⟩
  have e13 := e2.trans e3
  obtain ⟨xv, hxv, xa, rfl, hxa⟩ := paired_at hsx hx
  obtain ⟨yv, hyv, ya, rfl, hya⟩ := paired_at hsx hk
  have hxl : x.length ≤ 2 := (few_mem (n := 2 ^ h.t.cols.length) (List.mem_of_getElem? hx)).2
  have hyl : y.length ≤ 2 := (few_mem (n := 2 ^ h.t.cols.length) (List.mem_of_getElem? hk)).2
  have qq := q x r y (by rw [hle, hr]) hr
  have hsz := sizeLine_eq
  refine ⟨_, rfl, s1, fun p1 hp1 => ?_⟩
  have e4 := e13.trans (Ex.new (o := HO.lst [V.int r]) hp1)
  have h4 : (upd H3 p1 (HO.lst [V.int r])) p1 = some (HO.lst [V.int r]) := upd_same
  refine ⟨_, rfl, ra, _, _, _, _, rfl, e4 _ _ hra, T.cl_Regrets, T.na_Regrets_sets, rfl, _, rfl, lsr, sx, (i : Int), _, rfl, rfl, .inl (.inl (e4 _ _ hls)), atI_n hxv, ?_⟩
  refine ⟨xa, Vamvsf.nats x, rfl, by rw [e4 _ _ hxa, nats_int]; rfl, by unfold Vamvsf.nats; rw [List.length_map]; omega, fun p3 H6 hp3 e6 h6 => ?_⟩
  refine ⟨p1, p3, _, _, rfl, rfl, e6 _ _ h4, h6, ?_, fun p4 hp4 => ?_⟩
  · unfold Vamvsf.nats
    simp only [List.length_map, List.length_cons, List.length_nil]
    omega
  have e7 := (e4.trans e6).trans (Ex.new (o := HO.lst ([V.int r] ++ (((Vamvsf.nats x).length : Int) :: Vamvsf.nats x).map V.int)) hp4)
  have h7 : (upd H6 p4 (HO.lst ([V.int r] ++ (((Vamvsf.nats x).length : Int) :: Vamvsf.nats x).map V.int))) p4 = some (HO.lst ([V.int r] ++ (((Vamvsf.nats x).length : Int) :: Vamvsf.nats x).map V.int)) := upd_same
  refine ⟨_, rfl, ra, _, _, _, _, rfl, e7 _ _ hra, T.cl_Regrets, T.na_Regrets_sets, rfl, _, rfl, lsr, sx, (k : Int), _, rfl, rfl, .inl (.inl (e7 _ _ hls)), atI_n hyv, ?_⟩
  refine ⟨ya, Vamvsf.nats y, rfl, by rw [e7 _ _ hya, nats_int]; rfl, by unfold Vamvsf.nats; rw [List.length_map]; omega, fun p5 H8 hp5 e8 h8 => ?_⟩
  refine ⟨p4, p5, _, _, rfl, rfl, e8 _ _ h7, h8, ?_, fun p6 hp6 => ?_⟩
  · unfold Vamvsf.nats
    simp only [List.length_map, List.length_cons, List.length_nil, List.length_append]
    omega
  have e18 := e7.trans e8
  have := retd_new qq (f1.trans (Ex.fd e18)) (w1.ex e18) hp6
  have hr2 : [V.int r] ++ (((Vamvsf.nats x).length : Int) :: Vamvsf.nats x).map V.int ++ (((Vamvsf.nats y).length : Int) :: Vamvsf.nats y).map V.int = (r :: (Vamvsf.listRow x ++ Vamvsf.listRow y)).map V.int := by
    unfold Vamvsf.listRow Vamvsf.nats
    simp only [List.length_map, List.map_cons, List.map_append, List.singleton_append, List.cons_append, List.nil_append]
  rw [hr2]
  exact this
end Sr
set_option Elab.async false
set_option linter.all false
set_option maxRecDepth 100000
set_option maxHeartbeats 4000000
/-! # The desk: a table read -/
namespace Sr
open PySem PySem.Spec PyProof.Rows L2
open Evl (Ex)
open Vamvsa (Table Ask)
open Vamvsf (Held)
theorem exc_self {g : Gx} {x : Str} {fs : List Str} (T : ExcT g x fs) : PySem.W.exmOne g.K (.ref (g.C x)) (.ref (g.C x)) = some true := by
  obtain ⟨nm, q, N, bs, bm, sn, sub, ab, col, dd, k0, k1, k2, k3, k5, e, _⟩ := T.oex.cls
  have hc : ∃ cd, PySem.W.clsIn g.K (g.C x) = some cd ∧ ∃ l, cd.mro = .ref (g.C x) :: l := by
    unfold PySem.W.clsIn
    rw [e]
    exact ⟨_, rfl, _, rfl⟩
  obtain ⟨cd, h1, l, h2⟩ := hc
  have hs : PySem.W.subIn g.K (.ref (g.C x)) (.ref (g.C x)) = some true := by
    show PySem.W.mroIn g.K (g.C x) (.ref (g.C x)) = some true
    unfold PySem.W.mroIn
    rw [h1]
    show (if cd.mro.isEmpty = true then none else some (cd.mro.contains (.ref (g.C x)))) = some true
    rw [h2, if_neg (by simp), List.contains_cons]
    have : (Value.ref (g.C x) == Value.ref (g.C x)) = true := by simp
    rw [this]; rfl
  unfold PySem.W.exmOne
  rw [T.oex.exC, if_pos (by simp)]
  show (if ((PySem.W.clsIn g.K (g.C x)).isSome && PySem.W.typeIn g.K (.ref (g.C x)) == some (.type "type")) = true then PySem.W.subIn g.K (.ref (g.C x)) (.ref (g.C x)) else none) = some true
  rw [h1, T.oex.tyC, hs]
  simp
def sp_Desk_load (g : Gx) : Sp := fun vs H Q E => ∃ (a dx : Addr) (o : Vamvsf.Obj) (l0 : Addr) (bs : List UInt8), vs = [.ref a, .ref l0] ∧ ObjAt g H a dx o ∧ H l0 = some (.lst (bs.map bV)) ∧ bs.length ≤ 8192 ∧ (∀ f, Vamvsa.read bs = .error f → RetD g a dx H o [0, (f.code : Int), (f.place : Int)] Q) ∧ (∀ t, Vamvsa.read bs = .ok t → RetD g a dx H (some (Vamvsf.heldOf t)) [1, (Vamvsa.width t : Int), (t.rows.length : Int), (t.asks.length : Int)] Q)
abbrev N_Desk_load : List Str := ["self", "text", "table", "e", "often", "grouping"]
theorem sc_Desk_load : FnScope N_Desk_load ["self", "text"] (defScope s_Desk_load) := ⟨rfl, rfl, rfl, by decide +kernel, rfl, by decide +kernel, by decide +kernel⟩
set_option maxHeartbeats 8000000 in
theorem ok_Desk_load {g : Gx} (T : Tx g) : RMt g CX0 9 (g.C "Desk") "load" (sp_Desk_load g) := by
  refine mt0 (N := N_Desk_load) (ps := ["self", "text"]) (st := s_Desk_load) T 60 rfl T.cl_Desk T.m_Desk_load sc_Desk_load (fun _ _ _ _ _ _ us hl => match us, hl with | [_, _], _ => rfl) (fun vs H Q E h => by obtain ⟨a, dx, o, l0, bs, rfl, w, hl0, hbl, q1, q2⟩ := h; rfl) (fun f cdv A outer s H vs Q E hr h => ?_)
  obtain ⟨a, dx, o, l0, bs, rfl, w, hl0, hbl, q1, q2⟩ := h
  refine ⟨_, (pss_cons (ps_try_as (i := 3) (tb := fun W => tAsg (tCallS (sp_read_table g) (WE W) (tCons (tVar 1) tNil)) (gName 2)) (ts := fun a cls d => tRet (tLst (tCons (tC (.int 0)) (tCons (tXf a cls d (g.C "Fault") "code" (tVar 3)) (tCons (tXf a cls d (g.C "Fault") "place" (tVar 3)) tNil))))) (Wout := fun _ _ _ _ => False) rfl rfl sc_Desk_load.nd rfl rfl ⟨rfl, by decide, Or.inl T.c_Fault⟩ takes0 (fun W pn xe tk _ => pss_one (ps_set (i := 2) sc_Desk_load.nd rfl (Or.inl rfl) (by exact (pe_glS (ok_read_table T) hr (by decide) (fun σ => passAt tk σ) rfl (by exact (pa_cons (pv 1) pa_nil)))))) (fun a oe cls d pn hz hf => pss_one (ps_ret (pe_lst (pa_cons pe_int (pa_cons (pe_xf T.e_Fault.xf (T.e_Fault.no "code" (by simp)) hz hf (pv 3)) (pa_cons (pe_xf T.e_Fault.xf (T.e_Fault.no "place" (by simp)) hz hf (pv 3)) pa_nil))))))) (pss_cons (ps_fld (pv 0) (pv 2) rfl) (pss_cons (ps_fld (pv 0) (pe_gl (ok_all_sizes T) hr (by decide) pass0 rfl (pa_cons (pv 2) pa_nil)) rfl) (pss_cons (ps_fld (pv 0) (pe_gl (ok_all_reads T) hr (by decide) pass0 rfl (pa_cons (pv 2) (pa_cons (pe_fld (pv 0) rfl) pa_nil))) rfl) (pss_cons (ps_fld (pv 0) (pe_op op_rep (pe_lst (pa_cons pe_int pa_nil)) (pe_callB call_len_seq rfl T.f_len PySem.boot_len (pa_cons (pe_fld (pv 2) rfl) pa_nil))) rfl) (pss_cons (ps_fld (pv 0) (pe_lc (own := [("grouping", 5), ("often", 4)]) (tt := tYes) rfl sc_Desk_load.nd (pi_list (pe_fld (pv 2) rfl)) (blkOk_by (N := N_Desk_load) (sc := defScope s_Desk_load) (by decide +kernel)) (fun _ _ _ _ _ => (pg_tupK (K := g.K) (n := 2) rfl (pgs_cons (pg_name (i := 5) sc_Desk_load.nd rfl (Or.inl rfl)) (pgs_cons (pg_name (i := 4) sc_Desk_load.nd rfl (Or.inl rfl)) pgs_nil)))) (fun _ _ _ _ _ => pts_nil) (fun _ _ _ _ _ => (pe_tup (pa_cons (pv 4) (pa_cons (pv 4) pa_nil))))) rfl) (pss_cons (ps_fld (pv 0) pe_int rfl) (pss_cons (ps_fld (pv 0) pe_non rfl) (pss_one (ps_ret (pe_lst (pa_cons pe_int (pa_cons (pe_callB call_len_seq rfl T.f_len PySem.boot_len (pa_cons (pe_fld (pv 2) rfl) pa_nil)) (pa_cons (pe_callB call_len_seq rfl T.f_len PySem.boot_len (pa_cons (pe_fld (pv 2) rfl) pa_nil)) (pa_cons (pe_callB call_len_seq rfl T.f_len PySem.boot_len (pa_cons (pe_fld (pv 2) rfl) pa_nil)) pa_nil))))))))))))))), ?_⟩

  have hob : ∃ w1 w2 w3 w4 w5 w6 w7, H a = some (DkO g dx w1 w2 w3 w4 w5 w6 w7) := by
    cases o with
    | none => obtain ⟨vs, vr, vo, vb, vc, vk, h⟩ := w; exact ⟨_, _, _, _, _, _, _, h⟩
    | some h => obtain ⟨_, vt, vk, ls, ld, lo, lb, h1, _⟩ := w; exact ⟨_, _, _, _, _, _, _, h1⟩
  obtain ⟨w1, w2, w3, w4, w5, w6, w7, ha⟩ := hob
  refine ⟨_, rfl, l0, bs, rfl, hl0, fun f hf d H1 e1 hd => ?_, fun t ht v H0 e0 tb0 => ?_⟩
  · refine ⟨true, exc_self T.e_Fault, fun _ a0 ha0 => ?_, fun q => Bool.noConfusion q⟩
    refine ⟨_, rfl, rfl, rfl, d, _, _, rfl, hd, rfl, _, rfl, rfl, rfl, d, _, _, rfl, hd, rfl, s3, fun p1 hp1 => ?_⟩
    exact retd_new (q1 f hf) (Ex.fd e1) (w.ex e1) hp1
  have ok := read_ok ht
  have qq := q2 t ht
  clear q1 q2
  have F0 : Fd a H H0 := Ex.fd e0
  have A0 := e0 _ _ ha
  refine ⟨_, rfl, _, rfl, a, _, dx, _, rfl, A0, T.cl_Desk, T.na_Desk_table, by show 7 < 1000; omega, ?_⟩
  refine (?_ : ∀ H1, Fd a H0 H1 → H1 a = some (DkO g dx v w2 w3 w4 w5 w6 w7) → tSeq _ _ _ _ H1) (upd H0 a (DkO g dx v w2 w3 w4 w5 w6 w7)) Fd.upd upd_same
  intro H1 f1 A1
  have F1 := F0.trans f1
  have tb1 := f1.tbl (big_of A0) tb0
  refine ⟨_, rfl, v, t, rfl, tb1, ok, fun p2 H2 hp2 e2 h2 => ⟨_, rfl, a, _, dx, _, rfl, e2 _ _ A1, T.cl_Desk, T.na_Desk_sizes, by show 7 < 1000; omega, ?_⟩⟩
  refine (?_ : ∀ H3, Fd a H2 H3 → H3 a = some (DkO g dx v (.ref p2) w3 w4 w5 w6 w7) → tSeq _ _ _ _ H3) (upd H2 a (DkO g dx v (.ref p2) w3 w4 w5 w6 w7)) Fd.upd upd_same
  intro H3 f3 A3
  have f13 := (Ex.fd (a := a) e2).trans f3
  have tb3 := f13.tbl (big_of A1) tb1
  have F3 := F1.trans f13
  have sz3 := f3 _ _ h2 ((big_of (e2 _ _ A1)).ne_l h2)
  refine ⟨_, rfl, _, rfl, a, _, _, _, _, rfl, A3, T.cl_Desk, T.na_Desk_sizes, rfl, v, t, p2, rfl, tb3, ok, sz3, fun p3 H4 kvs hp3 e4 h4 rn => ⟨_, rfl, a, _, dx, _, rfl, e4 _ _ A3, T.cl_Desk, T.na_Desk_reads, by show 7 < 1000; omega, ?_⟩⟩
  refine (?_ : ∀ H5, Fd a H4 H5 → H5 a = some (DkO g dx v (.ref p2) (.ref p3) w4 w5 w6 w7) → tSeq _ _ _ _ H5) (upd H4 a (DkO g dx v (.ref p2) (.ref p3) w4 w5 w6 w7)) Fd.upd upd_same
  intro H5 f5 A5
  have f35 := (Ex.fd (a := a) e4).trans f5
  have tb5 := f35.tbl (big_of A3) tb3
  have F5 := F3.trans f35
  have sz5 := f35 _ _ sz3 ((big_of A3).ne_l sz3)
  have rd5 := f5 _ _ h4 ((big_of (e4 _ _ A3)).ne_d h4)
  obtain ⟨ta, dxt, ln, lr, lq, rfl, tw5⟩ := id tb5
  obtain ⟨qs, hq1, hq2⟩ := tw5.hq
  have hql := Paired.length hq2
  have q8 := ok.q8
  have hsz := sizeLine_eq
  refine ⟨s1, fun p4 hp4 => ?_⟩
  have e6 := Ex.new (o := HO.lst [V.int 0]) hp4
  refine ⟨_, rfl, ta, _, _, _, _, rfl, e6 _ _ tw5.ob, T.cl_Table, T.na_Table_questions, rfl, lq, qs, rfl, .inl (.inl (.inl (e6 _ _ hq1))), p4, _, [V.int 0], rfl, rfl, upd_same, by omega, by omega, by rw [Int.toNat_natCast]; show 1 * qs.length ≤ sizeLine; omega, fun p5 hp5 => ?_⟩
  have eow : (List.replicate ((qs.length : Nat) : Int).toNat [V.int 0]).flatten = (t.asks.map fun _ => 0).map nV := by
    rw [Int.toNat_natCast, hql, List.map_map]
    generalize t.asks = l
    induction l with
    | nil => rfl
    | cons x l ih => rw [List.length_cons, List.replicate_succ, List.flatten_cons, ih, List.map_cons]; rfl
  rw [eow]
  have e7 := e6.trans (Ex.new (o := HO.lst ((t.asks.map fun _ => 0).map nV)) hp5)
  have h7 : (upd (upd H5 p4 (HO.lst [V.int 0])) p5 (HO.lst ((t.asks.map fun _ => 0).map nV))) p5 = some (HO.lst ((t.asks.map fun _ => 0).map nV)) := upd_same
  refine ⟨_, rfl, a, _, dx, _, rfl, e7 _ _ A5, T.cl_Desk, T.na_Desk_owners, by show 7 < 1000; omega, ?_⟩
  have FF : Fd a H5 (upd (upd (upd H5 p4 (HO.lst [V.int 0])) p5 (HO.lst ((t.asks.map fun _ => 0).map nV))) a (DkO g dx (.ref ta) (.ref p2) (.ref p3) (.ref p5) w5 w6 w7)) := (Ex.fd e7).trans Fd.upd
  have OW : (upd (upd (upd H5 p4 (HO.lst [V.int 0])) p5 (HO.lst ((t.asks.map fun _ => 0).map nV))) a (DkO g dx (.ref ta) (.ref p2) (.ref p3) (.ref p5) w5 w6 w7)) p5 = some (HO.lst ((t.asks.map fun _ => 0).map nV)) := by rw [upd_ne ((big_of (e7 _ _ A5)).ne_l h7)]; exact h7
  refine (?_ : ∀ H8, Fd a H5 H8 → H8 p5 = some (HO.lst ((t.asks.map fun _ => 0).map nV)) → H8 a = some (DkO g dx (.ref ta) (.ref p2) (.ref p3) (.ref p5) w5 w6 w7) → tSeq _ _ _ _ H8) _ FF OW upd_same
  clear FF OW h7 e7
  intro H8 f8 ow8 A8
  have tw8 := f8.tbw (big_of A5) tw5
  have F8 := F5.trans f8
  have sz8 := f8 _ _ sz5 ((big_of A5).ne_l sz5)
  have rd8 := f8 _ _ rd5 ((big_of A5).ne_d rd5)
  have hq8 := f8 _ _ hq1 ((big_of A5).ne_l hq1)
  have hq9 := paired_keep (fun _ _ => AskAt.keep (f8.kt (big_of A5))) hq2
  refine ⟨_, rfl, ta, _, _, _, _, rfl, tw8.ob, T.cl_Table, T.na_Table_questions, rfl, lq, rfl, ⟨qs, .inl (.inl hq8)⟩, fun D hD => ?_⟩
  refine lc_list (xs := qs) (fun i H' => Ex H8 H' ∧ ∃ acc, H' D = some (.lst acc) ∧ acc.length = i ∧ Paired (PrAt H') acc (((t.asks.map fun q => q.k).zip (t.asks.map fun q => q.k)).take i)) ⟨Ex.new hD, [], upd_same, rfl, .nil⟩ (fun i H' _ hP => .inl (.inl (hP.1 _ _ hq8))) (fun i x H9 hx hP => ?_) (fun H9 hP => ?_)
  · obtain ⟨e9, acc, hacc, hal, hpr⟩ := hP
    obtain ⟨ak, hak, pa, rfl, hpa⟩ := L2.paired_get hq9 hx
    have hi := (List.getElem?_eq_some_iff.mp hx).1
    refine ⟨pa, _, rfl, .inl (.inl (e9 _ _ hpa)), rfl, _, _, rfl, _, _, rfl, rfl, rfl, ?_⟩
    refine ⟨_, rfl, _, rfl, s2, fun pt hpt => ?_⟩
    have ept := Ex.new (o := HO.tup [nV ak.k, nV ak.k]) hpt
    have hac2 := ept _ _ hacc
    refine ⟨acc, hac2, by omega, Ex.mut (e9.trans ept) hD, acc ++ [.ref pt], upd_same, by rw [List.length_append, hal]; rfl, ?_⟩
    have hz : ((t.asks.map fun q => q.k).zip (t.asks.map fun q => q.k))[i]? = some (ak.k, ak.k) := List.getElem?_zip_eq_some.mpr ⟨by rw [List.getElem?_map, hak]; rfl, by rw [List.getElem?_map, hak]; rfl⟩
    rw [List.take_add_one, hz]
    have kt : Kt (upd H9 pt (HO.tup [nV ak.k, nV ak.k])) (upd (upd H9 pt (HO.tup [nV ak.k, nV ak.k])) D (.lst (acc ++ [.ref pt]))) := Kt.upd fun xs z => by rw [hac2] at z; cases z
    refine paired_snoc (paired_keep (fun _ _ h => PrAt.keep kt (PrAt.keep (Ex.kt ept) h)) hpr) (PrAt.keep kt ⟨pt, rfl, upd_same⟩)
  obtain ⟨e9, acc, hacc, hal, hpr⟩ := hP
  have hzl : ((t.asks.map fun q => q.k).zip (t.asks.map fun q => q.k)).length = qs.length := by rw [List.length_zip, List.length_map]; omega
  rw [← hzl, List.take_length] at hpr
  refine ⟨_, rfl, a, _, dx, _, rfl, e9 _ _ A8, T.cl_Desk, T.na_Desk_bounds, by show 7 < 1000; omega, ?_⟩
  refine ⟨_, rfl, a, _, dx, _, rfl, upd_same, T.cl_Desk, T.na_Desk_changes, by show 7 < 1000; omega, ?_⟩
  rw [upd_upd]
  refine ⟨_, rfl, a, _, dx, _, rfl, upd_same, T.cl_Desk, T.na_Desk_known_regrets, by show 7 < 1000; omega, ?_⟩
  rw [upd_upd]
  have A9 := e9 _ _ A8
  have FA : Fd a H9 (upd H9 a (DkO g dx (.ref ta) (.ref p2) (.ref p3) (.ref p5) (.ref D) (nV 0) .non)) := Fd.upd
  have fa := (Ex.fd (a := a) e9).trans FA
  have AA : (upd H9 a (DkO g dx (.ref ta) (.ref p2) (.ref p3) (.ref p5) (.ref D) (nV 0) .non)) a = some (DkO g dx (.ref ta) (.ref p2) (.ref p3) (.ref p5) (.ref D) (nV 0) .non) := upd_same
  have twA := fa.tbw (big_of A8) tw8
  have P : DkP g (upd H9 a (DkO g dx (.ref ta) (.ref p2) (.ref p3) (.ref p5) (.ref D) (nV 0) .non)) (Vamvsf.heldOf t) (.ref ta) .non p2 p3 p5 D := ⟨⟨ta, dxt, ln, lr, lq, rfl, twA⟩, fa _ _ sz8 ((big_of A8).ne_l sz8), ⟨kvs, fa _ _ rd8 ((big_of A8).ne_d rd8), rn⟩, fa _ _ ow8 ((big_of A8).ne_l ow8), ⟨acc, FA _ _ hacc ((big_of A9).ne_l hacc), paired_keep (fun _ _ => PrAt.keep (FA.kt (big_of A9))) hpr⟩, .inl rfl⟩
  have OK : HeldOk (Vamvsf.heldOf t) := by
    have h99 : ∀ x ∈ t.asks.map (fun q => q.k), x ≤ 99 := fun x hx => by
      obtain ⟨q, hq, e⟩ := List.mem_map.mp hx
      have := ok.qv q hq
      omega
    refine ⟨ok, ⟨List.length_map _, List.length_map _, h99, h99⟩, List.length_map _, fun r hr => ?_, by show 0 ≤ 1000; omega⟩
    obtain ⟨q, hq, e⟩ := List.mem_map.mp hr
    omega
  obtain ⟨ns, hn1, hn2⟩ := twA.hn
  obtain ⟨rs, hr1, hr2⟩ := twA.hr
  obtain ⟨qs2, hqa, hqb⟩ := twA.hq
  have l1 := Paired.length hn2
  have l2 := Paired.length hr2
  have l3 := Paired.length hqb
  refine ⟨_, rfl, ta, _, _, _, _, rfl, twA.ob, T.cl_Table, T.na_Table_names, rfl, ln, ns, rfl, .inl (.inl (.inl hn1)), ?_⟩
  refine ⟨_, rfl, ta, _, _, _, _, rfl, twA.ob, T.cl_Table, T.na_Table_rows, rfl, lr, rs, rfl, .inl (.inl (.inl hr1)), ?_⟩
  refine ⟨_, rfl, ta, _, _, _, _, rfl, twA.ob, T.cl_Table, T.na_Table_questions, rfl, lq, qs2, rfl, .inl (.inl (.inl hqa)), s4, fun pr hpr2 => ?_⟩
  have fin := retd_new (H1 := upd H9 a (DkO g dx (.ref ta) (.ref p2) (.ref p3) (.ref p5) (.ref D) (nV 0) .non)) qq (F8.trans fa) ⟨OK, .ref ta, .non, p2, p3, p5, D, AA, P⟩ hpr2
  rw [l1, l2, l3]
  exact fin
end Sr
set_option Elab.async false
set_option linter.all false
set_option maxRecDepth 100000
set_option maxHeartbeats 4000000
/-! # One call -/
namespace Sr
open PySem PySem.Spec PyProof.Rows L2
open Evl (Ex)
open Vamvsa (Table Ask)
open Vamvsf (Held Call step)
open VamvsBase (one index)
open VamvsfNeutral (encode)
def DoneD (g : Gx) (a dx : Addr) (H : Hp) (o : Vamvsf.Obj) (c : Call) (Q : VK) (E : XK) : Prop := RetD g a dx H (step o c).1 (encode (step o c).2) Q ∧ ∀ n, step o c = (o, one n) → RefE g H E n
theorem DoneD.ret {g : Gx} {a dx : Addr} {H : Hp} {o o' : Vamvsf.Obj} {c : Call} {Q : VK} {E : XK} {r : VamvsBase.Answer} {row : List Int} (q : DoneD g a dx H o c Q E) (e : step o c = (o', r)) (er : encode r = row) : RetD g a dx H o' row Q := by
  have := q.1
  rw [e] at this
  rw [← er]
  exact this
theorem idx_none {z : Int} {n : Nat} (h : ¬ (0 ≤ z ∧ z < (n : Int))) : index z n = none := if_neg h
theorem idx_some {z : Int} {n : Nat} (h : 0 ≤ z ∧ z < (n : Int)) : index z n = some z.toNat := if_pos h
theorem st_readers (h : Held) (l : List Int) (e : l.length = h.t.asks.length ∧ ∀ z ∈ l, 0 ≤ z ∧ z < 4) : step (some h) (.readers l) = (some { h with who := l.map fun z => z.toNat }, one 1) := by
  refine if_neg ?_
  rintro (c | c)
  · exact c e.1
  · obtain ⟨z, hz, hd⟩ := List.any_eq_true.mp c
    rw [idx_some (n := Vamvsf.READERS) (e.2 z hz)] at hd
    cases hd
theorem st_readers_no (h : Held) (l : List Int) (e : ¬ (l.length = h.t.asks.length ∧ ∀ z ∈ l, 0 ≤ z ∧ z < 4)) : step (some h) (.readers l) = (some h, one (-3)) := by
  refine if_pos (Decidable.byContradiction fun c => e ⟨Decidable.byContradiction fun c1 => c (.inl c1), fun z hz => Decidable.byContradiction fun c2 => c (.inr (List.any_eq_true.mpr ⟨z, hz, ?_⟩))⟩)
  rw [idx_none (n := Vamvsf.READERS) c2]
  rfl
theorem st_changes (h : Held) (c : Int) (e : 0 ≤ c ∧ c ≤ 1000) : step (some h) (.changes c) = (some { h with c := c.toNat }, one 1) := by
  refine if_neg ?_
  rintro (d | d)
  · omega
  · have : (1000 : Int) < c := d
    omega
theorem st_changes_no (h : Held) (c : Int) (e : ¬ (0 ≤ c ∧ c ≤ 1000)) : step (some h) (.changes c) = (some h, one (-4)) := by
  refine if_pos ?_
  by_cases d : c < 0
  · exact .inl d
  · exact .inr (show (1000 : Int) < c by omega)
theorem st_bounds (h : Held) (lo hi : List Int) (b : Vamvsf.Bounds) (e : Vamvsf.boundsOf h lo hi = some b) : step (some h) (.bounds lo hi) = (some { h with b := b }, one 1) := by
  show (match Vamvsf.boundsOf h lo hi with | none => _ | some b => _) = _
  rw [e]
theorem st_bounds_no (h : Held) (lo hi : List Int) (e : Vamvsf.boundsOf h lo hi = none) : step (some h) (.bounds lo hi) = (some h, one (-3)) := by
  show (match Vamvsf.boundsOf h lo hi with | none => _ | some b => _) = _
  rw [e]
theorem st_alone (h : Held) (s : Int) (e : 0 ≤ s ∧ s < 16) : step (some h) (.alone s) = (some h, one ((Vamvsf.costsOf h).getD s.toNat 0 : Int)) := by
  show (some h, match index s Vamvsf.GROUPS with | none => _ | some k => _) = _
  rw [idx_some (n := Vamvsf.GROUPS) e]
theorem st_alone_no (h : Held) (s : Int) (e : ¬ (0 ≤ s ∧ s < 16)) : step (some h) (.alone s) = (some h, one (-2)) := by
  show (some h, match index s Vamvsf.GROUPS with | none => _ | some k => _) = _
  rw [idx_none (n := Vamvsf.GROUPS) e]
theorem st_regret_no (h : Held) (l : List Int) (e : Vamvsb.keptOf h.t l = none) : step (some h) (.regret l) = (some h, one (-2)) := by
  show (some h, match Vamvsb.keptOf h.t l with | none => _ | some k => _) = _
  rw [e]
theorem st_regret_many (h : Held) (l : List Int) (k : List Nat) (e : Vamvsb.keptOf h.t l = some k) (h2 : 2 < k.length) : step (some h) (.regret l) = (some h, one (-5)) := by
  show (some h, match Vamvsb.keptOf h.t l with | none => _ | some k => _) = _
  rw [e]
  show (some h, if Vamvsf.FEW < k.length then one (-5) else _) = _
  rw [if_pos (show Vamvsf.FEW < k.length from h2)]
theorem st_regret (h : Held) (l : List Int) (k : List Nat) (e : Vamvsb.keptOf h.t l = some k) (h2 : ¬ 2 < k.length) : step (some h) (.regret l) = (some h, ⟨(Vamvsf.regret h.c h.b (famL h.t) (k, Vamvsf.rowCosts h.t k)).1, Vamvsf.listRow (Vamvsf.regret h.c h.b (famL h.t) (k, Vamvsf.rowCosts h.t k)).2⟩) := by
  show (some h, match Vamvsb.keptOf h.t l with | none => _ | some k => _) = _
  rw [e]
  show (some h, if Vamvsf.FEW < k.length then one (-5) else _) = _
  rw [if_neg (show ¬ Vamvsf.FEW < k.length from h2)]
theorem st_least (h : Held) (x : List Nat) (r : Int) (k : List Nat) (e : Vamvsf.leastRegret h.c h.b (famL h.t) = some ((x, Vamvsf.rowCosts h.t x), r)) (e2 : Vamvsf.regret h.c h.b (famL h.t) (x, Vamvsf.rowCosts h.t x) = (r, k)) : step (some h) .least = (some h, ⟨r, Vamvsf.listRow x ++ Vamvsf.listRow k⟩) := by
  show (some h, match Vamvsf.leastRegret h.c h.b (famL h.t) with | none => _ | some x => _) = _
  rw [e]
  show (some h, (⟨r, Vamvsf.listRow x ++ Vamvsf.listRow (Vamvsf.regret h.c h.b (famL h.t) (x, Vamvsf.rowCosts h.t x)).2⟩ : VamvsBase.Answer)) = _
  rw [e2]
theorem IlAt.at_ {H : Hp} {v : V} {l : List Int} (h : IlAt H v l) : ∃ p, v = .ref p ∧ H p = some (.lst (l.map V.int)) := h
theorem pair1 {α β : Type} {R : α → β → Prop} {xs : List α} {y : β} (h : Paired R xs [y]) : ∃ x, xs = [x] ∧ R x y := by
  cases h with
  | cons h1 h2 => cases h2; exact ⟨_, rfl, h1⟩
theorem pair2 {α β : Type} {R : α → β → Prop} {xs : List α} {y z : β} (h : Paired R xs [y, z]) : ∃ x w, xs = [x, w] ∧ R x y ∧ R w z := by
  cases h with
  | cons h1 h2 =>
    obtain ⟨w, rfl, hw⟩ := pair1 h2
    exact ⟨_, _, rfl, h1, hw⟩
def sp_of_lists (g : Gx) : Sp := fun vs H Q E => ∃ (a dx : Addr) (h : Held) (k : Nat) (al : Addr) (lv : List V) (lss : List (List Int)), vs = [.ref a, nV k, .ref al] ∧ DkW g H a dx h ∧ H al = some (.lst lv) ∧ Paired (IlAt H) lv lss ∧ (∀ l ∈ lss, l.length ≤ 2000) ∧ ((k = 2 ∧ ∃ l, lss = [l] ∧ DoneD g a dx H (some h) (.readers l) Q E) ∨ (k = 7 ∧ ∃ l1 l2, lss = [l1, l2] ∧ DoneD g a dx H (some h) (.bounds l1 l2) Q E) ∨ (k = 8 ∧ ∃ l, lss = [l] ∧ DoneD g a dx H (some h) (.regret l) Q E))
abbrev N_of_lists : List Str := ["desk", "call", "lists"]
theorem sc_of_lists : FnScope N_of_lists ["desk", "call", "lists"] (defScope s_of_lists) := ⟨rfl, rfl, rfl, by decide +kernel, rfl, by decide +kernel, by decide +kernel⟩
set_option maxHeartbeats 8000000 in
theorem ok_of_lists {g : Gx} (T : Tx g) : RGl g (CXr g) 7 "of_lists" (sp_of_lists g) := by
  refine glX (N := N_of_lists) (ps := ["desk", "call", "lists"]) (st := s_of_lists) T 73 rfl T.d_of_lists sc_of_lists (fun _ _ _ _ _ _ us hl => match us, hl with | [_, _, _], _ => rfl) (fun vs H Q E h => by obtain ⟨a, dx, h, k, al, lv, lss, rfl, w, hal, hp, hls, q⟩ := h; rfl) (fun f cdv A outer s H vs Q E hr h => ?_)
  obtain ⟨a, dx, h, k, al, lv, lss, rfl, w, hal, hp, hls, q⟩ := h
  refine ⟨_, (pss_cons (ps_if (pt_cmpR op_eq (pv 1) pe_int (nomark _)) (pss_one (ps_ret (pe_me (ok_Desk_tell_readers T) hr (by decide) pxR (pv 0) (pa_cons (pe_ix (r := rIxL g.K) ix_list (pv 2) pe_int (fun _ _ => rfl)) pa_nil)))) pss_nil) (pss_cons (ps_if (pt_cmpR op_eq (pv 1) pe_int (nomark _)) (pss_one (ps_ret (pe_me (ok_Desk_tell_bounds T) hr (by decide) pxR (pv 0) (pa_cons (pe_ix (r := rIxL g.K) ix_list (pv 2) pe_int (fun _ _ => rfl)) (pa_cons (pe_ix (r := rIxL g.K) ix_list (pv 2) pe_int (fun _ _ => rfl)) pa_nil))))) pss_nil) (pss_one (ps_ret (pe_me (ok_Desk_regret T) hr (by decide) pxR (pv 0) (pa_cons (pe_ix (r := rIxL g.K) ix_list (pv 2) pe_int (fun _ _ => rfl)) pa_nil)))))), ?_⟩

  obtain ⟨ok, vt, vk, ls, ld, lo, lb, ha, p⟩ := id w
  rcases q with ⟨rfl, l, rfl, q⟩ | ⟨rfl, l1, l2, rfl, q⟩ | ⟨rfl, l, rfl, q⟩
  · obtain ⟨x, rfl, hx⟩ := pair1 hp
    obtain ⟨px, rfl, hx2⟩ := hx.at_
    refine ⟨_, rfl, rfl, _, rfl, ?_⟩
    rw [show decide (nV 2 = V.int 2) = true from rfl]
    exact iteT ⟨_, rfl, a, dx, _, rfl, ha, rfl, _, rfl, al, _, (0 : Int), _, rfl, rfl, .inl (.inl hal), rfl, a, dx, h, px, l, rfl, w, hx2, hls l (by simp), fun e => q.ret (st_readers h l e) rfl, fun e => q.2 _ (st_readers_no h l e)⟩
  · obtain ⟨x, y, rfl, hx, hy⟩ := pair2 hp
    obtain ⟨px, rfl, hx2⟩ := hx.at_
    obtain ⟨py, rfl, hy2⟩ := hy.at_
    refine ⟨_, rfl, rfl, _, rfl, ?_⟩
    rw [show decide (nV 7 = V.int 2) = false from rfl]
    refine iteF ⟨_, rfl, rfl, _, rfl, ?_⟩
    rw [show decide (nV 7 = V.int 7) = true from rfl]
    exact iteT ⟨_, rfl, a, dx, _, rfl, ha, rfl, _, rfl, al, _, (0 : Int), _, rfl, rfl, .inl (.inl hal), rfl, _, rfl, al, _, (1 : Int), _, rfl, rfl, .inl (.inl hal), rfl, a, dx, h, px, py, l1, l2, rfl, w, hx2, hy2, hls l1 (by simp), hls l2 (by simp), fun b e => q.ret (st_bounds h l1 l2 b e) rfl, fun e => q.2 _ (st_bounds_no h l1 l2 e)⟩
  · obtain ⟨x, rfl, hx⟩ := pair1 hp
    obtain ⟨px, rfl, hx2⟩ := hx.at_
    refine ⟨_, rfl, rfl, _, rfl, ?_⟩
    rw [show decide (nV 8 = V.int 2) = false from rfl]
    refine iteF ⟨_, rfl, rfl, _, rfl, ?_⟩
    rw [show decide (nV 8 = V.int 7) = false from rfl]
    exact iteF ⟨_, rfl, a, dx, _, rfl, ha, rfl, _, rfl, al, _, (0 : Int), _, rfl, rfl, .inl (.inl hal), rfl, a, dx, h, px, l, rfl, w, hx2, hls l (by simp), fun e => q.2 _ (st_regret_no h l e), fun k e => ⟨fun h2 => q.2 _ (st_regret_many h l k e h2), fun h2 => q.ret (st_regret h l k e h2) rfl⟩⟩
def sp_of_others (g : Gx) : Sp := fun vs H Q E => ∃ (a dx : Addr) (h : Held) (k : Nat) (an : Addr) (ns : List Int), vs = [.ref a, nV k, .ref an] ∧ DkW g H a dx h ∧ H an = some (.lst (ns.map V.int)) ∧ ((k = 1 ∧ DoneD g a dx H (some h) .shown Q E) ∨ (k = 3 ∧ ∃ c, ns = [c] ∧ DoneD g a dx H (some h) (.changes c) Q E) ∨ (k = 4 ∧ ∃ s, ns = [s] ∧ DoneD g a dx H (some h) (.alone s) Q E) ∨ (k = 5 ∧ DoneD g a dx H (some h) .shares Q E) ∨ (k = 6 ∧ DoneD g a dx H (some h) .unhappy Q E) ∨ (k = 9 ∧ DoneD g a dx H (some h) .least Q E))
abbrev N_of_others : List Str := ["desk", "call", "n"]
theorem sc_of_others : FnScope N_of_others ["desk", "call", "n"] (defScope s_of_others) := ⟨rfl, rfl, rfl, by decide +kernel, rfl, by decide +kernel, by decide +kernel⟩
set_option maxHeartbeats 8000000 in
theorem ok_of_others {g : Gx} (T : Tx g) : RGl g (CXr g) 7 "of_others" (sp_of_others g) := by
  refine glX (N := N_of_others) (ps := ["desk", "call", "n"]) (st := s_of_others) T 74 rfl T.d_of_others sc_of_others (fun _ _ _ _ _ _ us hl => match us, hl with | [_, _, _], _ => rfl) (fun vs H Q E h => by obtain ⟨a, dx, h, k, an, ns, rfl, w, han, q⟩ := h; rfl) (fun f cdv A outer s H vs Q E hr h => ?_)
  obtain ⟨a, dx, h, k, an, ns, rfl, w, han, q⟩ := h
  refine ⟨_, (pss_cons (ps_if (pt_cmpR op_eq (pv 1) pe_int (nomark _)) (pss_one (ps_ret (pe_me0 (ok_Desk_shown T) hr (by decide) pass0 (pv 0)))) pss_nil) (pss_cons (ps_if (pt_cmpR op_eq (pv 1) pe_int (nomark _)) (pss_one (ps_ret (pe_me (ok_Desk_tell_changes T) hr (by decide) pxR (pv 0) (pa_cons (pe_ix (r := rIxL g.K) ix_list (pv 2) pe_int (fun _ _ => rfl)) pa_nil)))) pss_nil) (pss_cons (ps_if (pt_cmpR op_eq (pv 1) pe_int (nomark _)) (pss_one (ps_ret (pe_me (ok_Desk_alone T) hr (by decide) pxR (pv 0) (pa_cons (pe_ix (r := rIxL g.K) ix_list (pv 2) pe_int (fun _ _ => rfl)) pa_nil)))) pss_nil) (pss_cons (ps_if (pt_cmpR op_eq (pv 1) pe_int (nomark _)) (pss_one (ps_ret (pe_me0 (ok_Desk_shares T) hr (by decide) pass0 (pv 0)))) pss_nil) (pss_cons (ps_if (pt_cmpR op_eq (pv 1) pe_int (nomark _)) (pss_one (ps_ret (pe_me0 (ok_Desk_unhappy T) hr (by decide) pass0 (pv 0)))) pss_nil) (pss_one (ps_ret (pe_me0 (ok_Desk_least T) hr (by decide) pass0 (pv 0))))))))), ?_⟩

  obtain ⟨ok, vt, vk, ls, ld, lo, lb, ha, p⟩ := id w
  rcases q with ⟨rfl, q⟩ | ⟨rfl, c, rfl, q⟩ | ⟨rfl, s', rfl, q⟩ | ⟨rfl, q⟩ | ⟨rfl, q⟩ | ⟨rfl, q⟩
  · refine ⟨_, rfl, rfl, _, rfl, ?_⟩
    rw [show decide (nV 1 = V.int 1) = true from rfl]
    exact iteT ⟨_, rfl, a, dx, _, rfl, ha, rfl, a, dx, h, rfl, w, q.ret rfl rfl⟩
  · refine ⟨_, rfl, rfl, _, rfl, ?_⟩
    rw [show decide (nV 3 = V.int 1) = false from rfl]
    refine iteF ⟨_, rfl, rfl, _, rfl, ?_⟩
    rw [show decide (nV 3 = V.int 3) = true from rfl]
    exact iteT ⟨_, rfl, a, dx, _, rfl, ha, rfl, _, rfl, an, _, (0 : Int), _, rfl, rfl, .inl (.inl han), rfl, a, dx, h, c, rfl, w, fun e => q.ret (st_changes h c e) rfl, fun e => q.2 _ (st_changes_no h c e)⟩
  · refine ⟨_, rfl, rfl, _, rfl, ?_⟩
    rw [show decide (nV 4 = V.int 1) = false from rfl]
    refine iteF ⟨_, rfl, rfl, _, rfl, ?_⟩
    rw [show decide (nV 4 = V.int 3) = false from rfl]
    refine iteF ⟨_, rfl, rfl, _, rfl, ?_⟩
    rw [show decide (nV 4 = V.int 4) = true from rfl]
    exact iteT ⟨_, rfl, a, dx, _, rfl, ha, rfl, _, rfl, an, _, (0 : Int), _, rfl, rfl, .inl (.inl han), rfl, a, dx, h, s', rfl, w, fun e => q.ret (st_alone h s' e) rfl, fun e => q.2 _ (st_alone_no h s' e)⟩
  · refine ⟨_, rfl, rfl, _, rfl, ?_⟩
    rw [show decide (nV 5 = V.int 1) = false from rfl]
    refine iteF ⟨_, rfl, rfl, _, rfl, ?_⟩
    rw [show decide (nV 5 = V.int 3) = false from rfl]
    refine iteF ⟨_, rfl, rfl, _, rfl, ?_⟩
    rw [show decide (nV 5 = V.int 4) = false from rfl]
    refine iteF ⟨_, rfl, rfl, _, rfl, ?_⟩
    rw [show decide (nV 5 = V.int 5) = true from rfl]
    exact iteT ⟨_, rfl, a, dx, _, rfl, ha, rfl, a, dx, h, rfl, w, q.ret rfl rfl⟩
  · refine ⟨_, rfl, rfl, _, rfl, ?_⟩
    rw [show decide (nV 6 = V.int 1) = false from rfl]
    refine iteF ⟨_, rfl, rfl, _, rfl, ?_⟩
    rw [show decide (nV 6 = V.int 3) = false from rfl]
    refine iteF ⟨_, rfl, rfl, _, rfl, ?_⟩
    rw [show decide (nV 6 = V.int 4) = false from rfl]
    refine iteF ⟨_, rfl, rfl, _, rfl, ?_⟩
    rw [show decide (nV 6 = V.int 5) = false from rfl]
    refine iteF ⟨_, rfl, rfl, _, rfl, ?_⟩
    rw [show decide (nV 6 = V.int 6) = true from rfl]
    exact iteT ⟨_, rfl, a, dx, _, rfl, ha, rfl, a, dx, h, rfl, w, q.ret rfl rfl⟩
  · refine ⟨_, rfl, rfl, _, rfl, ?_⟩
    rw [show decide (nV 9 = V.int 1) = false from rfl]
    refine iteF ⟨_, rfl, rfl, _, rfl, ?_⟩
    rw [show decide (nV 9 = V.int 3) = false from rfl]
    refine iteF ⟨_, rfl, rfl, _, rfl, ?_⟩
    rw [show decide (nV 9 = V.int 4) = false from rfl]
    refine iteF ⟨_, rfl, rfl, _, rfl, ?_⟩
    rw [show decide (nV 9 = V.int 5) = false from rfl]
    refine iteF ⟨_, rfl, rfl, _, rfl, ?_⟩
    rw [show decide (nV 9 = V.int 6) = false from rfl]
    exact iteF ⟨_, rfl, a, dx, _, rfl, ha, rfl, a, dx, h, rfl, w, fun x r k e1 e2 => q.ret (st_least h x r k e1 e2) rfl⟩
/-- how a call stands in the rows -/
def CallOf (k : Nat) (ns : List Int) (lss : List (List Int)) (c : Call) : Prop :=
  (k = 0 ∧ ∃ b : List Int, lss = [b] ∧ (∀ z ∈ b, 0 ≤ z ∧ z < 256) ∧ b.length ≤ 8192 ∧ c = .load (VamvsfNeutral.bytesOf b)) ∨ (k = 1 ∧ c = .shown) ∨ (k = 2 ∧ ∃ l, lss = [l] ∧ l.length ≤ 2000 ∧ c = .readers l) ∨ (k = 3 ∧ ∃ x, ns = [x] ∧ c = .changes x) ∨ (k = 4 ∧ ∃ x, ns = [x] ∧ c = .alone x) ∨ (k = 5 ∧ c = .shares) ∨ (k = 6 ∧ c = .unhappy) ∨
  (k = 7 ∧ ∃ l1 l2, lss = [l1, l2] ∧ l1.length ≤ 2000 ∧ l2.length ≤ 2000 ∧ c = .bounds l1 l2) ∨ (k = 8 ∧ ∃ l, lss = [l] ∧ l.length ≤ 2000 ∧ c = .regret l) ∨ (k = 9 ∧ c = .least)
theorem eq_nat {k : Nat} {m : Nat} (h : k ≠ m) : decide (nV k = V.int (m : Int)) = false := decide_eq_false fun e => h (by have := V.int.inj e; omega)
theorem in_three : ∀ k : Nat, k < 10 → inV (nV k) [V.int 2, V.int 7, V.int 8] = (decide (k = 2) || (decide (k = 7) || decide (k = 8))) := by decide +kernel
theorem bytes_of (b : List Int) (h : ∀ z ∈ b, 0 ≤ z ∧ z < 256) : b.map V.int = (VamvsfNeutral.bytesOf b).map bV := by
  unfold VamvsfNeutral.bytesOf
  rw [List.map_map]
  refine List.map_congr_left fun z hz => ?_
  have := h z hz
  show V.int z = V.int (((UInt8.ofNat z.toNat).toNat : Nat) : Int)
  rw [UInt8.toNat_ofNat']
  congr 1
  omega
theorem RetD.ex {g : Gx} {a dx : Addr} {H H1 : Hp} {o : Vamvsf.Obj} {row : List Int} {Q : VK} (q : RetD g a dx H o row Q) (e : Ex H H1) : RetD g a dx H1 o row Q := fun p H' hp f w h => q p H' (Evl.fresh_back e hp) ((Ex.fd e).trans f) w h
def sp_answer (g : Gx) : Sp := fun vs H Q E => ∃ (a dx : Addr) (o : Vamvsf.Obj) (k : Nat) (an al : Addr) (ns : List Int) (lv : List V) (lss : List (List Int)) (c : Call), vs = [.ref a, nV k, .ref an, .ref al] ∧ ObjAt g H a dx o ∧ H an = some (.lst (ns.map V.int)) ∧ H al = some (.lst lv) ∧ Paired (IlAt H) lv lss ∧ CallOf k ns lss c ∧ RetD g a dx H (step o c).1 (encode (step o c).2) Q
abbrev N_answer : List Str := ["desk", "call", "n", "lists", "e"]
theorem sc_answer : FnScope N_answer ["desk", "call", "n", "lists"] (defScope s_answer) := ⟨rfl, rfl, rfl, by decide +kernel, rfl, by decide +kernel, by decide +kernel⟩
set_option maxHeartbeats 8000000 in
theorem ok_answer {g : Gx} (T : Tx g) : RGl g CX0 10 "answer" (sp_answer g) := by
  refine gl0 (N := N_answer) (ps := ["desk", "call", "n", "lists"]) (st := s_answer) T 75 rfl T.d_answer sc_answer (fun _ _ _ _ _ _ us hl => match us, hl with | [_, _, _, _], _ => rfl) (fun vs H Q E h => by obtain ⟨a, dx, o, k, an, al, ns, lv, lss, c, rfl, w, han, hal, hp, hc, q⟩ := h; rfl) (fun f cdv A outer s H vs Q E hr h => ?_)
  obtain ⟨a, dx, o, k, an, al, ns, lv, lss, c, rfl, w, han, hal, hp, hc, q⟩ := h
  refine ⟨_, (pss_one (ps_try_as (i := 4) (tb := fun W => tSeq (tIfS (tTest (tOp rEq (tVar 1) (tC (.int 0)))) (tRet (tMeth (g.C "Desk") "load" (sp_Desk_load g) [] E0 (tVar 0) (tCons (tOp (rIxL g.K) (tVar 3) (tC (.int 0))) tNil))) tNext) (tSeq (tDrop (tCallS (sp_want g) (WE W) (tCons (tOp (fun x y H Q => y = .non ∧ Q (.bl (!decide (x = .non))) H) (tFld g.K (tVar 0) "table") (tC .non)) (tCons (tC (.int (-1))) tNil)))) (tRet (tIf (tTest (tOp (rIn g.K false) (tVar 1) (tTup (tCons (tC (.int 2)) (tCons (tC (.int 7)) (tCons (tC (.int 8)) tNil)))))) (tCallS (sp_of_lists g) (WE W) (tCons (tVar 0) (tCons (tVar 1) (tCons (tVar 3) tNil)))) (tCallS (sp_of_others g) (WE W) (tCons (tVar 0) (tCons (tVar 1) (tCons (tVar 2) tNil)))))))) (ts := fun a cls d => tRet (tLst (tCons (tXf a cls d (g.C "Refused") "refusal" (tVar 4)) tNil))) (Wout := fun _ _ _ _ => False) rfl rfl sc_answer.nd rfl rfl ⟨rfl, by decide, Or.inl T.c_Refused⟩ takes0 (fun W pn xe tk _ => pss_cons (ps_if (by exact (pt_cmpR op_eq (pv 1) pe_int (nomark _))) (pss_one (ps_ret (by exact (pe_me (ok_Desk_load T) hr (by decide) pass0 (pv 0) (by exact (pa_cons (pe_ix (r := rIxL g.K) ix_list (pv 3) pe_int (fun _ _ => rfl)) pa_nil)))))) pss_nil) (pss_cons (ps_expr (by exact (pe_glS (ok_want T) hr (by decide) (fun σ => passAt tk σ) rfl (by exact (pa_cons (pe_cmpR op_notN (pe_fld (pv 0) rfl) pe_non (nomark _)) (pa_cons (pe_gc rfl T.g_NO_TABLE) pa_nil)))))) (pss_one (ps_ret (by exact (pe_ifExp (by exact (pt_cmpR op_in_seq (pv 1) (pe_tup (pa_cons pe_int (pa_cons pe_int (pa_cons pe_int pa_nil)))) (by rfl))) (by exact (pe_glS (ok_of_lists T) hr (by decide) (fun σ => passAt tk σ) rfl (by exact (pa_cons (pv 0) (pa_cons (pv 1) (pa_cons (pv 3) pa_nil)))))) (by exact (pe_glS (ok_of_others T) hr (by decide) (fun σ => passAt tk σ) rfl (by exact (pa_cons (pv 0) (pa_cons (pv 1) (pa_cons (pv 2) pa_nil)))))))))))) (fun a oe cls d pn hz hf => pss_one (ps_ret (pe_lst (pa_cons (pe_xf T.e_Refused.xf (T.e_Refused.no "refusal" (by simp)) hz hf (pv 4)) pa_nil)))))), ?_⟩

  by_cases hk0 : k = 0
  · subst hk0
    have hc0 : ∃ b : List Int, lss = [b] ∧ (∀ z ∈ b, 0 ≤ z ∧ z < 256) ∧ b.length ≤ 8192 ∧ c = .load (VamvsfNeutral.bytesOf b) := by
      rcases hc with ⟨_, h⟩ | ⟨h, _⟩ | ⟨h, _⟩ | ⟨h, _⟩ | ⟨h, _⟩ | ⟨h, _⟩ | ⟨h, _⟩ | ⟨h, _⟩ | ⟨h, _⟩ | ⟨h, _⟩
      · exact h
      all_goals cases h
    obtain ⟨b, rfl, hb, hbl, rfl⟩ := hc0
    obtain ⟨x, rfl, hx⟩ := pair1 hp
    obtain ⟨px, rfl, hx2⟩ := hx.at_
    have hob : ∃ w1 w2 w3 w4 w5 w6 w7, H a = some (DkO g dx w1 w2 w3 w4 w5 w6 w7) := by
      cases o with
      | none => obtain ⟨vs, vr, vo, vb, vc, vk, h⟩ := w; exact ⟨_, _, _, _, _, _, _, h⟩
      | some h => obtain ⟨_, vt, vk, ls, ld, lo, lb, h1, _⟩ := w; exact ⟨_, _, _, _, _, _, _, h1⟩
    obtain ⟨w1, w2, w3, w4, w5, w6, w7, ha⟩ := hob
    refine ⟨_, rfl, rfl, _, rfl, ?_⟩
    rw [show decide (nV 0 = V.int 0) = true from rfl]
    refine iteT ⟨_, rfl, a, dx, _, rfl, ha, rfl, _, rfl, al, _, (0 : Int), _, rfl, rfl, .inl (.inl hal), rfl, a, dx, o, px, VamvsfNeutral.bytesOf b, rfl, w, by rw [← bytes_of b hb]; exact hx2, by unfold VamvsfNeutral.bytesOf; rw [List.length_map]; exact hbl, fun f hf => ?_, fun t ht => ?_⟩
    · have e : step o (.load (VamvsfNeutral.bytesOf b)) = (o, VamvsBase.faulty f) := by
        show (match Vamvsa.read (VamvsfNeutral.bytesOf b) with | .ok t => _ | .error f => _) = _
        rw [hf]
      rw [e] at q
      exact q
    · have e : step o (.load (VamvsfNeutral.bytesOf b)) = (some (Vamvsf.heldOf t), ⟨1, Vamvsf.nats [Vamvsa.width t, t.rows.length, t.asks.length]⟩) := by
        show (match Vamvsa.read (VamvsfNeutral.bytesOf b) with | .ok t => _ | .error f => _) = _
        rw [ht]
      rw [e] at q
      exact q
  · refine ⟨_, rfl, rfl, _, rfl, ?_⟩
    rw [show decide (nV k = V.int 0) = false from eq_nat (m := 0) hk0]
    refine iteF ?_
    cases o with
    | none =>
      obtain ⟨vs, vr, vo, vb, vc, vk, ha⟩ := id w
      have e : step none c = (none, one (-1)) := by
        rcases hc with ⟨h, _⟩ | ⟨_, h⟩ | ⟨_, _, _, _, h⟩ | ⟨_, _, _, h⟩ | ⟨_, _, _, h⟩ | ⟨_, h⟩ | ⟨_, h⟩ | ⟨_, _, _, _, _, _, h⟩ | ⟨_, _, _, _, h⟩ | ⟨_, h⟩
        · exact absurd h hk0
        all_goals (subst h; rfl)
      rw [e] at q
      refine ⟨_, rfl, a, _, _, _, _, rfl, ha, T.cl_Desk, T.na_Desk_table, rfl, rfl, false, -1, rfl, (fun z => by cases z), fun _ => ?_⟩
      exact fun d H2 e2 hd => ⟨true, exc_self T.e_Refused, fun _ a0 ha0 => ⟨_, rfl, rfl, rfl, d, _, _, rfl, hd, rfl, s1, fun p1 hp1 => retd_new (q) (Ex.fd (e2)) (w.ex (e2)) hp1⟩, fun z => Bool.noConfusion z⟩
    | some h =>
      obtain ⟨ok, vt, vk, ls, ld, lo, lb, ha, p⟩ := id w
      obtain ⟨ta, dxt, ln, lr, lq, rfl, tw⟩ := id p.tb
      refine ⟨_, rfl, a, _, _, _, _, rfl, ha, T.cl_Desk, T.na_Desk_table, rfl, rfl, true, -1, rfl, (fun _ => ?_), fun z => by cases z⟩
      refine ⟨_, rfl, s3, fun pT hpT => ?_⟩
      have e1 := Ex.new (o := HO.tup [V.int 2, V.int 7, V.int 8]) hpT
      refine ⟨pT, _, rfl, .inr (.inl (.inl upd_same)), rfl, rfl, _, rfl, ?_⟩
      have hk10 : k < 10 := by
        rcases hc with ⟨h, _⟩ | ⟨h, _⟩ | ⟨h, _⟩ | ⟨h, _⟩ | ⟨h, _⟩ | ⟨h, _⟩ | ⟨h, _⟩ | ⟨h, _⟩ | ⟨h, _⟩ | ⟨h, _⟩
        all_goals omega
      rw [if_neg (by decide), in_three k hk10]
      have hp1 := paired_keep (fun _ _ => IlAt.ex e1) hp
      have hal1 := e1 _ _ hal
      have han1 := e1 _ _ han
      have w1 : DkW g _ a dx h := DkW.ex w e1
      have q1 := RetD.ex q e1
      rcases hc with ⟨h0, _⟩ | ⟨rfl, rfl⟩ | ⟨rfl, l, rfl, hll, rfl⟩ | ⟨rfl, x, rfl, rfl⟩ | ⟨rfl, x, rfl, rfl⟩ | ⟨rfl, rfl⟩ | ⟨rfl, rfl⟩ | ⟨rfl, l1, l2, rfl, hl1, hl2, rfl⟩ | ⟨rfl, l, rfl, hll, rfl⟩ | ⟨rfl, rfl⟩
      · exact absurd h0 hk0
      · exact iteF ⟨_, rfl, _, rfl, _, rfl, a, dx, h, _, an, _, rfl, w1, han1, .inl ⟨rfl, q1, fun n en => by rw [en] at q; exact fun d H2 e2 hd => ⟨true, exc_self T.e_Refused, fun _ a0 ha0 => ⟨_, rfl, rfl, rfl, d, _, _, rfl, hd, rfl, s1, fun p1 hp1 => retd_new (q) (Ex.fd (e1.trans e2)) (w.ex (e1.trans e2)) hp1⟩, fun z => Bool.noConfusion z⟩⟩⟩
      · exact iteT ⟨_, rfl, _, rfl, _, rfl, a, dx, h, _, al, lv, _, rfl, w1, hal1, hp1, (fun z hz => by rw [List.mem_singleton] at hz; rw [hz]; exact hll), .inl ⟨rfl, l, rfl, q1, fun n en => by rw [en] at q; exact fun d H2 e2 hd => ⟨true, exc_self T.e_Refused, fun _ a0 ha0 => ⟨_, rfl, rfl, rfl, d, _, _, rfl, hd, rfl, s1, fun p1 hp1 => retd_new (q) (Ex.fd (e1.trans e2)) (w.ex (e1.trans e2)) hp1⟩, fun z => Bool.noConfusion z⟩⟩⟩
      · exact iteF ⟨_, rfl, _, rfl, _, rfl, a, dx, h, _, an, _, rfl, w1, han1, .inr (.inl ⟨rfl, x, rfl, q1, fun n en => by rw [en] at q; exact fun d H2 e2 hd => ⟨true, exc_self T.e_Refused, fun _ a0 ha0 => ⟨_, rfl, rfl, rfl, d, _, _, rfl, hd, rfl, s1, fun p1 hp1 => retd_new (q) (Ex.fd (e1.trans e2)) (w.ex (e1.trans e2)) hp1⟩, fun z => Bool.noConfusion z⟩⟩)⟩
      · exact iteF ⟨_, rfl, _, rfl, _, rfl, a, dx, h, _, an, _, rfl, w1, han1, .inr (.inr (.inl ⟨rfl, x, rfl, q1, fun n en => by rw [en] at q; exact fun d H2 e2 hd => ⟨true, exc_self T.e_Refused, fun _ a0 ha0 => ⟨_, rfl, rfl, rfl, d, _, _, rfl, hd, rfl, s1, fun p1 hp1 => retd_new (q) (Ex.fd (e1.trans e2)) (w.ex (e1.trans e2)) hp1⟩, fun z => Bool.noConfusion z⟩⟩))⟩
      · exact iteF ⟨_, rfl, _, rfl, _, rfl, a, dx, h, _, an, _, rfl, w1, han1, .inr (.inr (.inr (.inl ⟨rfl, q1, fun n en => by rw [en] at q; exact fun d H2 e2 hd => ⟨true, exc_self T.e_Refused, fun _ a0 ha0 => ⟨_, rfl, rfl, rfl, d, _, _, rfl, hd, rfl, s1, fun p1 hp1 => retd_new (q) (Ex.fd (e1.trans e2)) (w.ex (e1.trans e2)) hp1⟩, fun z => Bool.noConfusion z⟩⟩)))⟩
      · exact iteF ⟨_, rfl, _, rfl, _, rfl, a, dx, h, _, an, _, rfl, w1, han1, .inr (.inr (.inr (.inr (.inl ⟨rfl, q1, fun n en => by rw [en] at q; exact fun d H2 e2 hd => ⟨true, exc_self T.e_Refused, fun _ a0 ha0 => ⟨_, rfl, rfl, rfl, d, _, _, rfl, hd, rfl, s1, fun p1 hp1 => retd_new (q) (Ex.fd (e1.trans e2)) (w.ex (e1.trans e2)) hp1⟩, fun z => Bool.noConfusion z⟩⟩))))⟩
      · exact iteT ⟨_, rfl, _, rfl, _, rfl, a, dx, h, _, al, lv, _, rfl, w1, hal1, hp1, (fun z hz => by simp only [List.mem_cons, List.not_mem_nil, or_false] at hz; rcases hz with rfl | rfl <;> assumption), .inr (.inl ⟨rfl, l1, l2, rfl, q1, fun n en => by rw [en] at q; exact fun d H2 e2 hd => ⟨true, exc_self T.e_Refused, fun _ a0 ha0 => ⟨_, rfl, rfl, rfl, d, _, _, rfl, hd, rfl, s1, fun p1 hp1 => retd_new (q) (Ex.fd (e1.trans e2)) (w.ex (e1.trans e2)) hp1⟩, fun z => Bool.noConfusion z⟩⟩)⟩
      · exact iteT ⟨_, rfl, _, rfl, _, rfl, a, dx, h, _, al, lv, _, rfl, w1, hal1, hp1, (fun z hz => by rw [List.mem_singleton] at hz; rw [hz]; exact hll), .inr (.inr ⟨rfl, l, rfl, q1, fun n en => by rw [en] at q; exact fun d H2 e2 hd => ⟨true, exc_self T.e_Refused, fun _ a0 ha0 => ⟨_, rfl, rfl, rfl, d, _, _, rfl, hd, rfl, s1, fun p1 hp1 => retd_new (q) (Ex.fd (e1.trans e2)) (w.ex (e1.trans e2)) hp1⟩, fun z => Bool.noConfusion z⟩⟩)⟩
      · exact iteF ⟨_, rfl, _, rfl, _, rfl, a, dx, h, _, an, _, rfl, w1, han1, .inr (.inr (.inr (.inr (.inr ⟨rfl, q1, fun n en => by rw [en] at q; exact fun d H2 e2 hd => ⟨true, exc_self T.e_Refused, fun _ a0 ha0 => ⟨_, rfl, rfl, rfl, d, _, _, rfl, hd, rfl, s1, fun p1 hp1 => retd_new (q) (Ex.fd (e1.trans e2)) (w.ex (e1.trans e2)) hp1⟩, fun z => Bool.noConfusion z⟩⟩))))⟩
end Sr
set_option Elab.async false
set_option linter.all false
set_option maxRecDepth 100000
/-! # The flat list of calls -/
namespace Sr
open Vamvsf (Call step)
open VamvsfNeutral (encode)
def numL : List Nat := [0, 0, 0, 1, 1, 0, 0, 0, 0, 0]
def lstL : List Nat := [1, 0, 1, 0, 0, 0, 0, 2, 1, 0]
structure GoodC (c : List (List Int)) (k : Nat) (ns : List Int) (lss : List (List Int)) (cc : Call) : Prop where
  e : c = ((k : Int) :: ns) :: lss
  k10 : k < 10
  hn : numL[k]? = some ns.length
  hl : lstL[k]? = some lss.length
  co : CallOf k ns lss cc
  st : ∀ o, VamvsfNeutral.step o (PyVamvsf.whole c) = ((step o cc).1, encode (step o cc).2)
theorem len1 {α : Type} {l : List α} (h : l.length = 1) : ∃ x, l = [x] := List.length_eq_one_iff.mp h
theorem len2 {α : Type} {l : List α} (h : l.length = 2) : ∃ x y, l = [x, y] := by
  match l, h with
  | [x, y], _ => exact ⟨x, y, rfl⟩
theorem nat8 {z : Int} (h : VamvsfNeutral.natural z 8 = true) : 0 ≤ z ∧ z < 256 := by
  obtain ⟨h1, h2⟩ := Bool.and_eq_true_iff.mp h
  exact ⟨of_decide_eq_true h1, by have := of_decide_eq_true h2; exact this⟩
theorem bytes_ok {b : List Int} (h : (b.all fun (z : Int) => VamvsfNeutral.natural z 8) = true) : NeutralIO.bytes b = true := by
  unfold NeutralIO.bytes
  rw [List.all_eq_true] at h ⊢
  intro z hz
  have := nat8 (h z hz)
  rw [Bool.and_eq_true_iff]
  exact ⟨decide_eq_true this.1, decide_eq_true (by omega)⟩
theorem good_of {c : List (List Int)} (h : PyFlat.okCall PyVamvsf.shape c) (ha : VamvsfNeutral.asked1 (PyVamvsf.whole c) = true) : ∃ k ns lss cc, GoodC c k ns lss cc := by
  obtain ⟨p, a, xs, rfl, hs⟩ := h
  unfold PyVamvsf.shape at hs
  by_cases e0 : p = 0
  · subst e0
    rw [if_pos rfl] at hs
    obtain ⟨ea, ex⟩ := Prod.mk.inj (Option.some.inj hs)
    have := List.length_eq_zero_iff.mp ea.symm; subst this
    obtain ⟨b, rfl⟩ := len1 ex.symm
    replace ha : ((b.all fun (z : Int) => VamvsfNeutral.natural z 8) && decide (b.length ≤ 8192)) = true := ha
    obtain ⟨h1, h2⟩ := Bool.and_eq_true_iff.mp ha
    refine ⟨0, [], [b], .load (VamvsfNeutral.bytesOf b), ⟨rfl, by decide, rfl, rfl, .inl ⟨rfl, b, rfl, fun z hz => nat8 (List.all_eq_true.mp h1 z hz), of_decide_eq_true h2, rfl⟩, fun o => ?_⟩⟩
    show (match (if NeutralIO.bytes b = true then some (Call.load (VamvsfNeutral.bytesOf b)) else none) with | some k => _ | none => _) = _
    rw [if_pos (bytes_ok h1)]
  rw [if_neg e0] at hs
  by_cases e1 : p = 1
  · subst e1
    rw [if_pos rfl] at hs
    obtain ⟨ea, ex⟩ := Prod.mk.inj (Option.some.inj hs)
    have := List.length_eq_zero_iff.mp ea.symm; subst this
    have := List.length_eq_zero_iff.mp ex.symm; subst this
    exact ⟨1, [], [], .shown, ⟨rfl, by decide, rfl, rfl, .inr (.inl ⟨rfl, rfl⟩), fun o => rfl⟩⟩
  rw [if_neg e1] at hs
  by_cases e2 : p = 2
  · subst e2
    rw [if_pos rfl] at hs
    obtain ⟨ea, ex⟩ := Prod.mk.inj (Option.some.inj hs)
    have := List.length_eq_zero_iff.mp ea.symm; subst this
    obtain ⟨l, rfl⟩ := len1 ex.symm
    replace ha : (l.all VamvsfNeutral.whole60 && decide (l.length ≤ 2000)) = true := ha
    exact ⟨2, [], [l], .readers l, ⟨rfl, by decide, rfl, rfl, .inr (.inr (.inl ⟨rfl, l, rfl, of_decide_eq_true (Bool.and_eq_true_iff.mp ha).2, rfl⟩)), fun o => rfl⟩⟩
  rw [if_neg e2] at hs
  by_cases e3 : p = 3
  · subst e3
    rw [if_pos rfl] at hs
    obtain ⟨ea, ex⟩ := Prod.mk.inj (Option.some.inj hs)
    have := List.length_eq_zero_iff.mp ex.symm; subst this
    obtain ⟨x, rfl⟩ := len1 ea.symm
    exact ⟨3, [x], [], .changes x, ⟨rfl, by decide, rfl, rfl, .inr (.inr (.inr (.inl ⟨rfl, x, rfl, rfl⟩))), fun o => rfl⟩⟩
  rw [if_neg e3] at hs
  by_cases e4 : p = 4
  · subst e4
    rw [if_pos rfl] at hs
    obtain ⟨ea, ex⟩ := Prod.mk.inj (Option.some.inj hs)
    have := List.length_eq_zero_iff.mp ex.symm; subst this
    obtain ⟨x, rfl⟩ := len1 ea.symm
    exact ⟨4, [x], [], .alone x, ⟨rfl, by decide, rfl, rfl, .inr (.inr (.inr (.inr (.inl ⟨rfl, x, rfl, rfl⟩)))), fun o => rfl⟩⟩
  rw [if_neg e4] at hs
  by_cases e5 : p = 5
  · subst e5
    rw [if_pos rfl] at hs
    obtain ⟨ea, ex⟩ := Prod.mk.inj (Option.some.inj hs)
    have := List.length_eq_zero_iff.mp ea.symm; subst this
    have := List.length_eq_zero_iff.mp ex.symm; subst this
    exact ⟨5, [], [], .shares, ⟨rfl, by decide, rfl, rfl, .inr (.inr (.inr (.inr (.inr (.inl ⟨rfl, rfl⟩))))), fun o => rfl⟩⟩
  rw [if_neg e5] at hs
  by_cases e6 : p = 6
  · subst e6
    rw [if_pos rfl] at hs
    obtain ⟨ea, ex⟩ := Prod.mk.inj (Option.some.inj hs)
    have := List.length_eq_zero_iff.mp ea.symm; subst this
    have := List.length_eq_zero_iff.mp ex.symm; subst this
    exact ⟨6, [], [], .unhappy, ⟨rfl, by decide, rfl, rfl, .inr (.inr (.inr (.inr (.inr (.inr (.inl ⟨rfl, rfl⟩)))))), fun o => rfl⟩⟩
  rw [if_neg e6] at hs
  by_cases e7 : p = 7
  · subst e7
    rw [if_pos rfl] at hs
    obtain ⟨ea, ex⟩ := Prod.mk.inj (Option.some.inj hs)
    have := List.length_eq_zero_iff.mp ea.symm; subst this
    obtain ⟨l1, l2, rfl⟩ := len2 ex.symm
    replace ha : ((l1.all VamvsfNeutral.whole60 && decide (l1.length ≤ 2000)) && (l2.all VamvsfNeutral.whole60 && decide (l2.length ≤ 2000))) = true := ha
    obtain ⟨h1, h2⟩ := Bool.and_eq_true_iff.mp ha
    exact ⟨7, [], [l1, l2], .bounds l1 l2, ⟨rfl, by decide, rfl, rfl, .inr (.inr (.inr (.inr (.inr (.inr (.inr (.inl ⟨rfl, l1, l2, rfl, of_decide_eq_true (Bool.and_eq_true_iff.mp h1).2, of_decide_eq_true (Bool.and_eq_true_iff.mp h2).2, rfl⟩))))))), fun o => rfl⟩⟩
  rw [if_neg e7] at hs
  by_cases e8 : p = 8
  · subst e8
    rw [if_pos rfl] at hs
    obtain ⟨ea, ex⟩ := Prod.mk.inj (Option.some.inj hs)
    have := List.length_eq_zero_iff.mp ea.symm; subst this
    obtain ⟨l, rfl⟩ := len1 ex.symm
    replace ha : (l.all VamvsfNeutral.whole60 && decide (l.length ≤ 2000)) = true := ha
    exact ⟨8, [], [l], .regret l, ⟨rfl, by decide, rfl, rfl, .inr (.inr (.inr (.inr (.inr (.inr (.inr (.inr (.inl ⟨rfl, l, rfl, of_decide_eq_true (Bool.and_eq_true_iff.mp ha).2, rfl⟩)))))))), fun o => rfl⟩⟩
  rw [if_neg e8] at hs
  by_cases e9 : p = 9
  · subst e9
    rw [if_pos rfl] at hs
    obtain ⟨ea, ex⟩ := Prod.mk.inj (Option.some.inj hs)
    have := List.length_eq_zero_iff.mp ea.symm; subst this
    have := List.length_eq_zero_iff.mp ex.symm; subst this
    exact ⟨9, [], [], .least, ⟨rfl, by decide, rfl, rfl, .inr (.inr (.inr (.inr (.inr (.inr (.inr (.inr (.inr ⟨rfl, rfl⟩)))))))), fun o => rfl⟩⟩
  rw [if_neg e9] at hs
  cases hs
/-- what's asked: calls of the shape, in bounds -/
theorem asked_calls {l : List Int} (h : PyVamvsf.answers_asked l = true) : ∃ raw, l = PyFlat.put raw ∧ (∀ c ∈ raw, ∃ k ns lss cc, GoodC c k ns lss cc) ∧ PyVamvsf.answers l = PyFlat.told (PyFlat.played VamvsfNeutral.step VamvsfNeutral.start (raw.map PyVamvsf.whole)) ∧ (PyVamvsf.answers l).length ≤ 10000000 := by
  unfold PyVamvsf.answers_asked at h
  cases hc : PyFlat.calls PyVamvsf.shape l.length l with
  | none => rw [hc] at h; cases h
  | some raw =>
    rw [hc] at h
    replace h : (!raw.isEmpty && PyFlat.atMost 20 raw && PyInside.calls PyVamvsf.bound raw && VamvsfNeutral.asked (raw.map PyVamvsf.whole) && PyFlat.short 10000000 (PyVamvsf.answers l)) = true := h
    obtain ⟨h, h5⟩ := Bool.and_eq_true_iff.mp h
    obtain ⟨h, h4⟩ := Bool.and_eq_true_iff.mp h
    obtain ⟨e, hok⟩ := PyFlat.put_calls _ _ _ hc
    refine ⟨raw, e, fun c hcm => good_of (hok c hcm) ?_, ?_, of_decide_eq_true h5⟩
    · have h6 := (Bool.and_eq_true_iff.mp h4).1
      exact List.all_eq_true.mp h6 _ (List.mem_map_of_mem hcm)
    · unfold PyVamvsf.answers PyVamvsf.calls
      rw [hc]
end Sr
set_option Elab.async false
set_option linter.all false
set_option maxRecDepth 100000
set_option maxHeartbeats 4000000
/-! # All calls -/
namespace Sr
open PySem PySem.Spec PyProof.Rows L2
open Evl (Ex)
open Vamvsf (Held Call step)
open VamvsfNeutral (encode)
theorem nums_at {g : Gx} (T : Tx g) (H : Hp) : SqT g.K H (He.ga g.K "NUMBERS") (numL.map nV) := He.tupB_ok T.tups.2.2.2.2.1 H
theorem lsts_at {g : Gx} (T : Tx g) (H : Hp) : SqT g.K H (He.ga g.K "LISTS") (lstL.map nV) := He.tupB_ok T.tups.2.2.2.2.2 H
theorem cut_mid {l A B C : List Int} {lo hi : Int} (e : l = A ++ (B ++ C)) (hl : lo = (A.length : Int)) (hh : hi = ((A.length + B.length : Nat) : Int)) : cutV (l.map V.int) (some lo) (some hi) = B.map V.int := by
  have e0 : (l.map V.int).length = A.length + (B.length + C.length) := by rw [e, List.length_map, List.length_append, List.length_append]
  unfold cutV
  rw [hl, hh, HT.sIx_nat, HT.sIx_nat, e0, Nat.min_eq_left (by omega), Nat.min_eq_left (by omega), e, List.map_append, List.map_append]
  rw [List.drop_left' (List.length_map _), Nat.add_sub_cancel_left, List.take_left' (List.length_map _)]
theorem at_mid {l A C : List Int} {z : Int} (e : l = A ++ (z :: C)) : (l.map V.int)[A.length]? = some (V.int z) := by
  rw [e, List.getElem?_map, List.getElem?_append_right (Nat.le_refl _), Nat.sub_self]; rfl
theorem at_last (xs : List V) (v : V) : atI (xs ++ [v]) (-1) = some v := by
  unfold atI ixN
  rw [List.length_append, List.length_singleton, if_neg (by decide), if_pos (by omega)]
  show (xs ++ [v])[_]? = some v
  rw [show (-1 + ((xs.length + 1 : Nat) : Int)).toNat = xs.length by omega, List.getElem?_append_right (Nat.le_refl _), Nat.sub_self]; rfl
theorem il_off {H : Hp} {v : V} {x : List Int} {p : Addr} {o : HO} (h : IlAt H v x) (n : v ≠ .ref p) : IlAt (upd H p o) v x := by
  obtain ⟨q, rfl, h⟩ := h
  exact ⟨q, rfl, by rw [upd_ne (fun z => n (by rw [z]))]; exact h⟩
theorem Ex.upd2 {H H' : Hp} {p : Addr} {o : HO} (e : Ex H H') : Ex (L2.upd H p o) (L2.upd H' p o) := fun b u h => by
  by_cases c : b = p
  · rw [c, upd_same] at h ⊢; exact h
  · rw [upd_ne c] at h ⊢; exact e _ _ h
theorem ObjAt.off {g : Gx} {H H' : Hp} {a dx p : Addr} {o : Vamvsf.Obj} (w : ObjAt g H a dx o) (b : Big H p) (n : a ≠ p) (f : Fd p H H') : ObjAt g H' a dx o := by
  cases o with
  | none => obtain ⟨vs, vr, vo, vb, vc, vk, h⟩ := w; exact ⟨vs, vr, vo, vb, vc, vk, f _ _ h n⟩
  | some h =>
    obtain ⟨ok, vt, vk, ls, ld, lo, lb, h1, q⟩ := w
    exact ⟨ok, vt, vk, ls, ld, lo, lb, f _ _ h1 n, q.fd b f⟩
theorem put_cons (c : List (List Int)) (k : Int) (ns : List Int) (lss : List (List Int)) (r : List (List (List Int))) (e : c = (k :: ns) :: lss) : PyFlat.put (c :: r) = k :: (ns ++ (PyFlat.putRows lss ++ PyFlat.put r)) := by
  rw [e]
  show (k :: ns) ++ PyFlat.putRows lss ++ PyFlat.put r = _
  rw [List.append_assoc]; rfl
theorem rows_take (lss : List (List Int)) (i : Nat) (x : List Int) (h : lss[i]? = some x) : PyFlat.putRows lss = PyFlat.putRows (lss.take i) ++ ((x.length : Int) :: (x ++ PyFlat.putRows (lss.drop (i + 1)))) ∧ (PyFlat.putRows (lss.take (i + 1))).length = (PyFlat.putRows (lss.take i)).length + 1 + x.length := by
  induction lss generalizing i with
  | nil => cases h
  | cons y r ih =>
    cases i with
    | zero =>
      cases h
      refine ⟨rfl, ?_⟩
      show (((x.length : Int) :: x) ++ []).length = 0 + 1 + x.length
      rw [List.append_nil, List.length_cons]; omega
    | succ i =>
      obtain ⟨h1, h2⟩ := ih i h
      constructor
      · show ((y.length : Int) :: y) ++ PyFlat.putRows r = ((y.length : Int) :: y) ++ PyFlat.putRows (r.take i) ++ _
        rw [List.append_assoc, h1]; rfl
      · show (((y.length : Int) :: y) ++ PyFlat.putRows (r.take (i + 1))).length = (((y.length : Int) :: y) ++ PyFlat.putRows (r.take i)).length + 1 + x.length
        rw [List.length_append, List.length_append, h2]; omega
abbrev toldR (o : Vamvsf.Obj) (rest : List (List (List Int))) : List Int := PyFlat.told (PyFlat.played VamvsfNeutral.step o (rest.map PyVamvsf.whole))
theorem told_cons {c : List (List Int)} {k : Nat} {ns : List Int} {lss : List (List Int)} {cc : Call} (G : GoodC c k ns lss cc) (o : Vamvsf.Obj) (r : List (List (List Int))) : toldR o (c :: r) = ((encode (step o cc).2).length : Int) :: (encode (step o cc).2 ++ toldR (step o cc).1 r) := by
  show PyFlat.told ((VamvsfNeutral.step o (PyVamvsf.whole c)).2 :: PyFlat.played VamvsfNeutral.step (VamvsfNeutral.step o (PyVamvsf.whole c)).1 (r.map PyVamvsf.whole)) = _
  rw [G.st o]; rfl
def sp_answers (g : Gx) : Sp := fun vs H Q E => ∃ (a : Addr) (l : List Int) (raw : List (List (List Int))), vs = [.ref a] ∧ SqL g.K H a (l.map V.int) ∧ l.length ≤ 17000 ∧ l = PyFlat.put raw ∧ (∀ c ∈ raw, ∃ k ns lss cc, GoodC c k ns lss cc) ∧ (toldR none raw).length ≤ 10000000 ∧ ∀ p H', Ex H H' → H' p = some (.lst ((toldR none raw).map V.int)) → Q (.ref p) H'
abbrev N_answers : List Str := ["calls", "desk", "found", "at", "call", "behind", "n", "lists", "k", "one"]
theorem sc_answers : FnScope N_answers ["calls"] (defScope s_answers) := ⟨rfl, rfl, rfl, by decide +kernel, rfl, by decide +kernel, by decide +kernel⟩
set_option maxHeartbeats 8000000 in
theorem body_answers {g : Gx} (T : Tx g) : Body0 g N_answers ["calls"] 10 "answers" s_answers (sp_answers g) := by
  intro f cdv A outer s H vs Q E hr h
  obtain ⟨a, l, raw, rfl, ha, hll, hput, hgood, hlen, q⟩ := h
  refine ⟨_, (pss_cons (ps_set (i := 1) sc_answers.nd rfl (Or.inl rfl) (pe_mk0 (ok_Desk_init T) hr (by decide) pass0 rfl)) (pss_cons (ps_set (i := 2) sc_answers.nd rfl (Or.inl rfl) (pe_lst pa_nil)) (pss_cons (ps_set (i := 3) sc_answers.nd rfl (Or.inl rfl) pe_int) (pss_cons (ps_while PassesOwn.never (pt_cmpR op_lt (pv 3) (pe_callB call_len_seq rfl T.f_len PySem.boot_len (pa_cons (pv 0) pa_nil)) (nomark _)) (pss_cons (ps_set (i := 4) sc_answers.nd rfl (Or.inl rfl) (pe_ix (r := rIxL g.K) ix_list (pv 0) (pv 3) (fun _ _ => rfl))) (pss_cons (ps_set (i := 5) sc_answers.nd rfl (Or.inl rfl) (pe_op op_add (pe_op op_add (pv 3) pe_int) (pe_ix (r := rIxT g.K) ix_tup (pe_gc rfl T.g_NUMBERS) (pv 4) (fun _ _ => rfl)))) (pss_cons (ps_set (i := 6) sc_answers.nd rfl (Or.inl rfl) (pe_slice sl_list (pv 0) (po_some (pe_op op_add (pv 3) pe_int)) (po_some (pv 5)))) (pss_cons (ps_set (i := 7) sc_answers.nd rfl (Or.inl rfl) (pe_lst pa_nil)) (pss_cons (ps_for PassesOwn.never rfl (pi_range1 rfl T.f_range (pa_cons (pe_ix (r := rIxT g.K) ix_tup (pe_gc rfl T.g_LISTS) (pv 4) (fun _ _ => rfl)) pa_nil)) (pg_name (i := 8) sc_answers.nd rfl (Or.inl rfl)) (pss_cons (ps_expr (pe_bm PySem.F.plainAttrs_list PySem.F.slot_list_append PySem.F.type_list_append mt_append (pv 7) (pa_cons (pe_slice sl_list (pv 0) (po_some (pe_op op_add (pv 5) pe_int)) (po_some (pe_op op_add (pe_op op_add (pv 5) pe_int) (pe_ix (r := rIxL g.K) ix_list (pv 0) (pv 5) (fun _ _ => rfl))))) pa_nil))) (pss_one (ps_set (i := 5) sc_answers.nd rfl (Or.inl rfl) (pe_op op_add (pe_op op_add (pv 5) pe_int) (pe_callB call_len_seq rfl T.f_len PySem.boot_len (pa_cons (pe_ix (r := rIxL g.K) ix_list (pv 7) (pe_un un_neg pe_int) (fun _ _ => rfl)) pa_nil))))))) (pss_cons (ps_set (i := 9) sc_answers.nd rfl (Or.inl rfl) (pe_lock (pe_gl (ok_answer T) hr (by decide) pass0 rfl (pa_cons (pv 1) (pa_cons (pv 4) (pa_cons (pv 6) (pa_cons (pv 7) pa_nil))))))) (pss_cons (ps_expr (pe_bm PySem.F.plainAttrs_list PySem.F.slot_list_append PySem.F.type_list_append mt_append (pv 2) (pa_cons (pe_callB call_len_seq rfl T.f_len PySem.boot_len (pa_cons (pv 9) pa_nil)) pa_nil))) (pss_cons (ps_expr (pe_bm PySem.F.plainAttrs_list PySem.F.slot_list_extend PySem.F.type_list_extend mt_extend (pv 2) (pa_cons (pv 9) pa_nil))) (pss_one (ps_set (i := 3) sc_answers.nd rfl (Or.inl rfl) (pv 5)))))))))))) (pss_one (ps_ret (pv 2))))))), ?_⟩

  have hsz := sizeLine_eq
  intro ad dx had hdx hne
  refine ⟨ad, dx, rfl, upd_same, fun H0 f0 w0 => ⟨rfl, ?_⟩⟩
  have e0 : Ex H H0 := fun b o hb => f0 b o (by
    have n1 : b ≠ ad := fun z => by rw [z, had] at hb; cases hb
    have n2 : b ≠ dx := fun z => by rw [z, hdx] at hb; cases hb
    rw [upd_ne n1, upd_ne n2]; exact hb) (fun z => by rw [z, had] at hb; cases hb)
  refine ⟨by decide, fun pf hpf => ?_⟩
  have hpfH : H pf = none := Evl.fresh_back e0 hpf
  have nad : ad ≠ pf := fun z => by
    obtain ⟨x, hx⟩ := w0.some_at
    rw [z, hpf] at hx; cases hx
  generalize hT : toldR none raw = TOT at hlen q
  refine ⟨fun m σ H' => ∃ (pre : List Int) (rest : List (List (List Int))) (o : Vamvsf.Obj) (out : List Int), m = rest.length ∧ l = pre ++ PyFlat.put rest ∧ TOT = out ++ toldR o rest ∧ (∀ c ∈ rest, ∃ k ns lss cc, GoodC c k ns lss cc) ∧ (∃ z4 z5 z6 z7 z8 z9 : Option V, σ = [some (.ref a), some (.ref ad), some (.ref pf), some (nV pre.length), z4, z5, z6, z7, z8, z9]) ∧ Ex H H' ∧ H' pf = some (.lst (out.map V.int)) ∧ ∀ od, ObjAt g (upd H' pf (.frz od (.lst (out.map V.int)))) ad dx o,
    ⟨_, [], raw, none, [], rfl, hput, hT.symm, hgood, ⟨none, none, none, none, none, none, rfl⟩, e0.trans (Ex.new hpf), upd_same, fun od => by rw [upd_upd]; exact w0.ex (Ex.new hpf)⟩, ?_⟩
  rintro m σ H1 ⟨pre, rest, o, out, rfl, hl, hTo, hg, ⟨z4, z5, z6, z7, z8, z9, rfl⟩, e1, hf1, hw1⟩
  have ha1 := Evl.ex_l e1 ha
  refine ⟨_, rfl, _, rfl, a, _, rfl, .inl ha1, _, _, rfl, rfl, _, rfl, ?_⟩
  rw [List.length_map]
  cases rest with
  | nil =>
    have e : l.length = pre.length := by rw [hl]; show (pre ++ []).length = _; rw [List.append_nil]
    rw [e, decide_eq_false (Int.lt_irrefl _)]
    have eT : TOT = out := by rw [hTo]; show out ++ [] = out; exact List.append_nil _
    exact iteF ⟨_, rfl, q pf H1 e1 (by rw [eT]; exact hf1)⟩
  | cons c r =>
    obtain ⟨k, ns, lss, cc, G⟩ := hg c List.mem_cons_self
    have hl2 : l = pre ++ ((k : Int) :: (ns ++ (PyFlat.putRows lss ++ PyFlat.put r))) := by rw [hl, put_cons c k ns lss r G.e]
    have hlt : (pre.length : Int) < (l.length : Int) := by
      rw [hl2, List.length_append, List.length_cons]; omega
    rw [decide_eq_true hlt]
    refine iteT ⟨fun σ' H' => ∃ (o' : Vamvsf.Obj) (out' : List Int), l = (pre ++ ((k : Int) :: (ns ++ PyFlat.putRows lss))) ++ PyFlat.put r ∧ TOT = out' ++ toldR o' r ∧ (∃ z4 z5 z6 z7 z8 z9 : Option V, σ' = [some (.ref a), some (.ref ad), some (.ref pf), some (nV (pre ++ ((k : Int) :: (ns ++ PyFlat.putRows lss))).length), z4, z5, z6, z7, z8, z9]) ∧ Ex H H' ∧ H' pf = some (.lst (out'.map V.int)) ∧ ∀ od, ObjAt g (upd H' pf (.frz od (.lst (out'.map V.int)))) ad dx o', ?_, ?_⟩
    · rintro σ' H' ⟨o', out', h1, h2, h3, h4, h5, h6⟩
      exact ⟨r.length, by show r.length < r.length + 1; omega, _, r, o', out', rfl, h1, h2, fun c' hc' => hg c' (List.mem_cons_of_mem _ hc'), h3, h4, h5, h6⟩
    have hnum := nums_at T H1
    have ak : (l.map V.int)[pre.length]? = some (nV k) := at_mid hl2
    have an : (numL.map nV)[k]? = some (nV ns.length) := by rw [List.getElem?_map, G.hn]; rfl
    have al : (lstL.map nV)[k]? = some (nV lss.length) := by rw [List.getElem?_map, G.hl]; rfl
    refine ⟨_, rfl, _, rfl, a, _, (pre.length : Int), _, rfl, rfl, ha1, atI_n ak, ?_⟩
    refine ⟨_, rfl, _, _, rfl, rfl, _, rfl, _, _, (k : Int), _, rfl, rfl, nums_at T H1, atI_n an, _, _, rfl, rfl, ?_⟩
    -- the numbers
    refine ⟨_, rfl, _, rfl, _, _, rfl, rfl, _, rfl, _, rfl, _, rfl, a, _, rfl, ha1, fun p6 hp6 => ?_⟩
    have hl3 : l = (pre ++ [(k : Int)]) ++ (ns ++ (PyFlat.putRows lss ++ PyFlat.put r)) := by rw [hl2, List.append_assoc]; rfl
    rw [cut_mid (A := pre ++ [(k : Int)]) (B := ns) hl3 (by rw [List.length_append, List.length_singleton]; omega) (by rw [List.length_append, List.length_singleton]; omega)]
    have e6 := Ex.new (o := HO.lst (ns.map V.int)) hp6
    have h6 : (upd H1 p6 (HO.lst (ns.map V.int))) p6 = some (HO.lst (ns.map V.int)) := upd_same
    have hne6 : p6 ≠ pf := fun z => by rw [z, hf1] at hp6; cases hp6
    refine (?_ : ∀ H2, Ex H1 H2 → H2 p6 = some (HO.lst (ns.map V.int)) → gName 6 (V.ref p6) _ H2 _) _ e6 h6
    clear e6 h6 hp6
    intro H2 e2 h6
    refine ⟨by decide, fun p7 hp7 => ?_⟩
    have ha2 := Evl.ex_l e2 ha1
    have hls2 : lss.length ≤ 2 := by
      have := List.mem_of_getElem? G.hl
      unfold lstL at this
      simp only [List.mem_cons, List.not_mem_nil, or_false] at this
      omega
    refine ⟨_, rfl, _, _, (k : Int), _, rfl, rfl, lsts_at T _, atI_n al, _, rfl, by omega, by omega, ?_⟩
    rw [Int.toNat_natCast]
    have e7 := Ex.new (o := HO.lst []) hp7
    refine for_range (lo := 0) (n := lss.length) (fun i σ H' => Ex H2 H' ∧ (∃ lv, H' p7 = some (.lst lv) ∧ lv.length = i ∧ Paired (fun v x => IlAt H' v x ∧ v ≠ .ref p7 ∧ v ≠ .ref pf) lv (lss.take i)) ∧ ∃ z8 z9 : Option V, σ = [some (.ref a), some (.ref ad), some (.ref pf), some (nV pre.length), some (nV k), some (.int ((pre.length : Int) + 1 + (ns.length : Int) + ((PyFlat.putRows (lss.take i)).length : Int))), some (.ref p6), some (.ref p7), z8, z9])
      ⟨e7, ⟨[], upd_same, rfl, .nil⟩, z8, z9, ?_⟩ (fun i σ H3 hi hP => ?_) (fun σ H3 hP => ?_)
    · show [_, _, _, _, _, some (V.int ((pre.length : Int) + 1 + (ns.length : Int))), _, _, _, _] = [_, _, _, _, _, some (V.int (_ + ((0 : Nat) : Int))), _, _, _, _]
      rw [show (pre.length : Int) + 1 + (ns.length : Int) + ((0 : Nat) : Int) = (pre.length : Int) + 1 + (ns.length : Int) by omega]
    · obtain ⟨e3, ⟨lv, h7, hlv, hpr⟩, z8, z9, rfl⟩ := hP
      obtain ⟨x, hx⟩ : ∃ x, lss[i]? = some x := ⟨_, List.getElem?_eq_getElem hi⟩
      obtain ⟨r1, r2⟩ := rows_take lss i x hx
      have hA : (pre ++ ((k : Int) :: (ns ++ PyFlat.putRows (lss.take i)))).length = pre.length + 1 + ns.length + (PyFlat.putRows (lss.take i)).length := by
        rw [List.length_append, List.length_cons, List.length_append]; omega
      have hl4 : l = (pre ++ ((k : Int) :: (ns ++ PyFlat.putRows (lss.take i)))) ++ ((x.length : Int) :: (x ++ (PyFlat.putRows (lss.drop (i + 1)) ++ PyFlat.put r))) := by
        rw [hl2, r1]; simp only [List.append_assoc, List.cons_append]
      have hl5 : l = (pre ++ ((k : Int) :: (ns ++ PyFlat.putRows (lss.take i))) ++ [(x.length : Int)]) ++ (x ++ (PyFlat.putRows (lss.drop (i + 1)) ++ PyFlat.put r)) := by
        rw [hl4]; simp only [List.append_assoc, List.cons_append, List.nil_append]
      have ax := at_mid hl4
      rw [hA] at ax
      have bI : ((pre.length : Int) + 1 + (ns.length : Int) + ((PyFlat.putRows (lss.take i)).length : Int)) = ((pre.length + 1 + ns.length + (PyFlat.putRows (lss.take i)).length : Nat) : Int) := by omega
      rw [bI]
      have ha3 := Evl.ex_l e3 ha2
      refine ⟨_, rfl, .inl ⟨rfl, _, .inl (.inl h7)⟩, _, rfl, _, rfl, _, _, rfl, rfl, _, rfl, _, rfl, _, _, rfl, rfl, _, rfl, _, rfl, a, _, _, V.int (x.length : Int), rfl, rfl, ha3, atI_n ax, _, _, rfl, rfl, _, rfl, a, _, rfl, ha3, fun px hpx => ?_⟩
      rw [cut_mid hl5 (by rw [List.length_append, hA, List.length_singleton]; omega) (by rw [List.length_append, hA, List.length_singleton]; omega)]
      have e4 := Ex.new (o := HO.lst (x.map V.int)) hpx
      have h74 := e4 _ _ h7
      have hx4 : (upd H3 px (HO.lst (x.map V.int))) px = some (HO.lst (x.map V.int)) := upd_same
      have np7 : px ≠ p7 := fun z => by rw [z, h7] at hpx; cases hpx
      have npf : px ≠ pf := fun z => by rw [z, e3 _ _ (e2 _ _ hf1)] at hpx; cases hpx
      generalize (upd H3 px (HO.lst (x.map V.int))) = H4 at e4 h74 hx4 ⊢
      have hx5 : (upd H4 p7 (HO.lst (lv ++ [V.ref px]))) px = some (HO.lst (x.map V.int)) := by rw [upd_ne np7]; exact hx4
      refine ⟨p7, _, _, rfl, rfl, h74, by omega, ?_⟩
      refine ⟨_, rfl, _, _, rfl, rfl, _, rfl, _, rfl, p7, _, (-1 : Int), .ref px, rfl, rfl, .inl (.inl upd_same), at_last _ _, px, _, rfl, .inl (.inl (.inl hx5)), _, _, rfl, rfl, ?_⟩
      refine ⟨Ex.mut (e3.trans e4) hp7, ⟨_, upd_same, by rw [List.length_append, hlv]; rfl, ?_⟩, some (V.int (0 + (i : Nat))), z9, ?_⟩
      · rw [List.take_add_one, hx]
        refine paired_snoc (paired_keep (fun v y h => ⟨il_off (IlAt.ex e4 h.1) h.2.1, h.2⟩) hpr) ⟨⟨px, rfl, hx5⟩, fun z => np7 (V.ref.inj z), fun z => npf (V.ref.inj z)⟩
      · rw [List.length_map]
        have : ((pre.length : Int) + 1 + (ns.length : Int) + ((PyFlat.putRows (lss.take (i + 1))).length : Int)) = (((pre.length + 1 + ns.length + (PyFlat.putRows (lss.take i)).length : Nat) : Int) + 1 + ((x.length : Nat) : Int)) := by rw [r2]; omega
        rw [this]
        rfl
    · obtain ⟨e3, ⟨lv, h7, hlv, hpr⟩, z8, z9, rfl⟩ := hP
      rw [List.take_length] at hpr ⊢
      have hf3 := e3 _ _ (e2 _ _ hf1)
      have h63 := e3 _ _ h6
      have e13 := e2.trans e3
      have n7f : p7 ≠ pf := fun z => by rw [z, e2 _ _ hf1] at hp7; cases hp7
      refine ⟨pf, _, hf3, trivial, fun od => ?_⟩
      have hF : (upd H3 pf (.frz od (.lst (out.map V.int)))) pf = some (.frz od (.lst (out.map V.int))) := upd_same
      have hob := (hw1 od).ex (Ex.upd2 (p := pf) (o := .frz od (.lst (out.map V.int))) e13)
      refine ⟨_, rfl, _, rfl, _, rfl, _, rfl, ad, dx, o, k, p6, p7, ns, lv, lss, cc, rfl, hob, by rw [upd_ne hne6]; exact h63, by rw [upd_ne n7f]; exact h7, paired_keep (fun v y h => il_off h.1 h.2.2) hpr, G.co, fun pr H7 hprn f7 w7 h7r => ?_⟩
      have hF7 := f7 _ _ hF (Ne.symm nad)
      have npr : pr ≠ pf := fun z => by rw [z, hF] at hprn; cases hprn
      refine ⟨hF7, ?_⟩
      have hTo2 := told_cons G o r
      rw [hTo2] at hTo
      have hTl : TOT.length = out.length + (1 + ((encode (step o cc).2).length + (toldR (step o cc).1 r).length)) := by
        rw [hTo, List.length_append, List.length_cons, List.length_append]; omega
      have h8r : (upd H7 pf (.lst (out.map V.int))) pr = some (.lst ((encode (step o cc).2).map V.int)) := by rw [upd_ne npr]; exact h7r
      refine ⟨_, rfl, .inl ⟨rfl, _, .inl (.inl upd_same)⟩, _, rfl, pr, _, rfl, .inl (.inl (.inl h8r)), pf, _, _, rfl, rfl, upd_same, by rw [List.length_map]; omega, ?_⟩
      rw [upd_upd]
      have h9r : ∀ z, (upd H7 pf z) pr = some (.lst ((encode (step o cc).2).map V.int)) := fun z => by rw [upd_ne npr]; exact h7r
      refine ⟨_, rfl, .inl ⟨rfl, _, .inl (.inl upd_same)⟩, _, rfl, pf, pr, _, _, rfl, rfl, upd_same, h9r _, by rw [List.length_append, List.length_map, List.length_map, List.length_singleton]; omega, ?_⟩
      rw [upd_upd]
      have eo : out.map V.int ++ [V.int ((((encode (step o cc).2).map V.int).length : Nat) : Int)] ++ (encode (step o cc).2).map V.int = (out ++ (((encode (step o cc).2).length : Int) :: encode (step o cc).2)).map V.int := by
        rw [List.length_map, List.map_append, List.append_assoc]; rfl
      rw [eo]
      refine ⟨_, rfl, (step o cc).1, out ++ (((encode (step o cc).2).length : Int) :: encode (step o cc).2), ?_, ?_, ⟨some (nV k), some (V.int ((pre.length : Int) + 1 + (ns.length : Int) + ((PyFlat.putRows lss).length : Int))), some (.ref p6), some (.ref p7), z8, some (.ref pr), ?_⟩, fun b u hb => ?_, upd_same, fun od2 => ?_⟩
      · rw [hl2]; simp only [List.append_assoc, List.cons_append]
      · rw [hTo]; simp only [List.append_assoc, List.cons_append]
      · have eL : ((pre.length : Int) + 1 + (ns.length : Int) + ((PyFlat.putRows lss).length : Int)) = (((pre ++ ((k : Int) :: (ns ++ PyFlat.putRows lss))).length : Nat) : Int) := by
          rw [List.length_append, List.length_cons, List.length_append]; omega
        rw [eL]
        rfl
      · have nb1 : b ≠ pf := fun z => by rw [z, hpfH] at hb; cases hb
        have nb2 : b ≠ ad := fun z => by rw [z, had] at hb; cases hb
        rw [upd_ne nb1]
        exact f7 _ _ (by rw [upd_ne nb1]; exact e13 _ _ (e1 _ _ hb)) nb2
      · rw [upd_upd]
        exact w7.off (big_frz hF7) nad Fd.upd
end Sr
set_option Elab.async false
set_option linter.all false
set_option maxRecDepth 100000
set_option maxHeartbeats 4000000
/-! # The end -/
namespace Sr
open PySem PySem.Spec PyProof.Rows L2
/-- the walk of the asked def, its known heap told by the head -/
theorem walk_here {r : PySem.W.OpenSpec} {k : Nat} {q : Program} {loose : List Str} {XP : (Str → Option Value) → Heap → Prop} {YP : World → Heap → Prop} {d : DefRec} {CX : CXT} {ps : List Str}
    (hwell : r.wellSaid = true) (hdf : d.params.defaults = []) (hlen : r.args.length = ps.length) (hr : Room k callerA)
    (F : ∀ (w : World) (mg : Str → Option Value) (fa : Addr) (h : Heap), YP w h → h.Ns mainGlobals mg → mg d.name = some (.ref fa) →
      ∃ (K : PySem.W.Frag) (fd : FuncData) (sp : Sp), K.In h ∧ (∀ (s : Shared) (us : List Value), us.length = ps.length → BindsTo s fd ⟨us, []⟩ (ps.zip us)) ∧
        (∀ (H : Hp) (xs : List V) (a : PySem.W.Codec.denoteAll r.args), OnlyF H → PySem.W.Codec.withinAll r.args a = true → PySem.W.Codec.app r.args r.asked a = true → DwAll K H xs (PySem.W.Codec.encAll r.args a) →
          sp xs H (fun v H' => Dw K H' v (r.ret.enc (PySem.W.Codec.app r.args r.f a))) fun _ _ _ => False) ∧
        ∀ base : Heap, K.In base → base.Ns mainGlobals mg → FnOk r.prog w K mg base CX k fa fd ps sp)
    (hCX : ∀ (H : Hp) (s : Shared) (e : Value) (s' : Shared), CX [] H s (fun _ _ _ => False) e s' → False) :
    PySem.W.WalkOS q loose XP YP r d [] (fun f vs => PySem.call f vs) := by
  intro w s₀ s₁ mg mb G Y fa o pm cd doc dV kV ho hd hcd hD hmg hg args vals as hpre hlay hrd hwl hlo
  obtain ⟨a, e1, e2⟩ := PySem.W.os_pre_some hpre
  obtain ⟨e3, hwi⟩ := PySem.W.Codec.encAll_of_decAll r.args args a e1
  subst e3
  obtain ⟨K, fd, sp, KX, hb, hsp, hF⟩ := F w mg fa _ Y G.T.g hmg
  refine PySem.W.enter_call (codeAny_mono (spec_call (R := []) (cl := classAt s₀.heap) (d0 := r.ret.enc (PySem.W.Codec.app r.args r.f a)) KX G.T.g G.T.b G.T.builtins G.T.nolimit hg hwl (pl_encAll _ _) (layable_weight hlay) hr hF hb (by rw [encAll_len]; exact hlen)
    (fun H xs hO hS => hsp H xs a hO hwi e2 hS) fun H e s' => hCX H s₁ e s') fun r' s' hq => ?_)
  obtain ⟨u, as', rfl, h1, h2, h3, h4⟩ := hq
  exact ⟨.inl ⟨u, _, as', rfl, fun _ => rfl, h1, (PySem.W.OpenSpec.post_iff hwell hwi _ _).mpr rfl, fun z => Bool.noConfusion (show false = true from z)⟩, h2, h3, h4⟩
/-- what is asked fits the walk -/
theorem fits {g : Gx} {H : Hp} {a : Addr} {l : List Int} (hs : SqL g.K H a (l.map V.int)) (hl : l.length ≤ 17000) (h : PyVamvsf.answers_asked l = true) {E : XK} : sp_answers g [.ref a] H (fun v H' => Dw g.K H' v (.list ((PyVamvsf.answers l).map PySem.W.WData.int))) E := by
  obtain ⟨raw, e, hg, ha, hn⟩ := asked_calls h
  rw [ha] at hn ⊢
  exact ⟨a, l, raw, rfl, hs, hl, e, hg, hn, fun p H' ex hp => .lst (L2.SqL.of hp) (L2.dw_ints _)⟩
theorem def_here {P : Program} {w : World} {K : PySem.W.Frag} {mg : Str → Option Value} {h : Heap} (hK : K.In h) (G : h.Ns mainGlobals mg) (hS : He.SaysD fal fnl K) (hX : exl K = true) {fa : Addr} (hm : mg "answers" = some (.ref fa)) :
    ∃ fd : FuncData, (∀ (s : Shared) (us : List Value), us.length = (["calls"] : List Str).length → BindsTo s fd ⟨us, []⟩ ((["calls"] : List Str).zip us)) ∧ ∀ base : Heap, K.In base → base.Ns mainGlobals mg → FnOk P w K mg base L2.CX0 11 fa fd ["calls"] (sp_answers ⟨P, w, K, mg, h⟩) := by
  have T0 : Tx ⟨P, w, K, mg, h⟩ := ⟨hK, G, hS, hX⟩
  have e := hm.symm.trans T0.d_answers
  cases e
  obtain ⟨fd, F⟩ := hS.def_ 76 (d := d_answers) rfl
  refine ⟨fd, fun s us hu => ?_, fun base hb hn => ?_⟩
  · obtain ⟨oc, od, dV, kV, doc, pm, an, cdv, ct, osl, rfl, lk, hcd, hD, hKw⟩ := F.ex
    rcases hD with ⟨_, rfl⟩ | ⟨e, _⟩
    · match us, hu with
      | [_], _ => exact .of_eq rfl
    · exact absurd rfl e
  · have T : Tx ⟨P, w, K, mg, base⟩ := ⟨hb, hn, hS, hX⟩
    exact FunD.ok F sc_answers (fun vs H Q E h => by obtain ⟨a, l, raw, rfl, _⟩ := h; rfl) fun cdv A outer s H vs Q E hr hs => let ⟨t, h1, h2⟩ := body_answers T _ cdv A outer s H vs Q E hr hs; ⟨t, h1.nox, h2⟩
end Sr
open PySem PySem.W PyProof.Rows
set_option maxRecDepth 100000 in
set_option maxHeartbeats 8000000 in
theorem PySem.Challenge.cw_sharesregrets_s01_answers_holds : PySem.Challenge.rw_sharesregrets_s01_answers.Holds := by
  w_on
  refine HandSHeadRun.head_spec (r := PySem.Challenge.rw_sharesregrets_s01_answers) (q := Sr.qv) (H := Sr.hookM) (ob := Sr.obM) (M := 4500) (loose := Sr.names) (kwd := []) Sr.obM_eq (by kernel_rfl) (fun s => by kernel_rfl) (fun w os => Sr.run w os) (by rfl) (by rfl) (by rfl) os_shapes (by first | assumption | decide +kernel) (by decide +kernel) ⟨rfl, rfl, rfl, rfl, rfl, by decide +kernel⟩ ?hw ?hc
  case hw => exact ⟨[.list [.int 1]], by decide +kernel, by decide +kernel⟩
  case hc =>
    refine Sr.walk_here (r := PySem.Challenge.rw_sharesregrets_s01_answers) (k := 11) (CX := L2.CX0) (ps := ["calls"]) (by decide +kernel) rfl rfl ⟨rfl, by decide, by decide⟩ ?F (fun _ _ _ _ z => z)
    intro w mg fa h Y G hmg
    obtain ⟨K, hK, hS, hX⟩ := Y
    obtain ⟨fd, hb, hF⟩ := Sr.def_here (P := Sr.Pr) (w := w) hK G hS hX hmg
    refine ⟨K, fd, _, hK, hb, fun H xs a hO hwi hask hx => ?_, hF⟩
    cases hx with
    | cons h1 h2 =>
      cases h2
      cases h1 with
      | lst hs ha =>
        have e := L2.ints_dw a.1 _ ha
        subst e
        have q : ((Codec.inLen 0 17000 a.1 && a.1.all (Codec.inInt (-1000000000000000000) 1000000000000000000)) && true) = true := hwi
        rw [Bool.and_eq_true, Bool.and_eq_true] at q
        exact Sr.fits (g := ⟨Sr.Pr, w, K, mg, h⟩) hs (Codec.inNat_iff.mp q.1.1).2 hask
#print axioms PySem.Challenge.cw_sharesregrets_s01_answers_holds
