import PyProof.Rows.All
import Wide.All
import OpenK.AllK
import Wide.FinOn
import KE.KStateDown
import HandS.ForMost
import HandS.ForExc
import HandS.Defaults
import HandS.Head0
import HandS.Head1
import HandS.Head2
import HandS.HeadEnd
import HandS.HeadHook1
import HandS.HeadHook2
import HandS.HeadHook3
import HandS.HeadHook4
import PySem.Challenge.RW_startlog_k64_whole_starts_and_logs_that
import HandS.Codes
import HandS.IsInst
import HandS.Walk
import HandS.Flow
import HandS.Style
import HandS.StrMore
import HandS.Strs
import HandS.More
import HandS.Zip
import HandS.MakeKw
import HandS.Deep
import HandS.TupLe
import HandS.TupAny
import HandS.Conv
import HandS.Replace
import KE.KUnpackStar
import KE.KDictZip
import KE.KItemsList
import HandS.ListItems
import OpenK.KOps
import HandS.WordsDict
set_option Elab.async false
set_option linter.all false
set_option maxRecDepth 100000
set_option maxHeartbeats 0

namespace Hd
open PySem PySem.Spec PyProof.Rows L2
/-! the text by places -/
def top (i : Nat) : Stmt := PySem.Challenge.pw_startlog_k64_whole_starts_and_logs_that.main.body.getD i (.Pass ⟨0, 0, 0, 0⟩)
abbrev sis_name : Stmt := top 22
abbrev sname_number : Stmt := top 23
abbrev sis_from : Stmt := top 27
abbrev sis_noted : Stmt := top 28
abbrev sis_row : Stmt := top 29
abbrev srow_number : Stmt := top 30
abbrev sis_between : Stmt := top 36
abbrev sdivisor_of : Stmt := top 37
abbrev sMixing_init : Stmt := inClass (top 39) 0
abbrev sMixing_begin : Stmt := inClass (top 39) 1
abbrev sMixing_mixed : Stmt := inClass (top 39) 2
abbrev ssign_of : Stmt := top 41
abbrev sis_count : Stmt := top 44
abbrev sis_value : Stmt := top 45
abbrev sis_values : Stmt := top 46
abbrev sis_quote : Stmt := top 47
abbrev snumbers_of : Stmt := top 48
abbrev sis_signed : Stmt := top 49
abbrev scan_stand : Stmt := top 54
abbrev sfault : Stmt := top 55
abbrev slook_log : Stmt := top 57
abbrev srow_behind : Stmt := top 58
abbrev sreplays : Stmt := top 59
abbrev sreplay : Stmt := top 60
abbrev sleads_to : Stmt := top 61
abbrev sfirst_false : Stmt := top 63
abbrev sverdict : Stmt := top 79
abbrev sfits : Stmt := top 80
abbrev sis_rows : Stmt := top 82
abbrev sEntry_init : Stmt := inClass (top 83) 0
abbrev sEntry_goes_back : Stmt := inClass (top 83) 2
abbrev sEntry_is_cut : Stmt := inClass (top 83) 3
abbrev sEntry_is_few : Stmt := inClass (top 83) 4
abbrev sEntry_leads : Stmt := inClass (top 83) 5
abbrev sEntry_word_of : Stmt := inClass (top 83) 6
abbrev sEntry_take : Stmt := inClass (top 83) 7
abbrev sBook_init : Stmt := inClass (top 84) 0
abbrev sBook_len : Stmt := inClass (top 84) 1
abbrev sBook_entry_of : Stmt := inClass (top 84) 2
abbrev sBook_know : Stmt := inClass (top 84) 3
abbrev sBook_put : Stmt := inClass (top 84) 4
abbrev sBook_ask : Stmt := inClass (top 84) 6
abbrev sBook_take : Stmt := inClass (top 84) 8
abbrev sBook_names : Stmt := inClass (top 84) 9
abbrev sBook_asked : Stmt := inClass (top 84) 10
abbrev sBook_last : Stmt := inClass (top 84) 11
abbrev sBook_history : Stmt := inClass (top 84) 12
abbrev sL_box : Stmt := top 86
abbrev sL_take : Stmt := top 87
abbrev sL_pick : Stmt := top 88
abbrev sL_names : Stmt := top 89
abbrev sL_same : Stmt := top 90
abbrev sL_name_number : Stmt := top 91
abbrev sL_row_number : Stmt := top 92
abbrev sL_shares : Stmt := top 93
abbrev sL_how : Stmt := top 94
abbrev sL_mixed : Stmt := top 95
abbrev sL_replay : Stmt := top 96
abbrev sL_note : Stmt := top 97
abbrev sL_row : Stmt := top 98
abbrev sL_log : Stmt := top 99
abbrev sL_fault : Stmt := top 100
abbrev sL_folded_sign : Stmt := top 101
abbrev sL_quote : Stmt := top 102
abbrev sL_verdict : Stmt := top 104
abbrev sL_stock : Stmt := top 105
abbrev sL_begun : Stmt := top 106
abbrev sL_known_as : Stmt := top 107
abbrev sL_asked_now : Stmt := top 108
abbrev sL_ask : Stmt := top 109
abbrev sL_late_word : Stmt := top 110
abbrev sL_word : Stmt := top 111
abbrev sL_stands : Stmt := top 112
abbrev sL_pairs_of : Stmt := top 113
abbrev sL_tried : Stmt := top 114
abbrev sL_otherwise : Stmt := top 115
abbrev sL_right : Stmt := top 116
abbrev slaw : Stmt := top 117
/-! the defs as data -/
def dis_name : He.DefD := ⟨("is_name", none), "is_name", "is_name", defArgs sis_name, defBody sis_name, defScope sis_name, [], []⟩
def dname_number : He.DefD := ⟨("name_number", none), "name_number", "name_number", defArgs sname_number, defBody sname_number, defScope sname_number, [], []⟩
def dis_from : He.DefD := ⟨("is_from", none), "is_from", "is_from", defArgs sis_from, defBody sis_from, defScope sis_from, [], []⟩
def dis_noted : He.DefD := ⟨("is_noted", none), "is_noted", "is_noted", defArgs sis_noted, defBody sis_noted, defScope sis_noted, [], []⟩
def dis_row : He.DefD := ⟨("is_row", none), "is_row", "is_row", defArgs sis_row, defBody sis_row, defScope sis_row, [], []⟩
def drow_number : He.DefD := ⟨("row_number", none), "row_number", "row_number", defArgs srow_number, defBody srow_number, defScope srow_number, [], []⟩
def dis_between : He.DefD := ⟨("is_between", none), "is_between", "is_between", defArgs sis_between, defBody sis_between, defScope sis_between, [], []⟩
def ddivisor_of : He.DefD := ⟨("divisor_of", none), "divisor_of", "divisor_of", defArgs sdivisor_of, defBody sdivisor_of, defScope sdivisor_of, [], []⟩
def dMixing_init : He.DefD := ⟨("Mixing", some "__init__"), "__init__", "Mixing.__init__", defArgs sMixing_init, defBody sMixing_init, defScope sMixing_init, [.non], [("factor", .int 7919)]⟩
def dMixing_begin : He.DefD := ⟨("Mixing", some "begin"), "begin", "Mixing.begin", defArgs sMixing_begin, defBody sMixing_begin, defScope sMixing_begin, [], [("reset", .bl false)]⟩
def dMixing_mixed : He.DefD := ⟨("Mixing", some "mixed"), "mixed", "Mixing.mixed", defArgs sMixing_mixed, defBody sMixing_mixed, defScope sMixing_mixed, [], []⟩
def dsign_of : He.DefD := ⟨("sign_of", none), "sign_of", "sign_of", defArgs ssign_of, defBody ssign_of, defScope ssign_of, [], []⟩
def dis_count : He.DefD := ⟨("is_count", none), "is_count", "is_count", defArgs sis_count, defBody sis_count, defScope sis_count, [], []⟩
def dis_value : He.DefD := ⟨("is_value", none), "is_value", "is_value", defArgs sis_value, defBody sis_value, defScope sis_value, [], []⟩
def dis_values : He.DefD := ⟨("is_values", none), "is_values", "is_values", defArgs sis_values, defBody sis_values, defScope sis_values, [], []⟩
def dis_quote : He.DefD := ⟨("is_quote", none), "is_quote", "is_quote", defArgs sis_quote, defBody sis_quote, defScope sis_quote, [], []⟩
def dnumbers_of : He.DefD := ⟨("numbers_of", none), "numbers_of", "numbers_of", defArgs snumbers_of, defBody snumbers_of, defScope snumbers_of, [], []⟩
def dis_signed : He.DefD := ⟨("is_signed", none), "is_signed", "is_signed", defArgs sis_signed, defBody sis_signed, defScope sis_signed, [], []⟩
def dcan_stand : He.DefD := ⟨("can_stand", none), "can_stand", "can_stand", defArgs scan_stand, defBody scan_stand, defScope scan_stand, [], []⟩
def dfault : He.DefD := ⟨("fault", none), "fault", "fault", defArgs sfault, defBody sfault, defScope sfault, [], [("many", .int 4), ("fixed", .int 2)]⟩
def dlook_log : He.DefD := ⟨("look_log", none), "look_log", "look_log", defArgs slook_log, defBody slook_log, defScope slook_log, [], []⟩
def drow_behind : He.DefD := ⟨("row_behind", none), "row_behind", "row_behind", defArgs srow_behind, defBody srow_behind, defScope srow_behind, [], []⟩
def dreplays : He.DefD := ⟨("replays", none), "replays", "replays", defArgs sreplays, defBody sreplays, defScope sreplays, [], [("many", .int 4), ("fixed", .int 2)]⟩
def dreplay : He.DefD := ⟨("replay", none), "replay", "replay", defArgs sreplay, defBody sreplay, defScope sreplay, [], [("many", .int 4), ("fixed", .int 2)]⟩
def dleads_to : He.DefD := ⟨("leads_to", none), "leads_to", "leads_to", defArgs sleads_to, defBody sleads_to, defScope sleads_to, [], [("many", .int 4), ("fixed", .int 2)]⟩
def dfirst_false : He.DefD := ⟨("first_false", none), "first_false", "first_false", defArgs sfirst_false, defBody sfirst_false, defScope sfirst_false, [], []⟩
def dverdict : He.DefD := ⟨("verdict", none), "verdict", "verdict", defArgs sverdict, defBody sverdict, defScope sverdict, [], []⟩
def dfits : He.DefD := ⟨("fits", none), "fits", "fits", defArgs sfits, defBody sfits, defScope sfits, [], []⟩
def dis_rows : He.DefD := ⟨("is_rows", none), "is_rows", "is_rows", defArgs sis_rows, defBody sis_rows, defScope sis_rows, [], []⟩
def dEntry_init : He.DefD := ⟨("Entry", some "__init__"), "__init__", "Entry.__init__", defArgs sEntry_init, defBody sEntry_init, defScope sEntry_init, [], []⟩
def dEntry_goes_back : He.DefD := ⟨("Entry", some "goes_back"), "goes_back", "Entry.goes_back", defArgs sEntry_goes_back, defBody sEntry_goes_back, defScope sEntry_goes_back, [], []⟩
def dEntry_is_cut : He.DefD := ⟨("Entry", some "is_cut"), "is_cut", "Entry.is_cut", defArgs sEntry_is_cut, defBody sEntry_is_cut, defScope sEntry_is_cut, [], []⟩
def dEntry_is_few : He.DefD := ⟨("Entry", some "is_few"), "is_few", "Entry.is_few", defArgs sEntry_is_few, defBody sEntry_is_few, defScope sEntry_is_few, [], []⟩
def dEntry_leads : He.DefD := ⟨("Entry", some "leads"), "leads", "Entry.leads", defArgs sEntry_leads, defBody sEntry_leads, defScope sEntry_leads, [], []⟩
def dEntry_word_of : He.DefD := ⟨("Entry", some "word_of"), "word_of", "Entry.word_of", defArgs sEntry_word_of, defBody sEntry_word_of, defScope sEntry_word_of, [], []⟩
def dEntry_take : He.DefD := ⟨("Entry", some "take"), "take", "Entry.take", defArgs sEntry_take, defBody sEntry_take, defScope sEntry_take, [], []⟩
def dBook_init : He.DefD := ⟨("Book", some "__init__"), "__init__", "Book.__init__", defArgs sBook_init, defBody sBook_init, defScope sBook_init, [], [("life", .int 9), ("most", .int 8)]⟩
def dBook_len : He.DefD := ⟨("Book", some "__len__"), "__len__", "Book.__len__", defArgs sBook_len, defBody sBook_len, defScope sBook_len, [], []⟩
def dBook_entry_of : He.DefD := ⟨("Book", some "entry_of"), "entry_of", "Book.entry_of", defArgs sBook_entry_of, defBody sBook_entry_of, defScope sBook_entry_of, [], []⟩
def dBook_know : He.DefD := ⟨("Book", some "know"), "know", "Book.know", defArgs sBook_know, defBody sBook_know, defScope sBook_know, [], [("mixing", .non), ("many", .int 4), ("fixed", .int 2)]⟩
def dBook_put : He.DefD := ⟨("Book", some "put"), "put", "Book.put", defArgs sBook_put, defBody sBook_put, defScope sBook_put, [], [("policy", .non), ("plan", .non)]⟩
def dBook_ask : He.DefD := ⟨("Book", some "ask"), "ask", "Book.ask", defArgs sBook_ask, defBody sBook_ask, defScope sBook_ask, [], []⟩
def dBook_take : He.DefD := ⟨("Book", some "take"), "take", "Book.take", defArgs sBook_take, defBody sBook_take, defScope sBook_take, [], []⟩
def dBook_names : He.DefD := ⟨("Book", some "names"), "names", "Book.names", defArgs sBook_names, defBody sBook_names, defScope sBook_names, [], []⟩
def dBook_asked : He.DefD := ⟨("Book", some "asked"), "asked", "Book.asked", defArgs sBook_asked, defBody sBook_asked, defScope sBook_asked, [], []⟩
def dBook_last : He.DefD := ⟨("Book", some "last"), "last", "Book.last", defArgs sBook_last, defBody sBook_last, defScope sBook_last, [], []⟩
def dBook_history : He.DefD := ⟨("Book", some "history"), "history", "Book.history", defArgs sBook_history, defBody sBook_history, defScope sBook_history, [], []⟩
def dL_box : He.DefD := ⟨("_law_box", none), "_law_box", "_law_box", defArgs sL_box, defBody sL_box, defScope sL_box, [], []⟩
def dL_take : He.DefD := ⟨("_law_take", none), "_law_take", "_law_take", defArgs sL_take, defBody sL_take, defScope sL_take, [], []⟩
def dL_pick : He.DefD := ⟨("_law_pick", none), "_law_pick", "_law_pick", defArgs sL_pick, defBody sL_pick, defScope sL_pick, [], []⟩
def dL_names : He.DefD := ⟨("_law_names", none), "_law_names", "_law_names", defArgs sL_names, defBody sL_names, defScope sL_names, [], []⟩
def dL_same : He.DefD := ⟨("_law_same", none), "_law_same", "_law_same", defArgs sL_same, defBody sL_same, defScope sL_same, [], []⟩
def dL_name_number : He.DefD := ⟨("_law_name_number", none), "_law_name_number", "_law_name_number", defArgs sL_name_number, defBody sL_name_number, defScope sL_name_number, [], []⟩
def dL_row_number : He.DefD := ⟨("_law_row_number", none), "_law_row_number", "_law_row_number", defArgs sL_row_number, defBody sL_row_number, defScope sL_row_number, [], []⟩
def dL_shares : He.DefD := ⟨("_law_shares", none), "_law_shares", "_law_shares", defArgs sL_shares, defBody sL_shares, defScope sL_shares, [], []⟩
def dL_how : He.DefD := ⟨("_law_how", none), "_law_how", "_law_how", defArgs sL_how, defBody sL_how, defScope sL_how, [], []⟩
def dL_mixed : He.DefD := ⟨("_law_mixed", none), "_law_mixed", "_law_mixed", defArgs sL_mixed, defBody sL_mixed, defScope sL_mixed, [], []⟩
def dL_replay : He.DefD := ⟨("_law_replay", none), "_law_replay", "_law_replay", defArgs sL_replay, defBody sL_replay, defScope sL_replay, [], []⟩
def dL_note : He.DefD := ⟨("_law_note", none), "_law_note", "_law_note", defArgs sL_note, defBody sL_note, defScope sL_note, [], []⟩
def dL_row : He.DefD := ⟨("_law_row", none), "_law_row", "_law_row", defArgs sL_row, defBody sL_row, defScope sL_row, [], []⟩
def dL_log : He.DefD := ⟨("_law_log", none), "_law_log", "_law_log", defArgs sL_log, defBody sL_log, defScope sL_log, [], []⟩
def dL_fault : He.DefD := ⟨("_law_fault", none), "_law_fault", "_law_fault", defArgs sL_fault, defBody sL_fault, defScope sL_fault, [], []⟩
def dL_folded_sign : He.DefD := ⟨("_law_folded_sign", none), "_law_folded_sign", "_law_folded_sign", defArgs sL_folded_sign, defBody sL_folded_sign, defScope sL_folded_sign, [], []⟩
def dL_quote : He.DefD := ⟨("_law_quote", none), "_law_quote", "_law_quote", defArgs sL_quote, defBody sL_quote, defScope sL_quote, [], []⟩
def dL_verdict : He.DefD := ⟨("_law_verdict", none), "_law_verdict", "_law_verdict", defArgs sL_verdict, defBody sL_verdict, defScope sL_verdict, [], []⟩
def dL_stock : He.DefD := ⟨("_law_stock", none), "_law_stock", "_law_stock", defArgs sL_stock, defBody sL_stock, defScope sL_stock, [], []⟩
def dL_begun : He.DefD := ⟨("_law_begun", none), "_law_begun", "_law_begun", defArgs sL_begun, defBody sL_begun, defScope sL_begun, [], []⟩
def dL_known_as : He.DefD := ⟨("_law_known_as", none), "_law_known_as", "_law_known_as", defArgs sL_known_as, defBody sL_known_as, defScope sL_known_as, [], []⟩
def dL_asked_now : He.DefD := ⟨("_law_asked_now", none), "_law_asked_now", "_law_asked_now", defArgs sL_asked_now, defBody sL_asked_now, defScope sL_asked_now, [], []⟩
def dL_ask : He.DefD := ⟨("_law_ask", none), "_law_ask", "_law_ask", defArgs sL_ask, defBody sL_ask, defScope sL_ask, [], []⟩
def dL_late_word : He.DefD := ⟨("_law_late_word", none), "_law_late_word", "_law_late_word", defArgs sL_late_word, defBody sL_late_word, defScope sL_late_word, [], []⟩
def dL_word : He.DefD := ⟨("_law_word", none), "_law_word", "_law_word", defArgs sL_word, defBody sL_word, defScope sL_word, [], []⟩
def dL_stands : He.DefD := ⟨("_law_stands", none), "_law_stands", "_law_stands", defArgs sL_stands, defBody sL_stands, defScope sL_stands, [], []⟩
def dL_pairs_of : He.DefD := ⟨("_law_pairs_of", none), "_law_pairs_of", "_law_pairs_of", defArgs sL_pairs_of, defBody sL_pairs_of, defScope sL_pairs_of, [], []⟩
def dL_tried : He.DefD := ⟨("_law_tried", none), "_law_tried", "_law_tried", defArgs sL_tried, defBody sL_tried, defScope sL_tried, [], []⟩
def dL_otherwise : He.DefD := ⟨("_law_otherwise", none), "_law_otherwise", "_law_otherwise", defArgs sL_otherwise, defBody sL_otherwise, defScope sL_otherwise, [], []⟩
def dL_right : He.DefD := ⟨("_law_right", none), "_law_right", "_law_right", defArgs sL_right, defBody sL_right, defScope sL_right, [], []⟩
def dlaw : He.DefD := ⟨("law", none), "law", "law", defArgs slaw, defBody slaw, defScope slaw, [], []⟩
def fn : List He.DefD := [dis_name, dname_number, dis_from, dis_noted, dis_row, drow_number, dis_between, ddivisor_of, dMixing_init, dMixing_begin, dMixing_mixed, dsign_of, dis_count, dis_value, dis_values, dis_quote, dnumbers_of, dis_signed, dcan_stand, dfault, dlook_log, drow_behind, dreplays, dreplay, dleads_to, dfirst_false, dverdict, dfits, dis_rows, dEntry_init, dEntry_goes_back, dEntry_is_cut, dEntry_is_few, dEntry_leads, dEntry_word_of, dEntry_take, dBook_init, dBook_len, dBook_entry_of, dBook_know, dBook_put, dBook_ask, dBook_take, dBook_names, dBook_asked, dBook_last, dBook_history, dL_box, dL_take, dL_pick, dL_names, dL_same, dL_name_number, dL_row_number, dL_shares, dL_how, dL_mixed, dL_replay, dL_note, dL_row, dL_log, dL_fault, dL_folded_sign, dL_quote, dL_verdict, dL_stock, dL_begun, dL_known_as, dL_asked_now, dL_ask, dL_late_word, dL_word, dL_stands, dL_pairs_of, dL_tried, dL_otherwise, dL_right, dlaw]
def fa0 : List He.Fa := [.glo "is_name", .glo "name_number", .glo "is_from", .glo "is_noted", .glo "is_row", .glo "row_number", .glo "is_between", .glo "divisor_of", .glo "Mixing", .cls "Mixing", .mkr "Mixing", .noat "Mixing" "width", .noat "Mixing" "factor", .meth "Mixing" "__init__", .meth "Mixing" "begin", .meth "Mixing" "mixed", .glo "sign_of", .glo "is_count", .glo "is_value", .glo "is_values", .glo "is_quote", .glo "numbers_of", .glo "is_signed", .glo "can_stand", .glo "fault", .glo "look_log", .glo "row_behind", .glo "replays", .glo "replay", .glo "leads_to"]
def fa1 : List He.Fa := [.glo "first_false", .glo "verdict", .glo "fits", .glo "is_rows", .glo "Entry", .cls "Entry", .mkr "Entry", .noat "Entry" "own_key", .noat "Entry" "own_mixing", .noat "Entry" "own_many", .noat "Entry" "own_fixed", .noat "Entry" "own_policy", .noat "Entry" "own_plan", .noat "Entry" "own_asked", .noat "Entry" "own_last", .noat "Entry" "own_history", .meth "Entry" "__init__", .meth "Entry" "goes_back", .meth "Entry" "is_cut", .meth "Entry" "is_few", .meth "Entry" "leads", .meth "Entry" "word_of", .meth "Entry" "take", .glo "Book", .cls "Book", .mkr "Book", .noat "Book" "own_life", .noat "Book" "own_most", .noat "Book" "own_entries", .noat "Book" "own_ticks"]
def fa2 : List He.Fa := [.noat "Book" "own_next", .noat "Book" "log_rows", .noat "Book" "rows_open", .meth "Book" "__init__", .meth "Book" "__len__", .meth "Book" "entry_of", .meth "Book" "know", .meth "Book" "put", .meth "Book" "ask", .meth "Book" "take", .meth "Book" "names", .meth "Book" "asked", .meth "Book" "last", .meth "Book" "history", .glo "_law_box", .glo "_law_take", .glo "_law_pick", .glo "_law_names", .glo "_law_same", .glo "_law_name_number", .glo "_law_row_number", .glo "_law_shares", .glo "_law_how", .glo "_law_mixed", .glo "_law_replay", .glo "_law_note", .glo "_law_row", .glo "_law_log", .glo "_law_fault", .glo "_law_folded_sign"]
def fa3 : List He.Fa := [.glo "_law_quote", .glo "_law_verdict", .glo "_law_stock", .glo "_law_begun", .glo "_law_known_as", .glo "_law_asked_now", .glo "_law_ask", .glo "_law_late_word", .glo "_law_word", .glo "_law_stands", .glo "_law_pairs_of", .glo "_law_tried", .glo "_law_otherwise", .glo "_law_right", .glo "law", .int "NOTES" 9973, .int "SPAN" 26500305465, .int "FACTOR" 7919, .int "BOARDS" 4, .int "FIXED" 2, .int "SIGNS" 1000000000039, .int "FOLD" 1000003, .int "LIFE" 9, .int "MACHINES" 8, .int "LONGEST" 4, .int "BASE" 27, .int "MOST_BOARDS_rows" 8, .int "LEAST_WIDTH" 3, .int "MOST" 1000000, .int "PLAIN_BEGIN" 1]
def fa4 : List He.Fa := [.int "RESET_BEGIN" 2, .int "MOST_BOARDS_quotes" 8, .str "LETTERS" "abcdefghijklmnopqrstuvwxyz", .str "END" "end", .str "RESET" "reset", .str "FITS" "fits", .glo "WORDS", .glo "BARE_WORDS", .glo "BEHIND_END", .free "isinstance", .free "len", .free "all", .free "int", .free "bool", .free "str", .free "tuple", .free "list", .free "abs", .free "sorted", .free "range", .free "enumerate", .free "zip", .free "min", .free "max"]
def fa : List He.Fa := fa0 ++ fa1 ++ fa2 ++ fa3 ++ fa4
def nm0 : List PySem.Str := ["_wall", "StartError", "BadMixing", "BadLog", "Known", "Unknown", "TooMany", "WORDS", "NOTES", "SPAN", "FACTOR", "BOARDS", "FIXED", "SIGNS", "FOLD", "LIFE", "MACHINES", "LETTERS", "LONGEST", "BASE", "is_name", "name_number", "MOST_BOARDS_rows", "BARE_WORDS", "is_from", "is_noted", "is_row", "row_number", "LEAST_WIDTH", "MOST"]
def nm1 : List PySem.Str := ["PLAIN_BEGIN", "RESET_BEGIN", "is_between", "divisor_of", "parts_text", "Mixing", "sign_of", "MOST_BOARDS_quotes", "is_count", "is_value", "is_values", "is_quote", "numbers_of", "is_signed", "BEHIND_END", "END", "RESET", "can_stand", "fault", "look_log", "row_behind", "replays", "replay", "leads_to", "first_false", "FITS", "UNFIT", "names_in", "first_place", "begin_of"]
def nm2 : List PySem.Str := ["must_broken", "only_broken", "note_broken", "ahead_broken", "never_broken", "most_broken", "next_broken", "BREAKS", "broken_at", "verdict", "fits", "is_rows", "Entry", "Book", "_law_box", "_law_take", "_law_pick", "_law_names", "_law_same", "_law_name_number", "_law_row_number", "_law_shares", "_law_how", "_law_mixed", "_law_replay", "_law_note", "_law_row", "_law_log", "_law_fault", "_law_folded_sign"]
def nm3 : List PySem.Str := ["_law_quote", "_law_kept_rule", "_law_verdict", "_law_stock", "_law_begun", "_law_known_as", "_law_asked_now", "_law_ask", "_law_late_word", "_law_word", "_law_stands", "_law_pairs_of", "_law_tried", "_law_otherwise", "_law_right"]
def names : List PySem.Str := nm0 ++ nm1 ++ nm2 ++ nm3
def tupO (K : PySem.W.Frag) (x : Str) : Bool := match K.lookup (He.ga K x) with
  | some ⟨.type c, none, _, _⟩ => decide (c = "tuple")
  | _ => false
theorem tupO_ok {K : PySem.W.Frag} {x : Str} (h : tupO K x = true) : ∃ o, K.lookup (He.ga K x) = some o ∧ o.cls = .type "tuple" ∧ o.dict = none := by
  unfold tupO at h
  split at h
  · rename_i c dt sl e
    exact ⟨_, e, congrArg Value.type (of_decide_eq_true h), rfl⟩
  · cases h
def exB (K : PySem.W.Frag) : Bool := tupO K "WORDS" && (He.tupB K "WORDS" [.str "load", .str "set", .str "end", .str "late", .str "reset"] && He.tupB K "BARE_WORDS" [.str "end", .str "reset"] && He.tupB K "BEHIND_END" [.str "late", .str "reset"])
def gn0 : List PySem.Str := ["is_name", "name_number", "is_from", "is_noted", "is_row", "row_number", "is_between", "divisor_of", "sign_of", "is_count", "is_value", "is_values", "is_quote", "numbers_of", "is_signed", "can_stand", "fault", "look_log", "row_behind", "replays", "replay", "leads_to", "first_false", "verdict", "fits", "is_rows", "_law_box", "_law_take", "_law_pick", "_law_names"]
def gn1 : List PySem.Str := ["_law_same", "_law_name_number", "_law_row_number", "_law_shares", "_law_how", "_law_mixed", "_law_replay", "_law_note", "_law_row", "_law_log", "_law_fault", "_law_folded_sign", "_law_quote", "_law_verdict", "_law_stock", "_law_begun", "_law_known_as", "_law_asked_now", "_law_ask", "_law_late_word", "_law_word", "_law_stands", "_law_pairs_of", "_law_tried", "_law_otherwise", "_law_right", "law", "Mixing", "Entry", "Book"]
def gn2 : List PySem.Str := ["WORDS", "BARE_WORDS", "BEHIND_END"]
def gnames : List PySem.Str := gn0 ++ gn1 ++ gn2
def cnames : List PySem.Str := ["Mixing", "Entry", "Book"]
def mnames : List (PySem.Str × PySem.Str) := [("Mixing", "__init__"), ("Mixing", "begin"), ("Mixing", "mixed"), ("Entry", "__init__"), ("Entry", "goes_back"), ("Entry", "is_cut"), ("Entry", "is_few"), ("Entry", "leads"), ("Entry", "word_of"), ("Entry", "take"), ("Book", "__init__"), ("Book", "__len__"), ("Book", "entry_of"), ("Book", "know"), ("Book", "put"), ("Book", "ask"), ("Book", "take"), ("Book", "names"), ("Book", "asked"), ("Book", "last"), ("Book", "history")]
/-! ### the part of the heap that is looked at -/
/-- an address reckoned once -/
def frA {β : Type} : List Addr → (List Addr → β) → β
  | [], k => k []
  | a :: r, k => HandSHeadRun.frNat a fun a => frA r fun r => k (a :: r)
theorem frA_eq {β : Type} : ∀ (l : List Addr) (k : List Addr → β), frA l k = k l
  | [], _ => rfl
  | a :: r, k => by
    show (HandSHeadRun.frNat a fun a => frA r fun r => k (a :: r)) = _
    rw [HandSHeadRun.frNat_eq, frA_eq r]
/-- an object looked at once -/
def frO {β : Type} (o : Obj) (k : Obj → β) : β := match o with
  | ⟨c, d, .func f, sl⟩ => k ⟨c, d, .func f, sl⟩
  | ⟨c, d, .dict es n, sl⟩ => k ⟨c, d, .dict es n, sl⟩
  | ⟨c, d, .cls cd, sl⟩ => k ⟨c, d, .cls cd, sl⟩
  | ⟨c, d, .fields vs, sl⟩ => k ⟨c, d, .fields vs, sl⟩
  | ⟨c, d, dt, sl⟩ => k ⟨c, d, dt, sl⟩
theorem frO_eq {β : Type} (o : Obj) (k : Obj → β) : frO o k = k o := by
  obtain ⟨c, d, dt, sl⟩ := o
  cases dt <;> rfl
def frK {β : Type} (g : Addr → Option Obj) : List Addr → (PySem.W.Frag → β) → β
  | [], k => k []
  | a :: r, k => match g a with
    | none => frK g r k
    | some o => frO o fun o => frK g r fun r => k ((a, o) :: r)
theorem frK_eq {β : Type} (g : Addr → Option Obj) : ∀ (l : List Addr) (k : PySem.W.Frag → β), frK g l k = k (He.frG g l)
  | [], _ => rfl
  | a :: r, k => by
    unfold frK He.frG
    rw [List.filterMap_cons]
    cases e : g a with
    | none =>
      show frK g r k = k (He.frG g r)
      exact frK_eq g r k
    | some o =>
      show (frO o fun o => frK g r fun r => k ((a, o) :: r)) = k ((a, o) :: He.frG g r)
      rw [frO_eq, frK_eq g r]
/-- what a function's object names -/
def refF (K : PySem.W.Frag) (a : Addr) : List Addr := match K.lookup a with
  | some ⟨_, _, .func fd, _⟩ => He.refV fd.code ++ He.refV fd.kwdefaults ++ He.refV fd.defaults
  | _ => []
def refC (K : PySem.W.Frag) (a : Addr) : List Addr := match K.lookup a with
  | some ⟨_, _, .cls cd, _⟩ => [cd.ns]
  | _ => []
/-- the addresses, in three looks, each told by the one before -/
def as1 (g : Addr → Option Obj) : List Addr := frK g [mainGlobals] fun K => frA (gnames.map (He.ga K)) fun l => mainGlobals :: l
def as2 (g : Addr → Option Obj) : List Addr := frA (as1 g) fun l => frK g l fun K => frA (cnames.flatMap fun c => refC K (He.ga K c)) fun m => l ++ m
def as3 (g : Addr → Option Obj) : List Addr := frA (as2 g) fun l => frK g l fun K => frA (mnames.map fun p => He.ma K (He.ga K p.1) p.2) fun m => l ++ m
def as4 (g : Addr → Option Obj) : List Addr := frA (as3 g) fun l => frK g l fun K => frA (l.flatMap (refF K)) fun m => l ++ m
def KK (g : Addr → Option Obj) : PySem.W.Frag := He.frG g (as4 g)
def obs (g : Addr → Option Obj) : He.AlD × Bool := frA (as4 g) fun l => frK g l fun K => (He.obsD fa fn K, exB K)
theorem obs_eq (g : Addr → Option Obj) : obs g = (He.obsD fa fn (KK g), exB (KK g)) := by
  unfold obs
  rw [frA_eq, frK_eq]
  rfl
/-- what the proof leans on -/
structure Says (K : PySem.W.Frag) : Prop where
  d : He.SaysD fa fn K
  x : exB K = true
def hk : PySem.W.Hook where
  α := He.AlD × Bool
  obs := fun s => obs s.heap.get?
  val := fun _ => (He.valD fn, true)
  says := fun _ h => ∃ K : PySem.W.Frag, K.In h ∧ Says K
  of := fun w s e => by
    have e1 : (He.obsD fa fn (KK s.heap.get?), exB (KK s.heap.get?)) = (He.valD fn, true) := (obs_eq _).symm.trans e
    injection e1 with e2 e3
    exact ⟨KK s.heap.get?, He.frG_in, e2, e3⟩
  keeps := fun _ _ _ ⟨K, hK, c⟩ k => ⟨K, PySem.W.Frag.In.keeps hK k, c⟩
abbrev R : PySem.W.OpenRow := PySem.W.OpenLaw.row PySem.Challenge.rw_startlog_k64_whole_starts_and_logs_that
abbrev qv : Program := PySem.W.view R.prog [117]
end Hd

namespace Hd
open PySem PySem.Spec PyProof.Rows L2
def ob (s : PySem.W.SharedT) : He.AlD × Bool := obs (HandSHeadRun.getT s)
theorem ob_eq (s : PySem.W.SharedT) : ob s = hk.obs s.abs := by
  have e : HandSHeadRun.getT s = s.abs.heap.get? := funext (HandSHeadRun.getT_eq s)
  show obs (HandSHeadRun.getT s) = obs s.abs.heap.get?
  rw [e]
theorem run_t (w : World) : HandSHeadRun.RunEq R qv hk ob 6000 names (w.withFollow "special-get-raises" true) := by
  intro os
  kernel_rfl
theorem run_f (w : World) : HandSHeadRun.RunEq R qv hk ob 6000 names (w.withFollow "special-get-raises" false) := by
  intro os
  kernel_rfl
theorem run (w : World) : HandSHeadRun.RunEq R qv hk ob 6000 names w :=
  PySem.W.byRow2 "special-get-raises" (P := fun w => HandSHeadRun.RunEq R qv hk ob 6000 names w) run_f run_t w
end Hd

/-! the facts of the head by names -/
namespace Hd
open PySem PySem.Spec PyProof.Rows L2
structure Tx (K : PySem.W.Frag) (mg : Str → Option Value) : Prop where
  g_is_name : mg "is_name" = some (.ref (He.ga K "is_name"))
  g_name_number : mg "name_number" = some (.ref (He.ga K "name_number"))
  g_is_from : mg "is_from" = some (.ref (He.ga K "is_from"))
  g_is_noted : mg "is_noted" = some (.ref (He.ga K "is_noted"))
  g_is_row : mg "is_row" = some (.ref (He.ga K "is_row"))
  g_row_number : mg "row_number" = some (.ref (He.ga K "row_number"))
  g_is_between : mg "is_between" = some (.ref (He.ga K "is_between"))
  g_divisor_of : mg "divisor_of" = some (.ref (He.ga K "divisor_of"))
  g_Mixing : mg "Mixing" = some (.ref (He.ga K "Mixing"))
  c_Mixing : Cls K (He.ga K "Mixing")
  k_Mixing : Mk K (He.ga K "Mixing") (He.ma K (He.ga K "Mixing") "__init__")
  n_Mixing_width : NoAttr K (He.ga K "Mixing") "width"
  n_Mixing_factor : NoAttr K (He.ga K "Mixing") "factor"
  m_Mixing_init : Meth K (He.ga K "Mixing") "__init__" (He.ma K (He.ga K "Mixing") "__init__")
  m_Mixing_begin : Meth K (He.ga K "Mixing") "begin" (He.ma K (He.ga K "Mixing") "begin")
  m_Mixing_mixed : Meth K (He.ga K "Mixing") "mixed" (He.ma K (He.ga K "Mixing") "mixed")
  g_sign_of : mg "sign_of" = some (.ref (He.ga K "sign_of"))
  g_is_count : mg "is_count" = some (.ref (He.ga K "is_count"))
  g_is_value : mg "is_value" = some (.ref (He.ga K "is_value"))
  g_is_values : mg "is_values" = some (.ref (He.ga K "is_values"))
  g_is_quote : mg "is_quote" = some (.ref (He.ga K "is_quote"))
  g_numbers_of : mg "numbers_of" = some (.ref (He.ga K "numbers_of"))
  g_is_signed : mg "is_signed" = some (.ref (He.ga K "is_signed"))
  g_can_stand : mg "can_stand" = some (.ref (He.ga K "can_stand"))
  g_fault : mg "fault" = some (.ref (He.ga K "fault"))
  g_look_log : mg "look_log" = some (.ref (He.ga K "look_log"))
  g_row_behind : mg "row_behind" = some (.ref (He.ga K "row_behind"))
  g_replays : mg "replays" = some (.ref (He.ga K "replays"))
  g_replay : mg "replay" = some (.ref (He.ga K "replay"))
  g_leads_to : mg "leads_to" = some (.ref (He.ga K "leads_to"))
  g_first_false : mg "first_false" = some (.ref (He.ga K "first_false"))
  g_verdict : mg "verdict" = some (.ref (He.ga K "verdict"))
  g_fits : mg "fits" = some (.ref (He.ga K "fits"))
  g_is_rows : mg "is_rows" = some (.ref (He.ga K "is_rows"))
  g_Entry : mg "Entry" = some (.ref (He.ga K "Entry"))
  c_Entry : Cls K (He.ga K "Entry")
  k_Entry : Mk K (He.ga K "Entry") (He.ma K (He.ga K "Entry") "__init__")
  n_Entry_own_key : NoAttr K (He.ga K "Entry") "own_key"
  n_Entry_own_mixing : NoAttr K (He.ga K "Entry") "own_mixing"
  n_Entry_own_many : NoAttr K (He.ga K "Entry") "own_many"
  n_Entry_own_fixed : NoAttr K (He.ga K "Entry") "own_fixed"
  n_Entry_own_policy : NoAttr K (He.ga K "Entry") "own_policy"
  n_Entry_own_plan : NoAttr K (He.ga K "Entry") "own_plan"
  n_Entry_own_asked : NoAttr K (He.ga K "Entry") "own_asked"
  n_Entry_own_last : NoAttr K (He.ga K "Entry") "own_last"
  n_Entry_own_history : NoAttr K (He.ga K "Entry") "own_history"
  m_Entry_init : Meth K (He.ga K "Entry") "__init__" (He.ma K (He.ga K "Entry") "__init__")
  m_Entry_goes_back : Meth K (He.ga K "Entry") "goes_back" (He.ma K (He.ga K "Entry") "goes_back")
  m_Entry_is_cut : Meth K (He.ga K "Entry") "is_cut" (He.ma K (He.ga K "Entry") "is_cut")
  m_Entry_is_few : Meth K (He.ga K "Entry") "is_few" (He.ma K (He.ga K "Entry") "is_few")
  m_Entry_leads : Meth K (He.ga K "Entry") "leads" (He.ma K (He.ga K "Entry") "leads")
  m_Entry_word_of : Meth K (He.ga K "Entry") "word_of" (He.ma K (He.ga K "Entry") "word_of")
  m_Entry_take : Meth K (He.ga K "Entry") "take" (He.ma K (He.ga K "Entry") "take")
  g_Book : mg "Book" = some (.ref (He.ga K "Book"))
  c_Book : Cls K (He.ga K "Book")
  k_Book : Mk K (He.ga K "Book") (He.ma K (He.ga K "Book") "__init__")
  n_Book_own_life : NoAttr K (He.ga K "Book") "own_life"
  n_Book_own_most : NoAttr K (He.ga K "Book") "own_most"
  n_Book_own_entries : NoAttr K (He.ga K "Book") "own_entries"
  n_Book_own_ticks : NoAttr K (He.ga K "Book") "own_ticks"
  n_Book_own_next : NoAttr K (He.ga K "Book") "own_next"
  n_Book_log_rows : NoAttr K (He.ga K "Book") "log_rows"
  n_Book_rows_open : NoAttr K (He.ga K "Book") "rows_open"
  m_Book_init : Meth K (He.ga K "Book") "__init__" (He.ma K (He.ga K "Book") "__init__")
  m_Book_len : Meth K (He.ga K "Book") "__len__" (He.ma K (He.ga K "Book") "__len__")
  m_Book_entry_of : Meth K (He.ga K "Book") "entry_of" (He.ma K (He.ga K "Book") "entry_of")
  m_Book_know : Meth K (He.ga K "Book") "know" (He.ma K (He.ga K "Book") "know")
  m_Book_put : Meth K (He.ga K "Book") "put" (He.ma K (He.ga K "Book") "put")
  m_Book_ask : Meth K (He.ga K "Book") "ask" (He.ma K (He.ga K "Book") "ask")
  m_Book_take : Meth K (He.ga K "Book") "take" (He.ma K (He.ga K "Book") "take")
  m_Book_names : Meth K (He.ga K "Book") "names" (He.ma K (He.ga K "Book") "names")
  m_Book_asked : Meth K (He.ga K "Book") "asked" (He.ma K (He.ga K "Book") "asked")
  m_Book_last : Meth K (He.ga K "Book") "last" (He.ma K (He.ga K "Book") "last")
  m_Book_history : Meth K (He.ga K "Book") "history" (He.ma K (He.ga K "Book") "history")
  g_L_box : mg "_law_box" = some (.ref (He.ga K "_law_box"))
  g_L_take : mg "_law_take" = some (.ref (He.ga K "_law_take"))
  g_L_pick : mg "_law_pick" = some (.ref (He.ga K "_law_pick"))
  g_L_names : mg "_law_names" = some (.ref (He.ga K "_law_names"))
  g_L_same : mg "_law_same" = some (.ref (He.ga K "_law_same"))
  g_L_name_number : mg "_law_name_number" = some (.ref (He.ga K "_law_name_number"))
  g_L_row_number : mg "_law_row_number" = some (.ref (He.ga K "_law_row_number"))
  g_L_shares : mg "_law_shares" = some (.ref (He.ga K "_law_shares"))
  g_L_how : mg "_law_how" = some (.ref (He.ga K "_law_how"))
  g_L_mixed : mg "_law_mixed" = some (.ref (He.ga K "_law_mixed"))
  g_L_replay : mg "_law_replay" = some (.ref (He.ga K "_law_replay"))
  g_L_note : mg "_law_note" = some (.ref (He.ga K "_law_note"))
  g_L_row : mg "_law_row" = some (.ref (He.ga K "_law_row"))
  g_L_log : mg "_law_log" = some (.ref (He.ga K "_law_log"))
  g_L_fault : mg "_law_fault" = some (.ref (He.ga K "_law_fault"))
  g_L_folded_sign : mg "_law_folded_sign" = some (.ref (He.ga K "_law_folded_sign"))
  g_L_quote : mg "_law_quote" = some (.ref (He.ga K "_law_quote"))
  g_L_verdict : mg "_law_verdict" = some (.ref (He.ga K "_law_verdict"))
  g_L_stock : mg "_law_stock" = some (.ref (He.ga K "_law_stock"))
  g_L_begun : mg "_law_begun" = some (.ref (He.ga K "_law_begun"))
  g_L_known_as : mg "_law_known_as" = some (.ref (He.ga K "_law_known_as"))
  g_L_asked_now : mg "_law_asked_now" = some (.ref (He.ga K "_law_asked_now"))
  g_L_ask : mg "_law_ask" = some (.ref (He.ga K "_law_ask"))
  g_L_late_word : mg "_law_late_word" = some (.ref (He.ga K "_law_late_word"))
  g_L_word : mg "_law_word" = some (.ref (He.ga K "_law_word"))
  g_L_stands : mg "_law_stands" = some (.ref (He.ga K "_law_stands"))
  g_L_pairs_of : mg "_law_pairs_of" = some (.ref (He.ga K "_law_pairs_of"))
  g_L_tried : mg "_law_tried" = some (.ref (He.ga K "_law_tried"))
  g_L_otherwise : mg "_law_otherwise" = some (.ref (He.ga K "_law_otherwise"))
  g_L_right : mg "_law_right" = some (.ref (He.ga K "_law_right"))
  g_law : mg "law" = some (.ref (He.ga K "law"))
  i_NOTES : ∃ t, mg "NOTES" = some (.int 9973 t)
  i_SPAN : ∃ t, mg "SPAN" = some (.int 26500305465 t)
  i_FACTOR : ∃ t, mg "FACTOR" = some (.int 7919 t)
  i_BOARDS : ∃ t, mg "BOARDS" = some (.int 4 t)
  i_FIXED : ∃ t, mg "FIXED" = some (.int 2 t)
  i_SIGNS : ∃ t, mg "SIGNS" = some (.int 1000000000039 t)
  i_FOLD : ∃ t, mg "FOLD" = some (.int 1000003 t)
  i_LIFE : ∃ t, mg "LIFE" = some (.int 9 t)
  i_MACHINES : ∃ t, mg "MACHINES" = some (.int 8 t)
  i_LONGEST : ∃ t, mg "LONGEST" = some (.int 4 t)
  i_BASE : ∃ t, mg "BASE" = some (.int 27 t)
  i_MOST_BOARDS_rows : ∃ t, mg "MOST_BOARDS_rows" = some (.int 8 t)
  i_LEAST_WIDTH : ∃ t, mg "LEAST_WIDTH" = some (.int 3 t)
  i_MOST : ∃ t, mg "MOST" = some (.int 1000000 t)
  i_PLAIN_BEGIN : ∃ t, mg "PLAIN_BEGIN" = some (.int 1 t)
  i_RESET_BEGIN : ∃ t, mg "RESET_BEGIN" = some (.int 2 t)
  i_MOST_BOARDS_quotes : ∃ t, mg "MOST_BOARDS_quotes" = some (.int 8 t)
  s_LETTERS : ∃ t, mg "LETTERS" = some (.str "abcdefghijklmnopqrstuvwxyz" t)
  s_END : ∃ t, mg "END" = some (.str "end" t)
  s_RESET : ∃ t, mg "RESET" = some (.str "reset" t)
  s_FITS : ∃ t, mg "FITS" = some (.str "fits" t)
  g_WORDS : mg "WORDS" = some (.ref (He.ga K "WORDS"))
  g_BARE_WORDS : mg "BARE_WORDS" = some (.ref (He.ga K "BARE_WORDS"))
  g_BEHIND_END : mg "BEHIND_END" = some (.ref (He.ga K "BEHIND_END"))
  f_isinstance : mg "isinstance" = none
  f_len : mg "len" = none
  f_all : mg "all" = none
  f_int : mg "int" = none
  f_bool : mg "bool" = none
  f_str : mg "str" = none
  f_tuple : mg "tuple" = none
  f_list : mg "list" = none
  f_abs : mg "abs" = none
  f_sorted : mg "sorted" = none
  f_range : mg "range" = none
  f_enumerate : mg "enumerate" = none
  f_zip : mg "zip" = none
  f_min : mg "min" = none
  f_max : mg "max" = none
  t_WORDS : ∀ H : Hp, SqT K H (He.ga K "WORDS") [V.str "load", V.str "set", V.str "end", V.str "late", V.str "reset"]
  t_BARE_WORDS : ∀ H : Hp, SqT K H (He.ga K "BARE_WORDS") [V.str "end", V.str "reset"]
  t_BEHIND_END : ∀ H : Hp, SqT K H (He.ga K "BEHIND_END") [V.str "late", V.str "reset"]
  o_WORDS : ∃ o, K.lookup (He.ga K "WORDS") = some o ∧ o.cls = .type "tuple" ∧ o.dict = none
  d_is_name : ∃ fd, FunD K "is_name" "is_name" (defArgs sis_name) (defBody sis_name) (defScope sis_name) [] [] (He.ga K "is_name") fd
  d_name_number : ∃ fd, FunD K "name_number" "name_number" (defArgs sname_number) (defBody sname_number) (defScope sname_number) [] [] (He.ga K "name_number") fd
  d_is_from : ∃ fd, FunD K "is_from" "is_from" (defArgs sis_from) (defBody sis_from) (defScope sis_from) [] [] (He.ga K "is_from") fd
  d_is_noted : ∃ fd, FunD K "is_noted" "is_noted" (defArgs sis_noted) (defBody sis_noted) (defScope sis_noted) [] [] (He.ga K "is_noted") fd
  d_is_row : ∃ fd, FunD K "is_row" "is_row" (defArgs sis_row) (defBody sis_row) (defScope sis_row) [] [] (He.ga K "is_row") fd
  d_row_number : ∃ fd, FunD K "row_number" "row_number" (defArgs srow_number) (defBody srow_number) (defScope srow_number) [] [] (He.ga K "row_number") fd
  d_is_between : ∃ fd, FunD K "is_between" "is_between" (defArgs sis_between) (defBody sis_between) (defScope sis_between) [] [] (He.ga K "is_between") fd
  d_divisor_of : ∃ fd, FunD K "divisor_of" "divisor_of" (defArgs sdivisor_of) (defBody sdivisor_of) (defScope sdivisor_of) [] [] (He.ga K "divisor_of") fd
  d_Mixing_init : ∃ fd, FunD K "__init__" "Mixing.__init__" (defArgs sMixing_init) (defBody sMixing_init) (defScope sMixing_init) [V.non] [("factor", V.int 7919)] (He.ma K (He.ga K "Mixing") "__init__") fd
  d_Mixing_begin : ∃ fd, FunD K "begin" "Mixing.begin" (defArgs sMixing_begin) (defBody sMixing_begin) (defScope sMixing_begin) [] [("reset", V.bl false)] (He.ma K (He.ga K "Mixing") "begin") fd
  d_Mixing_mixed : ∃ fd, FunD K "mixed" "Mixing.mixed" (defArgs sMixing_mixed) (defBody sMixing_mixed) (defScope sMixing_mixed) [] [] (He.ma K (He.ga K "Mixing") "mixed") fd
  d_sign_of : ∃ fd, FunD K "sign_of" "sign_of" (defArgs ssign_of) (defBody ssign_of) (defScope ssign_of) [] [] (He.ga K "sign_of") fd
  d_is_count : ∃ fd, FunD K "is_count" "is_count" (defArgs sis_count) (defBody sis_count) (defScope sis_count) [] [] (He.ga K "is_count") fd
  d_is_value : ∃ fd, FunD K "is_value" "is_value" (defArgs sis_value) (defBody sis_value) (defScope sis_value) [] [] (He.ga K "is_value") fd
  d_is_values : ∃ fd, FunD K "is_values" "is_values" (defArgs sis_values) (defBody sis_values) (defScope sis_values) [] [] (He.ga K "is_values") fd
  d_is_quote : ∃ fd, FunD K "is_quote" "is_quote" (defArgs sis_quote) (defBody sis_quote) (defScope sis_quote) [] [] (He.ga K "is_quote") fd
  d_numbers_of : ∃ fd, FunD K "numbers_of" "numbers_of" (defArgs snumbers_of) (defBody snumbers_of) (defScope snumbers_of) [] [] (He.ga K "numbers_of") fd
  d_is_signed : ∃ fd, FunD K "is_signed" "is_signed" (defArgs sis_signed) (defBody sis_signed) (defScope sis_signed) [] [] (He.ga K "is_signed") fd
  d_can_stand : ∃ fd, FunD K "can_stand" "can_stand" (defArgs scan_stand) (defBody scan_stand) (defScope scan_stand) [] [] (He.ga K "can_stand") fd
  d_fault : ∃ fd, FunD K "fault" "fault" (defArgs sfault) (defBody sfault) (defScope sfault) [] [("many", V.int 4), ("fixed", V.int 2)] (He.ga K "fault") fd
  d_look_log : ∃ fd, FunD K "look_log" "look_log" (defArgs slook_log) (defBody slook_log) (defScope slook_log) [] [] (He.ga K "look_log") fd
  d_row_behind : ∃ fd, FunD K "row_behind" "row_behind" (defArgs srow_behind) (defBody srow_behind) (defScope srow_behind) [] [] (He.ga K "row_behind") fd
  d_replays : ∃ fd, FunD K "replays" "replays" (defArgs sreplays) (defBody sreplays) (defScope sreplays) [] [("many", V.int 4), ("fixed", V.int 2)] (He.ga K "replays") fd
  d_replay : ∃ fd, FunD K "replay" "replay" (defArgs sreplay) (defBody sreplay) (defScope sreplay) [] [("many", V.int 4), ("fixed", V.int 2)] (He.ga K "replay") fd
  d_leads_to : ∃ fd, FunD K "leads_to" "leads_to" (defArgs sleads_to) (defBody sleads_to) (defScope sleads_to) [] [("many", V.int 4), ("fixed", V.int 2)] (He.ga K "leads_to") fd
  d_first_false : ∃ fd, FunD K "first_false" "first_false" (defArgs sfirst_false) (defBody sfirst_false) (defScope sfirst_false) [] [] (He.ga K "first_false") fd
  d_verdict : ∃ fd, FunD K "verdict" "verdict" (defArgs sverdict) (defBody sverdict) (defScope sverdict) [] [] (He.ga K "verdict") fd
  d_fits : ∃ fd, FunD K "fits" "fits" (defArgs sfits) (defBody sfits) (defScope sfits) [] [] (He.ga K "fits") fd
  d_is_rows : ∃ fd, FunD K "is_rows" "is_rows" (defArgs sis_rows) (defBody sis_rows) (defScope sis_rows) [] [] (He.ga K "is_rows") fd
  d_Entry_init : ∃ fd, FunD K "__init__" "Entry.__init__" (defArgs sEntry_init) (defBody sEntry_init) (defScope sEntry_init) [] [] (He.ma K (He.ga K "Entry") "__init__") fd
  d_Entry_goes_back : ∃ fd, FunD K "goes_back" "Entry.goes_back" (defArgs sEntry_goes_back) (defBody sEntry_goes_back) (defScope sEntry_goes_back) [] [] (He.ma K (He.ga K "Entry") "goes_back") fd
  d_Entry_is_cut : ∃ fd, FunD K "is_cut" "Entry.is_cut" (defArgs sEntry_is_cut) (defBody sEntry_is_cut) (defScope sEntry_is_cut) [] [] (He.ma K (He.ga K "Entry") "is_cut") fd
  d_Entry_is_few : ∃ fd, FunD K "is_few" "Entry.is_few" (defArgs sEntry_is_few) (defBody sEntry_is_few) (defScope sEntry_is_few) [] [] (He.ma K (He.ga K "Entry") "is_few") fd
  d_Entry_leads : ∃ fd, FunD K "leads" "Entry.leads" (defArgs sEntry_leads) (defBody sEntry_leads) (defScope sEntry_leads) [] [] (He.ma K (He.ga K "Entry") "leads") fd
  d_Entry_word_of : ∃ fd, FunD K "word_of" "Entry.word_of" (defArgs sEntry_word_of) (defBody sEntry_word_of) (defScope sEntry_word_of) [] [] (He.ma K (He.ga K "Entry") "word_of") fd
  d_Entry_take : ∃ fd, FunD K "take" "Entry.take" (defArgs sEntry_take) (defBody sEntry_take) (defScope sEntry_take) [] [] (He.ma K (He.ga K "Entry") "take") fd
  d_Book_init : ∃ fd, FunD K "__init__" "Book.__init__" (defArgs sBook_init) (defBody sBook_init) (defScope sBook_init) [] [("life", V.int 9), ("most", V.int 8)] (He.ma K (He.ga K "Book") "__init__") fd
  d_Book_len : ∃ fd, FunD K "__len__" "Book.__len__" (defArgs sBook_len) (defBody sBook_len) (defScope sBook_len) [] [] (He.ma K (He.ga K "Book") "__len__") fd
  d_Book_entry_of : ∃ fd, FunD K "entry_of" "Book.entry_of" (defArgs sBook_entry_of) (defBody sBook_entry_of) (defScope sBook_entry_of) [] [] (He.ma K (He.ga K "Book") "entry_of") fd
  d_Book_know : ∃ fd, FunD K "know" "Book.know" (defArgs sBook_know) (defBody sBook_know) (defScope sBook_know) [] [("mixing", V.non), ("many", V.int 4), ("fixed", V.int 2)] (He.ma K (He.ga K "Book") "know") fd
  d_Book_put : ∃ fd, FunD K "put" "Book.put" (defArgs sBook_put) (defBody sBook_put) (defScope sBook_put) [] [("policy", V.non), ("plan", V.non)] (He.ma K (He.ga K "Book") "put") fd
  d_Book_ask : ∃ fd, FunD K "ask" "Book.ask" (defArgs sBook_ask) (defBody sBook_ask) (defScope sBook_ask) [] [] (He.ma K (He.ga K "Book") "ask") fd
  d_Book_take : ∃ fd, FunD K "take" "Book.take" (defArgs sBook_take) (defBody sBook_take) (defScope sBook_take) [] [] (He.ma K (He.ga K "Book") "take") fd
  d_Book_names : ∃ fd, FunD K "names" "Book.names" (defArgs sBook_names) (defBody sBook_names) (defScope sBook_names) [] [] (He.ma K (He.ga K "Book") "names") fd
  d_Book_asked : ∃ fd, FunD K "asked" "Book.asked" (defArgs sBook_asked) (defBody sBook_asked) (defScope sBook_asked) [] [] (He.ma K (He.ga K "Book") "asked") fd
  d_Book_last : ∃ fd, FunD K "last" "Book.last" (defArgs sBook_last) (defBody sBook_last) (defScope sBook_last) [] [] (He.ma K (He.ga K "Book") "last") fd
  d_Book_history : ∃ fd, FunD K "history" "Book.history" (defArgs sBook_history) (defBody sBook_history) (defScope sBook_history) [] [] (He.ma K (He.ga K "Book") "history") fd
  d_L_box : ∃ fd, FunD K "_law_box" "_law_box" (defArgs sL_box) (defBody sL_box) (defScope sL_box) [] [] (He.ga K "_law_box") fd
  d_L_take : ∃ fd, FunD K "_law_take" "_law_take" (defArgs sL_take) (defBody sL_take) (defScope sL_take) [] [] (He.ga K "_law_take") fd
  d_L_pick : ∃ fd, FunD K "_law_pick" "_law_pick" (defArgs sL_pick) (defBody sL_pick) (defScope sL_pick) [] [] (He.ga K "_law_pick") fd
  d_L_names : ∃ fd, FunD K "_law_names" "_law_names" (defArgs sL_names) (defBody sL_names) (defScope sL_names) [] [] (He.ga K "_law_names") fd
  d_L_same : ∃ fd, FunD K "_law_same" "_law_same" (defArgs sL_same) (defBody sL_same) (defScope sL_same) [] [] (He.ga K "_law_same") fd
  d_L_name_number : ∃ fd, FunD K "_law_name_number" "_law_name_number" (defArgs sL_name_number) (defBody sL_name_number) (defScope sL_name_number) [] [] (He.ga K "_law_name_number") fd
  d_L_row_number : ∃ fd, FunD K "_law_row_number" "_law_row_number" (defArgs sL_row_number) (defBody sL_row_number) (defScope sL_row_number) [] [] (He.ga K "_law_row_number") fd
  d_L_shares : ∃ fd, FunD K "_law_shares" "_law_shares" (defArgs sL_shares) (defBody sL_shares) (defScope sL_shares) [] [] (He.ga K "_law_shares") fd
  d_L_how : ∃ fd, FunD K "_law_how" "_law_how" (defArgs sL_how) (defBody sL_how) (defScope sL_how) [] [] (He.ga K "_law_how") fd
  d_L_mixed : ∃ fd, FunD K "_law_mixed" "_law_mixed" (defArgs sL_mixed) (defBody sL_mixed) (defScope sL_mixed) [] [] (He.ga K "_law_mixed") fd
  d_L_replay : ∃ fd, FunD K "_law_replay" "_law_replay" (defArgs sL_replay) (defBody sL_replay) (defScope sL_replay) [] [] (He.ga K "_law_replay") fd
  d_L_note : ∃ fd, FunD K "_law_note" "_law_note" (defArgs sL_note) (defBody sL_note) (defScope sL_note) [] [] (He.ga K "_law_note") fd
  d_L_row : ∃ fd, FunD K "_law_row" "_law_row" (defArgs sL_row) (defBody sL_row) (defScope sL_row) [] [] (He.ga K "_law_row") fd
  d_L_log : ∃ fd, FunD K "_law_log" "_law_log" (defArgs sL_log) (defBody sL_log) (defScope sL_log) [] [] (He.ga K "_law_log") fd
  d_L_fault : ∃ fd, FunD K "_law_fault" "_law_fault" (defArgs sL_fault) (defBody sL_fault) (defScope sL_fault) [] [] (He.ga K "_law_fault") fd
  d_L_folded_sign : ∃ fd, FunD K "_law_folded_sign" "_law_folded_sign" (defArgs sL_folded_sign) (defBody sL_folded_sign) (defScope sL_folded_sign) [] [] (He.ga K "_law_folded_sign") fd
  d_L_quote : ∃ fd, FunD K "_law_quote" "_law_quote" (defArgs sL_quote) (defBody sL_quote) (defScope sL_quote) [] [] (He.ga K "_law_quote") fd
  d_L_verdict : ∃ fd, FunD K "_law_verdict" "_law_verdict" (defArgs sL_verdict) (defBody sL_verdict) (defScope sL_verdict) [] [] (He.ga K "_law_verdict") fd
  d_L_stock : ∃ fd, FunD K "_law_stock" "_law_stock" (defArgs sL_stock) (defBody sL_stock) (defScope sL_stock) [] [] (He.ga K "_law_stock") fd
  d_L_begun : ∃ fd, FunD K "_law_begun" "_law_begun" (defArgs sL_begun) (defBody sL_begun) (defScope sL_begun) [] [] (He.ga K "_law_begun") fd
  d_L_known_as : ∃ fd, FunD K "_law_known_as" "_law_known_as" (defArgs sL_known_as) (defBody sL_known_as) (defScope sL_known_as) [] [] (He.ga K "_law_known_as") fd
  d_L_asked_now : ∃ fd, FunD K "_law_asked_now" "_law_asked_now" (defArgs sL_asked_now) (defBody sL_asked_now) (defScope sL_asked_now) [] [] (He.ga K "_law_asked_now") fd
  d_L_ask : ∃ fd, FunD K "_law_ask" "_law_ask" (defArgs sL_ask) (defBody sL_ask) (defScope sL_ask) [] [] (He.ga K "_law_ask") fd
  d_L_late_word : ∃ fd, FunD K "_law_late_word" "_law_late_word" (defArgs sL_late_word) (defBody sL_late_word) (defScope sL_late_word) [] [] (He.ga K "_law_late_word") fd
  d_L_word : ∃ fd, FunD K "_law_word" "_law_word" (defArgs sL_word) (defBody sL_word) (defScope sL_word) [] [] (He.ga K "_law_word") fd
  d_L_stands : ∃ fd, FunD K "_law_stands" "_law_stands" (defArgs sL_stands) (defBody sL_stands) (defScope sL_stands) [] [] (He.ga K "_law_stands") fd
  d_L_pairs_of : ∃ fd, FunD K "_law_pairs_of" "_law_pairs_of" (defArgs sL_pairs_of) (defBody sL_pairs_of) (defScope sL_pairs_of) [] [] (He.ga K "_law_pairs_of") fd
  d_L_tried : ∃ fd, FunD K "_law_tried" "_law_tried" (defArgs sL_tried) (defBody sL_tried) (defScope sL_tried) [] [] (He.ga K "_law_tried") fd
  d_L_otherwise : ∃ fd, FunD K "_law_otherwise" "_law_otherwise" (defArgs sL_otherwise) (defBody sL_otherwise) (defScope sL_otherwise) [] [] (He.ga K "_law_otherwise") fd
  d_L_right : ∃ fd, FunD K "_law_right" "_law_right" (defArgs sL_right) (defBody sL_right) (defScope sL_right) [] [] (He.ga K "_law_right") fd
  d_law : ∃ fd, FunD K "law" "law" (defArgs slaw) (defBody slaw) (defScope slaw) [] [] (He.ga K "law") fd
theorem Tx.of {K : PySem.W.Frag} {mg : Str → Option Value} {h : Heap} (X : K.In h) (G : h.Ns mainGlobals mg) (c : Says K) : Tx K mg := by
  have x := c.x
  unfold exB at x
  obtain ⟨x0, x⟩ := He.ba x
  obtain ⟨x1, x3⟩ := He.ba x
  obtain ⟨x1, x2⟩ := He.ba x1
  exact {
    g_is_name := He.glo_ok X G (c.d.fact 0 (f := .glo "is_name") rfl)
    g_name_number := He.glo_ok X G (c.d.fact 1 (f := .glo "name_number") rfl)
    g_is_from := He.glo_ok X G (c.d.fact 2 (f := .glo "is_from") rfl)
    g_is_noted := He.glo_ok X G (c.d.fact 3 (f := .glo "is_noted") rfl)
    g_is_row := He.glo_ok X G (c.d.fact 4 (f := .glo "is_row") rfl)
    g_row_number := He.glo_ok X G (c.d.fact 5 (f := .glo "row_number") rfl)
    g_is_between := He.glo_ok X G (c.d.fact 6 (f := .glo "is_between") rfl)
    g_divisor_of := He.glo_ok X G (c.d.fact 7 (f := .glo "divisor_of") rfl)
    g_Mixing := He.glo_ok X G (c.d.fact 8 (f := .glo "Mixing") rfl)
    c_Mixing := He.cls_ok (c.d.fact 9 (f := .cls "Mixing") rfl)
    k_Mixing := He.mkr_ok (c.d.fact 10 (f := .mkr "Mixing") rfl)
    n_Mixing_width := He.noat_ok (c.d.fact 11 (f := .noat "Mixing" "width") rfl)
    n_Mixing_factor := He.noat_ok (c.d.fact 12 (f := .noat "Mixing" "factor") rfl)
    m_Mixing_init := He.meth_ok (c.d.fact 13 (f := .meth "Mixing" "__init__") rfl)
    m_Mixing_begin := He.meth_ok (c.d.fact 14 (f := .meth "Mixing" "begin") rfl)
    m_Mixing_mixed := He.meth_ok (c.d.fact 15 (f := .meth "Mixing" "mixed") rfl)
    g_sign_of := He.glo_ok X G (c.d.fact 16 (f := .glo "sign_of") rfl)
    g_is_count := He.glo_ok X G (c.d.fact 17 (f := .glo "is_count") rfl)
    g_is_value := He.glo_ok X G (c.d.fact 18 (f := .glo "is_value") rfl)
    g_is_values := He.glo_ok X G (c.d.fact 19 (f := .glo "is_values") rfl)
    g_is_quote := He.glo_ok X G (c.d.fact 20 (f := .glo "is_quote") rfl)
    g_numbers_of := He.glo_ok X G (c.d.fact 21 (f := .glo "numbers_of") rfl)
    g_is_signed := He.glo_ok X G (c.d.fact 22 (f := .glo "is_signed") rfl)
    g_can_stand := He.glo_ok X G (c.d.fact 23 (f := .glo "can_stand") rfl)
    g_fault := He.glo_ok X G (c.d.fact 24 (f := .glo "fault") rfl)
    g_look_log := He.glo_ok X G (c.d.fact 25 (f := .glo "look_log") rfl)
    g_row_behind := He.glo_ok X G (c.d.fact 26 (f := .glo "row_behind") rfl)
    g_replays := He.glo_ok X G (c.d.fact 27 (f := .glo "replays") rfl)
    g_replay := He.glo_ok X G (c.d.fact 28 (f := .glo "replay") rfl)
    g_leads_to := He.glo_ok X G (c.d.fact 29 (f := .glo "leads_to") rfl)
    g_first_false := He.glo_ok X G (c.d.fact 30 (f := .glo "first_false") rfl)
    g_verdict := He.glo_ok X G (c.d.fact 31 (f := .glo "verdict") rfl)
    g_fits := He.glo_ok X G (c.d.fact 32 (f := .glo "fits") rfl)
    g_is_rows := He.glo_ok X G (c.d.fact 33 (f := .glo "is_rows") rfl)
    g_Entry := He.glo_ok X G (c.d.fact 34 (f := .glo "Entry") rfl)
    c_Entry := He.cls_ok (c.d.fact 35 (f := .cls "Entry") rfl)
    k_Entry := He.mkr_ok (c.d.fact 36 (f := .mkr "Entry") rfl)
    n_Entry_own_key := He.noat_ok (c.d.fact 37 (f := .noat "Entry" "own_key") rfl)
    n_Entry_own_mixing := He.noat_ok (c.d.fact 38 (f := .noat "Entry" "own_mixing") rfl)
    n_Entry_own_many := He.noat_ok (c.d.fact 39 (f := .noat "Entry" "own_many") rfl)
    n_Entry_own_fixed := He.noat_ok (c.d.fact 40 (f := .noat "Entry" "own_fixed") rfl)
    n_Entry_own_policy := He.noat_ok (c.d.fact 41 (f := .noat "Entry" "own_policy") rfl)
    n_Entry_own_plan := He.noat_ok (c.d.fact 42 (f := .noat "Entry" "own_plan") rfl)
    n_Entry_own_asked := He.noat_ok (c.d.fact 43 (f := .noat "Entry" "own_asked") rfl)
    n_Entry_own_last := He.noat_ok (c.d.fact 44 (f := .noat "Entry" "own_last") rfl)
    n_Entry_own_history := He.noat_ok (c.d.fact 45 (f := .noat "Entry" "own_history") rfl)
    m_Entry_init := He.meth_ok (c.d.fact 46 (f := .meth "Entry" "__init__") rfl)
    m_Entry_goes_back := He.meth_ok (c.d.fact 47 (f := .meth "Entry" "goes_back") rfl)
    m_Entry_is_cut := He.meth_ok (c.d.fact 48 (f := .meth "Entry" "is_cut") rfl)
    m_Entry_is_few := He.meth_ok (c.d.fact 49 (f := .meth "Entry" "is_few") rfl)
    m_Entry_leads := He.meth_ok (c.d.fact 50 (f := .meth "Entry" "leads") rfl)
    m_Entry_word_of := He.meth_ok (c.d.fact 51 (f := .meth "Entry" "word_of") rfl)
    m_Entry_take := He.meth_ok (c.d.fact 52 (f := .meth "Entry" "take") rfl)
    g_Book := He.glo_ok X G (c.d.fact 53 (f := .glo "Book") rfl)
    c_Book := He.cls_ok (c.d.fact 54 (f := .cls "Book") rfl)
    k_Book := He.mkr_ok (c.d.fact 55 (f := .mkr "Book") rfl)
    n_Book_own_life := He.noat_ok (c.d.fact 56 (f := .noat "Book" "own_life") rfl)
    n_Book_own_most := He.noat_ok (c.d.fact 57 (f := .noat "Book" "own_most") rfl)
    n_Book_own_entries := He.noat_ok (c.d.fact 58 (f := .noat "Book" "own_entries") rfl)
    n_Book_own_ticks := He.noat_ok (c.d.fact 59 (f := .noat "Book" "own_ticks") rfl)
    n_Book_own_next := He.noat_ok (c.d.fact 60 (f := .noat "Book" "own_next") rfl)
    n_Book_log_rows := He.noat_ok (c.d.fact 61 (f := .noat "Book" "log_rows") rfl)
    n_Book_rows_open := He.noat_ok (c.d.fact 62 (f := .noat "Book" "rows_open") rfl)
    m_Book_init := He.meth_ok (c.d.fact 63 (f := .meth "Book" "__init__") rfl)
    m_Book_len := He.meth_ok (c.d.fact 64 (f := .meth "Book" "__len__") rfl)
    m_Book_entry_of := He.meth_ok (c.d.fact 65 (f := .meth "Book" "entry_of") rfl)
    m_Book_know := He.meth_ok (c.d.fact 66 (f := .meth "Book" "know") rfl)
    m_Book_put := He.meth_ok (c.d.fact 67 (f := .meth "Book" "put") rfl)
    m_Book_ask := He.meth_ok (c.d.fact 68 (f := .meth "Book" "ask") rfl)
    m_Book_take := He.meth_ok (c.d.fact 69 (f := .meth "Book" "take") rfl)
    m_Book_names := He.meth_ok (c.d.fact 70 (f := .meth "Book" "names") rfl)
    m_Book_asked := He.meth_ok (c.d.fact 71 (f := .meth "Book" "asked") rfl)
    m_Book_last := He.meth_ok (c.d.fact 72 (f := .meth "Book" "last") rfl)
    m_Book_history := He.meth_ok (c.d.fact 73 (f := .meth "Book" "history") rfl)
    g_L_box := He.glo_ok X G (c.d.fact 74 (f := .glo "_law_box") rfl)
    g_L_take := He.glo_ok X G (c.d.fact 75 (f := .glo "_law_take") rfl)
    g_L_pick := He.glo_ok X G (c.d.fact 76 (f := .glo "_law_pick") rfl)
    g_L_names := He.glo_ok X G (c.d.fact 77 (f := .glo "_law_names") rfl)
    g_L_same := He.glo_ok X G (c.d.fact 78 (f := .glo "_law_same") rfl)
    g_L_name_number := He.glo_ok X G (c.d.fact 79 (f := .glo "_law_name_number") rfl)
    g_L_row_number := He.glo_ok X G (c.d.fact 80 (f := .glo "_law_row_number") rfl)
    g_L_shares := He.glo_ok X G (c.d.fact 81 (f := .glo "_law_shares") rfl)
    g_L_how := He.glo_ok X G (c.d.fact 82 (f := .glo "_law_how") rfl)
    g_L_mixed := He.glo_ok X G (c.d.fact 83 (f := .glo "_law_mixed") rfl)
    g_L_replay := He.glo_ok X G (c.d.fact 84 (f := .glo "_law_replay") rfl)
    g_L_note := He.glo_ok X G (c.d.fact 85 (f := .glo "_law_note") rfl)
    g_L_row := He.glo_ok X G (c.d.fact 86 (f := .glo "_law_row") rfl)
    g_L_log := He.glo_ok X G (c.d.fact 87 (f := .glo "_law_log") rfl)
    g_L_fault := He.glo_ok X G (c.d.fact 88 (f := .glo "_law_fault") rfl)
    g_L_folded_sign := He.glo_ok X G (c.d.fact 89 (f := .glo "_law_folded_sign") rfl)
    g_L_quote := He.glo_ok X G (c.d.fact 90 (f := .glo "_law_quote") rfl)
    g_L_verdict := He.glo_ok X G (c.d.fact 91 (f := .glo "_law_verdict") rfl)
    g_L_stock := He.glo_ok X G (c.d.fact 92 (f := .glo "_law_stock") rfl)
    g_L_begun := He.glo_ok X G (c.d.fact 93 (f := .glo "_law_begun") rfl)
    g_L_known_as := He.glo_ok X G (c.d.fact 94 (f := .glo "_law_known_as") rfl)
    g_L_asked_now := He.glo_ok X G (c.d.fact 95 (f := .glo "_law_asked_now") rfl)
    g_L_ask := He.glo_ok X G (c.d.fact 96 (f := .glo "_law_ask") rfl)
    g_L_late_word := He.glo_ok X G (c.d.fact 97 (f := .glo "_law_late_word") rfl)
    g_L_word := He.glo_ok X G (c.d.fact 98 (f := .glo "_law_word") rfl)
    g_L_stands := He.glo_ok X G (c.d.fact 99 (f := .glo "_law_stands") rfl)
    g_L_pairs_of := He.glo_ok X G (c.d.fact 100 (f := .glo "_law_pairs_of") rfl)
    g_L_tried := He.glo_ok X G (c.d.fact 101 (f := .glo "_law_tried") rfl)
    g_L_otherwise := He.glo_ok X G (c.d.fact 102 (f := .glo "_law_otherwise") rfl)
    g_L_right := He.glo_ok X G (c.d.fact 103 (f := .glo "_law_right") rfl)
    g_law := He.glo_ok X G (c.d.fact 104 (f := .glo "law") rfl)
    i_NOTES := He.int_ok X G (c.d.fact 105 (f := .int "NOTES" 9973) rfl)
    i_SPAN := He.int_ok X G (c.d.fact 106 (f := .int "SPAN" 26500305465) rfl)
    i_FACTOR := He.int_ok X G (c.d.fact 107 (f := .int "FACTOR" 7919) rfl)
    i_BOARDS := He.int_ok X G (c.d.fact 108 (f := .int "BOARDS" 4) rfl)
    i_FIXED := He.int_ok X G (c.d.fact 109 (f := .int "FIXED" 2) rfl)
    i_SIGNS := He.int_ok X G (c.d.fact 110 (f := .int "SIGNS" 1000000000039) rfl)
    i_FOLD := He.int_ok X G (c.d.fact 111 (f := .int "FOLD" 1000003) rfl)
    i_LIFE := He.int_ok X G (c.d.fact 112 (f := .int "LIFE" 9) rfl)
    i_MACHINES := He.int_ok X G (c.d.fact 113 (f := .int "MACHINES" 8) rfl)
    i_LONGEST := He.int_ok X G (c.d.fact 114 (f := .int "LONGEST" 4) rfl)
    i_BASE := He.int_ok X G (c.d.fact 115 (f := .int "BASE" 27) rfl)
    i_MOST_BOARDS_rows := He.int_ok X G (c.d.fact 116 (f := .int "MOST_BOARDS_rows" 8) rfl)
    i_LEAST_WIDTH := He.int_ok X G (c.d.fact 117 (f := .int "LEAST_WIDTH" 3) rfl)
    i_MOST := He.int_ok X G (c.d.fact 118 (f := .int "MOST" 1000000) rfl)
    i_PLAIN_BEGIN := He.int_ok X G (c.d.fact 119 (f := .int "PLAIN_BEGIN" 1) rfl)
    i_RESET_BEGIN := He.int_ok X G (c.d.fact 120 (f := .int "RESET_BEGIN" 2) rfl)
    i_MOST_BOARDS_quotes := He.int_ok X G (c.d.fact 121 (f := .int "MOST_BOARDS_quotes" 8) rfl)
    s_LETTERS := He.str_ok X G (c.d.fact 122 (f := .str "LETTERS" "abcdefghijklmnopqrstuvwxyz") rfl)
    s_END := He.str_ok X G (c.d.fact 123 (f := .str "END" "end") rfl)
    s_RESET := He.str_ok X G (c.d.fact 124 (f := .str "RESET" "reset") rfl)
    s_FITS := He.str_ok X G (c.d.fact 125 (f := .str "FITS" "fits") rfl)
    g_WORDS := He.glo_ok X G (c.d.fact 126 (f := .glo "WORDS") rfl)
    g_BARE_WORDS := He.glo_ok X G (c.d.fact 127 (f := .glo "BARE_WORDS") rfl)
    g_BEHIND_END := He.glo_ok X G (c.d.fact 128 (f := .glo "BEHIND_END") rfl)
    f_isinstance := He.free_ok X G (c.d.fact 129 (f := .free "isinstance") rfl)
    f_len := He.free_ok X G (c.d.fact 130 (f := .free "len") rfl)
    f_all := He.free_ok X G (c.d.fact 131 (f := .free "all") rfl)
    f_int := He.free_ok X G (c.d.fact 132 (f := .free "int") rfl)
    f_bool := He.free_ok X G (c.d.fact 133 (f := .free "bool") rfl)
    f_str := He.free_ok X G (c.d.fact 134 (f := .free "str") rfl)
    f_tuple := He.free_ok X G (c.d.fact 135 (f := .free "tuple") rfl)
    f_list := He.free_ok X G (c.d.fact 136 (f := .free "list") rfl)
    f_abs := He.free_ok X G (c.d.fact 137 (f := .free "abs") rfl)
    f_sorted := He.free_ok X G (c.d.fact 138 (f := .free "sorted") rfl)
    f_range := He.free_ok X G (c.d.fact 139 (f := .free "range") rfl)
    f_enumerate := He.free_ok X G (c.d.fact 140 (f := .free "enumerate") rfl)
    f_zip := He.free_ok X G (c.d.fact 141 (f := .free "zip") rfl)
    f_min := He.free_ok X G (c.d.fact 142 (f := .free "min") rfl)
    f_max := He.free_ok X G (c.d.fact 143 (f := .free "max") rfl)
    o_WORDS := tupO_ok x0
    d_is_name := c.d.def_ 0 (d := dis_name) rfl
    d_name_number := c.d.def_ 1 (d := dname_number) rfl
    d_is_from := c.d.def_ 2 (d := dis_from) rfl
    d_is_noted := c.d.def_ 3 (d := dis_noted) rfl
    d_is_row := c.d.def_ 4 (d := dis_row) rfl
    d_row_number := c.d.def_ 5 (d := drow_number) rfl
    d_is_between := c.d.def_ 6 (d := dis_between) rfl
    d_divisor_of := c.d.def_ 7 (d := ddivisor_of) rfl
    d_Mixing_init := c.d.def_ 8 (d := dMixing_init) rfl
    d_Mixing_begin := c.d.def_ 9 (d := dMixing_begin) rfl
    d_Mixing_mixed := c.d.def_ 10 (d := dMixing_mixed) rfl
    d_sign_of := c.d.def_ 11 (d := dsign_of) rfl
    d_is_count := c.d.def_ 12 (d := dis_count) rfl
    d_is_value := c.d.def_ 13 (d := dis_value) rfl
    d_is_values := c.d.def_ 14 (d := dis_values) rfl
    d_is_quote := c.d.def_ 15 (d := dis_quote) rfl
    d_numbers_of := c.d.def_ 16 (d := dnumbers_of) rfl
    d_is_signed := c.d.def_ 17 (d := dis_signed) rfl
    d_can_stand := c.d.def_ 18 (d := dcan_stand) rfl
    d_fault := c.d.def_ 19 (d := dfault) rfl
    d_look_log := c.d.def_ 20 (d := dlook_log) rfl
    d_row_behind := c.d.def_ 21 (d := drow_behind) rfl
    d_replays := c.d.def_ 22 (d := dreplays) rfl
    d_replay := c.d.def_ 23 (d := dreplay) rfl
    d_leads_to := c.d.def_ 24 (d := dleads_to) rfl
    d_first_false := c.d.def_ 25 (d := dfirst_false) rfl
    d_verdict := c.d.def_ 26 (d := dverdict) rfl
    d_fits := c.d.def_ 27 (d := dfits) rfl
    d_is_rows := c.d.def_ 28 (d := dis_rows) rfl
    d_Entry_init := c.d.def_ 29 (d := dEntry_init) rfl
    d_Entry_goes_back := c.d.def_ 30 (d := dEntry_goes_back) rfl
    d_Entry_is_cut := c.d.def_ 31 (d := dEntry_is_cut) rfl
    d_Entry_is_few := c.d.def_ 32 (d := dEntry_is_few) rfl
    d_Entry_leads := c.d.def_ 33 (d := dEntry_leads) rfl
    d_Entry_word_of := c.d.def_ 34 (d := dEntry_word_of) rfl
    d_Entry_take := c.d.def_ 35 (d := dEntry_take) rfl
    d_Book_init := c.d.def_ 36 (d := dBook_init) rfl
    d_Book_len := c.d.def_ 37 (d := dBook_len) rfl
    d_Book_entry_of := c.d.def_ 38 (d := dBook_entry_of) rfl
    d_Book_know := c.d.def_ 39 (d := dBook_know) rfl
    d_Book_put := c.d.def_ 40 (d := dBook_put) rfl
    d_Book_ask := c.d.def_ 41 (d := dBook_ask) rfl
    d_Book_take := c.d.def_ 42 (d := dBook_take) rfl
    d_Book_names := c.d.def_ 43 (d := dBook_names) rfl
    d_Book_asked := c.d.def_ 44 (d := dBook_asked) rfl
    d_Book_last := c.d.def_ 45 (d := dBook_last) rfl
    d_Book_history := c.d.def_ 46 (d := dBook_history) rfl
    d_L_box := c.d.def_ 47 (d := dL_box) rfl
    d_L_take := c.d.def_ 48 (d := dL_take) rfl
    d_L_pick := c.d.def_ 49 (d := dL_pick) rfl
    d_L_names := c.d.def_ 50 (d := dL_names) rfl
    d_L_same := c.d.def_ 51 (d := dL_same) rfl
    d_L_name_number := c.d.def_ 52 (d := dL_name_number) rfl
    d_L_row_number := c.d.def_ 53 (d := dL_row_number) rfl
    d_L_shares := c.d.def_ 54 (d := dL_shares) rfl
    d_L_how := c.d.def_ 55 (d := dL_how) rfl
    d_L_mixed := c.d.def_ 56 (d := dL_mixed) rfl
    d_L_replay := c.d.def_ 57 (d := dL_replay) rfl
    d_L_note := c.d.def_ 58 (d := dL_note) rfl
    d_L_row := c.d.def_ 59 (d := dL_row) rfl
    d_L_log := c.d.def_ 60 (d := dL_log) rfl
    d_L_fault := c.d.def_ 61 (d := dL_fault) rfl
    d_L_folded_sign := c.d.def_ 62 (d := dL_folded_sign) rfl
    d_L_quote := c.d.def_ 63 (d := dL_quote) rfl
    d_L_verdict := c.d.def_ 64 (d := dL_verdict) rfl
    d_L_stock := c.d.def_ 65 (d := dL_stock) rfl
    d_L_begun := c.d.def_ 66 (d := dL_begun) rfl
    d_L_known_as := c.d.def_ 67 (d := dL_known_as) rfl
    d_L_asked_now := c.d.def_ 68 (d := dL_asked_now) rfl
    d_L_ask := c.d.def_ 69 (d := dL_ask) rfl
    d_L_late_word := c.d.def_ 70 (d := dL_late_word) rfl
    d_L_word := c.d.def_ 71 (d := dL_word) rfl
    d_L_stands := c.d.def_ 72 (d := dL_stands) rfl
    d_L_pairs_of := c.d.def_ 73 (d := dL_pairs_of) rfl
    d_L_tried := c.d.def_ 74 (d := dL_tried) rfl
    d_L_otherwise := c.d.def_ 75 (d := dL_otherwise) rfl
    d_L_right := c.d.def_ 76 (d := dL_right) rfl
    d_law := c.d.def_ 77 (d := dlaw) rfl
    t_WORDS := fun H => He.tupB_ok x1 H
    t_BARE_WORDS := fun H => He.tupB_ok x2 H
    t_BEHIND_END := fun H => He.tupB_ok x3 H
  }
end Hd

/-! support: frames of heaps, calls by facts -/
namespace Sv
open PySem PySem.Spec PyProof.Rows L2

/-! ### heaps: all but S stands -/
def Kp (S : List Addr) (H H' : Hp) : Prop := ∀ b o, H b = some o → b ∉ S → H' b = some o
theorem Kp.refl {S : List Addr} (H : Hp) : Kp S H H := fun _ _ h _ => h
theorem Kp.trans {S : List Addr} {H H1 H2 : Hp} (a : Kp S H H1) (b : Kp S H1 H2) : Kp S H H2 := fun c o h n => b c o (a c o h n) n
theorem Kp.mono {S T : List Addr} {H H1 : Hp} (a : Kp S H H1) (h : ∀ x ∈ S, x ∈ T) : Kp T H H1 := fun c o e n => a c o e fun m => n (h c m)
theorem Same.kp {S : List Addr} {H H' : Hp} (a : Same H H') : Kp S H H' := fun c o h _ => a c o h
theorem Kp.same {H H' : Hp} (a : Kp [] H H') : Same H H' := fun c o h => a c o h (by simp)
theorem Kp.put {S : List Addr} {H H' : Hp} {a : Addr} {o : HO} (k : Kp S H H') (m : a ∈ S) : Kp S H (upd H' a o) := fun c u h n => by
  have e : c ≠ a := fun z => n (z ▸ m)
  rw [upd_ne e]
  exact k c u h n
/-- an object that was not there may be written -/
theorem Kp.own {S : List Addr} {H H' : Hp} {a : Addr} {o : HO} (k : Kp S H H') (m : H a = none) : Kp S H (upd H' a o) := fun c u h n => by
  rw [upd_ne (ne_of_none h m)]
  exact k c u h n
theorem Same.get {H H' : Hp} (k : Same H H') {a : Addr} {o : HO} (h : H a = some o) : H' a = some o := k a o h
theorem Kp.get {S : List Addr} {H H' : Hp} (k : Kp S H H') {a : Addr} {o : HO} (h : H a = some o) (n : a ∉ S) : H' a = some o := k a o h n
theorem Same.new {H : Hp} {p : Addr} {o : HO} (h : H p = none) : Same H (upd H p o) := fun a u e => by
  rw [upd_ne (ne_of_none e h)]
  exact e
theorem Same.own {H H' : Hp} {p : Addr} {o : HO} (k : Same H H') (h : H p = none) : Same H (upd H' p o) := fun a u e => by
  rw [upd_ne (ne_of_none e h)]
  exact k a u e
theorem Same.tup {K : PySem.W.Frag} {H H' : Hp} {a : Addr} {xs : List V} (e : Same H H') (h : SqT K H a xs) : SqT K H' a xs := by
  rcases h with (h | ⟨o, h⟩) | h
  · exact .inl (.inl (e _ _ h))
  · exact .inl (.inr ⟨o, e _ _ h⟩)
  · exact .inr h
/-- a new object: from here on by what is known of it -/
theorem fresh {H : Hp} {o : HO} {Q : Addr → Hp → Prop} (h : ∀ p H2, H p = none → Same H H2 → H2 p = some o → Q p H2) : ∀ p, H p = none → Q p (upd H p o) := fun p n => h p _ n (Same.new n) upd_same
theorem size_le {n : Nat} (h : n ≤ 100000) : n ≤ sizeLine := Nat.le_trans h (by decide)
theorem size_lt {n : Nat} (h : n < 100000) : n < sizeLine := Nat.lt_of_lt_of_le h (by decide)

/-! ### global names -/
section
variable {X : Cx} {x : Str} {pos : Pos}
theorem pe_gI {i : Int} (h : ∃ t, X.mg x = some (.int i t)) (hg : Gl X x := by rfl) (hd : (x == ("__debug__" : Str)) = false := by decide) : PE X (.Name x pos) (tC (.int i)) := by
  obtain ⟨t, e⟩ := h
  exact pe_glob hg e ⟨t, rfl⟩ hd
theorem pe_gS {z : Str} (h : ∃ t, X.mg x = some (.str z t)) (hg : Gl X x := by rfl) (hd : (x == ("__debug__" : Str)) = false := by decide) : PE X (.Name x pos) (tC (.str z)) := by
  obtain ⟨t, e⟩ := h
  exact pe_glob hg e ⟨t, rfl⟩ hd
theorem pe_gR {a : Addr} (h : X.mg x = some (.ref a)) (hg : Gl X x := by rfl) (hd : (x == ("__debug__" : Str)) = false := by decide) : PE X (.Name x pos) (tC (.ref a)) := pe_glob hg h rfl hd
theorem pe_gTy {n : String} (h : X.mg x = none) (hv : bootBuiltins x = some (.type n)) (hg : Gl X x := by rfl) (hn : x ≠ "__name__" := by decide) (hd : (x == ("__debug__" : Str)) = false := by decide) : PE X (.Name x pos) (tC (.ty n)) := pe_bltn hg h hv rfl hn hd
end

/-! ### defs that may be called -/
section
variable (P : Program) (w : World) (K : PySem.W.Frag) (mg : Str → Option Value) (base : Heap)
/-- a def by its name, every parameter given by its place -/
structure Cal (k : Nat) (x : Str) (sp : Sp) : Prop where
  ex : ∃ (f : Addr) (fd : FuncData) (ps : List Str), FnOk P w K mg base CX0 k f fd ps sp ∧ mg x = some (.ref f) ∧ PySem.W.keepIn K (.ref f) = true ∧ Binds K fd ps []
/-- .. n by their places, the others by the names ks, in the parameters' order -/
structure CalK (k : Nat) (x : Str) (sp : Sp) (n : Nat) (ks : List Str) : Prop where
  ex : ∃ (f : Addr) (fd : FuncData) (ps : List Str), FnOk P w K mg base CX0 k f fd ps sp ∧ mg x = some (.ref f) ∧ PySem.W.keepIn K (.ref f) = true ∧ KBn K fd ps n ks (fun us ws => us ++ ws) (fun vs zs => vs ++ zs)
structure Met (k : Nat) (C : Addr) (m : Str) (sp : Sp) : Prop where
  ex : ∃ (f : Addr) (fd : FuncData) (ps : List Str), Cls K C ∧ Meth K C m f ∧ FnOk P w K mg base CX0 k f fd ps sp ∧ Binds K fd ps []
structure MetD (k : Nat) (C : Addr) (m : Str) (sp : Sp) (dvs : List V) : Prop where
  ex : ∃ (f : Addr) (fd : FuncData) (ps : List Str) (ds : List Value), Cls K C ∧ Meth K C m f ∧ FnOk P w K mg base CX0 k f fd ps sp ∧ Binds K fd ps ds ∧ Vals dvs ds
structure MetK (k : Nat) (C : Addr) (m : Str) (sp : Sp) (n : Nat) (ks : List Str) : Prop where
  ex : ∃ (f : Addr) (fd : FuncData) (ps : List Str), Cls K C ∧ Meth K C m f ∧ FnOk P w K mg base CX0 k f fd ps sp ∧ KBn K fd ps (n + 1) ks (fun us ws => us ++ ws) (fun vs zs => vs ++ zs)
structure Mak (k : Nat) (x : Str) (C : Addr) (sp : Sp) (dvs : List V) : Prop where
  ex : ∃ (f : Addr) (fd : FuncData) (ps : List Str) (ds : List Value), Mk K C f ∧ FnOk P w K mg base CX0 k f fd ps sp ∧ mg x = some (.ref C) ∧ Binds K fd ps ds ∧ Vals dvs ds
structure MakK (k : Nat) (x : Str) (C : Addr) (sp : Sp) (n : Nat) (ks : List Str) (gV : List V → List V → List V) : Prop where
  ex : ∃ (f : Addr) (fd : FuncData) (ps : List Str) (g : List Value → List Value → List Value), Mk K C f ∧ FnOk P w K mg base CX0 k f fd ps sp ∧ mg x = some (.ref C) ∧ KBn K fd ps (n + 1) ks g gV
end
section
variable {P : Program} {w : World} {K : PySem.W.Frag} {mg : Str → Option Value} {base : Heap} {x qual : Str} {params : Arguments} {body : List Stmt} {scope : Scope} {dvs : List V} {kws : List (Str × V)} {f : Addr} {fd : FuncData} {N ps : List Str} {k n : Nat} {sp : Sp} {ks : List Str}
/-- the body's walk, as a def of the text keeps its promise -/
def Walks (P : Program) (w : World) (K : PySem.W.Frag) (mg : Str → Option Value) (base : Heap) (qual : Str) (body : List Stmt) (scope : Scope) (f : Addr) (N : List Str) (k : Nat) (sp : Sp) : Prop :=
  ∀ (cdv : Value) (A : Around) (outer : List Env) (s : Shared) (H : Hp) (vs : List V) (Q : VK) (E : XK), Room k (A.deeper (envOfC qual scope s.heap.objs.size f cdv)) → sp vs H Q E →
    ∃ t, PSs (cxOf CX0 P w K mg base N qual scope f cdv A outer s H E).nox body t ∧ t { nx := fun _ H' => Q .non H', rt := Q } (start N vs) H
theorem fnD (F : FunD K x qual params body scope dvs kws f fd) (S : FnScope N ps scope) (len : ∀ vs H Q E, sp vs H Q E → vs.length = ps.length) (hb : Walks P w K mg base qual body scope f N k sp) : FnOk P w K mg base CX0 (k + 1) f fd ps sp :=
  F.ok S len fun cdv A outer s H vs Q E hr h => by
    obtain ⟨t, a, b⟩ := hb cdv A outer s H vs Q E hr h
    exact ⟨t, a.nox, b⟩
abbrev BindP (x qual : Str) (params : Arguments) (body : List Stmt) (scope : Scope) (ps : List Str) : Prop :=
  ∀ (kV doc pm : Value) (an : Option Addr) (cdv ct : Value) (us : List Value), us.length = ps.length → bindArgs (PySem.W.fnOf x qual params body scope .none kV doc pm an cdv ct) ⟨us, []⟩ = pure (ps.zip us)
theorem calD (F : FunD K x x params body scope [] kws f fd) (hm : mg x = some (.ref f)) (S : FnScope N ps scope) (len : ∀ vs H Q E, sp vs H Q E → vs.length = ps.length) (h : BindP x x params body scope ps)
    (hb : Walks P w K mg base x body scope f N k sp) : Cal P w K mg base (k + 1) x sp := ⟨f, fd, ps, fnD F S len hb, hm, F.kp, F.bindsN h⟩
theorem metD {C : Addr} {m : Str} (c : Cls K C) (hm : Meth K C m f) (F : FunD K m qual params body scope [] kws f fd) (S : FnScope N ps scope) (len : ∀ vs H Q E, sp vs H Q E → vs.length = ps.length) (h : BindP m qual params body scope ps)
    (hb : Walks P w K mg base qual body scope f N k sp) : Met P w K mg base (k + 1) C m sp := ⟨f, fd, ps, c, hm, fnD F S len hb, F.bindsN h⟩
theorem makD {C : Addr} (M : Mk K C f) (hm : mg x = some (.ref C)) (F : FunD K "__init__" qual params body scope [] kws f fd) (S : FnScope N ps scope) (len : ∀ vs H Q E, sp vs H Q E → vs.length = ps.length) (h : BindP "__init__" qual params body scope ps)
    (hb : Walks P w K mg base qual body scope f N k sp) : Mak P w K mg base (k + 1) x C sp [] := ⟨f, fd, ps, [], M, fnD F S len hb, hm, F.bindsN h, .nil⟩
/-- every parameter given, some by names: no default is looked at -/
abbrev BindK (x qual : Str) (params : Arguments) (body : List Stmt) (scope : Scope) (ps : List Str) (n : Nat) (ks : List Str) : Prop :=
  ∀ (kV doc pm : Value) (an : Option Addr) (cdv ct : Value) (us ws : List Value), us.length = n → ws.length = ks.length → bindArgs (PySem.W.fnOf x qual params body scope .none kV doc pm an cdv ct) ⟨us, ks.zip ws⟩ = pure (ps.zip (us ++ ws))
theorem kbnD (F : FunD K x qual params body scope [] kws f fd) (h : BindK x qual params body scope ps n ks) : KBn K fd ps n ks (fun us ws => us ++ ws) (fun vs zs => vs ++ zs) := by
  obtain ⟨oc, od, dV, kV, doc, pm, an, cdv, ct, osl, rfl, lk, hcd, hD, hK⟩ := F.ex
  rcases hD with ⟨_, rfl⟩ | ⟨e, _⟩
  · exact ⟨fun s us ws _ l1 l2 => .of_eq (h kV doc pm an cdv ct us ws l1 l2), fun r1 r2 => r1.append r2⟩
  · exact absurd rfl e
theorem calKD (F : FunD K x x params body scope [] kws f fd) (hm : mg x = some (.ref f)) (S : FnScope N ps scope) (len : ∀ vs H Q E, sp vs H Q E → vs.length = ps.length) (h : BindK x x params body scope ps n ks)
    (hb : Walks P w K mg base x body scope f N k sp) : CalK P w K mg base (k + 1) x sp n ks := ⟨f, fd, ps, fnD F S len hb, hm, F.kp, kbnD F h⟩
theorem metKD {C : Addr} {m : Str} (c : Cls K C) (hm : Meth K C m f) (F : FunD K m qual params body scope [] kws f fd) (S : FnScope N ps scope) (len : ∀ vs H Q E, sp vs H Q E → vs.length = ps.length) (h : BindK m qual params body scope ps (n + 1) ks)
    (hb : Walks P w K mg base qual body scope f N k sp) : MetK P w K mg base (k + 1) C m sp n ks := ⟨f, fd, ps, c, hm, fnD F S len hb, kbnD F h⟩
theorem Cal.mono {j : Nat} (c : Cal P w K mg base j x sp) (h : j ≤ k) : Cal P w K mg base k x sp := by
  obtain ⟨f, fd, ps, F, r⟩ := c.ex
  exact ⟨f, fd, ps, F.mono h, r⟩
end
section
variable {X : Cx} {k j n : Nat} {C : Addr} {x m : Str} {sp : Sp} {dvs : List V} {ks : List Str} {gV : List V → List V → List V} {p pos apos : Pos} {e o : Expr} {es : List Expr} {kws : List Keyword} {ta : TE} {t tk : TA}
theorem pc (c : Cal X.prog X.w X.K X.mg X.base k x sp) (hr : Room j X.A) (hk : k ≤ j) (ha : PA X (e :: es) t) (hg : Gl X x := by rfl)
    (hdb : (x == ("__debug__" : Str)) = false := by decide) (he : starEach (e :: es) X.env = (false, eval e X.env) :: starEach es X.env := by rfl) (hpl : (backTo pos (starEach es X.env)).any (·.1) = false := by rfl) :
    PE X (.Call (.Name x p) (e :: es) [] pos) (tCall sp [] E0 t) := by
  obtain ⟨f, fd, ps, F, hm, kp, b⟩ := c.ex
  exact pe_call F (hr.mono hk) hg hm kp b .nil pass0 ha hdb he hpl
theorem pcK (c : CalK X.prog X.w X.K X.mg X.base k x sp n ks) (hr : Room j X.A) (hk : k ≤ j) (ha : PA X (e :: es) t) (hkw : PK X kws tk) (hg : Gl X x := by rfl)
    (hall : (backToKw pos (keywordEach kws X.env)).all (·.1.isSome) = true := by rfl) (hks : (backToKw pos (keywordEach kws X.env)).filterMap (·.1) = ks := by rfl)
    (hdb : (x == ("__debug__" : Str)) = false := by decide) (he : starEach (e :: es) X.env = (false, eval e X.env) :: starEach es X.env := by rfl)
    (hpl : ((backTo pos (starEach (e :: es) X.env)).any (·.1) || (backToKw pos (keywordEach kws X.env)).any (·.1.isNone)) = false := by rfl) :
    PE X (.Call (.Name x p) (e :: es) kws pos) (tCallN n ks.length sp (fun vs zs => vs ++ zs) E0 t tk) := by
  obtain ⟨f, fd, ps, F, hm, kp, b⟩ := c.ex
  exact pe_callN F (hr.mono hk) hg hm kp b pass0 ha hkw hall hks hdb he hpl
theorem pm {pl : Sem Bool} (c : Met X.prog X.w X.K X.mg X.base k C m sp) (hr : Room j X.A) (hk : k ≤ j) (he : PE X o ta) (ha : PA X (e :: es) t)
    (hst : starEach (e :: es) X.env = (false, eval e X.env) :: starEach es X.env := by rfl) (hpl : (backTo pos (starEach es X.env)).any (·.1) = false := by rfl)
    (ht : eval (.Call (.Attribute o m apos) (e :: es) [] pos) X.env = (do
      let ov ← eval o X.env; standAt apos.atName
      let (f, first) ← holding [ov] (getMethod ov m pl); callWith pos f first (backTo pos (starEach (e :: es) X.env)) (backToKw pos (keywordEach [] X.env))) := by rfl) :
    PE X (.Call (.Attribute o m apos) (e :: es) [] pos) (tMeth C m sp [] E0 ta t) := by
  obtain ⟨f, fd, ps, hc, hm, F, b⟩ := c.ex
  exact pe_meth (pl := pl) he hc hm F (hr.mono hk) b .nil pass0 ha hst hpl ht
theorem pm0 {pl : Sem Bool} (c : Met X.prog X.w X.K X.mg X.base k C m sp) (hr : Room j X.A) (hk : k ≤ j) (he : PE X o ta)
    (ht : eval (.Call (.Attribute o m apos) [] [] pos) X.env = (do
      let ov ← eval o X.env; standAt apos.atName
      let (f, first) ← holding [ov] (getMethod ov m pl); callWith pos f first (backTo pos (starEach [] X.env)) (backToKw pos (keywordEach [] X.env))) := by rfl) :
    PE X (.Call (.Attribute o m apos) [] [] pos) (tMeth C m sp [] E0 ta tNil) := by
  obtain ⟨f, fd, ps, hc, hm, F, b⟩ := c.ex
  exact pe_meth0 (pl := pl) he hc hm F (hr.mono hk) b .nil pass0 ht
theorem pm0D {pl : Sem Bool} (c : MetD X.prog X.w X.K X.mg X.base k C m sp dvs) (hr : Room j X.A) (hk : k ≤ j) (he : PE X o ta)
    (ht : eval (.Call (.Attribute o m apos) [] [] pos) X.env = (do
      let ov ← eval o X.env; standAt apos.atName
      let (f, first) ← holding [ov] (getMethod ov m pl); callWith pos f first (backTo pos (starEach [] X.env)) (backToKw pos (keywordEach [] X.env))) := by rfl) :
    PE X (.Call (.Attribute o m apos) [] [] pos) (tMeth C m sp dvs E0 ta tNil) := by
  obtain ⟨f, fd, ps, ds, hc, hm, F, b, d⟩ := c.ex
  exact pe_meth0 (pl := pl) he hc hm F (hr.mono hk) b d pass0 ht
/-- o.m(e, .., k = v, ..) -/
def tMethN (C : Addr) (m : Str) (n l : Nat) (sp : Sp) (ta : TE) (t tk : TA) : TE := fun σ H Q => ta σ H fun x H1 => ∃ a dx fs, x = .ref a ∧ H1 a = some (.ins C dx fs) ∧ fs.lookup m = none ∧
  t σ H1 fun vs H2 => tk σ H2 fun zs H3 => vs.length = n ∧ zs.length = l ∧ sp (.ref a :: (vs ++ zs)) H3 Q E0
theorem pmK {pl : Sem Bool} (c : MetK X.prog X.w X.K X.mg X.base k C m sp n ks) (hr : Room j X.A) (hk : k ≤ j) (he : PE X o ta) (ha : PA X (e :: es) t) (hkw : PK X kws tk)
    (hall : (backToKw pos (keywordEach kws X.env)).all (·.1.isSome) = true := by rfl) (hks : (backToKw pos (keywordEach kws X.env)).filterMap (·.1) = ks := by rfl)
    (hst : starEach (e :: es) X.env = (false, eval e X.env) :: starEach es X.env := by rfl) (hpl : ((backTo pos (starEach (e :: es) X.env)).any (·.1) || (backToKw pos (keywordEach kws X.env)).any (·.1.isNone)) = false := by rfl)
    (ht : eval (.Call (.Attribute o m apos) (e :: es) kws pos) X.env = (do
      let ov ← eval o X.env; standAt apos.atName
      let (f, first) ← holding [ov] (getMethod ov m pl); callWith pos f first (backTo pos (starEach (e :: es) X.env)) (backToKw pos (keywordEach kws X.env))) := by rfl) :
    PE X (.Call (.Attribute o m apos) (e :: es) kws pos) (tMethN C m n ks.length sp ta t tk) := by
  obtain ⟨f, fd, ps, hc, hm, F, b⟩ := c.ex
  refine ⟨fun pins s σ H Q I h => ?_⟩
  refine PySem.W.methodCall_KW (pl := pl) (thn (he.run pins s σ H _ I h) fun u s1 ⟨x, H1, I1, rx, a, dx, fs, ex, ea, l, q⟩ => ?_) ht
  subst ex; obtain rfl : u = Value.ref a := rx
  refine getmeth_ok I1 ea hc hm l (PySem.W.callWith_KW (first := [.ref a]) (h₀ := X.base) I.ok.mod.kin hm.kp hall (thn (ha.run pos pins s1 σ H1 _ I1 q) fun us s2 ⟨vs, H2, I2, r, q2⟩ => ?_) hpl hst)
  refine thn (hkw.run pos pins s2 σ H2 _ I2 q2) fun ws s3 ⟨zs, H3, I3, rz, l1, l2, q3⟩ => ⟨I3.kIn, ?_⟩
  rw [hks]
  exact run_fnN (us := .ref a :: us) (vs := .ref a :: vs) F (hr.mono hk) b pass0 I3 (.cons rfl r) rz (congrArg Nat.succ l1) l2 q3
/-- o.m(k = v, ..) -/
theorem pmK0 {pl : Sem Bool} (c : MetK X.prog X.w X.K X.mg X.base k C m sp 0 ks) (hr : Room j X.A) (hk : k ≤ j) (he : PE X o ta) (hkw : PK X kws tk)
    (hall : (backToKw pos (keywordEach kws X.env)).all (·.1.isSome) = true := by rfl) (hks : (backToKw pos (keywordEach kws X.env)).filterMap (·.1) = ks := by rfl)
    (hpl : ((backTo pos (starEach [] X.env)).any (·.1) || (backToKw pos (keywordEach kws X.env)).any (·.1.isNone)) = false := by rfl)
    (ht : eval (.Call (.Attribute o m apos) [] kws pos) X.env = (do
      let ov ← eval o X.env; standAt apos.atName
      let (f, first) ← holding [ov] (getMethod ov m pl); callWith pos f first (backTo pos (starEach [] X.env)) (backToKw pos (keywordEach kws X.env))) := by rfl) :
    PE X (.Call (.Attribute o m apos) [] kws pos) (tMethN C m 0 ks.length sp ta tNil tk) := by
  obtain ⟨f, fd, ps, hc, hm, F, b⟩ := c.ex
  refine ⟨fun pins s σ H Q I h => ?_⟩
  refine PySem.W.methodCall_KW (pl := pl) (thn (he.run pins s σ H _ I h) fun u s1 ⟨x, H1, I1, rx, a, dx, fs, ex, ea, l, q⟩ => ?_) ht
  subst ex; obtain rfl : u = Value.ref a := rx
  refine getmeth_ok I1 ea hc hm l (PySem.W.callWith_KW0 (first := [.ref a]) (h₀ := X.base) I.ok.mod.kin hm.kp hall (thn (hkw.run pos pins s1 σ H1 _ I1 q) fun ws s3 ⟨zs, H3, I3, rz, l1, l2, q3⟩ => ⟨I3.kIn, ?_⟩) hpl)
  rw [hks]
  exact run_fnN (us := [.ref a]) (vs := [.ref a]) F (hr.mono hk) b pass0 I3 (.cons rfl .nil) rz rfl l2 q3
theorem pmk (c : Mak X.prog X.w X.K X.mg X.base k x C sp dvs) (hr : Room j X.A) (hk : k + 1 ≤ j) (ha : PA X (e :: es) t) (hg : Gl X x := by rfl)
    (hdb : (x == ("__debug__" : Str)) = false := by decide) (he : starEach (e :: es) X.env = (false, eval e X.env) :: starEach es X.env := by rfl) (hpl : (backTo pos (starEach es X.env)).any (·.1) = false := by rfl) :
    PE X (.Call (.Name x p) (e :: es) [] pos) (tMake C sp dvs E0 t) := by
  obtain ⟨f, fd, ps, ds, M, F, hm, b, d⟩ := c.ex
  exact pe_make M F (hr.mono hk) hg hm b d pass0 ha hdb he hpl
theorem pmk0 (c : Mak X.prog X.w X.K X.mg X.base k x C sp dvs) (hr : Room j X.A) (hk : k + 1 ≤ j) (hg : Gl X x := by rfl) (hdb : (x == ("__debug__" : Str)) = false := by decide) :
    PE X (.Call (.Name x p) [] [] pos) (tMake C sp dvs E0 tNil) := by
  obtain ⟨f, fd, ps, ds, M, F, hm, b, d⟩ := c.ex
  exact pe_make0 M F (hr.mono hk) hg hm b d pass0 hdb
theorem pmkK (c : MakK X.prog X.w X.K X.mg X.base k x C sp n ks gV) (hr : Room j X.A) (hk : k + 1 ≤ j) (ha : PA X (e :: es) t) (hkw : PK X kws tk) (hg : Gl X x := by rfl)
    (hall : (backToKw pos (keywordEach kws X.env)).all (·.1.isSome) = true := by rfl) (hks : (backToKw pos (keywordEach kws X.env)).filterMap (·.1) = ks := by rfl)
    (hdb : (x == ("__debug__" : Str)) = false := by decide) (he : starEach (e :: es) X.env = (false, eval e X.env) :: starEach es X.env := by rfl)
    (hpl : ((backTo pos (starEach (e :: es) X.env)).any (·.1) || (backToKw pos (keywordEach kws X.env)).any (·.1.isNone)) = false := by rfl) :
    PE X (.Call (.Name x p) (e :: es) kws pos) (tMakeN C n ks.length sp gV E0 t tk) := by
  obtain ⟨f, fd, ps, g, M, F, hm, b⟩ := c.ex
  exact pe_makeN M F (hr.mono hk) hg hm b pass0 ha hkw hall hks hdb he hpl
end

/-! ### comprehensions without a test that is open -/
section
variable {J : It} {n : Nat} {G : Hp → Prop} {Y : Nat → Hp → V → Hp → Prop} {g : TG} {tt : TT} {te : TE} {vs : List Nat} {σ : L2.St} {H1 : Hp} {D : Addr} {Qd : Hp → Prop}
/-- what holds between two turns: I, and the list so far -/
abbrev LcI (D : Addr) (ys : List V) (I : Nat → Hp → Prop) : Nat → Hp → Prop := fun i H => I i H ∧ H D = some (.lst (ys.take i))
/-- a turn's end -/
theorem lc_end {ys : List V} {I : Nat → Hp → Prop} {i : Nat} {y : V} {H4 : Hp} (hz : ys.length ≤ 100000) (hI : ∀ i H o, I i H → I i (upd H D o)) (e1 : ys[i]? = some y) (e2 : H4 D = some (.lst (ys.take i))) (e3 : I (i + 1) H4) :
    ∃ acc, H4 D = some (.lst acc) ∧ acc.length < sizeLine ∧ LcI D ys I (i + 1) (upd H4 D (.lst (acc ++ [y]))) := by
  refine ⟨_, e2, ?_, hI _ _ _ e3, ?_⟩
  · have h := (List.getElem?_eq_some_iff.mp e1).1
    rw [List.length_take]
    exact Nat.lt_of_lt_of_le (Nat.lt_of_le_of_lt (Nat.min_le_left _ _) h) (size_le hz)
  · rw [upd_same, List.take_add_one, e1]; rfl
/-- I is kept along, ys comes out -/
theorem lc_all (w : Walk J n G Y) (ys : List V) (I : Nat → Hp → Prop) (hy : ys.length = n) (hG : ∀ i H, i ≤ n → I i H → G H) (hI : ∀ i H o, I i H → I i (upd H D o)) (h0 : I 0 H1)
    (hs : ∀ i x H H', i < n → I i H → H D = some (.lst (ys.take i)) → Y i H x H' → g x (wipe σ vs) H' fun σ2 H2 => wipe σ2 vs = wipe σ vs ∧ tt σ2 H2 fun b H3 =>
      if b = true then te σ2 H3 fun y H4 => ∃ acc, H4 D = some (.lst acc) ∧ acc.length < sizeLine ∧ LcI D ys I (i + 1) (upd H4 D (.lst (acc ++ [y]))) else LcI D ys I (i + 1) H3)
    (hd : ∀ H, I n H → H D = some (.lst ys) → Qd H) :
    ∃ W : Nat → Nat → Hp → Prop, (∃ m, W 0 m (upd H1 D (.lst []))) ∧ ∀ i m H, W i m H →
      (J.stop i H ∧ Qd H) ∨ (J.go i H ∧ ∃ Nx : Hp → Prop, (∀ H', Nx H' → ∃ m', m' < m ∧ W (i + 1) m' H') ∧ ∀ x H', J.yld i H x H' → g x (wipe σ vs) H' fun σ2 H2 => wipe σ2 vs = wipe σ vs ∧ tt σ2 H2 fun b H3 =>
        if b = true then te σ2 H3 fun y H4 => ∃ acc, H4 D = some (.lst acc) ∧ acc.length < sizeLine ∧ Nx (upd H4 D (.lst (acc ++ [y]))) else Nx H3) :=
  lc_it w (LcI D ys I) ⟨hI 0 H1 _ h0, upd_same⟩ (fun i H hi p => hG i H hi p.1) (fun i x H H' hi p y => hs i x H H' hi p.1 p.2 y) fun H p => hd H p.1 (by
    have := p.2
    rwa [← hy, List.take_length] at this)
/-- .. where nothing that stood ahead is touched -/
theorem lc_pure (w : Walk J n G Y) (ys : List V) (hy : ys.length = n) (hD : H1 D = none) (hG : ∀ H, Same H1 H → G H)
    (hs : ∀ i x H H', i < n → Same H1 H → H D = some (.lst (ys.take i)) → Y i H x H' → g x (wipe σ vs) H' fun σ2 H2 => wipe σ2 vs = wipe σ vs ∧ tt σ2 H2 fun b H3 =>
      if b = true then te σ2 H3 fun y H4 => ∃ acc, H4 D = some (.lst acc) ∧ acc.length < sizeLine ∧ LcI D ys (fun _ H => Same H1 H) (i + 1) (upd H4 D (.lst (acc ++ [y]))) else LcI D ys (fun _ H => Same H1 H) (i + 1) H3)
    (hd : ∀ H, Same H1 H → H D = some (.lst ys) → Qd H) :
    ∃ W : Nat → Nat → Hp → Prop, (∃ m, W 0 m (upd H1 D (.lst []))) ∧ ∀ i m H, W i m H →
      (J.stop i H ∧ Qd H) ∨ (J.go i H ∧ ∃ Nx : Hp → Prop, (∀ H', Nx H' → ∃ m', m' < m ∧ W (i + 1) m' H') ∧ ∀ x H', J.yld i H x H' → g x (wipe σ vs) H' fun σ2 H2 => wipe σ2 vs = wipe σ vs ∧ tt σ2 H2 fun b H3 =>
        if b = true then te σ2 H3 fun y H4 => ∃ acc, H4 D = some (.lst acc) ∧ acc.length < sizeLine ∧ Nx (upd H4 D (.lst (acc ++ [y]))) else Nx H3) :=
  lc_all w ys (fun _ H => Same H1 H) hy (fun _ H _ h => hG H h) (fun _ _ _ h => Same.own h hD) (Same.refl _) hs hd
theorem lc_pend {ys : List V} {i : Nat} {y : V} {H4 : Hp} (hD : H1 D = none) (hz : ys.length ≤ 100000) (e1 : ys[i]? = some y) (e2 : H4 D = some (.lst (ys.take i))) (e3 : Same H1 H4) :
    ∃ acc, H4 D = some (.lst acc) ∧ acc.length < sizeLine ∧ LcI D ys (fun _ H => Same H1 H) (i + 1) (upd H4 D (.lst (acc ++ [y]))) := lc_end (I := fun _ H => Same H1 H) hz (fun _ _ _ h => Same.own h hD) e1 e2 e3
end
end Sv

/-! steps of readings -/
namespace Sv
open PySem PySem.Spec PyProof.Rows L2
section
variable {X : Cx} {pos : Pos} {x : Str}
theorem gn (i : Nat) (hN : X.N.Nodup) (hi : X.N[i]? = some x := by rfl) (hx : Loc X.env.scope x := by first | exact Or.inl rfl | exact Or.inr rfl) (hf : X.fn x = true ∨ X.env.scope.names.lookup x = some .local := by first | exact .inl rfl | exact .inr rfl) : PG X (.Name x pos) (gName i) := pg_name hN hi hx hf
theorem sn {e : Expr} {te : TE} {pos' : Pos} (i : Nat) (hN : X.N.Nodup) (he : PE X e te) (hi : X.N[i]? = some x := by rfl) (hx : Loc X.env.scope x := by first | exact Or.inl rfl | exact Or.inr rfl) (hs : swapsWith e (some (.Name x pos')) pos.line X.env = pure false := by rfl) (hf : X.fn x = true ∨ X.env.scope.names.lookup x = some .local := by first | exact .inl rfl | exact .inr rfl) :
    PS X (.Assign [.Name x pos'] e pos) (tAsg te (gName i)) := ps_set hN hi hx he hs hf
end
section
variable {σ : L2.St} {H : Hp} {Q : VK} {D : Ends} {t u : TS} {te ta tb : TE} {tt tu : TT} {tl : TA} {v x y : V} {i j : Int} {n : Nat} {g : TG} {r : R2} {K : PySem.W.Frag} {P : Bool → Hp → Prop}
theorem r_seq (h : t { D with nx := u D } σ H) : tSeq t u D σ H := h
theorem r_nx (h : D.nx σ H) : tNext D σ H := h
theorem r_asg (h : te σ H fun x H1 => g x σ H1 D.nx) : tAsg te g D σ H := h
theorem r_gn {Q : L2.St → Hp → Prop} (h : Q (σ.set n (some v)) H) : gName n v σ H Q := h
theorem r_ret (h : te σ H D.rt) : tRet te D σ H := h
theorem r_retN (h : D.rt .non H) : tRetN D σ H := h
theorem r_drop (h : te σ H fun _ H1 => D.nx σ H1) : tDrop te D σ H := h
theorem r_ifS (h : tt σ H fun b H1 => if b = true then t D σ H1 else u D σ H1) : tIfS tt t u D σ H := h
theorem r_var (e : σ[n]? = some (some v)) (h : Q v H) : tVar n σ H Q := ⟨v, e, h⟩
theorem r_c (h : Q v H) : tC v σ H Q := h
theorem r_op (h : ta σ H fun x H1 => tb σ H1 fun y H2 => r x y H2 Q) : tOp r ta tb σ H Q := h
theorem r_un {r : V → Hp → VK → Prop} (h : ta σ H fun x H1 => r x H1 Q) : tUn r ta σ H Q := h
theorem r_if (h : tt σ H fun c H1 => if c = true then ta σ H1 Q else tb σ H1 Q) : tIf tt ta tb σ H Q := h
theorem r_and (h : tt σ H fun c H1 => if c = true then tu σ H1 P else P false H1) : tAnd tt tu σ H P := h
theorem r_or (h : tt σ H fun c H1 => if c = true then P true H1 else tu σ H1 P) : tOr tt tu σ H P := h
theorem r_not (h : tt σ H fun c H1 => P (!c) H1) : tNot tt σ H P := h
theorem r_andV (h : ta σ H fun x H1 => ∃ c, x = .bl c ∧ if c = true then tb σ H1 Q else Q (.bl false) H1) : tAndV ta tb σ H Q := h
theorem r_orV (h : ta σ H fun x H1 => ∃ c, x = .bl c ∧ if c = true then Q (.bl true) H1 else tb σ H1 Q) : tOrV ta tb σ H Q := h
theorem r_notV (h : ta σ H fun x H1 => ∃ c, x = .bl c ∧ Q (.bl (!c)) H1) : tNotV ta σ H Q := h
theorem r_test (h : te σ H fun x H' => ∃ k, x = .bl k ∧ P k H') : tTest te σ H P := h
theorem r_tB (h : te σ H fun x H' => ∃ k, x = .bl k ∧ P k H') : tB te σ H P := h
theorem r_k {c : Bool} {Z : Bool → Prop} (h : Z c) : ∃ k, V.bl c = .bl k ∧ Z k := ⟨c, rfl, h⟩
theorem r_nil {Q : List V → Hp → Prop} (h : Q [] H) : tNil σ H Q := h
theorem r_cons {Q : List V → Hp → Prop} (h : te σ H fun x H1 => tl σ H1 fun xs H2 => Q (x :: xs) H2) : tCons te tl σ H Q := h
theorem r_tup (h : tl σ H fun xs H1 => xs.length ≤ sizeLine ∧ ∀ p, H1 p = none → Q (.ref p) (upd H1 p (.tup xs))) : tTup tl σ H Q := h
theorem r_lst (h : tl σ H fun xs H1 => xs.length ≤ sizeLine ∧ ∀ p, H1 p = none → Q (.ref p) (upd H1 p (.lst xs))) : tLst tl σ H Q := h
theorem r_cb {r : List V → Hp → VK → Prop} (h : tl σ H fun vs H1 => r vs H1 Q) : tCB r tl σ H Q := h
theorem r_call {sp : Sp} {dvs : List V} {E : XK} (h : tl σ H fun vs H1 => sp (vs ++ dvs) H1 Q E) : tCall sp dvs E tl σ H Q := h
theorem r_I0 {f : Int → Int → V} (h : Q (f i j) H) : rI0 f (.int i) (.int j) H Q := ⟨i, j, rfl, rfl, h⟩
theorem r_I {C : Int → Int → Prop} {f : Int → Int → V} (c : C i j) (h : Q (f i j) H) : rI C f (.int i) (.int j) H Q := ⟨i, j, rfl, rfl, c, h⟩
theorem r_eq (s : scal x y = true) (h : Q (.bl (decide (x = y))) H) : rEq x y H Q := ⟨s, h⟩
theorem r_ne (s : scal x y = true) (h : Q (.bl (!decide (x = y))) H) : rNe x y H Q := ⟨s, h⟩
theorem r_T {A B : Prop} (h : A) : if true = true then A else B := by rw [if_pos rfl]; exact h
theorem r_F {A B : Prop} (h : B) : if false = true then A else B := by rw [if_neg Bool.false_ne_true]; exact h
theorem r_Tn {A B : Prop} (h : A) : if (!false) = true then A else B := by rw [if_pos (show (!false) = true by decide)]; exact h
theorem r_Fn {A B : Prop} (h : B) : if (!true) = true then A else B := by rw [if_neg (show ¬ (!true) = true by decide)]; exact h
theorem r_pos {c : Bool} {A B : Prop} (e : c = true) (h : A) : if c = true then A else B := by rw [if_pos e]; exact h
theorem r_neg {c : Bool} {A B : Prop} (e : c = false) (h : B) : if c = true then A else B := by rw [if_neg (by rw [e]; decide)]; exact h
theorem r_isi {t u : Value} {c : V} {b : Bool} (k : ClsV c u) (ty : TyX K H x t) (e : PySem.W.kitOne K t u = some b) (h : Q (.bl b) H) : rIsi K [x, c] H Q := ⟨x, c, t, u, b, rfl, k, ty, e, h⟩
theorem r_isiS {z : Str} (h : Q (.bl true) H) : rIsi K [.str z, .ty "str"] H Q := r_isi (.ty _) (.base (.str z)) (kit_ty (by decide +kernel)) h
theorem r_isiI (h : Q (.bl true) H) : rIsi K [.int i, .ty "int"] H Q := r_isi (.ty _) (.base (.int i)) (kit_ty (by decide +kernel)) h
theorem r_isiIB (h : Q (.bl false) H) : rIsi K [.int i, .ty "bool"] H Q := r_isi (.ty _) (.base (.int i)) (kit_ty (by decide +kernel)) h
theorem r_isiT {a : Addr} {xs : List V} (e : H a = some (.tup xs)) (h : Q (.bl true) H) : rIsi K [.ref a, .ty "tuple"] H Q := r_isi (.ty _) (.base (.tup e)) (kit_ty (by decide +kernel)) h
theorem r_isiL {a : Addr} {xs : List V} (e : H a = some (.lst xs)) (h : Q (.bl true) H) : rIsi K [.ref a, .ty "list"] H Q := r_isi (.ty _) (.base (.lst e)) (kit_ty (by decide +kernel)) h
theorem r_isiTL {a : Addr} {xs : List V} (e : H a = some (.tup xs)) (h : Q (.bl false) H) : rIsi K [.ref a, .ty "list"] H Q := r_isi (.ty _) (.base (.tup e)) (kit_ty (by decide +kernel)) h
theorem r_isiLT {a : Addr} {xs : List V} (e : H a = some (.lst xs)) (h : Q (.bl false) H) : rIsi K [.ref a, .ty "tuple"] H Q := r_isi (.ty _) (.base (.lst e)) (kit_ty (by decide +kernel)) h
theorem r_lenS {z : Str} {Z : Nat → Prop} (hz : z.length ≤ 100000) (h : Z z.length) : ∃ (x : V) (n : Nat), [V.str z] = [x] ∧ LenV K x H n ∧ Z n := ⟨_, _, rfl, ⟨size_le hz, rfl⟩, h⟩
theorem r_lenL {a : Addr} {xs : List V} {Z : Nat → Prop} (e : SqL K H a xs) (h : Z xs.length) : ∃ (x : V) (n : Nat), [V.ref a] = [x] ∧ LenV K x H n ∧ Z n := ⟨_, _, rfl, .inl ⟨_, e, rfl⟩, h⟩
theorem r_lenT {a : Addr} {xs : List V} {Z : Nat → Prop} (e : SqT K H a xs) (h : Z xs.length) : ∃ (x : V) (n : Nat), [V.ref a] = [x] ∧ LenV K x H n ∧ Z n := ⟨_, _, rfl, .inr ⟨_, e, rfl⟩, h⟩
theorem r_chain {r r' : R2} {tc : TE} (h : ta σ H fun x H1 => tb σ H1 fun y H2 => r x y H2 fun z H3 => ∃ k, z = .bl k ∧ (if k = true then tc σ H3 fun w' H4 => r' y w' H4 Q else Q (.bl false) H3)) : tChain r r' ta tb tc σ H Q := h
theorem r_ixT {a : Addr} {xs : List V} (e : SqT K H a xs) (at_ : atI xs i = some v) (h : Q v H) : rIxT K (.ref a) (.int i) H Q := ⟨a, xs, i, v, rfl, rfl, e, at_, h⟩
theorem r_ixL {a : Addr} {xs : List V} (e : SqL K H a xs) (at_ : atI xs i = some v) (h : Q v H) : rIxL K (.ref a) (.int i) H Q := ⟨a, xs, i, v, rfl, rfl, e, at_, h⟩
theorem r_all {a : Addr} {n : Nat} (e : SqL K H a (List.replicate n (V.bl true))) (h : Q (.bl true) H) : rAll K [.ref a] H Q :=
  ⟨a, List.replicate n true, rfl, by rw [List.map_replicate]; exact e, by
    have : (List.replicate n true).all id = true := by rw [List.all_eq_true]; intro x hx; rw [List.eq_of_mem_replicate hx]; rfl
    rw [this]; exact h⟩
theorem r_alloc {R : V → Hp → Prop} {o : HO} (h : ∀ p H2, H p = none → Same H H2 → H2 p = some o → R (.ref p) H2) : ∀ p, H p = none → R (.ref p) (upd H p o) := fresh h
theorem r_sz {A : Prop} {xs : List V} (z : xs.length ≤ 100000) (h : A) : xs.length ≤ sizeLine ∧ A := ⟨size_le z, h⟩
theorem r_yes (h : P true H) : tYes σ H P := h
theorem r_dT {p A B : Prop} [Decidable p] (h : p) (q : A) : if decide p = true then A else B := by rw [if_pos (decide_eq_true h)]; exact q
theorem r_dF {p A B : Prop} [Decidable p] (h : ¬ p) (q : B) : if decide p = true then A else B := by rw [if_neg (by rw [decide_eq_false h]; decide)]; exact q
theorem r_ndT {p A B : Prop} [Decidable p] (h : ¬ p) (q : A) : if (!decide p) = true then A else B := by rw [if_pos (by rw [decide_eq_false h]; decide)]; exact q
theorem r_ndF {p A B : Prop} [Decidable p] (h : p) (q : B) : if (!decide p) = true then A else B := by rw [if_neg (by rw [decide_eq_true h]; decide)]; exact q
theorem r_gTup {K : PySem.W.Frag} {a : Addr} {xs : List V} {t : TGs} {Q : L2.St → Hp → Prop} (e : SqT K H a xs) (l : xs.length = n) (h : t xs σ H Q) : gTup K n t (.ref a) σ H Q := ⟨a, xs, rfl, e, l, h⟩
theorem r_gCons {t : TG} {u : TGs} {r : List V} {Q : L2.St → Hp → Prop} (h : t v σ H fun σ' H' => u r σ' H' Q) : gCons t u (v :: r) σ H Q := ⟨v, r, rfl, h⟩
theorem r_gNil {Q : L2.St → Hp → Prop} (h : Q σ H) : gNil [] σ H Q := ⟨rfl, h⟩
theorem r_inT {a : Addr} {xs : List V} (e : SqT K H a xs) (hx : flatV x = true) (ha : xs.all flatV = true) (h : Q (.bl (inV x xs)) H) : rIn K false x (.ref a) H Q := ⟨a, xs, rfl, .inr e, hx, ha, h⟩
theorem r_ninT {a : Addr} {xs : List V} (e : SqT K H a xs) (hx : flatV x = true) (ha : xs.all flatV = true) (h : Q (.bl (!inV x xs)) H) : rIn K true x (.ref a) H Q := ⟨a, xs, rfl, .inr e, hx, ha, h⟩
theorem r_inL {a : Addr} {xs : List V} (e : SqL K H a xs) (hx : flatV x = true) (ha : xs.all flatV = true) (h : Q (.bl (inV x xs)) H) : rIn K false x (.ref a) H Q := ⟨a, xs, rfl, .inl e, hx, ha, h⟩
theorem r_ninL {a : Addr} {xs : List V} (e : SqL K H a xs) (hx : flatV x = true) (ha : xs.all flatV = true) (h : Q (.bl (!inV x xs)) H) : rIn K true x (.ref a) H Q := ⟨a, xs, rfl, .inl e, hx, ha, h⟩
theorem inV_str (w : Str) : ∀ xs : List Str, inV (.str w) (xs.map V.str) = decide (w ∈ xs)
  | [] => rfl
  | a :: r => by
    have ih := inV_str w r
    unfold inV at ih ⊢
    rw [List.map_cons, List.any_cons, ih]
    show ((a == w) || _) = _
    by_cases e : a = w
    · subst e; simp
    · have e2 : ¬ w = a := fun z => e z.symm
      simp [e, e2]
theorem r_par {i j : Nat} {a b : V} (h : D.nx ((σ.set i (some a)).set j (some b)) H) : ∃ v w, [a, b] = [v, w] ∧ D.nx ((σ.set i (some v)).set j (some w)) H := ⟨a, b, rfl, h⟩
theorem r_tPar {i j : Nat} {ta : TA} (h : ta σ H fun vs H1 => ∃ v w, vs = [v, w] ∧ D.nx ((σ.set i (some v)).set j (some w)) H1) : tPar i j ta D σ H := h
theorem r_sl {r : V → Option Int → Option Int → Hp → VK → Prop} {tx ty : TO} (h : te σ H fun x H1 => tx σ H1 fun l H2 => ty σ H2 fun u H3 => r x l u H3 Q) : tSl r te tx ty σ H Q := h
theorem r_part {Q : Option Int → Hp → Prop} (h : te σ H fun x H1 => ∃ i, x = .int i ∧ Q (some i) H1) : tPart te σ H Q := h
theorem r_parti {Z : Int → Prop} (h : Z i) : ∃ k, V.int i = .int k ∧ Z k := ⟨i, rfl, h⟩
theorem r_nopart {Q : Option Int → Hp → Prop} (h : Q none H) : tNoPart σ H Q := h
theorem walk_zipT {a b : Addr} {xs ys : List V} (hn : n = min xs.length ys.length) : Walk (RZ.ItzT K a b) n (fun H => SqT K H a xs ∧ SqT K H b ys) (YPair (fun i => xs[i]?) (fun i => ys[i]?)) := by
  subst hn
  refine ⟨fun i H hi q => ⟨xs, ys, xs[i]'(by omega), ys[i]'(by omega), q.1, q.2, List.getElem?_eq_getElem _, List.getElem?_eq_getElem _⟩, fun H q => ⟨xs, ys, q.1, q.2, by omega⟩, fun i H v H' _ q y => ?_⟩
  obtain ⟨T, x, z, h1, h2, h3, h4, h5⟩ := y
  exact ⟨T, x, z, h1, h2, h3, h4 xs q.1, h5 ys q.2⟩
theorem cutV_from {xs : List V} (m : Nat) : cutV xs (some (m : Int)) none = xs.drop (min m xs.length) := by
  unfold cutV
  rw [HT.sIx_nat, HT.sIx_none, List.take_of_length_le]
  rw [List.length_drop]
  exact Nat.le_refl _
theorem cutV_to {xs : List V} (m : Nat) : cutV xs none (some (m : Int)) = xs.take (min m xs.length) := by
  unfold cutV
  rw [HT.sIx_nat, HT.sIx_none, List.drop_zero, Nat.sub_zero]
theorem r_tPar3 {i j l : Nat} {ta : TA} (h : ta σ H fun vs H1 => ∃ u v w, vs = [u, v, w] ∧ D.nx (((σ.set i (some u)).set j (some v)).set l (some w)) H1) : tPar3 i j l ta D σ H := h
theorem r_par3 {i j l : Nat} {a b c : V} (h : D.nx (((σ.set i (some a)).set j (some b)).set l (some c)) H) : ∃ u v w, [a, b, c] = [u, v, w] ∧ D.nx (((σ.set i (some u)).set j (some v)).set l (some w)) H := ⟨a, b, c, rfl, h⟩
theorem ixT (K : PySem.W.Frag) {X : Cx} (h : X.K = K := by rfl) : IxR X (rIxT K) := h ▸ ix_tup
theorem ixL (K : PySem.W.Frag) {X : Cx} (h : X.K = K := by rfl) : IxR X (rIxL K) := h ▸ ix_list
/-- what a comprehension asks of its source's walk -/
def LcB (g : TG) (tt : TT) (te : TE) (vs : List Nat) (σ : L2.St) (Q : VK) : It → Hp → Prop := fun J H1 => ∀ D, H1 D = none → ∃ W : Nat → Nat → Hp → Prop, (∃ m, W 0 m (upd H1 D (.lst []))) ∧ ∀ i m H, W i m H →
  (J.stop i H ∧ Q (.ref D) H) ∨ (J.go i H ∧ ∃ Nx : Hp → Prop, (∀ H', Nx H' → ∃ m', m' < m ∧ W (i + 1) m' H') ∧ ∀ x H', J.yld i H x H' → g x (wipe σ vs) H' fun σ2 H2 => wipe σ2 vs = wipe σ vs ∧ tt σ2 H2 fun b H3 =>
    if b = true then te σ2 H3 fun y H4 => ∃ acc, H4 D = some (.lst acc) ∧ acc.length < sizeLine ∧ Nx (upd H4 D (.lst (acc ++ [y]))) else Nx H3)
theorem r_lc {wi : TI} {vs : List Nat} (h : wi σ H (LcB g tt te vs σ Q)) : tLc wi g tt te vs σ H Q := h
def ForB (g : TG) (tb : TS) (D : Ends) (σ : L2.St) : It → Hp → Prop := fun J H1 => ∃ W : Nat → Nat → L2.St → Hp → Prop, (∃ m, W 0 m σ H1) ∧ ∀ i m σ H, W i m σ H →
  (J.stop i H ∧ D.nx σ H) ∨ (J.go i H ∧ ∃ N : L2.St → Hp → Prop, (∀ σ' H', N σ' H' → ∃ m', m' < m ∧ W (i + 1) m' σ' H') ∧ ∀ x H', J.yld i H x H' → g x σ H' fun σ2 H2 => tb { D with nx := N, ct := N, bk := D.nx } σ2 H2)
theorem r_for {wi : TI} (h : wi σ H (ForB g t D σ)) : tFor wi g t D σ H := h
theorem r_iList {R : It → Hp → Prop} (h : te σ H fun x H1 => ∃ a, x = .ref a ∧ (∃ xs, SqL K H1 a xs) ∧ R (Itl K a) H1) : iList K te σ H R := h
theorem r_iTup {R : It → Hp → Prop} (h : te σ H fun x H1 => ∃ a, x = .ref a ∧ (∃ xs, SqT K H1 a xs) ∧ R (Itt K a) H1) : iTup K te σ H R := h
theorem r_iStr {R : It → Hp → Prop} (h : te σ H fun v H1 => ∃ x, v = .str x ∧ R (Its x) H1) : iStr te σ H R := h
theorem r_iRng1 {R : It → Hp → Prop} (h : tl σ H fun vs H1 => ∃ j : Int, vs = [.int j] ∧ -(2 ^ 62) ≤ j ∧ j < 2 ^ 62 ∧ R (Itr 0 j.toNat) H1) : iRng1 tl σ H R := h
theorem r_iEnum {R : It → Hp → Prop} (h : tl σ H fun vs H1 => ∃ a xs, vs = [.ref a] ∧ SqL K H1 a xs ∧ R (Ite K a) H1) : iEnum K tl σ H R := h
theorem r_iZip {R : It → Hp → Prop} (h : tl σ H fun vs H1 => ∃ a b xs ys, vs = [.ref a, .ref b] ∧ SqL K H1 a xs ∧ SqL K H1 b ys ∧ R (Itz K a b) H1) : iZip K tl σ H R := h
theorem r_iZipA {R : It → Hp → Prop} (h : tl σ H fun vs H1 => ∃ a b xs ys, vs = [.ref a, .ref b] ∧ ((SqL K H1 a xs ∧ SqL K H1 b ys ∧ R (Itz K a b) H1) ∨ (SqT K H1 a xs ∧ SqT K H1 b ys ∧ R (RZ.ItzT K a b) H1))) : RZ.iZipA K tl σ H R := h
theorem piT (K : PySem.W.Frag) {X : Cx} {tg l : Expr} {tl : TE} (h : PE X l tl) (hk : X.K = K := by rfl) : PI X tg l (iTup K tl) := hk ▸ pi_tup h
theorem piL (K : PySem.W.Frag) {X : Cx} {tg l : Expr} {tl : TE} (h : PE X l tl) (hk : X.K = K := by rfl) : PI X tg l (iList K tl) := hk ▸ pi_list h
theorem r_gTupL {K : PySem.W.Frag} {a : Addr} {xs : List V} {t : TGs} {Q : L2.St → Hp → Prop} (e : SqL K H a xs) (l : xs.length = n) (h : t xs σ H Q) : gLst K n t (.ref a) σ H Q := ⟨a, xs, rfl, e, l, h⟩
theorem r_nn {B : Prop} (h : B) : V.non = V.non ∧ B := ⟨rfl, h⟩
theorem r_meth {C : Addr} {m : Str} {sp : Sp} {dvs : List V} {E : XK} {t : TA} (h : ta σ H fun x H1 => ∃ a dx fs, x = .ref a ∧ H1 a = some (.ins C dx fs) ∧ fs.lookup m = none ∧ t σ H1 fun vs H2 => sp (x :: (vs ++ dvs)) H2 Q E) : tMeth C m sp dvs E ta t σ H Q := h
theorem r_methN {C : Addr} {m : Str} {n l : Nat} {sp : Sp} {t tk : TA} (h : ta σ H fun x H1 => ∃ a dx fs, x = .ref a ∧ H1 a = some (.ins C dx fs) ∧ fs.lookup m = none ∧ t σ H1 fun vs H2 => tk σ H2 fun zs H3 => vs.length = n ∧ zs.length = l ∧ sp (.ref a :: (vs ++ zs)) H3 Q E0) : tMethN C m n l sp ta t tk σ H Q := h
theorem r_callN {n m : Nat} {sp : Sp} {gV : List V → List V → List V} {E : XK} {t tk : TA} (h : t σ H fun vs H1 => tk σ H1 fun zs H2 => vs.length = n ∧ zs.length = m ∧ sp (gV vs zs) H2 Q E) : tCallN n m sp gV E t tk σ H Q := h
theorem r_fld {f : Str} (h : ta σ H fun x H1 => ∃ a C dx fs v, x = .ref a ∧ H1 a = some (.ins C dx fs) ∧ Cls K C ∧ NoAttr K C f ∧ fs.lookup f = some v ∧ Q v H1) : tFld K ta f σ H Q := h
theorem r_fldv {a C dx : Addr} {fs : List (Str × V)} {f : Str} {v : V} {Z : V → Prop} (ho : H a = some (.ins C dx fs)) (c : Cls K C) (n : NoAttr K C f) (l : fs.lookup f = some v) (h : Z v) : ∃ (b D dx : Addr) (fs : List (Str × V)) (v : V), V.ref a = .ref b ∧ H b = some (.ins D dx fs) ∧ Cls K D ∧ NoAttr K D f ∧ fs.lookup f = some v ∧ Z v := ⟨a, C, dx, fs, v, rfl, ho, c, n, l, h⟩
theorem r_gSub {to ti : TE} {t : TSet} {Q : L2.St → Hp → Prop} (h : to σ H fun o H1 => ti σ H1 fun i H2 => t o i v H2 fun H3 => Q σ H3) : gSub to ti t v σ H Q := h
theorem r_rU {f : Int → V} (h : Q (f i) H) : rU f (.int i) H Q := ⟨i, rfl, h⟩
theorem r_bm {T : String} {r : V → List V → Hp → VK → Prop} {to : TE} {t : TA} (h : to σ H fun x H1 => tyV K T x H1 ∧ t σ H1 fun xs H2 => r x xs H2 Q) : tBM K T r to t σ H Q := h
theorem r_tyL {a : Addr} {xs : List V} {B : Prop} (e : H a = some (.lst xs)) (h : B) : tyV K "list" (.ref a) H ∧ B := ⟨.inl ⟨rfl, _, .of e⟩, h⟩
theorem ixN_of {n : Nat} {k : Int} (h0 : 0 ≤ k) (h1 : k < n) : ixN n k = some k.toNat := by
  unfold ixN
  rw [if_pos h0, if_pos (by omega)]
theorem atI_ints {bs : List Int} {k : Int} (h0 : 0 ≤ k) (h1 : k < bs.length) : atI (bs.map V.int) k = some (.int (bs.getD k.toNat 0)) := by
  unfold atI
  rw [ixN_of h0 (by rw [List.length_map]; exact h1)]
  have hk : k.toNat < bs.length := by omega
  show (bs.map V.int)[k.toNat]? = _
  rw [List.getElem?_map, List.getElem?_eq_getElem hk, List.getD_eq_getElem?_getD, List.getElem?_eq_getElem hk]
  rfl
theorem r_append {l : Addr} {xs : List V} {y : V} (e : H l = some (.lst xs)) (z : xs.length ≤ 90000) (h : Q .non (upd H l (.lst (xs ++ [y])))) : rAppend (.ref l) [y] H Q := ⟨l, xs, y, rfl, rfl, e, size_lt (by omega), h⟩
theorem ne_refs_ints {q p : Addr} {ls : List Addr} {lp : Addr} {ns : List Int} (h1 : H q = some (.lst (ls.map V.ref ++ [.ref lp]))) (h2 : H p = some (.lst (ns.map V.int))) : p ≠ q := by
  intro e
  subst e
  rw [h1] at h2
  have e2 : ls.map V.ref ++ [V.ref lp] = ns.map V.int := by injection h2 with h3; injection h3
  have m : V.ref lp ∈ ns.map V.int := e2 ▸ List.mem_append_right _ (List.mem_singleton.mpr rfl)
  obtain ⟨n, _, h⟩ := List.mem_map.mp m
  cases h
theorem r_none {x : V} (h : x = .non) : decide (x = .non) = true := decide_eq_true h
end
end Sv

/-! targets with a star -/
namespace Sv
open PySem PySem.Spec PyProof.Rows L2
section
variable {prog : Program} {w : World} {A : Around} {E : Value → Shared → Prop} {s : Shared}
theorem unpack_star {t : Addr} {items : Array Value} {n i : Nat} {Q : List Value → Shared → Prop} (hh : A.handled = none) (ht : IsTup s.heap t items) (hi : i < n) (hn : n ≤ items.size + 1) (hz : items.size ≤ sizeLine)
    (h : ∀ (h' : Heap) (tk : Nat), (∀ b o, s.heap.get? b = some o → h'.get? b = some o) →
      Q (items.toList.take i ++ [.ref h'.objs.size] ++ (items.toList.drop i).drop (items.size + 1 - n)) { s with heap := h'.push { cls := .type "list", data := .seq ((items.toList.drop i).take (items.size + 1 - n)).toArray }, toks := tk }) :
    wpAny (model prog w) A (unpackItems (.ref t) n (some i)) Q E s := by
  have h0 : t < s.heap.objs.size := by obtain ⟨o, ho, _⟩ := ht; exact Heap.lt_size ho
  have ne : t ≠ s.heap.objs.size := Nat.ne_of_lt h0
  unfold unpackItems notIterableAtAll
  refine wpAny_bind (wpAny_bind (wpAny_specialOf ht.typeIs slot_tuple_iter.lookup (wpAny_pure ?_)))
  simp only [Bool.false_eq_true, if_false]
  refine wpAny_bind (wpAny_holding (iter_tuple ht (wpAny_bind (wpAny_holding (draw_tuple ne i 0 _ _ ⟨_, Heap.get?_push_size _ rfl, rfl, rfl⟩ (ht.push _) (by omega) fun h1 it1 sb1 => ?_)))))
  have t1 : IsTup h1 t items := (ht.push _).extBut sb1.extBut ne
  rw [Nat.zero_add] at it1; rw [List.drop_zero]
  have l1 : (items.toList.take i).length = i := by rw [List.length_take, Array.length_toList]; omega
  have l2 : (items.toList.drop i).length = items.size - i := by rw [List.length_drop, Array.length_toList]
  rw [if_neg (by rw [l1]; omega)]
  obtain ⟨oi, hoi, _⟩ := id it1
  obtain ⟨ot, hot, _⟩ := id t1
  refine wpAny_bind (wpAny_holding (PySem.W.kun_collect (s := { s with heap := h1 }) (T := "tuple_iterator") (.inr (.inr (.inr rfl))) (Walks.tuple (A := A.in1) hh s.heap.objs.size t ne items)
    (fun _ _ st => st.1.typeIs) (k := i) (by omega) ⟨it1, t1⟩ (Heap.lt_size hoi) (Heap.lt_size hot) (fun h2 tk k2 => ?_) hz))
  have l3 : (items.toList.drop i).length - (n - 1 - i) = items.size + 1 - n := by rw [l2]; omega
  simp only [l3]
  rw [if_neg (by rw [l2]; omega)]
  refine wpAny_bind (wpAny_newList (wpAny_pure (h h2 tk fun b o e => ?_)) (by rw [List.length_take]; exact Nat.le_trans (Nat.min_le_right _ _) (by rw [l2]; omega)))
  exact k2 b o (Nat.ne_of_lt (Heap.lt_size e)) (sb1.extBut b o (Nat.ne_of_lt (Heap.lt_size e)) (Heap.get?_push_of_some _ e))
end
section
variable {X : Cx} {pos : Pos}
theorem pgs_star {e : Expr} {es : List Expr} {t : TG} {u : TGs} {p : Pos} (h1 : PG X e t) (h2 : PGs X es u) : PGs X (.Starred e p :: es) (gCons t u) := by
  refine ⟨fun pins s σ H vs us Q I r h => ?_⟩
  obtain ⟨v, vr, rfl, h⟩ := h
  cases r with
  | cons r rr =>
    show wpAny _ _ (assignInOrder (assign e X.env :: (assignEach es X.env).map (·.2)) _) _ _ _
    exact assignInOrder_cons (thn (h1.run pins s σ H _ _ _ I r h) fun _ s1 ⟨σ1, H1, I1, q1⟩ => h2.run pins s1 σ1 H1 _ _ Q I1 rr q1)
/-- (a, *b, c) = a tuple -/
def gStar (K : PySem.W.Frag) (n i : Nat) (t : TGs) : TG := fun v σ H Q => ∃ a xs, v = .ref a ∧ SqT K H a xs ∧ n ≤ xs.length + 1 ∧
  ∀ D, H D = none → t (xs.take i ++ [V.ref D] ++ (xs.drop i).drop (xs.length + 1 - n)) σ (upd H D (.lst ((xs.drop i).take (xs.length + 1 - n)))) Q
theorem pg_star {es : List Expr} {k : Nat} {t : TGs} {n i : Nat} (hc : X.calm = true) (h : PGs X es t) (hi : i < n := by decide) (hn : (assignEach es X.env).length = n := by rfl) (hst : (assignEach es X.env).findIdx? (·.1) = some i := by rfl) : PG X (.Tuple es k pos) (gStar X.K n i t) := by
  refine ⟨fun pins s σ H v u Q I r hw => ?_⟩
  obtain ⟨a, xs, rfl, hq, hl, hw⟩ := hw
  cases r
  obtain ⟨its, rv, ht, hz⟩ := I.tuple hq
  have el : xs.length = its.length := rv.length
  rw [assign_Tuple]
  refine wpAny_bind (wpAny_standAt ?_)
  unfold unpack
  rw [hn, hst]
  refine wpAny_bind (wpAny_holding (unpack_star (I.ok.hd hc) ht hi (by simpa [← el] using hl) (by simpa [← el] using hz) fun h' tk kp => ?_))
  have I1 : Inv X pins σ H { s with heap := h', toks := tk } := I.kept kp
  have hf : H h'.objs.size = none := I1.hok.fresh (Nat.le_refl _)
  have I2 := I1.laid (t' := tk) (a := h'.objs.size) (o := .lst ((xs.drop i).take (xs.length + 1 - n))) (h' := h'.push { cls := .type "list", data := .seq ((its.drop i).take (its.length + 1 - n)).toArray }) (fun b u e => Heap.get?_push_of_some _ e) (Nat.le_refl _)
    ⟨Nat.le_trans (by rw [List.length_take, List.length_drop]; omega) hz, _, 0, el ▸ ((rv.drop i).take _), Heap.get?_push_size _ rfl⟩
  have rr : Vals (xs.take i ++ [V.ref h'.objs.size] ++ (xs.drop i).drop (xs.length + 1 - n)) (its.take i ++ [Value.ref h'.objs.size] ++ (its.drop i).drop (its.length + 1 - n)) := by
    rw [← el]
    exact ((rv.take i).append (.cons (show RelV (V.ref _) (Value.ref _) from rfl) .nil)).append ((rv.drop i).drop _)
  have e := h.run pins _ σ _ _ _ Q I2 rr (hw _ hf)
  simpa using e
end
end Sv

/-! built-in calls of this text that the kit has no rule for: list(enumerate(l)), enumerate(zip([], l)), d.update(d2), len(own instance) -/
namespace Sv
open PySem PySem.Spec PyProof.Rows L2

/-! ### list(enumerate(l)) -/
section
variable {prog : Program} {w : World} {A : Around} {E : Value → Shared → Prop} {s : Shared}
/-- the items with their places as keys -/
def enK {α : Type} (xs : List α) : List (Key × α) := xs.zipIdx.map fun p => (Sum.inl (p.2 : Int), p.1)
theorem enK_get {α : Type} {xs : List α} {i : Nat} {x : α} (h : xs[i]? = some x) : (enK xs)[i]? = some (Sum.inl (i : Int), x) := by
  unfold enK
  rw [List.getElem?_map, List.getElem?_zipIdx, h]
  simp
theorem enK_length {α : Type} (xs : List α) : (enK xs).length = xs.length := by unfold enK; rw [List.length_map, List.length_zipIdx]
/-- between two items; S is the list that is filled -/
def EnSt (h : Heap) (e it l S : Addr) (i : Nat) : Prop := h.IsListIter it l i ∧ ((i = 0 ∧ ∃ old, IsEnum h e it 0 old) ∨ ∃ old T f oT, IsEnumHeld h e it (i : Int) old T f ∧ h.get? T = some oT ∧ T ≠ e ∧ T ≠ it ∧ T ≠ S)
theorem EnSt.keep {h h' : Heap} {e it l S : Addr} {i : Nat} (x : EnSt h e it l S i) (hk : ∀ b o, b ≠ S → h.get? b = some o → h'.get? b = some o) (he : e ≠ S) (hi : it ≠ S) : EnSt h' e it l S i := by
  obtain ⟨x1, x2⟩ := x
  refine ⟨x1.at fun o q => hk it o hi q, ?_⟩
  rcases x2 with ⟨z, old, q⟩ | ⟨old, T, f, oT, q, hT, h1, h2, h3⟩
  · exact .inl ⟨z, old, hk _ _ he q⟩
  · exact .inr ⟨old, T, f, oT, hk _ _ he q, hk _ _ h3 hT, h1, h2, h3⟩
theorem en_item {e it l S : Addr} {i : Nat} {items : Array Value} {x : Value} {Q : Option Value → Shared → Prop} (hst : EnSt s.heap e it l S i) (hS : S < s.heap.objs.size) (hne : e ≠ it) (hl : s.heap.IsList l items) (hx : items[i]? = some x)
    (hQ : ∀ h', EnSt h' e it l S (i + 1) → h'.get? s.heap.objs.size = some { cls := .type "tuple", data := .seq #[.int i s.toks, x] } → h'.objs.size = s.heap.objs.size + 1 →
      (∀ b o, b ≠ e → b ≠ it → s.heap.get? b = some o → h'.get? b = some o) → Q (some (.ref s.heap.objs.size)) { s with heap := h', toks := s.toks + 1 }) :
    wpAny (model prog w) A (pyNext (.ref e)) Q E s := by
  obtain ⟨hit, q⟩ := hst
  have c1 : ((i + 1 : Nat) : Int) = (i : Int) + 1 := by omega
  have hil : it < s.heap.objs.size := by obtain ⟨_, z, _⟩ := id hit; exact Heap.lt_size z
  rcases q with ⟨rfl, old, he⟩ | ⟨old, T, f, oT, he, hT, h1, h2, h3⟩
  · refine wpAny_pyNext_enum_item (i := 0) he hit hl hx hne fun h' ho hi' ht hz hk => hQ h' ⟨hi', .inr ⟨x, _, false, _, ?_, ht, Nat.ne_of_gt (Heap.lt_size he), Nat.ne_of_gt hil, Nat.ne_of_gt hS⟩⟩ ht hz hk
    rw [c1]; exact ho
  · refine wpAny_pyNext_enum_item_held he hT h1 h2 hit hl hx hne fun h' ho hi' ht hz hk => hQ h' ⟨hi', .inr ⟨old, T, true, oT, ?_, hk _ _ h1 h2 hT, h1, h2, h3⟩⟩ ht hz hk
    rw [c1]; exact ho
theorem en_done {e it l S : Addr} {i : Nat} {items : Array Value} {Q : Option Value → Shared → Prop} (hh : A.handled = none) (hst : EnSt s.heap e it l S i) (hl : s.heap.IsList l items) (hx : items[i]? = none)
    (hQ : ∀ h', Heap.ExtBut it s.heap h' → Q none { s with heap := h' }) : wpAny (model prog w) A (pyNext (.ref e)) Q E s := by
  obtain ⟨hit, q⟩ := hst
  rcases q with ⟨rfl, old, he⟩ | ⟨old, T, f, oT, he, _, _, _, _⟩
  · exact wpAny_pyNext_enum_end (i := 0) hh he hit hl hx hQ
  · exact wpAny_pyNext_enum_end_held hh he hit hl hx hQ
theorem en_nolen : typeLookup (.type "enumerate") "__len__" = pure none := by rw [typeLookup_type, builtinLookup_eq_fast]; kernel_rfl
theorem en_nohint : typeLookup (.type "enumerate") "__length_hint__" = pure none := by rw [typeLookup_type, builtinLookup_eq_fast]; kernel_rfl
end
section
variable {prog : Program} {w : World} {A : Around} {s : Shared} {R : Result → Shared → Prop}
theorem en_loop {S e it l : Addr} {items : Array Value} (hh : A.handled = none) (hSe : S ≠ e) (hSi : S ≠ it) (hei : e ≠ it) (hle : l ≠ e) (hli : l ≠ it) (hlS : l ≠ S) (hn : items.size ≤ sizeLine) (res : Value) {lo : Addr} (hSlo : S ≤ lo) (helo : e ≤ lo) (hilo : it ≤ lo) {h₁ : Heap}
    (hR : ∀ h' tk acc c as, (∀ b o, b ≠ S → b ≠ e → b ≠ it → h₁.get? b = some o → h'.get? b = some o) → h'.get? S = some { cls := .type "list", dict := none, data := .seq acc c, slots := #[] } → as.length = items.size →
      PySem.W.KdxG (mixKind prog w) (enK items.toList) lo h' as → acc.toList = as.map Value.ref → R (.ok (.ret res)) { s with heap := h', toks := tk }) :
    ∀ (k i : Nat) (h : Heap) (tk c : Nat) (acc : Array Value) (as : List Addr), items.size - i = k → i ≤ items.size → EnSt h e it l S i → h.IsList l items → (∀ b o, b ≠ S → b ≠ e → b ≠ it → h₁.get? b = some o → h.get? b = some o) →
      h.get? S = some { cls := .type "list", dict := none, data := .seq acc c, slots := #[] } → acc.toList = as.map Value.ref → as.length = i → PySem.W.KdxG (mixKind prog w) (enK items.toList) lo h as → lo < h.objs.size →
      codeAny (model prog w) A (.builtin "list.extend.loop" ⟨[.ref S, .ref e, res], []⟩) R { s with heap := h, toks := tk } := by
  intro k
  induction k with
  | zero =>
    intro i h tk c acc as hk hi hst hL hkeep hS hacc hal hG hls
    refine codeAny_builtin PySem.F.entry_extend_loop ?_
    rw [Around.under_plainId PySem.F.plain_extend_loop _]
    show wpAny _ A.in1 (pyNext (.ref e) >>= _) _ _ _
    refine wpAny_bind (en_done (s := { s with heap := h, toks := tk }) (A := A.in1) hh hst hL (by simp; omega) fun h' he => ?_)
    refine wpAny_pure (hR h' tk acc c as (fun b o h1 h2 h3 q => he b o h3 (hkeep b o h1 h2 h3 q)) (he S _ hSi hS) (by omega) ⟨hG.rise, hG.above, fun j a hj => ?_⟩ hacc)
    obtain ⟨key, kk, x, e1, e2, e3⟩ := hG.pairs j a hj
    have ha := hG.above a (List.mem_of_getElem? hj)
    exact ⟨key, kk, x, e1, e2, he a _ (Nat.ne_of_gt (Nat.lt_of_le_of_lt hilo ha)) e3⟩
  | succ k ih =>
    intro i h tk c acc as hk hi hst hL hkeep hS hacc hal hG hls
    have hlt : i < items.size := by omega
    have hx : items[i]? = some items[i] := Array.getElem?_eq_getElem hlt
    have hsz : acc.size = i := by rw [← Array.length_toList, hacc, List.length_map, hal]
    have hSl : S < h.objs.size := Heap.lt_size hS
    refine codeAny_builtin PySem.F.entry_extend_loop ?_
    rw [Around.under_plainId PySem.F.plain_extend_loop _]
    show wpAny _ A.in1 (pyNext (.ref e) >>= _) _ _ _
    refine wpAny_bind (en_item (s := { s with heap := h, toks := tk }) (S := S) hst hSl hei hL hx fun h' hst' ht hz hkp => ?_)
    dsimp only at ht hz hkp ⊢
    have hS' := hkp S _ hSe hSi hS
    have up : ∀ b o, b ≠ S → h'.get? b = some o → (h'.update S (Obj.mapSeq (·.push (Value.ref h.objs.size)))).get? b = some o := fun b o hb q => (Heap.get?_update_other _ _ (Ne.symm hb)).trans q
    have eTup : (h'.update S (Obj.mapSeq (·.push (Value.ref h.objs.size)))).get? h.objs.size = _ := up _ _ (Nat.ne_of_gt hSl) ht
    show wpAny _ A.in1 (updateSeq S (·.push (Value.ref h.objs.size)) >>= _) _ _ _
    refine wpAny_bind ?_
    refine wpAny_updateSeq hS' rfl (wpAny_pure ⟨plainId_quiet PySem.F.plain_extend_loop _, ih (i + 1) _ (tk + 1) _ (acc.push (Value.ref h.objs.size)) (as ++ [h.objs.size]) (by omega) hlt (hst'.keep up (Ne.symm hSe) (Ne.symm hSi)) (hL.at fun o q => up l o hlS (hkp l o hle hli q))
      (fun b o h1 h2 h3 q => up b o h1 (hkp b o h2 h3 (hkeep b o h1 h2 h3 q))) (Heap.get?_update_self _ hS' rfl) (by rw [Array.toList_push, hacc, List.map_append]; rfl) (by rw [List.length_append, hal]; rfl) ⟨?_, ?_, ?_⟩ ?_⟩) (by rw [hsz]; omega) (by show (acc.push (Value.ref h.objs.size)).size ≤ sizeLine + 1; rw [Array.size_push, hsz]; omega)
    · refine List.pairwise_append.mpr ⟨hG.rise, List.pairwise_singleton _ _, fun a ha b hb => ?_⟩
      rw [List.mem_singleton.mp hb]
      exact hG.there ha
    · intro a ha
      rcases List.mem_append.mp ha with ha | ha
      · exact hG.above a ha
      · rw [List.mem_singleton.mp ha]; exact hls
    · intro j b hj
      rcases Nat.lt_trichotomy j as.length with h1 | h1 | h1
      · rw [List.getElem?_append_left h1] at hj
        obtain ⟨key', k', x', e1, e2, e3⟩ := hG.pairs j b hj
        have hb := hG.above b (List.mem_of_getElem? hj)
        exact ⟨key', k', x', e1, e2, up b _ (Nat.ne_of_gt (Nat.lt_of_le_of_lt hSlo hb)) (hkp b _ (Nat.ne_of_gt (Nat.lt_of_le_of_lt helo hb)) (Nat.ne_of_gt (Nat.lt_of_le_of_lt hilo hb)) e3)⟩
      · subst h1
        have hb : h.objs.size = b := by simpa using hj
        subst hb
        refine ⟨.int (as.length : Nat) tk, Sum.inl (as.length : Int), items[i], ?_, by show keyIs (Sum.inl (as.length : Int)) (Value.int (as.length : Nat) tk) = true; simp [keyIs, Value.isInt], ?_⟩
        · refine enK_get ?_
          rw [hal, Array.getElem?_toList]
          exact hx
        · rw [hal]; exact eTup
      · have hnone : (as ++ [h.objs.size])[j]? = none := List.getElem?_eq_none (by rw [List.length_append, List.length_singleton]; omega)
        rw [hnone] at hj; cases hj
    · exact Nat.lt_trans hls (Heap.lt_size eTup)
end
section
variable {prog : Program} {w : World} {A : Around} {E : Value → Shared → Prop} {s : Shared}
theorem en_hint {r : Addr} (hT : s.TypeIs (.ref r) "enumerate") {Q : Bool → Shared → Prop} (h : Q true s) : wpAny (model prog w) A (Builtin.List.listLengthHint (.ref r)) Q E s := by
  unfold Builtin.List.listLengthHint
  refine wpAny_bind (wpAny_specialOf hT en_nolen ?_)
  show wpAny _ _ (specialOf (Value.ref r) (Str.ofString "__length_hint__") >>= _) _ _ _
  refine wpAny_bind (wpAny_specialOf hT en_nohint ?_)
  exact wpAny_pure h
/-- list(e), e an enumerate of a list just made -/
theorem call_list_en {e it l : Addr} {items : Array Value} {Q : Value → Shared → Prop} (hh : A.handled = none) (he : IsEnum s.heap e it 0 .none) (hit : s.heap.IsListIter it l 0) (hl : s.heap.IsList l items) (hei : e ≠ it) (hle : l ≠ e) (hli : l ≠ it) (hn : items.size ≤ sizeLine)
    (hQ : ∀ h' tk acc c as, (∀ b o, b ≠ e → b ≠ it → s.heap.get? b = some o → h'.get? b = some o) → h'.get? s.heap.objs.size = some { cls := .type "list", dict := none, data := .seq acc c, slots := #[] } → as.length = items.size →
      PySem.W.KdxG (mixKind prog w) (enK items.toList) s.heap.objs.size h' as → acc.toList = as.map Value.ref → Q (.ref s.heap.objs.size) { s with heap := h', toks := tk }) :
    wpAny (model prog w) A (call (.type "list") [.ref e]) Q E s := by
  have hel : e < s.heap.objs.size := Heap.lt_size he
  have hil : it < s.heap.objs.size := by obtain ⟨_, q, _⟩ := id hit; exact Heap.lt_size q
  have hll : l < s.heap.objs.size := by obtain ⟨_, q, _⟩ := id hl; exact Heap.lt_size q
  refine callType_codes (Q₁ := fun obj s₁ => obj = .ref s.heap.objs.size ∧ s₁ = { s with heap := s.heap.push { cls := .type "list", data := .seq #[] } }) PySem.F.called_list (PySem.F.typeCall_list_1 _) PySem.F.entry_list_init
    (code_list_new _ ⟨rfl, rfl⟩) fun obj s₁ h₁ => ?_
  obtain ⟨rfl, rfl⟩ := h₁
  generalize hS0 : s.heap.objs.size = S at *
  have hS : (s.heap.push { cls := .type "list", data := .seq #[] }).get? S = some { cls := .type "list", data := .seq #[] } := by rw [← hS0]; exact Heap.get?_push_size _ rfl
  refine ⟨⟨_, hS, rfl⟩, PySem.F.args_list_init_2 _ _, ?_⟩
  show wpAny _ A.in1.in1 (do let old ← Builtin.List.listItems (.ref S); Builtin.List.listUpdate (.ref S) (fun _ => #[]); letGo old.toList.reverse; Builtin.List.listExtendWith (.ref S) (.ref e) .none) _ _ _
  refine wpAny_bind ?_
  unfold Builtin.List.listItems
  refine wpAny_bind (wpAny_seqItems hS rfl (wpAny_pure ?_))
  show wpAny _ _ (updateSeq S (fun _ => #[]) >>= fun _ => letGo (#[] : Array Value).toList.reverse >>= fun _ => Builtin.List.listExtendWith (.ref S) (.ref e) .none) _ _ _
  refine wpAny_bind (wpAny_updateSeq hS rfl ?_)
  have hS2 := Heap.get?_update_self (Obj.mapSeq (fun _ => (#[] : Array Value))) hS rfl
  have oth : ∀ b o, b ≠ S → s.heap.get? b = some o → ((s.heap.push { cls := .type "list", data := .seq #[] }).update S (Obj.mapSeq (fun _ => (#[] : Array Value)))).get? b = some o :=
    fun b o hb q => (Heap.get?_update_other _ _ (Ne.symm hb)).trans (Heap.get?_push_of_some _ q)
  refine wpAny_bind (wpAny_letGo ?_)
  unfold Builtin.List.listExtendWith
  have e2 := oth e _ (Nat.ne_of_lt hel) he
  refine wpAny_bind (wpAny_typeOf (T := "enumerate") ⟨_, e2, rfl⟩ ?_)
  have h1 : Builtin.List.listSameRef (.ref S) (.ref e) = false := by simp [Builtin.List.listSameRef, Nat.ne_of_gt hel]
  have h2 : (Value.type "enumerate" == Value.type "list") = false := by decide
  have h3 : (Value.type "enumerate" == Value.type "tuple") = false := by decide
  simp only [h1, h2, h3, Bool.or_false, Bool.false_eq_true, if_false]
  refine wpAny_bind (wpAny_pyIter_enum e2 ?_)
  refine wpAny_bind (wpAny_holding (en_hint ⟨_, e2, rfl⟩ ?_))
  have key : ∀ (h : Heap) (c₁ tk : Nat), (∀ b o, b ≠ S → s.heap.get? b = some o → h.get? b = some o) → h.get? S = some { cls := .type "list", data := .seq #[] c₁ } →
      codeAny (model prog w) A.in1 (.builtin "list.extend.loop" ⟨[.ref S, .ref e, .none], []⟩) (wants (fun r s₂ => r = Value.none ∧ Q (Value.ref S) s₂) E) { s with heap := h, toks := tk } := by
    intro h c₁ tk hk hS₁
    refine en_loop (A := A.in1) (s := s) (h₁ := s.heap) (lo := S) (l := l) (it := it) (items := items) hh (Nat.ne_of_gt hel) (Nat.ne_of_gt hil) hei hle hli (Nat.ne_of_lt hll) hn .none (Nat.le_refl _) (Nat.le_of_lt hel) (Nat.le_of_lt hil)
      (fun h' tk' acc c as k' a1 a2 a3 a4 => ⟨rfl, hQ h' tk' acc c as (fun b o n1 n2 q => k' b o (fun z => by have h9 := Heap.lt_size q; rw [hS0, z] at h9; exact Nat.lt_irrefl _ h9) n1 n2 q) a1 a2 a3 a4⟩)
      items.size 0 h tk c₁ #[] [] (Nat.sub_zero _) (Nat.zero_le _) ⟨hit.at fun o q => hk it o (Nat.ne_of_lt hil) q, .inl ⟨rfl, _, hk _ _ (Nat.ne_of_lt hel) he⟩⟩ (hl.at fun o q => hk l o (Nat.ne_of_lt hll) q) (fun b o n1 _ _ q => hk b o n1 q) hS₁ rfl rfl
      ⟨List.Pairwise.nil, (fun _ ha => nomatch ha), (fun j a hj => by simp at hj)⟩ (Heap.lt_size hS₁)
  refine wpAny_ite_split (fun _ => ?_) (fun _ => wpAny_pure ⟨plainId_quiet PySem.F.plain_extend_loop _, key _ _ _ (fun b o hb q => oth b o hb q) hS2⟩)
  refine wpAny_bind (wpAny_rule ?_)
  refine wpAny_bind ?_
  show wpAny _ _ (updateSeq S (·.push .none) >>= fun _ => updateSeq S (·.pop)) _ _ _
  refine wpAny_bind (wpAny_updateSeq hS2 rfl ?_)
  have hS3 := Heap.get?_update_self (Obj.mapSeq (·.push Value.none)) hS2 rfl
  refine wpAny_updateSeq (hz := by seq_fits) hS3 rfl ?_
  have hS4 := Heap.get?_update_self (Obj.mapSeq (·.pop)) hS3 rfl
  refine wpAny_pure ⟨plainId_quiet PySem.F.plain_extend_loop _, key _ _ _ (fun b o hb q => ?_) hS4⟩
  exact (Heap.get?_update_other _ _ (Ne.symm hb)).trans ((Heap.get?_update_other _ _ (Ne.symm hb)).trans (oth b o hb q))
end
section
variable {X : Cx} {e : Expr} {te : TE} {p p2 pos pos2 : Pos}
theorem kv_en : ∀ {xs : List V} {its : List Value} (n : Nat), Vals xs its → Paired (fun (p : Key × V) (q : Key × Value) => p.1 = q.1 ∧ RelV p.2 q.2) ((xs.zipIdx n).map fun p => (Sum.inl (p.2 : Int), p.1)) ((its.zipIdx n).map fun p => (Sum.inl (p.2 : Int), p.1))
  | _, _, _, .nil => .nil
  | _, _, n, .cons r t => .cons ⟨rfl, r⟩ (kv_en (n + 1) t)
theorem en_laid {pins : List (Addr × Obj)} {σ : L2.St} {H : Hp} {s : Shared} {h2 : Heap} {tk S : Nat} {xs : List V} {its : List Value} {acc : Array Value} {c : Nat} {as : List Addr} (hSz : s.heap.objs.size ≤ S) (I : Inv X pins σ H s) (hz : xs.length ≤ sizeLine) (rv : Vals xs its)
    (hk : ∀ b o, s.heap.get? b = some o → h2.get? b = some o) (hS : h2.get? S = some { cls := .type "list", dict := none, data := .seq acc c, slots := #[] }) (hl : as.length = its.length) (hG : PySem.W.KdxG (mixKind X.prog X.w) (enK its) S h2 as) (hacc : acc.toList = as.map Value.ref) :
    ∃ H' : Hp, Same H H' ∧ H S = none ∧ (∀ t ∈ as, H t = none) ∧ H' S = some (.lst (as.map V.ref)) ∧ (∀ (i : Nat) (t : Addr) (x : V), as[i]? = some t → xs[i]? = some x → H' t = some (.tup [.int i, x])) ∧ Inv X pins σ H' { s with heap := h2, toks := tk } := by
  have kv := kv_en 0 rv
  have lx := rv.length
  have lkE : as.length = (enK xs).length := by rw [enK_length]; omega
  have hSn : S ∉ as := fun z => Nat.lt_irrefl _ (hG.above _ z)
  have nd : as.Nodup := List.Pairwise.imp (fun {a b} (h : a < b) => Nat.ne_of_lt h) hG.rise
  have lo : ∀ t ∈ as, s.heap.objs.size ≤ t := fun t ht => Nat.le_of_lt (Nat.lt_of_le_of_lt hSz (hG.above t ht))
  have nT : ∀ t ∈ as, H t = none := fun t ht => I.hok.fresh (lo t ht)
  have nS : H S = none := I.hok.fresh hSz
  have atP := LiI.putT_at as (enK xs) (upd H S (.lst (as.map V.ref))) lkE nd
  have off : ∀ b, b ∉ as → b ≠ S → LiI.putT (upd H S (.lst (as.map V.ref))) as (enK xs) b = H b := fun b h1 h3 => by rw [LiI.putT_off as (enK xs) _ h1, upd_ne h3]
  have kp : Same H (LiI.putT (upd H S (.lst (as.map V.ref))) as (enK xs)) := fun b u q => by
    rw [off b (fun z => by rw [nT b z] at q; cases q) fun z => by rw [z, nS] at q; cases q]
    exact q
  have eS : LiI.putT (upd H S (.lst (as.map V.ref))) as (enK xs) S = some (.lst (as.map V.ref)) := by rw [LiI.putT_off as (enK xs) _ hSn, upd_same]
  refine ⟨_, kp, nS, nT, eS, fun i t x h1 h3 => ?_, ?_⟩
  · obtain ⟨y, e1, e3⟩ := LiI.paired_get atP h1
    rw [enK_get h3] at e1
    cases e1
    exact e3
  refine I.call' (ch := []) rfl ⟨fun b o q _ _ _ => hk b o q, fun b o q _ _ _ => ⟨o.slots, hk b o q⟩, fun b o q n _ => ?_, fun b o q _ => ⟨o, hk b o q⟩, fun b xs q => kp b _ q, fun b o u q => kp b _ q, fun b ps q => ⟨#[], by rw [kp b _ q]; simp⟩⟩ (fun b u q => ?_) I.bare fun b z => by simp at z
  · have hb := Heap.lt_size q
    rw [off b (fun z => Nat.lt_irrefl _ (Nat.lt_of_lt_of_le hb (lo b z))) (Nat.ne_of_lt (Nat.lt_of_lt_of_le hb hSz))]
    exact n
  · by_cases hb : b ∈ as
    · obtain ⟨j, pk, e1, e2, e3⟩ := LiI.paired_ix atP hb
      rw [e3] at q
      cases q
      obtain ⟨key, k, x, f1, f2, f3⟩ := hG.pairs j b e1
      obtain ⟨qv, g1, g2, g3⟩ := LiI.paired_get kv e2
      have f1' : (its.zipIdx.map fun p => ((Sum.inl (p.2 : Int) : Key), p.1))[j]? = some (k, x) := f1
      rw [g1] at f1'
      cases f1'
      refine ⟨by show 2 ≤ sizeLine; decide, [key, x], .cons ?_ (.cons g3 .nil), ⟨_, f3, rfl, _, rfl⟩⟩
      rw [g2]
      exact relV_key (show keyIs _ key = true from f2)
    · by_cases hb2 : b = S
      · subst hb2
        rw [eS] at q
        cases q
        refine ⟨by rw [List.length_map]; omega, acc.toList, c, by rw [hacc]; exact LiI.vals_refs as, ?_⟩
        rw [Array.toArray_toList]
        exact hS
      · rw [off b hb hb2] at q
        exact (I.hok b u q).stay (fun d v _ y => hk d v y) (fun d y => kp d _ y) fun d xs y => kp d _ y
/-- list(enumerate(l)): a new list of new pairs -/
def rEnumL (K : PySem.W.Frag) : V → Hp → VK → Prop := fun x H Q => ∃ (l : Addr) (xs : List V), x = .ref l ∧ SqL K H l xs ∧
  ∀ (H' : Hp) (p : Addr) (ts : List Addr), Same H H' → H p = none → ts.length = xs.length → (∀ t ∈ ts, H t = none) → H' p = some (.lst (ts.map V.ref)) → (∀ (i : Nat) (t : Addr) (x : V), ts[i]? = some t → xs[i]? = some x → H' t = some (.tup [.int i, x])) → Q (.ref p) H'
def tListEnum (K : PySem.W.Frag) (te : TE) : TE := fun σ H Q => te σ H fun x H1 => rEnumL K x H1 Q
theorem pe_listEnum (hc : X.calm = true) (he : PE X e te) (hg : Gl X "list") (hm : X.mg "list" = none) (hv : bootBuiltins "list" = some (.type "list")) (hg2 : Gl X "enumerate") (hm2 : X.mg "enumerate" = none)
    (hs2 : starEach [e] X.env = [(false, eval e X.env)] := by rfl)
    (hs : starEach [.Call (.Name "enumerate" p2) [e] [] pos2] X.env = (false, eval (.Call (.Name "enumerate" p2) [e] [] pos2) X.env) :: starEach [] X.env := by rfl) :
    PE X (.Call (.Name "list" p) [.Call (.Name "enumerate" p2) [e] [] pos2] [] pos) (tListEnum X.K te) := by
  refine ⟨fun pins s σ H Q I hq => ?_⟩
  refine wpAny_Call_Name_kw (ld_blt I hg hm hv ?_)
  refine PyProof.Rows.callWith_type1 ?_ hs rfl
  rw [hs]
  refine Calls.spliced_cons ?_
  refine Call_ (ld_blt I hg2 hm2 boot_enumerate (PyProof.Rows.callWith_type1 (args_cons (thn (he.run pins s σ H _ I hq) fun u s1 ⟨x, H1, I1, rx, l, xs, ex, hx, q⟩ => args_nil ?_) hs2) hs2 rfl))
  subst ex
  obtain rfl : u = Value.ref l := rx
  obtain ⟨its, rv, p', hz⟩ := I1.list hx
  have hll : l < s1.heap.objs.size := p'.lt
  refine call_enumerate_list p'.isList fun h' hE hit hsz hk => Calls.spliced_nil ?_
  have I2 : Inv X pins σ H1 { s1 with heap := h' } := I1.kept (t' := s1.toks) hk
  have hl2 : h'.IsList l its.toArray := p'.isList.at fun o q => hk l o q
  have lx := rv.length
  refine call_list_en (s := { s1 with heap := h' }) (I1.ok.hd hc) hE hit hl2 (Nat.succ_ne_self _) (Nat.ne_of_lt (Nat.lt_succ_of_lt hll)) (Nat.ne_of_lt hll) (by rw [List.size_toArray]; omega) fun h2 tk acc c as k2 hS hl hG hacc => ?_
  have k1 : ∀ b o, s1.heap.get? b = some o → h2.get? b = some o := fun b o q => k2 b o (Nat.ne_of_lt (Nat.lt_succ_of_lt (Heap.lt_size q))) (Nat.ne_of_lt (Heap.lt_size q)) (hk b o q)
  have hS1 : s1.heap.objs.size ≤ h'.objs.size := by rw [hsz]; exact Nat.le_add_right _ _
  obtain ⟨H', q1, q2, q3, q5, q6, J⟩ := en_laid (tk := tk) (xs := xs) (its := its) hS1 I1 (by omega) rv k1 hS (by rw [hl, List.size_toArray]) (by simpa using hG) hacc
  exact ⟨.ref _, H', J, rfl, q H' _ as q1 q2 (by rw [hl, List.size_toArray]; omega) q3 q5 q6⟩
end
end Sv

/-! .. enumerate(zip(l, m)) with l empty; d.update(d2); len(own instance) -/
namespace Sv
open PySem PySem.Spec PyProof.Rows L2
section
variable {prog : Program} {w : World} {A : Around} {E : Value → Shared → Prop} {s : Shared}
theorem meets_enum_zip (z TI TO : Addr) : Meets (Builtin.«enumerate.__new__» ⟨[.type "enumerate", .ref z], []⟩) (fun _ R s => IsZip s.heap z TI TO .none ∧
      R (.ok (.ret (.ref s.heap.objs.size))) { s with heap := s.heap.push { cls := .type "enumerate", data := .fields #[.none, .bool false, .ref z, rawInt 0, .none, .none] } }) :=
  .of_wp fun prog w A R s h => by
    obtain ⟨hp, g, d, tk, os⟩ := s; obtain ⟨hl, h⟩ := h
    have hsub := sub_enumerate
    have q1 : ∀ {A' : Around} {E : Value → Shared → Prop} {Q : Value → Shared → Prop}, Q (.ref z) ⟨hp, g, d, tk, os⟩ → wpAny (model prog w) A' (pyIter (.ref z)) Q E ⟨hp, g, d, tk, os⟩ := fun q => wpAny_pyIter_zip (s := ⟨hp, g, d, tk, os⟩) hl q
    wp_walk using AutoSeq1.wpAny_loadPart' hl
    refine wpAny_stack_any fun st => wpAny_pure ?_
    split
    · rename_i c _ _ _ _ _
      cases (c == Value.type "enumerate")
      · wp_walk using AutoSeq1.wpAny_loadPart' hl, q1
        exact ⟨_, rfl, h⟩
      · wp_walk using AutoSeq1.wpAny_loadPart' hl, q1
        exact ⟨_, rfl, h⟩
    · wp_walk using AutoSeq1.wpAny_loadPart' hl, q1
      exact ⟨_, rfl, h⟩
theorem call_enum_zip {z TI TO : Addr} {Q : Value → Shared → Prop} (hz : IsZip s.heap z TI TO .none)
    (h : ∀ h', IsEnum h' s.heap.objs.size z 0 .none → (∀ b o, s.heap.get? b = some o → h'.get? b = some o) → Q (.ref s.heap.objs.size) { s with heap := h' }) :
    wpAny (model prog w) A (call (.type "enumerate") [.ref z]) Q E s := by
  refine callType_new F.called_enumerate (by decide) (F.typeCall_enumerate_1 _) (F.newCall_enumerate_1 _) (fun obj => F.args_object_init_2 obj _) F.entry_enumerate_new (meets_enum_zip z TI TO) ⟨hz, ?_⟩
  have he : IsEnum (s.heap.push { cls := .type "enumerate", data := .fields #[.none, .bool false, .ref z, rawInt 0, .none, .none] }) s.heap.objs.size z 0 .none := Heap.get?_push_size _ rfl
  exact ⟨⟨_, he, rfl⟩, h _ he fun b o x => Heap.get?_push_of_some _ x⟩
theorem pyNext_enum_zip_end {e z TI TO i1 i2 l1 l2 : Addr} {xs ys : Array Value} {a b old : Value} {Q : Option Value → Shared → Prop} (hh : A.handled = none) (D : ZipApart z TI TO i1 i2 l1 l2) (he : IsEnum s.heap e z 0 old)
    (hz : IsZip s.heap z TI TO .none) (hTI : IsPair s.heap TI (.ref i1) (.ref i2)) (hTO : IsPair s.heap TO a b) (h1 : s.heap.IsListIter i1 l1 0) (h2 : s.heap.IsListIter i2 l2 0) (hl1 : s.heap.IsList l1 xs) (hl2 : s.heap.IsList l2 ys) (hend : xs[0]? = none)
    (hQ : ∀ h', (∀ c o, c ≠ z → c ≠ TO → c ≠ i1 → c ≠ i2 → s.heap.get? c = some o → h'.get? c = some o) → Q none { s with heap := h' }) : wpAny (model prog w) A (pyNext (.ref e)) Q E s := by
  have hT : s.TypeIs (.ref e) "enumerate" := ⟨_, he, rfl⟩
  have hTz : s.TypeIs (.ref z) "zip" := ⟨_, hz, rfl⟩
  unfold pyNext
  refine wpAny_bind (wpAny_attempt (wpAny_callSpecial?_slot (name := Str.ofString "__next__") hT F.slot_enumerate_next (wpAny_call_entry F.slot_enumerate_next hT F.entry_enumerate_next ?_ (F.args_enumerate_next_1 _))))
  show wpAny _ _ (field (.ref e) 2 >>= _) _ _ _
  refine wpAny_bind (wpAny_field he rfl (x := .ref z) rfl ?_)
  refine wpAny_bind ?_
  unfold Builtin.SmallTypes.nextOf
  refine wpAny_bind (wpAny_callSpecial?_slot (name := Str.ofString "__next__") hTz F.slot_zip_next
    (wpAny_call_entry F.slot_zip_next hTz F.entry_zip_next (zip_next_end (A := A.in1.in1) hh D hz hTI hTO h1 h2 hl1 hl2 (.inl hend) fun h' e' hk he' => ?_) (F.args_zip_next_1 _)))
  obtain ⟨o, ho, hc⟩ := he'
  refine wpAny_bind (wpAny_isInstance (T := "StopIteration") (b := true) ⟨o, ho, hc⟩ isSubtype_stop ?_)
  exact wpAny_pure (hQ _ hk)
end
/-- enumerate(zip(l, m)) where the list at a has no item: no turn -/
def Ite0 (K : PySem.W.Frag) (a b : Addr) : It := ⟨fun _ _ => False, fun _ _ _ _ => False, fun _ H => SqL K H a [] ∧ ∃ ys, SqL K H b ys⟩
theorem turn_ez {P : Program} {w : World} {K : PySem.W.Frag} {tg : Expr} {a b e z TI TO i1 i2 : Addr} (D : ZipApart z TI TO i1 i2 a b) :
    Turn P w K tg (Ite0 K a b) [e, z, TI, TO, i1, i2] e (fun _ h => IsEnum h e z 0 .none ∧ IsZip h z TI TO .none ∧ IsPair h TI (.ref i1) (.ref i2) ∧ (∃ x y, IsPair h TO x y) ∧ h.IsListIter i1 a 0 ∧ h.IsListIter i2 b 0) where
  mem := by simp
  obj := fun i h st c hc => by
    obtain ⟨he, hz, hTI, ⟨x, y, hTO⟩, ⟨o1, e1, _, d1⟩, ⟨o2, e2, _, d2⟩⟩ := st
    have e' : c = e ∨ c = z ∨ c = TI ∨ c = TO ∨ c = i1 ∨ c = i2 := by simpa using hc
    rcases e' with q | q | q | q | q | q
    · rw [q]; exact ⟨_, he, fun v q => nomatch q⟩
    · rw [q]; exact ⟨_, hz, fun v q => nomatch q⟩
    · rw [q]; exact ⟨_, hTI, fun v q => nomatch q⟩
    · rw [q]; exact ⟨_, hTO, fun v q => nomatch q⟩
    · rw [q]; exact ⟨o1, e1, fun v q => by rw [d1] at q; cases q⟩
    · rw [q]; exact ⟨o2, e2, fun v q => by rw [d2] at q; cases q⟩
  keep := fun i h h' st k => by
    obtain ⟨he, hz, hTI, ⟨x, y, hTO⟩, h1, h2⟩ := st
    exact ⟨k e (by simp) _ he, k z (by simp) _ hz, k TI (by simp) _ hTI, ⟨x, y, k TO (by simp) _ hTO⟩, h1.at fun o q => k i1 (by simp) o q, h2.at fun o q => k i2 (by simp) o q⟩
  item := fun X _ _ _ _ i pins s σ H E _ _ _ hg => False.elim hg
  done := by
    intro X hP hw hK hc i pins s σ H E I hf st hg
    subst hP hw hK
    obtain ⟨he, hz, hTI, ⟨x0, y0, hTO⟩, h1, h2⟩ := st
    obtain ⟨hqx, ys, hqy⟩ := hg
    obtain ⟨its, rv, p, _⟩ := I.list hqx
    obtain ⟨its2, rv2, p2, _⟩ := I.list hqy
    have l1 := rv.length
    exact pyNext_enum_zip_end (I.ok.hd hc) D he hz hTI hTO h1 h2 p.isList p2.isList (by cases rv; rfl) fun h' hk => ⟨rfl, I.turnedL (t' := s.toks) (ch := [e, z, TI, TO, i1, i2]) (fun c o hb q =>
      hk c o (fun q' => hb (by simp [q'])) (fun q' => hb (by simp [q'])) (fun q' => hb (by simp [q'])) (fun q' => hb (by simp [q'])) q) hf⟩
  self := fun A i s Q E st h => wpAny_pyIter_enum st.1 h
def iEz (K : PySem.W.Frag) (ta : TA) : TI := fun σ H R => ta σ H fun vs H1 => ∃ a b ys, vs = [.ref a, .ref b] ∧ SqL K H1 a [] ∧ SqL K H1 b ys ∧ R (Ite0 K a b) H1
section
variable {X : Cx} {tg e e2 : Expr} {ta : TA} {p p2 pos pos2 : Pos}
theorem pi_ez (hg : Gl X "enumerate") (hm : X.mg "enumerate" = none) (hg2 : Gl X "zip") (hm2 : X.mg "zip" = none) (ha : PA X [e, e2] ta)
    (hs : starEach [e, e2] X.env = (false, eval e X.env) :: starEach [e2] X.env := by rfl) (hpl : (backTo pos2 (starEach [e2] X.env)).any (·.1) = false := by rfl)
    (hs2 : starEach [.Call (.Name "zip" p2) [e, e2] [] pos2] X.env = [(false, eval (.Call (.Name "zip" p2) [e, e2] [] pos2) X.env)] := by rfl) :
    PI X tg (.Call (.Name "enumerate" p) [.Call (.Name "zip" p2) [e, e2] [] pos2] [] pos) (iEz X.K ta) := by
  refine ⟨fun pins s σ H R I h => ?_⟩
  refine Call_ (ld_blt I hg hm boot_enumerate (PyProof.Rows.callWith_type1 ?_ hs2 rfl))
  rw [hs2]
  refine Calls.spliced_cons ?_
  refine Call_ (ld_blt I hg2 hm2 PyProof.Rows.boot_zip (PyProof.Rows.callWith_type1 (thn (ha.run pos2 pins s σ H _ I h) fun us s1 ⟨vs, H1, I1, r1, q1⟩ => ?_) hs hpl))
  obtain ⟨a, b, ys, ex, hqx, hqy, q⟩ := q1
  subst ex
  cases r1 with
  | cons r rr =>
    cases rr with
    | cons r' rr =>
      cases rr
      cases r
      cases r'
      obtain ⟨its, rv, p1, _⟩ := I1.list hqx
      obtain ⟨its2, rv2, p3, _⟩ := I1.list hqy
      refine call_zip_2 p1.isList p3.isList fun h' hz hTI hTO h1 h2 hsz hk => Calls.spliced_nil (call_enum_zip hz fun h3 he k3 => wpAny_pyIter_enum he ?_)
      dsimp only at he k3 ⊢
      have I2 : Inv X pins σ H1 { s1 with heap := h3 } := I1.kept (t' := s1.toks) fun c o q => k3 c o (hk c o q)
      refine ⟨h'.objs.size, [h'.objs.size, s1.heap.objs.size + 4, s1.heap.objs.size + 2, s1.heap.objs.size + 3, s1.heap.objs.size, s1.heap.objs.size + 1], _, _, H1, rfl, I2, turn_ez (PySem.W.ktu_apart s1.heap.objs.size a b p1.lt p3.lt), ⟨he, k3 _ _ hz, k3 _ _ hTI, ⟨_, _, k3 _ _ hTO⟩, h1.at fun o q => k3 _ o q, h2.at fun o q => k3 _ o q⟩, fun c hcm => ?_, q⟩
      have e' : c = h'.objs.size ∨ c = s1.heap.objs.size + 4 ∨ c = s1.heap.objs.size + 2 ∨ c = s1.heap.objs.size + 3 ∨ c = s1.heap.objs.size ∨ c = s1.heap.objs.size + 1 := by simpa using hcm
      have hle : s1.heap.objs.size ≤ c := by
        rcases e' with z | z | z | z | z | z <;> rw [z] <;> first | (rw [hsz]; exact Nat.le_add_right _ _) | exact Nat.le_add_right _ _ | exact Nat.le_refl _
      exact I1.fpOk hle (I1.hok.fresh hle)
/-! ### d.update(d2) -/
def rDUpd : V → List V → Hp → VK → Prop := fun x vs H Q => ∃ d o kvs more, x = .ref d ∧ vs = [.ref o] ∧ H d = some (.dK kvs) ∧ H o = some (.dK more) ∧ d ≠ o ∧ kvs.length + more.length ≤ 1000 ∧ Q .non (upd H d (.dK (mergeK kvs more)))
theorem mt_dupd : MtR X "dict.update" rDUpd := by
  intro pins s σ H x vs v us Q I rx rv h
  obtain ⟨d, o, kvs, more, rfl, rfl, e1, e2, ne, hz, q⟩ := h
  cases rx
  obtain ⟨u, rfl, ru⟩ := rv.one
  cases ru
  obtain ⟨z1, s1, v1, r1, d1⟩ := dk_of I.hok e1
  obtain ⟨z2, s2, v2, r2, d2⟩ := dk_of I.hok e2
  have l1 := r1.length
  have l2 := r2.length
  have hL := size_le (n := 1000) (by decide)
  refine call_meetsIn F.slot_dict_update d1.typeIs F.entry_dict_update (F.args_dict_update_2 _ _) (meets_dict_update (mixKind X.prog X.w) d o ne s2) ⟨v1, v2, d1, d2, by omega, fun h' dd _ hs => ⟨.non, _, ?_, rfl, q⟩⟩
  have lm := length_mergeK more kvs
  exact d_write (t' := s.toks) I (by rw [e1]; exact True.intro) hs (let ⟨q, _, _, hq, _⟩ := dd; ⟨q, hq⟩) (dk_new (by omega) s1 (KV.merge r2 r1) dd)
theorem r_tyD {K : PySem.W.Frag} {H : Hp} {a : Addr} {kvs : List (Key × V)} {B : Prop} (e : H a = some (.dK kvs)) (h : B) : tyV K "dict" (.ref a) H ∧ B := ⟨.inr (.inr (.inl ⟨rfl, .inl ⟨_, e⟩⟩)), h⟩
/-! ### len(x), x of our own class -/
def rLenI (C : Addr) (sp : Sp) : List V → Hp → VK → Prop := fun xs H Q => ∃ a dx fs, xs = [.ref a] ∧ H a = some (.ins C dx fs) ∧ sp [.ref a] H (fun v H' => ∃ n : Int, v = .int n ∧ 0 ≤ n ∧ n < 2 ^ 63 ∧ Q (.int n) H') E0
theorem call_lenI {k j : Nat} {C : Addr} {sp : Sp} (c : Met X.prog X.w X.K X.mg X.base k C "__len__" sp) (hr : Room j X.A) (hk : k + 1 ≤ j) : CallR X (.builtin "len") (rLenI C sp) := by
  intro pins s σ H xs us Q I r h
  obtain ⟨a, dx, fs, rfl, ea, h⟩ := h
  obtain ⟨u, rfl, ru⟩ := r.one
  cases ru
  obtain ⟨f, fd, ps, hc, hm, FO, b⟩ := c.ex
  obtain ⟨mA, O, _, _, _, _⟩ := ins_get I.hok ea
  obtain ⟨od, J, _⟩ := O.look
  refine Calls.call_function_entry kind_len plain_len entry_len (args_len1 _) ?_
  unfold Builtin.«len»
  refine wpAny_bind (m := oneArg "len" _) (wpAny_pure ?_)
  have hl : ([.ref a] : List V).length = ps.length := FO.len _ _ _ _ h
  refine wpAny_bind (m := callSpecial? (.ref a) (Str.ofString "__len__")) (PySem.W.special_fn I.kIn J hm.at_ (beq_iff_eq.mp hm.fn) (wpAny_call (codeAny_mono (FO.run X.A.in1 X.stack s H ⟨[.ref a], []⟩ [.ref a] [.ref a] _ E0 (hr.mono hk).in1 I.env0.in1 (b s [.ref a] I.kIn hl) (.cons rfl .nil) h) fun r s' hq => ?_)))
  cases r with
  | error er => exact False.elim hq
  | ok fl =>
    cases fl with
    | ret u =>
      obtain ⟨v, H', I3, rv, n, rfl, h0, h1, q3⟩ := I.after hq
      obtain ⟨t, rfl⟩ := rv
      refine wpAny_bind (wpAny_holding (wpAny_pure ?_))
      refine wpAny_bind (wpAny_letGo ?_)
      show wpAny _ _ (if n < 0 then _ else _) _ _ _
      rw [if_neg (by omega)]
      show wpAny _ _ (if n ≥ 2 ^ 63 then _ else _) _ _ _
      rw [if_neg (by omega)]
      exact wpAny_bind (wpAny_mkInt (wpAny_pure ⟨_, rfl, .int n, H', I3.tok _, ⟨_, rfl⟩, q3⟩))
    | next => exact False.elim hq
    | brk => exact False.elim hq
    | cont => exact False.elim hq
end
end Sv

/-! the mirror: what the program and the law reckon, as plain functions -/
namespace Mr
open PySem PySem.Spec PyProof.Rows L2
def abc : Str := "abcdefghijklmnopqrstuvwxyz"
/-- a NAME: one to four letters -/
def NameOk (z : Str) : Prop := 1 ≤ z.length ∧ z.length ≤ 4 ∧ ∀ c ∈ z.cps.toList, 97 ≤ c ∧ c ≤ 122
def nameNum (z : Str) : Int := z.cps.toList.foldl (fun a c => a * 27 + ((c - 97 : Nat) : Int) + 1) 0
def wds : List Str := ["load", "set", "end", "late", "reset"]
def wIx (w : Str) : Nat := wds.idxOf w
structure Rw where
  b : Int
  w : Str
  nm : Str
  nt : Int
  deriving DecidableEq
def Rw.vs (r : Rw) : List V := [.int r.b, .str r.w, .str r.nm, .int r.nt]
structure RowOk (r : Rw) : Prop where
  b0 : 0 ≤ r.b
  b8 : r.b < 8
  w : r.w ∈ wds
  nm : NameOk r.nm
  n0 : 0 ≤ r.nt
  n1 : r.nt < 9973
  nz : r.w = "end" ∨ r.w = "reset" → r.nt = 0
def rowNum (r : Rw) : Int := (nameNum r.nm * 5 + wIx r.w) * 9973 + r.nt
theorem foldl_next {α β : Type} {f : β → α → β} {b : β} {l : List α} {i : Nat} {x : α} (h : l[i]? = some x) : (l.take (i + 1)).foldl f b = f ((l.take i).foldl f b) x := by
  rw [List.take_add_one, h, Option.toList_some, List.foldl_append]; rfl
theorem mem_code {z : Str} {i c : Nat} (h : z.cps[i]? = some c) : c ∈ z.cps.toList := by
  rw [← Array.getElem?_toList] at h
  exact List.mem_of_getElem? h
theorem toList_code {z : Str} {i c : Nat} (h : z.cps[i]? = some c) : z.cps.toList[i]? = some c := by
  rw [Array.getElem?_toList]; exact h
theorem wds_ix {w : Str} (h : w ∈ wds) : wds[wIx w]? = some w := by
  unfold wIx
  rw [List.getElem?_eq_getElem (List.idxOf_lt_length_of_mem h), List.getElem_idxOf]
theorem wds_first {w : Str} {m : Nat} (h : m < wIx w) : wds[m]? ≠ some w := by
  intro e
  have h2 : m < wds.idxOf w := h
  have := List.not_of_lt_findIdx (show m < wds.findIdx (· == w) from h2)
  obtain ⟨hl, e2⟩ := List.getElem?_eq_some_iff.mp e
  rw [e2] at this
  simp at this
theorem nameNum_nn (z : Str) : 0 ≤ nameNum z := by
  unfold nameNum
  have key : ∀ (l : List Nat) (a : Int), 0 ≤ a → 0 ≤ l.foldl (fun a c => a * 27 + ((c - 97 : Nat) : Int) + 1) a := by
    intro l
    induction l with
    | nil => intro a h; exact h
    | cons c r ih => intro a h; exact ih _ (by show (0 : Int) ≤ a * 27 + ((c - 97 : Nat) : Int) + 1; omega)
  exact key _ 0 (Int.le_refl 0)
theorem rowNum_nn {r : Rw} (h : 0 ≤ r.nt) : 0 ≤ rowNum r := by
  unfold rowNum
  have := nameNum_nn r.nm
  omega
def foldSign (key : Int) (ns : List Int) : Int := ns.foldl (fun a n => (a * 1000003 + n + 1) % 1000000000039) key
theorem map_int {ns : List Int} {i : Nat} {x : V} (h : (ns.map V.int)[i]? = some x) : ∃ n, ns[i]? = some n ∧ x = .int n := by
  rw [List.getElem?_map] at h
  cases e : ns[i]? with
  | none => rw [e] at h; cases h
  | some n => rw [e] at h; exact ⟨n, rfl, (Option.some.inj h).symm⟩
theorem map_ref {ps : List Addr} {i : Nat} {x : V} (h : (ps.map V.ref)[i]? = some x) : ∃ p, ps[i]? = some p ∧ x = .ref p := by
  rw [List.getElem?_map] at h
  cases e : ps[i]? with
  | none => rw [e] at h; cases h
  | some n => rw [e] at h; exact ⟨n, rfl, (Option.some.inj h).symm⟩
/-- pairs (0, v0), (1, v1), .. at the addresses ps -/
def PairsAt (H : Hp) (ps : List Addr) (vals : List Int) : Prop := ps.length = vals.length ∧ ∀ (i : Nat) (p : Addr) (v : Int), ps[i]? = some p → vals[i]? = some v → H p = some (.tup [.int i, .int v])
theorem PairsAt.same {H H' : Hp} {ps : List Addr} {vals : List Int} (s : Same H H') (h : PairsAt H ps vals) : PairsAt H' ps vals := ⟨h.1, fun i p v a b => s _ _ (h.2 i p v a b)⟩
theorem PairsAt.val {H : Hp} {ps : List Addr} {vals : List Int} (h : PairsAt H ps vals) {i : Nat} {p : Addr} (e : ps[i]? = some p) : ∃ v, vals[i]? = some v ∧ v ∈ vals ∧ i < vals.length ∧ H p = some (.tup [.int i, .int v]) := by
  have hi : i < vals.length := h.1 ▸ (List.getElem?_eq_some_iff.mp e).1
  exact ⟨vals[i], List.getElem?_eq_getElem hi, List.getElem_mem hi, hi, h.2 i p _ e (List.getElem?_eq_getElem hi)⟩
/-- what of a quote is signed -/
def flatP (vals : List Int) (i : Nat) : List Int := (vals.zipIdx.take i).flatMap fun p => [(p.2 : Int), p.1]
theorem flatP_next {vals : List Int} {i : Nat} {v : Int} (h : vals[i]? = some v) : flatP vals (i + 1) = flatP vals i ++ [(i : Int), v] := by
  have e : vals.zipIdx[i]? = some (v, i) := by rw [List.getElem?_zipIdx, h]; simp
  unfold flatP
  rw [List.take_add_one, e, List.flatMap_append]
  simp
def quoteNums (name : Str) (start num : Int) (vals : List Int) : List Int := [nameNum name, start, num] ++ flatP vals vals.length
theorem flatP_length (vals : List Int) : ∀ i, i ≤ vals.length → (flatP vals i).length = 2 * i
  | 0, _ => rfl
  | i + 1, h => by
    rw [flatP_next (List.getElem?_eq_getElem (show i < vals.length by omega)), List.length_append, flatP_length vals i (by omega)]
    show 2 * i + 2 = _
    omega
def signOf (key : Int) (name : Str) (start num : Int) (vals : List Int) : Int := foldSign key (quoteNums name start num vals)
theorem foldSign_bd (key : Int) (ns : List Int) (h : ns ≠ []) : 0 ≤ foldSign key ns ∧ foldSign key ns < 1000000000039 := by
  unfold foldSign
  have key2 : ∀ (l : List Int) (a : Int), 0 ≤ a ∧ a < 1000000000039 → 0 ≤ l.foldl (fun a n => (a * 1000003 + n + 1) % 1000000000039) a ∧ l.foldl (fun a n => (a * 1000003 + n + 1) % 1000000000039) a < 1000000000039 := by
    intro l
    induction l with
    | nil => intro a h; exact h
    | cons c r ih => intro a h; exact ih _ ⟨Int.emod_nonneg _ (by decide), Int.emod_lt_of_pos _ (by decide)⟩
  cases ns with
  | nil => exact absurd rfl h
  | cons n r => exact key2 r _ ⟨Int.emod_nonneg _ (by decide), Int.emod_lt_of_pos _ (by decide)⟩
/-- a quote at q: its tuple, the tuple of its pairs at pv -/
structure QuoteAt (H : Hp) (q : Addr) (name : Str) (start num : Int) (vals : List Int) (sign : Int) : Prop where
  ex : ∃ (pv : Addr) (ps : List Addr), H q = some (.tup [.str name, .int start, .int num, .ref pv, .int sign]) ∧ H pv = some (.tup (ps.map V.ref)) ∧ PairsAt H ps vals
theorem QuoteAt.same {H H' : Hp} {q : Addr} {name : Str} {start num : Int} {vals : List Int} {sign : Int} (s : Same H H') (h : QuoteAt H q name start num vals sign) : QuoteAt H' q name start num vals sign := by
  obtain ⟨pv, ps, a, b, c⟩ := h.ex
  exact ⟨pv, ps, s _ _ a, s _ _ b, c.same s⟩
/-- what a quote must be to be taken for one -/
structure QuoteOk (name : Str) (start num : Int) (vals : List Int) (sign : Int) : Prop where
  nm : NameOk name
  s0 : 0 ≤ start
  n0 : 0 ≤ num
  v0 : ∀ v ∈ vals, 0 ≤ v
  v1 : 1 ≤ vals.length
  v8 : vals.length ≤ 8
  g0 : 0 ≤ sign
  g1 : sign < 1000000000039
/-- a mixing: wide (none), or narrow of a width; its factor -/
structure How where
  wd : Option Int
  fc : Int
def How.wV (h : How) : V := match h.wd with
  | none => .non
  | some m => .int m
structure HowOk (h : How) : Prop where
  f1 : 1 ≤ h.fc
  f2 : h.fc ≤ 1000000
  w1 : ∀ m, h.wd = some m → 3 ≤ m
  w2 : ∀ m, h.wd = some m → m ≤ 1000000
  g : ∀ m, h.wd = some m → Nat.gcd m.toNat h.fc.toNat ≤ 1
def mix (h : How) (v : Int) (r : Rw) : Int := match h.wd with
  | none => v * 26500305465 + rowNum r + 1
  | some m => (v * h.fc + rowNum r + 1) % m
def stepB (h : How) (bs : List Int) (r : Rw) : List Int := bs.set r.b.toNat (if r.w = "reset" then 2 else mix h (bs.getD r.b.toNat 0) r)
def replayB (h : How) (rows : List Rw) (n : Nat) : List Int := rows.foldl (stepB h) (List.replicate n 1)
theorem stepB_length (h : How) (bs : List Int) (r : Rw) : (stepB h bs r).length = bs.length := by unfold stepB; rw [List.length_set]
theorem foldB_length (h : How) : ∀ (rows : List Rw) (bs : List Int), (rows.foldl (stepB h) bs).length = bs.length
  | [], _ => rfl
  | r :: t, bs => by rw [List.foldl_cons, foldB_length h t, stepB_length]
theorem replayB_length (h : How) (rows : List Rw) (n : Nat) : (replayB h rows n).length = n := by unfold replayB; rw [foldB_length, List.length_replicate]
theorem mix_nn {h : How} (ok : HowOk h) {v : Int} {r : Rw} (hv : 0 ≤ v) (hr : 0 ≤ r.nt) : 0 ≤ mix h v r := by
  have := rowNum_nn hr
  unfold mix
  cases e : h.wd with
  | none => show 0 ≤ v * 26500305465 + rowNum r + 1; omega
  | some m => exact Int.emod_nonneg _ (by have := ok.w1 m e; omega)
theorem stepB_nn {h : How} (ok : HowOk h) {bs : List Int} {r : Rw} (hb : ∀ v ∈ bs, 0 ≤ v) (hr : 0 ≤ r.nt) : ∀ v ∈ stepB h bs r, 0 ≤ v := by
  intro v hv
  unfold stepB at hv
  rcases List.mem_or_eq_of_mem_set hv with q | q
  · exact hb v q
  · rw [q]
    split
    · decide
    · refine mix_nn ok ?_ hr
      rw [List.getD_eq_getElem?_getD]
      cases e : bs[r.b.toNat]? with
      | none => exact Int.le_refl 0
      | some x => exact hb x (List.mem_of_getElem? e)
theorem replayB_nn {h : How} (ok : HowOk h) {rows : List Rw} (hr : ∀ r ∈ rows, RowOk r) (n : Nat) : ∀ v ∈ replayB h rows n, 0 ≤ v := by
  unfold replayB
  have key : ∀ (rows : List Rw) (bs : List Int), (∀ r ∈ rows, RowOk r) → (∀ v ∈ bs, 0 ≤ v) → ∀ v ∈ rows.foldl (stepB h) bs, 0 ≤ v := by
    intro rows
    induction rows with
    | nil => intro bs _ hb; exact hb
    | cons r t ih => intro bs h1 hb; exact ih _ (fun r hr => h1 r (List.mem_cons_of_mem _ hr)) (stepB_nn ok hb (h1 r List.mem_cons_self).n0)
  refine key rows _ hr fun v hv => ?_
  rw [List.eq_of_mem_replicate hv]; decide
/-! which rows may stand -/
def isLate (w : Str) : Bool := decide (w ∈ (["late", "reset"] : List Str))
def canStand (r : Rw) (up : Bool) (many fixed : Int) : Bool := decide (r.b < many) && (isLate r.w == up) && (!decide (r.w = "reset") || decide (fixed ≤ r.b))
def faultFrom (many fixed : Int) : Bool → Nat → List Rw → Option Nat
  | _, _, [] => none
  | up, i, r :: t => if canStand r up many fixed = true then faultFrom many fixed (up || decide (r.w = "end")) (i + 1) t else some i
def fault (rows : List Rw) (many fixed : Int) : Option Nat := faultFrom many fixed false 0 rows
def optV : Option Nat → V
  | none => .non
  | some i => .int i
theorem faultFrom_lt {many fixed : Int} : ∀ {rows : List Rw} {up : Bool} {i : Nat}, faultFrom many fixed up i rows = none → ∀ r ∈ rows, r.b < many
  | [], _, _, _, r, hr => by cases hr
  | q :: t, up, i, h, r, hr => by
    unfold faultFrom at h
    by_cases c : canStand q up many fixed = true
    · rw [if_pos c] at h
      rcases List.mem_cons.mp hr with e | e
      · subst e
        unfold canStand at c
        simp only [Bool.and_eq_true, decide_eq_true_eq] at c
        exact c.1.1
      · exact faultFrom_lt h r e
    · rw [if_neg c] at h; cases h
theorem fault_lt {rows : List Rw} {many fixed : Int} (h : fault rows many fixed = none) : ∀ r ∈ rows, r.b < many := faultFrom_lt h
/-- rows at the addresses ps -/
def RowsAt (H : Hp) (ps : List Addr) (rows : List Rw) : Prop := ps.length = rows.length ∧ ∀ (i : Nat) (p : Addr) (r : Rw), ps[i]? = some p → rows[i]? = some r → H p = some (.tup r.vs)
theorem RowsAt.same {H H' : Hp} {ps : List Addr} {rows : List Rw} (s : Same H H') (h : RowsAt H ps rows) : RowsAt H' ps rows := ⟨h.1, fun i p v a b => s _ _ (h.2 i p v a b)⟩
theorem RowsAt.row {H : Hp} {ps : List Addr} {rows : List Rw} (h : RowsAt H ps rows) {i : Nat} {p : Addr} (e : ps[i]? = some p) : ∃ r, rows[i]? = some r ∧ r ∈ rows ∧ i < rows.length ∧ H p = some (.tup r.vs) := by
  have hi : i < rows.length := h.1 ▸ (List.getElem?_eq_some_iff.mp e).1
  exact ⟨rows[i], List.getElem?_eq_getElem hi, List.getElem_mem hi, hi, h.2 i p _ e (List.getElem?_eq_getElem hi)⟩
/-- a Mixing at mx -/
structure MixF (h : How) (fs : List (Str × V)) : Prop where
  wd : fs.lookup ("width" : Str) = some h.wV
  fc : fs.lookup ("factor" : Str) = some (.int h.fc)
  nb : fs.lookup ("begin" : Str) = none
  nm : fs.lookup ("mixed" : Str) = none
structure MixAt (K : PySem.W.Frag) (H : Hp) (mx : Addr) (h : How) : Prop where
  ex : ∃ dx fs, H mx = some (.ins (He.ga K "Mixing") dx fs) ∧ MixF h fs
theorem MixAt.same {K : PySem.W.Frag} {H H' : Hp} {mx : Addr} {h : How} (s : Same H H') (m : MixAt K H mx h) : MixAt K H' mx h := by
  obtain ⟨dx, fs, a, b⟩ := m.ex
  exact ⟨dx, fs, s _ _ a, b⟩
/-! data that is compared as a whole -/
def dI (ns : List Int) : PyData := .list (ns.map .int)
theorem eqvAll_ints : ∀ a b : List Int, PyData.eqvAll (a.map .int) (b.map .int) = decide (a = b)
  | [], [] => by simp [PyData.eqvAll]
  | [], _ :: _ => by simp [PyData.eqvAll]
  | _ :: _, [] => by simp [PyData.eqvAll]
  | x :: a, y :: b => by
    rw [List.map_cons, List.map_cons, PyData.eqvAll, eqvAll_ints a b]
    have e : PyData.eqv (.int x) (.int y) = (x == y) := by rw [PyData.eqv]
    rw [e]
    by_cases h1 : x = y <;> by_cases h2 : a = b <;> simp [h1, h2]
theorem dI_eqv (a b : List Int) : PyData.eqv (dI a) (dI b) = decide (a = b) := by
  unfold dI; rw [PyData.eqv, eqvAll_ints]
theorem canLay_ints : ∀ a : List Int, PyData.canLayAll0 (a.map .int) = true
  | [] => by simp [PyData.canLayAll0]
  | x :: a => by rw [List.map_cons, PyData.canLayAll0, PyData.canLay0, canLay_ints a]; rfl
theorem depth_ints : ∀ a : List Int, PyData.depthAll (a.map .int) = 0
  | [] => by simp [PyData.depthAll]
  | x :: a => by rw [List.map_cons, PyData.depthAll, PyData.depth, depth_ints a]; rfl
theorem dI_shaped (a : List Int) : SeqAt.shaped (dI a) = true := by
  unfold SeqAt.shaped dI
  rw [PyData.canLay0, canLay_ints, PyData.depth, depth_ints]; rfl
theorem dpAll_ints {K : PySem.W.Frag} {H : Hp} : ∀ a : List Int, DpAll K H (a.map V.int) (a.map .int)
  | [] => .nil
  | x :: a => .cons (.int x) (dpAll_ints a)
theorem dI_at {K : PySem.W.Frag} {H : Hp} {p : Addr} {ns : List Int} (h : SqL K H p (ns.map V.int)) : Dp K H (.ref p) (dI ns) := .lst h (dpAll_ints ns)
def dR (r : Rw) : PyData := .tuple [.int r.b, .str r.w, .str r.nm, .int r.nt]
def dRs (rows : List Rw) : PyData := .list (rows.map dR)
theorem str_beq (a b : Str) : (a == b) = decide (a = b) := by
  by_cases h : a = b
  · subst h; simp
  · simp [h]
theorem dR_eqv (a b : Rw) : PyData.eqv (dR a) (dR b) = decide (a = b) := by
  unfold dR
  simp only [PyData.eqv, PyData.eqvAll, str_beq]
  obtain ⟨a1, a2, a3, a4⟩ := a
  obtain ⟨b1, b2, b3, b4⟩ := b
  by_cases h1 : a1 = b1 <;> by_cases h2 : a2 = b2 <;> by_cases h3 : a3 = b3 <;> by_cases h4 : a4 = b4 <;> simp [h1, h2, h3, h4]
theorem eqvAll_rows : ∀ a b : List Rw, PyData.eqvAll (a.map dR) (b.map dR) = decide (a = b)
  | [], [] => by simp [PyData.eqvAll]
  | [], _ :: _ => by simp [PyData.eqvAll]
  | _ :: _, [] => by simp [PyData.eqvAll]
  | x :: a, y :: b => by
    rw [List.map_cons, List.map_cons, PyData.eqvAll, eqvAll_rows a b, dR_eqv]
    by_cases h1 : x = y <;> by_cases h2 : a = b <;> simp [h1, h2]
theorem dRs_eqv (a b : List Rw) : PyData.eqv (dRs a) (dRs b) = decide (a = b) := by
  unfold dRs; rw [PyData.eqv, eqvAll_rows]
theorem strOk_of {z : Str} (h : ∀ c ∈ z.cps.toList, c < 1114112) : PyData.strOk z = true := by
  unfold PyData.strOk
  rw [← Array.all_toList, List.all_eq_true]
  intro c hc
  exact decide_eq_true (h c hc)
theorem dR_lay {r : Rw} (h : RowOk r) : PyData.canLay0 (dR r) = true := by
  have e1 : PyData.strOk r.w = true := by
    have key : ∀ w ∈ wds, PyData.strOk w = true := by decide +kernel
    exact key _ h.w
  have e2 : PyData.strOk r.nm = true := strOk_of fun c hc => by have := h.nm.2.2 c hc; omega
  unfold dR
  simp only [PyData.canLay0, PyData.canLayAll0, e1, e2, Bool.and_self]
theorem canLay_rows : ∀ a : List Rw, (∀ r ∈ a, RowOk r) → PyData.canLayAll0 (a.map dR) = true
  | [], _ => by simp [PyData.canLayAll0]
  | x :: a, h => by rw [List.map_cons, PyData.canLayAll0, dR_lay (h x List.mem_cons_self), canLay_rows a fun r hr => h r (List.mem_cons_of_mem _ hr)]; rfl
theorem depth_rows : ∀ a : List Rw, PyData.depthAll (a.map dR) ≤ 1
  | [] => by simp [PyData.depthAll]
  | x :: a => by
    rw [List.map_cons, PyData.depthAll]
    refine Nat.max_le.mpr ⟨?_, depth_rows a⟩
    unfold dR
    simp [PyData.depth, PyData.depthAll]
theorem dRs_shaped {a : List Rw} (h : ∀ r ∈ a, RowOk r) : SeqAt.shaped (dRs a) = true := by
  unfold SeqAt.shaped dRs
  rw [PyData.canLay0, canLay_rows a h, PyData.depth]
  have := depth_rows a
  rw [decide_eq_true (by omega)]; rfl
theorem dR_at {K : PySem.W.Frag} {H : Hp} {p : Addr} {r : Rw} (h : H p = some (.tup r.vs)) : Dp K H (.ref p) (dR r) := .tup (.of h) (.cons (.int _) (.cons (.str _) (.cons (.str _) (.cons (.int _) .nil))))
theorem dpAll_rows {K : PySem.W.Frag} {H : Hp} : ∀ (ps : List Addr) (rows : List Rw), RowsAt H ps rows → DpAll K H (ps.map V.ref) (rows.map dR)
  | [], [], _ => .nil
  | [], _ :: _, h => by cases h.1
  | _ :: _, [], h => by cases h.1
  | p :: ps, r :: rows, h => .cons (dR_at (h.2 0 p r rfl rfl)) (dpAll_rows ps rows ⟨Nat.succ.inj h.1, fun i q x a b => h.2 (i + 1) q x a b⟩)
theorem dRs_at {K : PySem.W.Frag} {H : Hp} {p : Addr} {ps : List Addr} {rows : List Rw} (e : H p = some (.lst (ps.map V.ref))) (h : RowsAt H ps rows) : Dp K H (.ref p) (dRs rows) := .lst (.of e) (dpAll_rows ps rows h)
def leadsB (h : How) (rows : List Rw) (vals : List Int) (m fx : Int) : Bool := match fault rows m fx with
  | some _ => false
  | none => decide (replayB h rows m.toNat = vals)
end Mr

/-! the whole of what the law's run has made: the Book with its one Entry, and the law's own tables -/
namespace Mr
open PySem PySem.Spec PyProof.Rows L2 Sv
/-- where things stand -/
structure Ad where
  b : Addr
  e : Addr
  ak : Addr
  hi : Addr
  own : Addr
  oak : Addr
  ohi : Addr
  w : Addr
  pl : Addr
  pn : Addr
  orl : Addr
  opn : Addr
  eD : Addr
  kd : Addr
  mx : Addr
  hp : Addr
def Ad.L (a : Ad) : List Addr := [a.b, a.e, a.ak, a.hi, a.own, a.oak, a.ohi, a.w, a.pl, a.pn, a.orl, a.opn, a.eD, a.kd, a.mx]
/-- what it holds -/
structure Da where
  name : Str
  key : Int
  hw : How
  m : Int
  fx : Int
  bn : Int
  wn : Int
  eask : List (Key × V)
  oask : List (Key × V)
  elast : Option (Int × List Rw)
  olast : Option (Int × List Rw)
  ehist : List (Int × Str)
  ohist : List (Int × Str)
def LastOk : Option (Int × List Rw) → Prop
  | none => True
  | some (st, rows) => 0 ≤ st ∧ (∀ r ∈ rows, RowOk r) ∧ rows.length ≤ 1000
/-- the Entry's last: a pair whose second is a tuple of rows -/
def LastT (H : Hp) (v : V) : Option (Int × List Rw) → Prop
  | none => v = .non
  | some (st, rows) => ∃ (p t : Addr) (ps : List Addr), v = .ref p ∧ H p = some (.tup [.int st, .ref t]) ∧ H t = some (.tup (ps.map V.ref)) ∧ RowsAt H ps rows
/-- the law's last: .. a list of rows, which is none of the state's own -/
def LastL (a : Ad) (H : Hp) (v : V) : Option (Int × List Rw) → Prop
  | none => v = .non
  | some (st, rows) => ∃ (p t : Addr) (ps : List Addr), v = .ref p ∧ H p = some (.tup [.int st, .ref t]) ∧ H t = some (.lst (ps.map V.ref)) ∧ RowsAt H ps rows ∧ t ∉ a.L
def HistAt (H : Hp) (hs : List Addr) (hist : List (Int × Str)) : Prop := hs.length = hist.length ∧ ∀ (i : Nat) (p : Addr) (x : Int × Str), hs[i]? = some p → hist[i]? = some x → H p = some (.tup [.int x.1, .str x.2])
structure EnF (a : Ad) (key m fx : Int) (lv : V) (fs : List (Str × V)) : Prop where
  key : fs.lookup ("own_key" : Str) = some (.int key)
  mx : fs.lookup ("own_mixing" : Str) = some (.ref a.mx)
  many : fs.lookup ("own_many" : Str) = some (.int m)
  fixed : fs.lookup ("own_fixed" : Str) = some (.int fx)
  pl : fs.lookup ("own_policy" : Str) = some (.ref a.pl)
  pn : fs.lookup ("own_plan" : Str) = some (.ref a.pn)
  ak : fs.lookup ("own_asked" : Str) = some (.ref a.ak)
  last : fs.lookup ("own_last" : Str) = some lv
  hi : fs.lookup ("own_history" : Str) = some (.ref a.hi)
  n1 : fs.lookup ("goes_back" : Str) = none
  n2 : fs.lookup ("is_cut" : Str) = none
  n3 : fs.lookup ("is_few" : Str) = none
  n4 : fs.lookup ("leads" : Str) = none
  n5 : fs.lookup ("word_of" : Str) = none
  n6 : fs.lookup ("take" : Str) = none
  z : fs.length < 100
structure BkF (a : Ad) (bn : Int) (fs : List (Str × V)) : Prop where
  life : fs.lookup ("own_life" : Str) = some (.int 9)
  most : fs.lookup ("own_most" : Str) = some (.int 8)
  eD : fs.lookup ("own_entries" : Str) = some (.ref a.eD)
  ticks : fs.lookup ("own_ticks" : Str) = some (.int 0)
  next : fs.lookup ("own_next" : Str) = some (.int bn)
  n1 : fs.lookup ("entry_of" : Str) = none
  n2 : fs.lookup ("know" : Str) = none
  n3 : fs.lookup ("put" : Str) = none
  n4 : fs.lookup ("ask" : Str) = none
  n5 : fs.lookup ("take" : Str) = none
  n6 : fs.lookup ("names" : Str) = none
  n7 : fs.lookup ("asked" : Str) = none
  n8 : fs.lookup ("last" : Str) = none
  n9 : fs.lookup ("history" : Str) = none
  z : fs.length < 100
def wK (a : Ad) (wn : Int) : List (Key × V) := [(.inr "life", .int 9), (.inr "top", .int 8), (.inr "ticks", .int 0), (.inr "next", .int wn), (.inr "known", .ref a.kd)]
def ownK (a : Ad) (key m fx : Int) (lv : V) : List (Key × V) := [(.inr "key", .int key), (.inr "how", .ref a.hp), (.inr "size", .int m), (.inr "kept", .int fx), (.inr "rules", .ref a.orl), (.inr "plan", .ref a.opn), (.inr "asked", .ref a.oak), (.inr "last", lv), (.inr "history", .ref a.ohi)]
structure StAt (K : PySem.W.Frag) (H : Hp) (a : Ad) (d : Da) : Prop where
  nd : a.L.Nodup
  nm : NameOk d.name
  k0 : 0 ≤ d.key
  k1 : d.key ≤ 1000000
  hok : HowOk d.hw
  m1 : 1 ≤ d.m
  m8 : d.m ≤ 8
  fx0 : 0 ≤ d.fx
  fxm : d.fx < d.m
  bn0 : 0 ≤ d.bn
  bn1 : d.bn ≤ 10000
  wn0 : 0 ≤ d.wn
  wn1 : d.wn ≤ 10000
  el : LastOk d.elast
  ol : LastOk d.olast
  eh : d.ehist.length ≤ 1000
  oh : d.ohist.length ≤ 1000
  ea : d.eask.length ≤ 1000
  oa : d.oask.length ≤ 1000
  book : ∃ dx fs, H a.b = some (.ins (He.ga K "Book") dx fs) ∧ BkF a d.bn fs
  eDat : H a.eD = some (.dK [(.inr d.name, .ref a.e)])
  ent : ∃ dx fs lv, H a.e = some (.ins (He.ga K "Entry") dx fs) ∧ EnF a d.key d.m d.fx lv fs ∧ LastT H lv d.elast
  plat : H a.pl = some (.lst [])
  pnat : H a.pn = some (.lst [])
  akat : H a.ak = some (.dK d.eask)
  hiat : ∃ hs, H a.hi = some (.lst (hs.map V.ref)) ∧ HistAt H hs d.ehist
  mxat : MixAt K H a.mx d.hw
  wat : H a.w = some (.dK (wK a d.wn))
  kdat : H a.kd = some (.dK [(.inr d.name, .ref a.own)])
  ownat : ∃ lv, H a.own = some (.dK (ownK a d.key d.m d.fx lv)) ∧ LastL a H lv d.olast
  hpat : H a.hp = some (.tup [d.hw.wV, .int d.hw.fc])
  orlat : H a.orl = some (.lst [])
  opnat : H a.opn = some (.lst [])
  oakat : H a.oak = some (.dK d.oask)
  ohiat : ∃ hs, H a.ohi = some (.lst (hs.map V.ref)) ∧ HistAt H hs d.ohist
/-- an object that the box is not -/
def NotBox : HO → Prop
  | .lst (.int _ :: _) => False
  | _ => True
theorem notBox_refs (ps : List Addr) : NotBox (.lst (ps.map V.ref)) := by cases ps <;> exact True.intro
def TKp (H H' : Hp) : Prop := ∀ x ts, H x = some (.tup ts) → H' x = some (.tup ts)
theorem RowsAt.tk {H H' : Hp} {ps : List Addr} {rows : List Rw} (s : TKp H H') (h : RowsAt H ps rows) : RowsAt H' ps rows := ⟨h.1, fun i p v a b => s _ _ (h.2 i p v a b)⟩
theorem HistAt.tk {H H' : Hp} {hs : List Addr} {hist : List (Int × Str)} (s : TKp H H') (h : HistAt H hs hist) : HistAt H' hs hist := ⟨h.1, fun i p v a b => s _ _ (h.2 i p v a b)⟩
theorem LastT.tk {H H' : Hp} {v : V} {l : Option (Int × List Rw)} (s : TKp H H') (h : LastT H v l) : LastT H' v l := by
  cases l with
  | none => exact h
  | some x =>
    obtain ⟨p, t, ps, e, h1, h2, h3⟩ := h
    exact ⟨p, t, ps, e, s _ _ h1, s _ _ h2, h3.tk s⟩
theorem StAt.keep {K : PySem.W.Frag} {H H' : Hp} {a : Ad} {d : Da} (h : StAt K H a d) (k : ∀ x o, H x = some o → NotBox o → H' x = some o) : StAt K H' a d := by
  have tk : TKp H H' := fun x ts e => k x _ e True.intro
  obtain ⟨dx, fs, e1, f1⟩ := h.book
  obtain ⟨dx2, fs2, lv, e2, f2, l2⟩ := h.ent
  obtain ⟨hs, e3, f3⟩ := h.hiat
  obtain ⟨dx4, fs4, e4, f4⟩ := h.mxat.ex
  obtain ⟨lv5, e5, f5⟩ := h.ownat
  obtain ⟨hs6, e6, f6⟩ := h.ohiat
  refine { h with book := ⟨dx, fs, k _ _ e1 True.intro, f1⟩, eDat := k _ _ h.eDat True.intro, ent := ⟨dx2, fs2, lv, k _ _ e2 True.intro, f2, l2.tk tk⟩, plat := k _ _ h.plat True.intro, pnat := k _ _ h.pnat True.intro, akat := k _ _ h.akat True.intro, hiat := ⟨hs, k _ _ e3 (notBox_refs _), f3.tk tk⟩, mxat := ⟨dx4, fs4, k _ _ e4 True.intro, f4⟩, wat := k _ _ h.wat True.intro, kdat := k _ _ h.kdat True.intro, ownat := ⟨lv5, k _ _ e5 True.intro, ?_⟩, hpat := k _ _ h.hpat True.intro, orlat := k _ _ h.orlat True.intro, opnat := k _ _ h.opnat True.intro, oakat := k _ _ h.oakat True.intro, ohiat := ⟨hs6, k _ _ e6 (notBox_refs _), f6.tk tk⟩ }
  cases hl : d.olast with
  | none => rw [hl] at f5; exact f5
  | some x =>
    rw [hl] at f5
    obtain ⟨p, t, ps, e, g1, g2, g3, g4⟩ := f5
    exact ⟨p, t, ps, e, tk _ _ g1, k _ _ g2 (notBox_refs _), g3.tk tk, g4⟩
theorem StAt.same {K : PySem.W.Frag} {H H' : Hp} {a : Ad} {d : Da} (h : StAt K H a d) (s : Same H H') : StAt K H' a d := h.keep fun x o e _ => s x o e
/-- what stands at the state's places is no tuple and no box -/
theorem StAt.kinds {K : PySem.W.Frag} {H : Hp} {a : Ad} {d : Da} (h : StAt K H a d) : ∀ x ∈ a.L, ∃ o, H x = some o ∧ NotBox o ∧ (∀ ts, o ≠ .tup ts) ∧ ∀ (z : Str) r, o ≠ .lst (.str z :: r) := by
  obtain ⟨dx, fs, e1, f1⟩ := h.book
  obtain ⟨dx2, fs2, lv, e2, f2, l2⟩ := h.ent
  obtain ⟨hs, e3, f3⟩ := h.hiat
  obtain ⟨dx4, fs4, e4, f4⟩ := h.mxat.ex
  obtain ⟨lv5, e5, f5⟩ := h.ownat
  obtain ⟨hs6, e6, f6⟩ := h.ohiat
  have nr : ∀ (ps : List Addr) (z : Str) r, HO.lst (ps.map V.ref) ≠ .lst (.str z :: r) := fun ps z r => by cases ps <;> simp
  intro x hx
  simp only [Ad.L, List.mem_cons, List.not_mem_nil, or_false] at hx
  rcases hx with rfl | rfl | rfl | rfl | rfl | rfl | rfl | rfl | rfl | rfl | rfl | rfl | rfl | rfl | rfl
  · exact ⟨_, e1, True.intro, by simp, by simp⟩
  · exact ⟨_, e2, True.intro, by simp, by simp⟩
  · exact ⟨_, h.akat, True.intro, by simp, by simp⟩
  · exact ⟨_, e3, notBox_refs _, by simp, nr _⟩
  · exact ⟨_, e5, True.intro, by simp, by simp⟩
  · exact ⟨_, h.oakat, True.intro, by simp, by simp⟩
  · exact ⟨_, e6, notBox_refs _, by simp, nr _⟩
  · exact ⟨_, h.wat, True.intro, by simp, by simp⟩
  · exact ⟨_, h.plat, True.intro, by simp, by simp⟩
  · exact ⟨_, h.pnat, True.intro, by simp, by simp⟩
  · exact ⟨_, h.orlat, True.intro, by simp, by simp⟩
  · exact ⟨_, h.opnat, True.intro, by simp, by simp⟩
  · exact ⟨_, h.eDat, True.intro, by simp, by simp⟩
  · exact ⟨_, h.kdat, True.intro, by simp, by simp⟩
  · exact ⟨_, e4, True.intro, by simp, by simp⟩
theorem StAt.tup_far {K : PySem.W.Frag} {H : Hp} {a : Ad} {d : Da} (h : StAt K H a d) {x : Addr} {ts : List V} (e : H x = some (.tup ts)) : x ∉ a.L := fun m => by
  obtain ⟨o, e2, _, n, _⟩ := h.kinds x m
  rw [e] at e2
  exact n ts (Option.some.inj e2).symm
theorem StAt.box_far {K : PySem.W.Frag} {H : Hp} {a : Ad} {d : Da} (h : StAt K H a d) {x : Addr} {i : Int} {ts : List V} (e : H x = some (.lst (.int i :: ts))) : x ∉ a.L := fun m => by
  obtain ⟨o, e2, n, _, _⟩ := h.kinds x m
  rw [e] at e2
  cases Option.some.inj e2
  exact n
theorem StAt.strs_far {K : PySem.W.Frag} {H : Hp} {a : Ad} {d : Da} (h : StAt K H a d) {x : Addr} {z : Str} {ts : List V} (e : H x = some (.lst (.str z :: ts))) : x ∉ a.L := fun m => by
  obtain ⟨o, e2, _, _, n⟩ := h.kinds x m
  rw [e] at e2
  exact n z ts (Option.some.inj e2).symm
theorem StAt.new_far {K : PySem.W.Frag} {H : Hp} {a : Ad} {d : Da} (h : StAt K H a d) {x : Addr} (e : H x = none) : x ∉ a.L := fun m => by
  obtain ⟨o, e2, _⟩ := h.kinds x m
  rw [e] at e2; cases e2
theorem StAt.tk {K : PySem.W.Frag} {H H' : Hp} {a : Ad} {d : Da} (h : StAt K H a d) (k : Kp a.L H H') : TKp H H' := fun x ts e => k x _ e (h.tup_far e)
theorem StAt.box {K : PySem.W.Frag} {H H' : Hp} {a : Ad} {d : Da} (h : StAt K H a d) {bx : Addr} {i : Int} {ts : List V} (e : H bx = some (.lst (.int i :: ts))) (k : Kp [bx] H H') : StAt K H' a d :=
  h.keep fun x o e2 n => k x o e2 fun m => by
    rw [List.mem_singleton.mp m, e] at e2
    cases Option.some.inj e2
    exact n
theorem ins_eq {C D dx ex : Addr} {fs gs : List (Str × V)} (h : some (HO.ins C dx fs) = some (HO.ins D ex gs)) : fs = gs := by
  injection h with h
  injection h
theorem refs_eq {xs ys : List Addr} (h : some (HO.lst (xs.map V.ref)) = some (HO.lst (ys.map V.ref))) : xs = ys := by
  injection h with h
  injection h with h
  induction xs generalizing ys with
  | nil => cases ys with
    | nil => rfl
    | cons _ _ => cases h
  | cons x r ih => cases ys with
    | nil => cases h
    | cons y q =>
      injection h with h1 h2
      rw [V.ref.inj h1, ih h2]
theorem putF_same (f : Str) (v : V) (fs : List (Str × V)) : (putF f v fs).lookup f = some v := by rw [lookup_putF, if_pos rfl]
theorem putF_other {f g : Str} (v : V) (fs : List (Str × V)) (h : g ≠ f) : (putF f v fs).lookup g = fs.lookup g := by rw [lookup_putF, if_neg h]
theorem putF_len (f : Str) (v : V) : ∀ fs : List (Str × V), (fs.lookup f).isSome = true → (putF f v fs).length = fs.length
  | [], h => by cases h
  | (g, x) :: r, h => by
    unfold putF
    by_cases e : g = f
    · rw [if_pos e]; rfl
    · rw [if_neg e, List.length_cons, List.length_cons, putF_len f v r]
      rw [List.lookup_cons] at h
      have e2 : (f == g) = false := by
        cases hb : f == g with
        | false => rfl
        | true => exact absurd (beq_iff_eq.mp hb).symm e
      rw [e2] at h
      exact h
theorem BkF.put {a : Ad} {bn : Int} {fs : List (Str × V)} (h : BkF a bn fs) (n : Int) : BkF a n (putF "own_next" (.int n) fs) := by
  have o : ∀ g : Str, g ≠ "own_next" → (putF "own_next" (.int n) fs).lookup g = fs.lookup g := fun g hg => putF_other _ _ hg
  exact { life := (o _ (by decide +kernel)).trans h.life, most := (o _ (by decide +kernel)).trans h.most, eD := (o _ (by decide +kernel)).trans h.eD, ticks := (o _ (by decide +kernel)).trans h.ticks, next := putF_same _ _ _, n1 := (o _ (by decide +kernel)).trans h.n1, n2 := (o _ (by decide +kernel)).trans h.n2, n3 := (o _ (by decide +kernel)).trans h.n3, n4 := (o _ (by decide +kernel)).trans h.n4, n5 := (o _ (by decide +kernel)).trans h.n5, n6 := (o _ (by decide +kernel)).trans h.n6, n7 := (o _ (by decide +kernel)).trans h.n7, n8 := (o _ (by decide +kernel)).trans h.n8, n9 := (o _ (by decide +kernel)).trans h.n9, z := by rw [putF_len _ _ _ (by rw [h.next]; rfl)]; exact h.z }
theorem EnF.put {a : Ad} {key m fx : Int} {lv : V} {fs : List (Str × V)} (h : EnF a key m fx lv fs) (v : V) : EnF a key m fx v (putF "own_last" v fs) := by
  have o : ∀ g : Str, g ≠ "own_last" → (putF "own_last" v fs).lookup g = fs.lookup g := fun g hg => putF_other _ _ hg
  exact { key := (o _ (by decide +kernel)).trans h.key, mx := (o _ (by decide +kernel)).trans h.mx, many := (o _ (by decide +kernel)).trans h.many, fixed := (o _ (by decide +kernel)).trans h.fixed, pl := (o _ (by decide +kernel)).trans h.pl, pn := (o _ (by decide +kernel)).trans h.pn, ak := (o _ (by decide +kernel)).trans h.ak, last := putF_same _ _ _, hi := (o _ (by decide +kernel)).trans h.hi, n1 := (o _ (by decide +kernel)).trans h.n1, n2 := (o _ (by decide +kernel)).trans h.n2, n3 := (o _ (by decide +kernel)).trans h.n3, n4 := (o _ (by decide +kernel)).trans h.n4, n5 := (o _ (by decide +kernel)).trans h.n5, n6 := (o _ (by decide +kernel)).trans h.n6, z := by rw [putF_len _ _ _ (by rw [h.last]; rfl)]; exact h.z }
theorem LastL.tk {a : Ad} {H H' : Hp} {v : V} {l : Option (Int × List Rw)} (h : LastL a H v l) (s : TKp H H') (k : ∀ y, y ∉ a.L → ∀ o, H y = some o → H' y = some o) : LastL a H' v l := by
  cases l with
  | none => exact h
  | some x =>
    obtain ⟨p, t, ps, e, h1, h2, h3, h4⟩ := h
    exact ⟨p, t, ps, e, s _ _ h1, k _ h4 _ h2, h3.tk s, h4⟩
theorem LastT.tk2 {H H' : Hp} {v : V} {l : Option (Int × List Rw)} (h : LastT H v l) (s : TKp H H') : LastT H' v l := LastT.tk s h
theorem HistAt.push {H : Hp} {hs : List Addr} {hist : List (Int × Str)} {p : Addr} {n : Int} {z : Str} (h : HistAt H hs hist) (e : H p = some (.tup [.int n, .str z])) : HistAt H (hs ++ [p]) (hist ++ [(n, z)]) := by
  refine ⟨by rw [List.length_append, List.length_append, h.1]; rfl, fun i q x h1 h2 => ?_⟩
  rcases Nat.lt_trichotomy i hs.length with c | c | c
  · rw [List.getElem?_append_left c] at h1
    rw [List.getElem?_append_left (h.1 ▸ c)] at h2
    exact h.2 i q x h1 h2
  · have e1 : (hs ++ [p])[i]? = some p := by rw [c]; simp
    have e2 : (hist ++ [(n, z)])[i]? = some (n, z) := by rw [c, h.1]; simp
    rw [e1] at h1
    rw [e2] at h2
    cases h1
    cases h2
    exact e
  · rw [List.getElem?_eq_none (by rw [List.length_append]; show hs.length + 1 ≤ i; omega)] at h1
    cases h1
theorem ne_ix {L : List Addr} (nd : L.Nodup) {i j : Nat} {x y : Addr} (h1 : L[i]? = some x) (h2 : L[j]? = some y) (ne : i ≠ j) : x ≠ y := by
  intro e
  subst e
  obtain ⟨l1, e1⟩ := List.getElem?_eq_some_iff.mp h1
  obtain ⟨l2, e2⟩ := List.getElem?_eq_some_iff.mp h2
  have hp := List.pairwise_iff_getElem.mp nd
  rcases Nat.lt_or_gt_of_ne ne with c | c
  · exact hp i j l1 l2 c (e1.trans e2.symm)
  · exact hp j i l2 l1 c (e2.trans e1.symm)
theorem StAt.setAk {K : PySem.W.Frag} {H : Hp} {a : Ad} {d : Da} (h : StAt K H a d) {kvs : List (Key × V)} (hz : kvs.length ≤ 1000) : StAt K (upd H a.ak (.dK kvs)) a { d with eask := kvs } := by
  have k : ∀ y o, y ≠ a.ak → H y = some o → upd H a.ak (.dK kvs) y = some o := fun y o n e => by rw [upd_ne n]; exact e
  have tk : TKp H (upd H a.ak (.dK kvs)) := fun y ts e => k _ _ (fun z => h.tup_far e (by rw [z]; exact List.mem_of_getElem? (show a.L[2]? = some a.ak from rfl))) e
  exact { h with book := let ⟨dx, fs, e1, f1⟩ := h.book; ⟨dx, fs, k _ _ (ne_ix h.nd (i := 0) (j := 2) rfl rfl (by decide)) e1, f1⟩, ent := let ⟨dx, fs, lv, e1, f1, l1⟩ := h.ent; ⟨dx, fs, lv, k _ _ (ne_ix h.nd (i := 1) (j := 2) rfl rfl (by decide)) e1, f1, l1.tk tk⟩, akat := upd_same, hiat := let ⟨hs, e1, f1⟩ := h.hiat; ⟨hs, k _ _ (ne_ix h.nd (i := 3) (j := 2) rfl rfl (by decide)) e1, f1.tk tk⟩, ownat := let ⟨lv, e1, f1⟩ := h.ownat; ⟨lv, k _ _ (ne_ix h.nd (i := 4) (j := 2) rfl rfl (by decide)) e1, f1.tk tk fun y n o e => k _ _ (fun z => n (by rw [z]; exact List.mem_of_getElem? (show a.L[2]? = some a.ak from rfl))) e⟩, oakat := k _ _ (ne_ix h.nd (i := 5) (j := 2) rfl rfl (by decide)) h.oakat, ohiat := let ⟨hs, e1, f1⟩ := h.ohiat; ⟨hs, k _ _ (ne_ix h.nd (i := 6) (j := 2) rfl rfl (by decide)) e1, f1.tk tk⟩, wat := k _ _ (ne_ix h.nd (i := 7) (j := 2) rfl rfl (by decide)) h.wat, plat := k _ _ (ne_ix h.nd (i := 8) (j := 2) rfl rfl (by decide)) h.plat, pnat := k _ _ (ne_ix h.nd (i := 9) (j := 2) rfl rfl (by decide)) h.pnat, orlat := k _ _ (ne_ix h.nd (i := 10) (j := 2) rfl rfl (by decide)) h.orlat, opnat := k _ _ (ne_ix h.nd (i := 11) (j := 2) rfl rfl (by decide)) h.opnat, eDat := k _ _ (ne_ix h.nd (i := 12) (j := 2) rfl rfl (by decide)) h.eDat, kdat := k _ _ (ne_ix h.nd (i := 13) (j := 2) rfl rfl (by decide)) h.kdat, mxat := let ⟨dx, fs, e1, f1⟩ := h.mxat.ex; ⟨⟨dx, fs, k _ _ (ne_ix h.nd (i := 14) (j := 2) rfl rfl (by decide)) e1, f1⟩⟩, hpat := tk _ _ h.hpat, ea := hz }
theorem StAt.setOak {K : PySem.W.Frag} {H : Hp} {a : Ad} {d : Da} (h : StAt K H a d) {kvs : List (Key × V)} (hz : kvs.length ≤ 1000) : StAt K (upd H a.oak (.dK kvs)) a { d with oask := kvs } := by
  have k : ∀ y o, y ≠ a.oak → H y = some o → upd H a.oak (.dK kvs) y = some o := fun y o n e => by rw [upd_ne n]; exact e
  have tk : TKp H (upd H a.oak (.dK kvs)) := fun y ts e => k _ _ (fun z => h.tup_far e (by rw [z]; exact List.mem_of_getElem? (show a.L[5]? = some a.oak from rfl))) e
  exact { h with book := let ⟨dx, fs, e1, f1⟩ := h.book; ⟨dx, fs, k _ _ (ne_ix h.nd (i := 0) (j := 5) rfl rfl (by decide)) e1, f1⟩, ent := let ⟨dx, fs, lv, e1, f1, l1⟩ := h.ent; ⟨dx, fs, lv, k _ _ (ne_ix h.nd (i := 1) (j := 5) rfl rfl (by decide)) e1, f1, l1.tk tk⟩, akat := k _ _ (ne_ix h.nd (i := 2) (j := 5) rfl rfl (by decide)) h.akat, hiat := let ⟨hs, e1, f1⟩ := h.hiat; ⟨hs, k _ _ (ne_ix h.nd (i := 3) (j := 5) rfl rfl (by decide)) e1, f1.tk tk⟩, ownat := let ⟨lv, e1, f1⟩ := h.ownat; ⟨lv, k _ _ (ne_ix h.nd (i := 4) (j := 5) rfl rfl (by decide)) e1, f1.tk tk fun y n o e => k _ _ (fun z => n (by rw [z]; exact List.mem_of_getElem? (show a.L[5]? = some a.oak from rfl))) e⟩, oakat := upd_same, ohiat := let ⟨hs, e1, f1⟩ := h.ohiat; ⟨hs, k _ _ (ne_ix h.nd (i := 6) (j := 5) rfl rfl (by decide)) e1, f1.tk tk⟩, wat := k _ _ (ne_ix h.nd (i := 7) (j := 5) rfl rfl (by decide)) h.wat, plat := k _ _ (ne_ix h.nd (i := 8) (j := 5) rfl rfl (by decide)) h.plat, pnat := k _ _ (ne_ix h.nd (i := 9) (j := 5) rfl rfl (by decide)) h.pnat, orlat := k _ _ (ne_ix h.nd (i := 10) (j := 5) rfl rfl (by decide)) h.orlat, opnat := k _ _ (ne_ix h.nd (i := 11) (j := 5) rfl rfl (by decide)) h.opnat, eDat := k _ _ (ne_ix h.nd (i := 12) (j := 5) rfl rfl (by decide)) h.eDat, kdat := k _ _ (ne_ix h.nd (i := 13) (j := 5) rfl rfl (by decide)) h.kdat, mxat := let ⟨dx, fs, e1, f1⟩ := h.mxat.ex; ⟨⟨dx, fs, k _ _ (ne_ix h.nd (i := 14) (j := 5) rfl rfl (by decide)) e1, f1⟩⟩, hpat := tk _ _ h.hpat, oa := hz }
theorem StAt.pushHi {K : PySem.W.Frag} {H : Hp} {a : Ad} {d : Da} (h : StAt K H a d) {hs : List Addr} {p : Addr} {n : Int} {z : Str} (e : H a.hi = some (.lst (hs.map V.ref))) (ep : H p = some (.tup [.int n, .str z])) (hz : d.ehist.length < 1000) : StAt K (upd H a.hi (.lst (hs.map V.ref ++ [.ref p]))) a { d with ehist := d.ehist ++ [(n, z)] } := by
  have k : ∀ y o, y ≠ a.hi → H y = some o → upd H a.hi (.lst (hs.map V.ref ++ [.ref p])) y = some o := fun y o n e => by rw [upd_ne n]; exact e
  have tk : TKp H (upd H a.hi (.lst (hs.map V.ref ++ [.ref p]))) := fun y ts e => k _ _ (fun z => h.tup_far e (by rw [z]; exact List.mem_of_getElem? (show a.L[3]? = some a.hi from rfl))) e
  exact { h with book := let ⟨dx, fs, e1, f1⟩ := h.book; ⟨dx, fs, k _ _ (ne_ix h.nd (i := 0) (j := 3) rfl rfl (by decide)) e1, f1⟩, ent := let ⟨dx, fs, lv, e1, f1, l1⟩ := h.ent; ⟨dx, fs, lv, k _ _ (ne_ix h.nd (i := 1) (j := 3) rfl rfl (by decide)) e1, f1, l1.tk tk⟩, akat := k _ _ (ne_ix h.nd (i := 2) (j := 3) rfl rfl (by decide)) h.akat, hiat := ⟨hs ++ [p], by rw [upd_same, List.map_append]; rfl, (HistAt.push (let ⟨hs2, e2, f2⟩ := h.hiat; refs_eq (e2.symm.trans e) ▸ f2) ep).tk tk⟩, ownat := let ⟨lv, e1, f1⟩ := h.ownat; ⟨lv, k _ _ (ne_ix h.nd (i := 4) (j := 3) rfl rfl (by decide)) e1, f1.tk tk fun y n o e => k _ _ (fun z => n (by rw [z]; exact List.mem_of_getElem? (show a.L[3]? = some a.hi from rfl))) e⟩, oakat := k _ _ (ne_ix h.nd (i := 5) (j := 3) rfl rfl (by decide)) h.oakat, ohiat := let ⟨hs, e1, f1⟩ := h.ohiat; ⟨hs, k _ _ (ne_ix h.nd (i := 6) (j := 3) rfl rfl (by decide)) e1, f1.tk tk⟩, wat := k _ _ (ne_ix h.nd (i := 7) (j := 3) rfl rfl (by decide)) h.wat, plat := k _ _ (ne_ix h.nd (i := 8) (j := 3) rfl rfl (by decide)) h.plat, pnat := k _ _ (ne_ix h.nd (i := 9) (j := 3) rfl rfl (by decide)) h.pnat, orlat := k _ _ (ne_ix h.nd (i := 10) (j := 3) rfl rfl (by decide)) h.orlat, opnat := k _ _ (ne_ix h.nd (i := 11) (j := 3) rfl rfl (by decide)) h.opnat, eDat := k _ _ (ne_ix h.nd (i := 12) (j := 3) rfl rfl (by decide)) h.eDat, kdat := k _ _ (ne_ix h.nd (i := 13) (j := 3) rfl rfl (by decide)) h.kdat, mxat := let ⟨dx, fs, e1, f1⟩ := h.mxat.ex; ⟨⟨dx, fs, k _ _ (ne_ix h.nd (i := 14) (j := 3) rfl rfl (by decide)) e1, f1⟩⟩, hpat := tk _ _ h.hpat, eh := by rw [List.length_append]; exact hz }
theorem StAt.pushOhi {K : PySem.W.Frag} {H : Hp} {a : Ad} {d : Da} (h : StAt K H a d) {hs : List Addr} {p : Addr} {n : Int} {z : Str} (e : H a.ohi = some (.lst (hs.map V.ref))) (ep : H p = some (.tup [.int n, .str z])) (hz : d.ohist.length < 1000) : StAt K (upd H a.ohi (.lst (hs.map V.ref ++ [.ref p]))) a { d with ohist := d.ohist ++ [(n, z)] } := by
  have k : ∀ y o, y ≠ a.ohi → H y = some o → upd H a.ohi (.lst (hs.map V.ref ++ [.ref p])) y = some o := fun y o n e => by rw [upd_ne n]; exact e
  have tk : TKp H (upd H a.ohi (.lst (hs.map V.ref ++ [.ref p]))) := fun y ts e => k _ _ (fun z => h.tup_far e (by rw [z]; exact List.mem_of_getElem? (show a.L[6]? = some a.ohi from rfl))) e
  exact { h with book := let ⟨dx, fs, e1, f1⟩ := h.book; ⟨dx, fs, k _ _ (ne_ix h.nd (i := 0) (j := 6) rfl rfl (by decide)) e1, f1⟩, ent := let ⟨dx, fs, lv, e1, f1, l1⟩ := h.ent; ⟨dx, fs, lv, k _ _ (ne_ix h.nd (i := 1) (j := 6) rfl rfl (by decide)) e1, f1, l1.tk tk⟩, akat := k _ _ (ne_ix h.nd (i := 2) (j := 6) rfl rfl (by decide)) h.akat, hiat := let ⟨hs, e1, f1⟩ := h.hiat; ⟨hs, k _ _ (ne_ix h.nd (i := 3) (j := 6) rfl rfl (by decide)) e1, f1.tk tk⟩, ownat := let ⟨lv, e1, f1⟩ := h.ownat; ⟨lv, k _ _ (ne_ix h.nd (i := 4) (j := 6) rfl rfl (by decide)) e1, f1.tk tk fun y n o e => k _ _ (fun z => n (by rw [z]; exact List.mem_of_getElem? (show a.L[6]? = some a.ohi from rfl))) e⟩, oakat := k _ _ (ne_ix h.nd (i := 5) (j := 6) rfl rfl (by decide)) h.oakat, ohiat := ⟨hs ++ [p], by rw [upd_same, List.map_append]; rfl, (HistAt.push (let ⟨hs2, e2, f2⟩ := h.ohiat; refs_eq (e2.symm.trans e) ▸ f2) ep).tk tk⟩, wat := k _ _ (ne_ix h.nd (i := 7) (j := 6) rfl rfl (by decide)) h.wat, plat := k _ _ (ne_ix h.nd (i := 8) (j := 6) rfl rfl (by decide)) h.plat, pnat := k _ _ (ne_ix h.nd (i := 9) (j := 6) rfl rfl (by decide)) h.pnat, orlat := k _ _ (ne_ix h.nd (i := 10) (j := 6) rfl rfl (by decide)) h.orlat, opnat := k _ _ (ne_ix h.nd (i := 11) (j := 6) rfl rfl (by decide)) h.opnat, eDat := k _ _ (ne_ix h.nd (i := 12) (j := 6) rfl rfl (by decide)) h.eDat, kdat := k _ _ (ne_ix h.nd (i := 13) (j := 6) rfl rfl (by decide)) h.kdat, mxat := let ⟨dx, fs, e1, f1⟩ := h.mxat.ex; ⟨⟨dx, fs, k _ _ (ne_ix h.nd (i := 14) (j := 6) rfl rfl (by decide)) e1, f1⟩⟩, hpat := tk _ _ h.hpat, oh := by rw [List.length_append]; exact hz }
theorem StAt.setBn {K : PySem.W.Frag} {H : Hp} {a : Ad} {d : Da} (h : StAt K H a d) {dx : Addr} {fs : List (Str × V)} {n : Int} (e : H a.b = some (.ins (He.ga K "Book") dx fs)) (n0 : 0 ≤ n) (n1 : n ≤ 10000) : StAt K (upd H a.b (.ins (He.ga K "Book") dx (putF "own_next" (.int n) fs))) a { d with bn := n } := by
  have k : ∀ y o, y ≠ a.b → H y = some o → upd H a.b (.ins (He.ga K "Book") dx (putF "own_next" (.int n) fs)) y = some o := fun y o n e => by rw [upd_ne n]; exact e
  have tk : TKp H (upd H a.b (.ins (He.ga K "Book") dx (putF "own_next" (.int n) fs))) := fun y ts e => k _ _ (fun z => h.tup_far e (by rw [z]; exact List.mem_of_getElem? (show a.L[0]? = some a.b from rfl))) e
  exact { h with book := let ⟨dx2, fs2, e2, f2⟩ := h.book; ⟨dx, _, upd_same, ins_eq (e2.symm.trans e) ▸ f2.put n⟩, ent := let ⟨dx, fs, lv, e1, f1, l1⟩ := h.ent; ⟨dx, fs, lv, k _ _ (ne_ix h.nd (i := 1) (j := 0) rfl rfl (by decide)) e1, f1, l1.tk tk⟩, akat := k _ _ (ne_ix h.nd (i := 2) (j := 0) rfl rfl (by decide)) h.akat, hiat := let ⟨hs, e1, f1⟩ := h.hiat; ⟨hs, k _ _ (ne_ix h.nd (i := 3) (j := 0) rfl rfl (by decide)) e1, f1.tk tk⟩, ownat := let ⟨lv, e1, f1⟩ := h.ownat; ⟨lv, k _ _ (ne_ix h.nd (i := 4) (j := 0) rfl rfl (by decide)) e1, f1.tk tk fun y n o e => k _ _ (fun z => n (by rw [z]; exact List.mem_of_getElem? (show a.L[0]? = some a.b from rfl))) e⟩, oakat := k _ _ (ne_ix h.nd (i := 5) (j := 0) rfl rfl (by decide)) h.oakat, ohiat := let ⟨hs, e1, f1⟩ := h.ohiat; ⟨hs, k _ _ (ne_ix h.nd (i := 6) (j := 0) rfl rfl (by decide)) e1, f1.tk tk⟩, wat := k _ _ (ne_ix h.nd (i := 7) (j := 0) rfl rfl (by decide)) h.wat, plat := k _ _ (ne_ix h.nd (i := 8) (j := 0) rfl rfl (by decide)) h.plat, pnat := k _ _ (ne_ix h.nd (i := 9) (j := 0) rfl rfl (by decide)) h.pnat, orlat := k _ _ (ne_ix h.nd (i := 10) (j := 0) rfl rfl (by decide)) h.orlat, opnat := k _ _ (ne_ix h.nd (i := 11) (j := 0) rfl rfl (by decide)) h.opnat, eDat := k _ _ (ne_ix h.nd (i := 12) (j := 0) rfl rfl (by decide)) h.eDat, kdat := k _ _ (ne_ix h.nd (i := 13) (j := 0) rfl rfl (by decide)) h.kdat, mxat := let ⟨dx, fs, e1, f1⟩ := h.mxat.ex; ⟨⟨dx, fs, k _ _ (ne_ix h.nd (i := 14) (j := 0) rfl rfl (by decide)) e1, f1⟩⟩, hpat := tk _ _ h.hpat, bn0 := n0, bn1 := n1 }
theorem StAt.setLast {K : PySem.W.Frag} {H : Hp} {a : Ad} {d : Da} (h : StAt K H a d) {dx : Addr} {fs : List (Str × V)} {v : V} {l : Int × List Rw} (e : H a.e = some (.ins (He.ga K "Entry") dx fs)) (hl : LastT H v (some l)) (ok : LastOk (some l)) : StAt K (upd H a.e (.ins (He.ga K "Entry") dx (putF "own_last" v fs))) a { d with elast := some l } := by
  have k : ∀ y o, y ≠ a.e → H y = some o → upd H a.e (.ins (He.ga K "Entry") dx (putF "own_last" v fs)) y = some o := fun y o n e => by rw [upd_ne n]; exact e
  have tk : TKp H (upd H a.e (.ins (He.ga K "Entry") dx (putF "own_last" v fs))) := fun y ts e => k _ _ (fun z => h.tup_far e (by rw [z]; exact List.mem_of_getElem? (show a.L[1]? = some a.e from rfl))) e
  exact { h with book := let ⟨dx, fs, e1, f1⟩ := h.book; ⟨dx, fs, k _ _ (ne_ix h.nd (i := 0) (j := 1) rfl rfl (by decide)) e1, f1⟩, ent := let ⟨dx2, fs2, lv, e2, f2, _⟩ := h.ent; ⟨dx, _, v, upd_same, ins_eq (e2.symm.trans e) ▸ f2.put v, hl.tk2 tk⟩, akat := k _ _ (ne_ix h.nd (i := 2) (j := 1) rfl rfl (by decide)) h.akat, hiat := let ⟨hs, e1, f1⟩ := h.hiat; ⟨hs, k _ _ (ne_ix h.nd (i := 3) (j := 1) rfl rfl (by decide)) e1, f1.tk tk⟩, ownat := let ⟨lv, e1, f1⟩ := h.ownat; ⟨lv, k _ _ (ne_ix h.nd (i := 4) (j := 1) rfl rfl (by decide)) e1, f1.tk tk fun y n o e => k _ _ (fun z => n (by rw [z]; exact List.mem_of_getElem? (show a.L[1]? = some a.e from rfl))) e⟩, oakat := k _ _ (ne_ix h.nd (i := 5) (j := 1) rfl rfl (by decide)) h.oakat, ohiat := let ⟨hs, e1, f1⟩ := h.ohiat; ⟨hs, k _ _ (ne_ix h.nd (i := 6) (j := 1) rfl rfl (by decide)) e1, f1.tk tk⟩, wat := k _ _ (ne_ix h.nd (i := 7) (j := 1) rfl rfl (by decide)) h.wat, plat := k _ _ (ne_ix h.nd (i := 8) (j := 1) rfl rfl (by decide)) h.plat, pnat := k _ _ (ne_ix h.nd (i := 9) (j := 1) rfl rfl (by decide)) h.pnat, orlat := k _ _ (ne_ix h.nd (i := 10) (j := 1) rfl rfl (by decide)) h.orlat, opnat := k _ _ (ne_ix h.nd (i := 11) (j := 1) rfl rfl (by decide)) h.opnat, eDat := k _ _ (ne_ix h.nd (i := 12) (j := 1) rfl rfl (by decide)) h.eDat, kdat := k _ _ (ne_ix h.nd (i := 13) (j := 1) rfl rfl (by decide)) h.kdat, mxat := let ⟨dx, fs, e1, f1⟩ := h.mxat.ex; ⟨⟨dx, fs, k _ _ (ne_ix h.nd (i := 14) (j := 1) rfl rfl (by decide)) e1, f1⟩⟩, hpat := tk _ _ h.hpat, el := ok }
theorem StAt.setWn {K : PySem.W.Frag} {H : Hp} {a : Ad} {d : Da} (h : StAt K H a d) {n : Int} (n0 : 0 ≤ n) (n1 : n ≤ 10000) : StAt K (upd H a.w (.dK (wK a n))) a { d with wn := n } := by
  have k : ∀ y o, y ≠ a.w → H y = some o → upd H a.w (.dK (wK a n)) y = some o := fun y o n e => by rw [upd_ne n]; exact e
  have tk : TKp H (upd H a.w (.dK (wK a n))) := fun y ts e => k _ _ (fun z => h.tup_far e (by rw [z]; exact List.mem_of_getElem? (show a.L[7]? = some a.w from rfl))) e
  exact { h with book := let ⟨dx, fs, e1, f1⟩ := h.book; ⟨dx, fs, k _ _ (ne_ix h.nd (i := 0) (j := 7) rfl rfl (by decide)) e1, f1⟩, ent := let ⟨dx, fs, lv, e1, f1, l1⟩ := h.ent; ⟨dx, fs, lv, k _ _ (ne_ix h.nd (i := 1) (j := 7) rfl rfl (by decide)) e1, f1, l1.tk tk⟩, akat := k _ _ (ne_ix h.nd (i := 2) (j := 7) rfl rfl (by decide)) h.akat, hiat := let ⟨hs, e1, f1⟩ := h.hiat; ⟨hs, k _ _ (ne_ix h.nd (i := 3) (j := 7) rfl rfl (by decide)) e1, f1.tk tk⟩, ownat := let ⟨lv, e1, f1⟩ := h.ownat; ⟨lv, k _ _ (ne_ix h.nd (i := 4) (j := 7) rfl rfl (by decide)) e1, f1.tk tk fun y n o e => k _ _ (fun z => n (by rw [z]; exact List.mem_of_getElem? (show a.L[7]? = some a.w from rfl))) e⟩, oakat := k _ _ (ne_ix h.nd (i := 5) (j := 7) rfl rfl (by decide)) h.oakat, ohiat := let ⟨hs, e1, f1⟩ := h.ohiat; ⟨hs, k _ _ (ne_ix h.nd (i := 6) (j := 7) rfl rfl (by decide)) e1, f1.tk tk⟩, wat := upd_same, plat := k _ _ (ne_ix h.nd (i := 8) (j := 7) rfl rfl (by decide)) h.plat, pnat := k _ _ (ne_ix h.nd (i := 9) (j := 7) rfl rfl (by decide)) h.pnat, orlat := k _ _ (ne_ix h.nd (i := 10) (j := 7) rfl rfl (by decide)) h.orlat, opnat := k _ _ (ne_ix h.nd (i := 11) (j := 7) rfl rfl (by decide)) h.opnat, eDat := k _ _ (ne_ix h.nd (i := 12) (j := 7) rfl rfl (by decide)) h.eDat, kdat := k _ _ (ne_ix h.nd (i := 13) (j := 7) rfl rfl (by decide)) h.kdat, mxat := let ⟨dx, fs, e1, f1⟩ := h.mxat.ex; ⟨⟨dx, fs, k _ _ (ne_ix h.nd (i := 14) (j := 7) rfl rfl (by decide)) e1, f1⟩⟩, hpat := tk _ _ h.hpat, wn0 := n0, wn1 := n1 }
theorem StAt.setOlast {K : PySem.W.Frag} {H : Hp} {a : Ad} {d : Da} (h : StAt K H a d) {v : V} {l : Int × List Rw} (hl : LastL a H v (some l)) (ok : LastOk (some l)) : StAt K (upd H a.own (.dK (ownK a d.key d.m d.fx v))) a { d with olast := some l } := by
  have k : ∀ y o, y ≠ a.own → H y = some o → upd H a.own (.dK (ownK a d.key d.m d.fx v)) y = some o := fun y o n e => by rw [upd_ne n]; exact e
  have tk : TKp H (upd H a.own (.dK (ownK a d.key d.m d.fx v))) := fun y ts e => k _ _ (fun z => h.tup_far e (by rw [z]; exact List.mem_of_getElem? (show a.L[4]? = some a.own from rfl))) e
  exact { h with book := let ⟨dx, fs, e1, f1⟩ := h.book; ⟨dx, fs, k _ _ (ne_ix h.nd (i := 0) (j := 4) rfl rfl (by decide)) e1, f1⟩, ent := let ⟨dx, fs, lv, e1, f1, l1⟩ := h.ent; ⟨dx, fs, lv, k _ _ (ne_ix h.nd (i := 1) (j := 4) rfl rfl (by decide)) e1, f1, l1.tk tk⟩, akat := k _ _ (ne_ix h.nd (i := 2) (j := 4) rfl rfl (by decide)) h.akat, hiat := let ⟨hs, e1, f1⟩ := h.hiat; ⟨hs, k _ _ (ne_ix h.nd (i := 3) (j := 4) rfl rfl (by decide)) e1, f1.tk tk⟩, ownat := ⟨v, upd_same, hl.tk tk fun y n o e => k _ _ (fun z => n (by rw [z]; exact List.mem_of_getElem? (show a.L[4]? = some a.own from rfl))) e⟩, oakat := k _ _ (ne_ix h.nd (i := 5) (j := 4) rfl rfl (by decide)) h.oakat, ohiat := let ⟨hs, e1, f1⟩ := h.ohiat; ⟨hs, k _ _ (ne_ix h.nd (i := 6) (j := 4) rfl rfl (by decide)) e1, f1.tk tk⟩, wat := k _ _ (ne_ix h.nd (i := 7) (j := 4) rfl rfl (by decide)) h.wat, plat := k _ _ (ne_ix h.nd (i := 8) (j := 4) rfl rfl (by decide)) h.plat, pnat := k _ _ (ne_ix h.nd (i := 9) (j := 4) rfl rfl (by decide)) h.pnat, orlat := k _ _ (ne_ix h.nd (i := 10) (j := 4) rfl rfl (by decide)) h.orlat, opnat := k _ _ (ne_ix h.nd (i := 11) (j := 4) rfl rfl (by decide)) h.opnat, eDat := k _ _ (ne_ix h.nd (i := 12) (j := 4) rfl rfl (by decide)) h.eDat, kdat := k _ _ (ne_ix h.nd (i := 13) (j := 4) rfl rfl (by decide)) h.kdat, mxat := let ⟨dx, fs, e1, f1⟩ := h.mxat.ex; ⟨⟨dx, fs, k _ _ (ne_ix h.nd (i := 14) (j := 4) rfl rfl (by decide)) e1, f1⟩⟩, hpat := tk _ _ h.hpat, ol := ok }
/-! the word for a start and a log -/
def backB : Option (Int × List Rw) → Int → Bool
  | none, _ => false
  | some (s0, _), st => decide (st < s0)
def cutB : Option (Int × List Rw) → Int → List Rw → Bool
  | none, _, _ => false
  | some (s0, rs), st, rows => decide (st = s0) && !decide (rows.take rs.length = rs)
def wordB (last : Option (Int × List Rw)) (m fx : Int) (st : Int) (rows : List Rw) : Str :=
  if backB last st = true then "back" else if fault rows m fx ≠ none then "boards" else if cutB last st rows = true then "cut" else "good"
/-- what the boards show: the rows on boards that stand, replayed -/
def shown (hw : How) (rows : List Rw) (m : Int) : List Int := replayB hw (rows.filter fun r => decide (r.b < m)) m.toNat
theorem shown_leads {hw : How} {rows : List Rw} {m fx : Int} : leadsB hw rows (shown hw rows m) m fx = decide (fault rows m fx = none) := by
  unfold leadsB
  cases e : fault rows m fx with
  | some i => simp
  | none =>
    have f : rows.filter (fun r => decide (r.b < m)) = rows := List.filter_eq_self.mpr fun r hr => decide_eq_true (fault_lt e r hr)
    unfold shown
    rw [f]
    simp
theorem shown_length (hw : How) (rows : List Rw) (m : Int) : (shown hw rows m).length = m.toNat := replayB_length _ _ _
end Mr

/-! A1: defs and their promises -/
namespace Fx
open PySem PySem.Spec PyProof.Rows L2 Sv Mr
local macro_rules | `(tactic| walk_at "go") => `(tactic| repeat (first
  | with_reducible refine r_seq ?_ | with_reducible refine r_asg ?_ | with_reducible refine r_gn ?_ | with_reducible refine r_ret ?_ | with_reducible refine r_ifS ?_
  | ((with_reducible refine' r_var ?kv ?_); (case kv => exact rfl)) | with_reducible refine r_c ?_ | with_reducible refine r_op ?_ | with_reducible refine r_I0 ?_ | with_reducible refine r_cons ?_ | with_reducible refine r_nil ?_
  | with_reducible refine r_cb ?_ | with_reducible refine r_call ?_ | with_reducible refine r_test ?_ | with_reducible refine r_tB ?_ | with_reducible refine r_k ?_ | with_reducible refine r_or ?_ | with_reducible refine r_and ?_ | with_reducible refine r_not ?_
  | with_reducible refine r_andV ?_ | with_reducible refine r_orV ?_ | with_reducible refine r_notV ?_ | with_reducible refine r_if ?_ | with_reducible refine r_T ?_ | with_reducible refine r_F ?_ | with_reducible refine r_Tn ?_ | with_reducible refine r_Fn ?_
  | with_reducible refine r_isiS ?_ | with_reducible refine r_isiI ?_ | with_reducible refine r_isiIB ?_ | with_reducible refine r_chain ?_ | with_reducible refine r_un ?_ | with_reducible refine r_drop ?_ | with_reducible refine r_tup ?_ | with_reducible refine r_lst ?_
  | ((with_reducible refine' r_eq ?kv ?_); (case kv => exact rfl)) | ((with_reducible refine' r_ne ?kv ?_); (case kv => exact rfl)) | with_reducible refine r_nx ?_ | with_reducible refine r_retN ?_ | with_reducible refine r_yes ?_ | ((with_reducible refine' r_I ?kd ?_); (case kd => first | exact Or.inr ⟨by decide, by decide⟩ | exact ⟨by decide, by decide⟩ | exact ⟨by decide, by decide, by decide⟩ | (show (0 : Int) < _; first | decide | omega)))
  | with_reducible refine r_gCons ?_ | with_reducible refine r_gNil ?_ | with_reducible refine r_tPar ?_ | with_reducible refine r_par ?_ | with_reducible refine r_tPar3 ?_ | with_reducible refine r_par3 ?_ | with_reducible refine r_sl ?_ | with_reducible refine r_part ?_ | with_reducible refine r_parti ?_ | with_reducible refine r_nopart ?_ | with_reducible refine r_gSub ?_ | with_reducible refine r_rU ?_ | with_reducible refine r_bm ?_ | ((with_reducible refine' r_tyL ?kd ?_); (case kd => assumption)) | with_reducible refine r_nn ?_ | with_reducible refine r_meth ?_ | with_reducible refine r_methN ?_ | with_reducible refine r_callN ?_ | with_reducible refine r_fld ?_ | with_reducible refine r_lc ?_ | with_reducible refine r_for ?_ | with_reducible refine r_iList ?_ | with_reducible refine r_iTup ?_ | with_reducible refine r_iStr ?_ | with_reducible refine r_iRng1 ?_ | with_reducible refine r_iEnum ?_ | with_reducible refine r_iZip ?_ | with_reducible refine r_iZipA ?_
  | ((with_reducible refine' r_sz ?kz ?_); (case kz => first | decide | (simp only [List.length_cons, List.length_nil]; omega)))
  | ((with_reducible refine' r_isiT ?kd ?_); (case kd => assumption)) | ((with_reducible refine' r_isiL ?kd ?_); (case kd => assumption)) | ((with_reducible refine' r_isiTL ?kd ?_); (case kd => assumption)) | ((with_reducible refine' r_isiLT ?kd ?_); (case kd => assumption))
  | ((with_reducible refine' r_lenT ?kd ?_); (case kd => exact SqT.of (by assumption))) | ((with_reducible refine' r_lenL ?kd ?_); (case kd => exact SqL.of (by assumption)))
  | ((with_reducible refine' r_ixT ?ka ?kb ?_); (case ka => exact SqT.of (by assumption)); (case kb => exact rfl)) | ((with_reducible refine' r_gTup ?ka ?kb ?_); (case ka => exact SqT.of (by assumption)); (case kb => exact rfl))
  | ((with_reducible refine' r_dT ?kd ?_); (case kd => walk_at "pos")) | ((with_reducible refine' r_dF ?kd ?_); (case kd => walk_at "neg")) | ((with_reducible refine' r_ndT ?kd ?_); (case kd => walk_at "neg")) | ((with_reducible refine' r_ndF ?kd ?_); (case kd => walk_at "pos"))
  | ((with_reducible refine' r_pos ?kd ?_); (case kd => with_reducible exact rfl)) | ((with_reducible refine' r_neg ?kd ?_); (case kd => with_reducible exact rfl)) | ((with_reducible refine' r_pos ?kd ?_); (case kd => (with_reducible show _ = true); decide)) | ((with_reducible refine' r_neg ?kd ?_); (case kd => (with_reducible show _ = false); decide))))
local macro_rules | `(tactic| walk_at "pos") => `(tactic| first | assumption | omega | rfl | exact congrArg V.int (by omega) | exact congrArg V.str (by assumption))
local macro_rules | `(tactic| walk_at "neg") => `(tactic| first | assumption | omega | (intro hne; injection hne with hne; first | omega | contradiction | exact absurd hne (by decide +kernel)) | (intro hne; cases hne))

section
variable {P : Program} {w : World} {K : PySem.W.Frag} {mg : Str → Option Value} {base : Heap}
theorem abc_mem {c : Nat} (h : 97 ≤ c ∧ c ≤ 122) : c ∈ (Str.ofString "abcdefghijklmnopqrstuvwxyz").cps.toList := by
  have key : ∀ d : Nat, d < 26 → d + 97 ∈ (Str.ofString "abcdefghijklmnopqrstuvwxyz").cps.toList := by decide +kernel
  have := key (c - 97) (by omega)
  rwa [Nat.sub_add_cancel h.1] at this
theorem abc_ix {c : Nat} (h : 97 ≤ c ∧ c ≤ 122) : Builtin.Str.occurrences (Str.ofString "abcdefghijklmnopqrstuvwxyz") ⟨#[c]⟩ 0 (Str.ofString "abcdefghijklmnopqrstuvwxyz").length 1 = [c - 97] := by
  have key : ∀ d : Nat, d < 26 → Builtin.Str.occurrences (Str.ofString "abcdefghijklmnopqrstuvwxyz") ⟨#[d + 97]⟩ 0 (Str.ofString "abcdefghijklmnopqrstuvwxyz").length 1 = [d] := by decide +kernel
  have := key (c - 97) (by omega)
  rwa [Nat.sub_add_cancel h.1] at this
def spIsName : Sp := fun vs H Q _ => ∃ z : Str, vs = [.str z] ∧ NameOk z ∧ ∀ H', Same H H' → Q (.bl true) H'
abbrev N_is_name : List Str := ["thing", "letter"]
theorem sc_is_name : FnScope N_is_name ["thing"] (defScope Hd.sis_name) := ⟨rfl, rfl, rfl, by decide +kernel, rfl, by decide +kernel, by decide +kernel⟩
theorem ok_is_name (T : Hd.Tx K mg) : Cal P w K mg base 1 "is_name" spIsName := by
  obtain ⟨fd, F⟩ := T.d_is_name
  have sc := sc_is_name
  refine calD F T.g_is_name sc (fun vs H Q E h => ?_) (fun _ _ _ _ _ _ us hl => match us, hl with | [_], _ => rfl) (fun cdv A outer s H vs Q E hr h => ?_)
  · obtain ⟨z, rfl, _⟩ := h; rfl
  · obtain ⟨z, rfl, hz, k⟩ := h
    refine ⟨_, (pss_cons (ps_if (PW.pt (pw_or (pt_not (pt_val (pe_callB call_isi (by rfl) T.f_isinstance (by decide +kernel) (pa_cons (pv 0) (pa_cons (pe_gTy (n := "str") T.f_str (by decide +kernel)) pa_nil))))) (pw_or1 (pt_not (pt_chain op_le op_le pe_int (pe_callB call_len (by rfl) T.f_len (by decide +kernel) (pa_cons (pv 0) pa_nil)) (pe_gI T.i_LONGEST)))))) (pss_one (ps_ret pe_bl)) pss_nil)
      (pss_one (ps_ret (pe_callB (cr_all rfl) (by rfl) T.f_all (by decide +kernel) (pa_cons (pe_lc (own := [("letter", 1)]) (g := (gName 1)) (tt := tYes) rfl sc.nd (pi_str (pv 0)) (blkOk_by (own := [("letter", 1)]) (N := N_is_name) (sc := defScope Hd.sis_name) (by decide +kernel)) (fun _ _ _ _ _ => (gn 1 sc.nd)) (fun _ _ _ _ _ => pts_nil) (fun _ _ _ _ _ => (pe_cmpR op_in_sign (pv 1) (pe_gS T.s_LETTERS) (by rfl)))) pa_nil))))), ?_⟩
    obtain ⟨h1, h4, hc⟩ := id hz
    try dsimp only [cxOf]
    walk_at "go"
    refine r_lenS (by omega) ?_
    walk_at "go"
    refine ⟨z, rfl, fun D hD => ?_⟩
    refine lc_pure walk_str (List.replicate z.cps.size (.bl true)) (by simp) hD (fun _ _ => trivial) (fun i x H1 H2 hi s e y => ?_) (fun H1 s e => ?_)
    · obtain ⟨rfl, c, hc', rfl⟩ := y
      refine ⟨rfl, ?_⟩
      walk_at "go"
      refine ⟨c, _, rfl, rfl, ?_⟩
      rw [decide_eq_true (abc_mem (hc c (mem_code hc')))]
      refine lc_pend hD (by rw [List.length_replicate]; exact Nat.le_trans h4 (by decide)) (by rw [List.getElem?_replicate, if_pos hi]) e s
    · walk_at "go"
      exact r_all (.of e) (k _ s)
def spNameNum : Sp := fun vs H Q _ => ∃ z : Str, vs = [.str z] ∧ NameOk z ∧ Q (.int (nameNum z)) H
abbrev N_name_number : List Str := ["name", "found", "letter"]
theorem sc_name_number : FnScope N_name_number ["name"] (defScope Hd.sname_number) := ⟨rfl, rfl, rfl, by decide +kernel, rfl, by decide +kernel, by decide +kernel⟩
theorem ok_name_number (T : Hd.Tx K mg) : Cal P w K mg base 1 "name_number" spNameNum := by
  obtain ⟨fd, F⟩ := T.d_name_number
  have sc := sc_name_number
  refine calD F T.g_name_number sc (fun vs H Q E h => ?_) (fun _ _ _ _ _ _ us hl => match us, hl with | [_], _ => rfl) (fun cdv A outer s H vs Q E hr h => ?_)
  · obtain ⟨z, rfl, _⟩ := h; rfl
  · obtain ⟨z, rfl, hz, k⟩ := h
    refine ⟨_, (pss_cons (sn 1 sc.nd pe_int)
      (pss_cons (ps_for PassesOwn.never rfl (pi_str (pv 0)) (gn 2 sc.nd) (pss_one (sn 1 sc.nd (pe_op op_add (pe_op op_add (pe_op op_mul (pv 1) (pe_gI T.i_BASE)) (pe_bm PySem.F.plainAttrs_str PySem.F.slot_str_index PySem.F.type_str_index mt_sindex (pe_gS T.s_LETTERS) (pa_cons (pv 2) pa_nil))) pe_int))))
      (pss_one (ps_ret (pv 1))))), ?_⟩
    obtain ⟨h1, h4, hc⟩ := id hz
    
    
    try dsimp only [cxOf]
    walk_at "go"
    refine ⟨z, rfl, for_it walk_str (fun i σ H1 => H1 = H ∧ ∃ u, σ = [some (.str z), some (.int ((z.cps.toList.take i).foldl (fun a c => a * 27 + ((c - 97 : Nat) : Int) + 1) 0)), u]) ⟨rfl, _, rfl⟩ (fun _ _ _ _ _ => trivial) (fun i x σ H1 H2 hi p y => ?_) (fun σ H1 p => ?_)⟩
    · obtain ⟨rfl, u, rfl⟩ := p
      obtain ⟨rfl, c, hc', rfl⟩ := y
      have hc2 := hc c (mem_code hc')
      walk_at "go"
      refine ⟨rfl, ?_⟩
      walk_at "go"
      refine ⟨_, _, _, _, rfl, rfl, abc_ix hc2, ?_⟩
      walk_at "go"
      refine ⟨rfl, some (.str ⟨#[c]⟩), ?_⟩
      rw [foldl_next (toList_code hc')]
      rfl
    · obtain ⟨rfl, u, rfl⟩ := p
      walk_at "go"
      have e : z.cps.toList.take z.cps.size = z.cps.toList := by rw [← Array.length_toList, List.take_length]
      rw [e]
      exact k
def spIsFrom : Sp := fun vs H Q _ => ∃ (i a b : Int), vs = [.int i, .int a, .int b] ∧ Q (.bl (decide (a ≤ i) && decide (i < b))) H
abbrev N_is_from : List Str := ["thing", "least", "top"]
theorem sc_is_from : FnScope N_is_from ["thing", "least", "top"] (defScope Hd.sis_from) := ⟨rfl, rfl, rfl, by decide +kernel, rfl, by decide +kernel, by decide +kernel⟩
theorem ok_is_from (T : Hd.Tx K mg) : Cal P w K mg base 1 "is_from" spIsFrom := by
  obtain ⟨fd, F⟩ := T.d_is_from
  have sc := sc_is_from
  refine calD F T.g_is_from sc (fun vs H Q E h => ?_) (fun _ _ _ _ _ _ us hl => match us, hl with | [_, _, _], _ => rfl) (fun cdv A outer s H vs Q E hr h => ?_)
  · obtain ⟨i, a, b, rfl, _⟩ := h; rfl
  · obtain ⟨i, a, b, rfl, k⟩ := h
    refine ⟨_, (pss_one (ps_ret (pe_and (pe_callB call_isi (by rfl) T.f_isinstance (by decide +kernel) (pa_cons (pv 0) (pa_cons (pe_gTy (n := "int") T.f_int (by decide +kernel)) pa_nil))) (pe_and (pe_not (pe_callB call_isi (by rfl) T.f_isinstance (by decide +kernel) (pa_cons (pv 0) (pa_cons (pe_gTy (n := "bool") T.f_bool (by decide +kernel)) pa_nil)))) (pe_one (pe_chain op_le op_lt (pv 1) (pv 0) (pv 2))))))), ?_⟩
    try dsimp only [cxOf]
    walk_at "go"
    
    by_cases h1 : a ≤ i
    · rw [decide_eq_true h1] at k
      walk_at "go"
      exact k
    · rw [decide_eq_false h1] at k
      walk_at "go"
      exact k
def spIsBetween : Sp := fun vs H Q _ => ∃ (i a b : Int), vs = [.int i, .int a, .int b] ∧ Q (.bl (decide (a ≤ i) && decide (i ≤ b))) H
abbrev N_is_between : List Str := ["thing", "least", "most"]
theorem sc_is_between : FnScope N_is_between ["thing", "least", "most"] (defScope Hd.sis_between) := ⟨rfl, rfl, rfl, by decide +kernel, rfl, by decide +kernel, by decide +kernel⟩
theorem ok_is_between (T : Hd.Tx K mg) : Cal P w K mg base 1 "is_between" spIsBetween := by
  obtain ⟨fd, F⟩ := T.d_is_between
  have sc := sc_is_between
  refine calD F T.g_is_between sc (fun vs H Q E h => ?_) (fun _ _ _ _ _ _ us hl => match us, hl with | [_, _, _], _ => rfl) (fun cdv A outer s H vs Q E hr h => ?_)
  · obtain ⟨i, a, b, rfl, _⟩ := h; rfl
  · obtain ⟨i, a, b, rfl, k⟩ := h
    refine ⟨_, (pss_one (ps_ret (pe_and (pe_callB call_isi (by rfl) T.f_isinstance (by decide +kernel) (pa_cons (pv 0) (pa_cons (pe_gTy (n := "int") T.f_int (by decide +kernel)) pa_nil))) (pe_and (pe_not (pe_callB call_isi (by rfl) T.f_isinstance (by decide +kernel) (pa_cons (pv 0) (pa_cons (pe_gTy (n := "bool") T.f_bool (by decide +kernel)) pa_nil)))) (pe_one (pe_chain op_le op_le (pv 1) (pv 0) (pv 2))))))), ?_⟩
    try dsimp only [cxOf]
    walk_at "go"
    
    by_cases h1 : a ≤ i
    · rw [decide_eq_true h1] at k
      walk_at "go"
      exact k
    · rw [decide_eq_false h1] at k
      walk_at "go"
      exact k
def spIsNoted : Sp := fun vs H Q _ => ∃ (w : Str) (n : Int), vs = [.str w, .int n] ∧ 0 ≤ n ∧ n < 9973 ∧ (w = "end" ∨ w = "reset" → n = 0) ∧ Q (.bl true) H
abbrev N_is_noted : List Str := ["word", "note"]
theorem sc_is_noted : FnScope N_is_noted ["word", "note"] (defScope Hd.sis_noted) := ⟨rfl, rfl, rfl, by decide +kernel, rfl, by decide +kernel, by decide +kernel⟩
theorem ok_is_noted (T : Hd.Tx K mg) : Cal P w K mg base 2 "is_noted" spIsNoted := by
  obtain ⟨fd, F⟩ := T.d_is_noted
  have sc := sc_is_noted
  have C_is_from := ok_is_from (P := P) (w := w) (base := base) T
  refine calD F T.g_is_noted sc (fun vs H Q E h => ?_) (fun _ _ _ _ _ _ us hl => match us, hl with | [_, _], _ => rfl) (fun cdv A outer s H vs Q E hr h => ?_)
  · obtain ⟨i, a, rfl, _⟩ := h; rfl
  · obtain ⟨w, n, rfl, h0, h1, h2, k⟩ := h
    refine ⟨_, (pss_one (ps_ret (pc C_is_from hr (by decide) (pa_cons (pv 1) (pa_cons pe_int (pa_cons (pe_ifExp (pt_cmpR op_in_seq (pv 0) (pe_gR T.g_BARE_WORDS) (by rfl)) pe_int (pe_gI T.i_NOTES)) pa_nil)))))), ?_⟩
    try dsimp only [cxOf]
    walk_at "go"
    
    refine r_inT (T.t_BARE_WORDS _) (by rfl) (by rfl) ?_
    rw [show ([V.str "end", V.str "reset"] : List V) = (["end", "reset"] : List Str).map V.str from rfl, inV_str]
    walk_at "go"
    by_cases hw : w ∈ (["end", "reset"] : List Str)
    · walk_at "go"
      have e : n = 0 := h2 (by simpa using hw)
      refine ⟨_, _, _, rfl, ?_⟩
      subst e
      exact k
    · walk_at "go"
      refine ⟨_, _, _, rfl, ?_⟩
      rw [decide_eq_true h0, decide_eq_true h1]
      exact k
def spIsRow : Sp := fun vs H Q _ => ∃ (p : Addr) (r : Rw), vs = [.ref p] ∧ H p = some (.tup (Rw.vs r)) ∧ RowOk r ∧ ∀ H', Same H H' → Q (.bl true) H'
abbrev N_is_row : List Str := ["thing", "board", "word", "rest"]
theorem sc_is_row : FnScope N_is_row ["thing"] (defScope Hd.sis_row) := ⟨rfl, rfl, rfl, by decide +kernel, rfl, by decide +kernel, by decide +kernel⟩
theorem ok_is_row (T : Hd.Tx K mg) : Cal P w K mg base 3 "is_row" spIsRow := by
  obtain ⟨fd, F⟩ := T.d_is_row
  have sc := sc_is_row
  have C_is_noted := ok_is_noted (P := P) (w := w) (base := base) T
  have C_is_name := ok_is_name (P := P) (w := w) (base := base) T
  have C_is_from := ok_is_from (P := P) (w := w) (base := base) T
  refine calD F T.g_is_row sc (fun vs H Q E h => ?_) (fun _ _ _ _ _ _ us hl => match us, hl with | [_], _ => rfl) (fun cdv A outer s H vs Q E hr h => ?_)
  · obtain ⟨p, r, rfl, _⟩ := h; rfl
  · obtain ⟨p, r, rfl, hp, ok, k⟩ := h
    refine ⟨_, (pss_cons (ps_if (PW.pt (pw_or (pt_not (pt_val (pe_callB call_isi (by rfl) T.f_isinstance (by decide +kernel) (pa_cons (pv 0) (pa_cons (pe_gTy (n := "tuple") T.f_tuple (by decide +kernel)) pa_nil))))) (pw_or (pt_cmpR op_ne (pe_callB call_len (by rfl) T.f_len (by decide +kernel) (pa_cons (pv 0) pa_nil)) pe_int (nomark _)) (pw_or1 (pt_not (pt_val (pc C_is_from hr (by decide) (pa_cons (pe_ix (ixT K) (pv 0) pe_int (fun _ _ => rfl)) (pa_cons pe_int (pa_cons (pe_gI T.i_MOST_BOARDS_rows) pa_nil)))))))))) (pss_one (ps_ret pe_bl)) pss_nil)
      (pss_cons (ps_asg (pv 0) (pg_star (n := 3) (i := 2) (by rfl) (pgs_cons (gn 1 sc.nd) (pgs_cons (gn 2 sc.nd) (pgs_star (gn 3 sc.nd) pgs_nil)))))
      (pss_one (ps_ret (pe_and (pe_callB call_isi (by rfl) T.f_isinstance (by decide +kernel) (pa_cons (pv 2) (pa_cons (pe_gTy (n := "str") T.f_str (by decide +kernel)) pa_nil))) (pe_and (pe_cmpR op_in_seq (pv 2) (pe_gR T.g_WORDS) (by rfl)) (pe_and (pc C_is_name hr (by decide) (pa_cons (pe_ix (ixL K) (pv 3) pe_int (fun _ _ => rfl)) pa_nil)) (pe_one (pc C_is_noted hr (by decide) (pa_cons (pv 2) (pa_cons (pe_ix (ixL K) (pv 3) pe_int (fun _ _ => rfl)) pa_nil))))))))))), ?_⟩
    have hp' : H p = some (.tup [.int r.b, .str r.w, .str r.nm, .int r.nt]) := hp
    try dsimp only [cxOf]
    walk_at "go"
    
    refine ⟨_, _, _, rfl, ?_⟩
    rw [decide_eq_true ok.b0, decide_eq_true ok.b8]
    walk_at "go"
    refine ⟨p, _, rfl, .of hp', (by show 3 ≤ 4 + 1; decide), fun D hD => ?_⟩
    show gCons (gName 1) (gCons (gName 2) (gCons (gName 3) gNil)) [V.int r.b, V.str r.w, V.ref D] _ (upd H D (.lst [V.str r.nm, V.int r.nt])) _
    walk_at "go"
    refine r_inT (T.t_WORDS _) (by rfl) (by rfl) ?_
    rw [show ([V.str "load", V.str "set", V.str "end", V.str "late", V.str "reset"] : List V) = wds.map V.str from rfl, inV_str, decide_eq_true ok.w]
    walk_at "go"
    have hD' : (upd H D (.lst [.str r.nm, .int r.nt])) D = some (.lst [.str r.nm, .int r.nt]) := upd_same
    refine r_ixL (.of hD') rfl ?_
    walk_at "go"
    refine ⟨_, rfl, ok.nm, fun H2 s => ?_⟩
    walk_at "go"
    have hD2 := s _ _ hD'
    refine r_ixL (.of hD2) rfl ?_
    walk_at "go"
    refine ⟨_, _, rfl, ok.n0, ok.n1, ok.nz, k _ ((Same.new hD).trans s)⟩
def spRowNum : Sp := fun vs H Q _ => ∃ (p : Addr) (r : Rw), vs = [.ref p] ∧ H p = some (.tup (Rw.vs r)) ∧ RowOk r ∧ Q (.int (rowNum r)) H
abbrev N_row_number : List Str := ["row", "board", "word", "name", "note"]
theorem sc_row_number : FnScope N_row_number ["row"] (defScope Hd.srow_number) := ⟨rfl, rfl, rfl, by decide +kernel, rfl, by decide +kernel, by decide +kernel⟩
theorem ok_row_number (T : Hd.Tx K mg) : Cal P w K mg base 2 "row_number" spRowNum := by
  obtain ⟨fd, F⟩ := T.d_row_number
  have sc := sc_row_number
  have C_name_number := ok_name_number (P := P) (w := w) (base := base) T
  refine calD F T.g_row_number sc (fun vs H Q E h => ?_) (fun _ _ _ _ _ _ us hl => match us, hl with | [_], _ => rfl) (fun cdv A outer s H vs Q E hr h => ?_)
  · obtain ⟨p, r, rfl, _⟩ := h; rfl
  · obtain ⟨p, r, rfl, hp, ok, k⟩ := h
    refine ⟨_, (pss_cons (ps_asg (pv 0) (pg_tup (by rfl) (pgs_cons (gn 1 sc.nd) (pgs_cons (gn 2 sc.nd) (pgs_cons (gn 3 sc.nd) (pgs_cons (gn 4 sc.nd) pgs_nil))))))
      (pss_one (ps_ret (pe_op op_add (pe_op op_mul (pe_op op_add (pe_op op_mul (pc C_name_number hr (by decide) (pa_cons (pv 3) pa_nil)) (pe_callB call_len (by rfl) T.f_len (by decide +kernel) (pa_cons (pe_gR T.g_WORDS) pa_nil))) (pe_bm PySem.F.plainAttrs_tuple PySem.F.slot_tuple_index PySem.F.type_tuple_index mt_tup_index (pe_gR T.g_WORDS) (pa_cons (pv 2) pa_nil))) (pe_gI T.i_NOTES)) (pv 4))))), ?_⟩
    have hp' : H p = some (.tup [.int r.b, .str r.w, .str r.nm, .int r.nt]) := hp
    try dsimp only [cxOf]
    walk_at "go"
    
    refine ⟨_, rfl, ok.nm, ?_⟩
    walk_at "go"
    refine r_lenT (T.t_WORDS _) ?_
    walk_at "go"
    refine ⟨Or.inr (Or.inl ⟨rfl, T.o_WORDS⟩), ?_⟩
    walk_at "go"
    refine ⟨_, wds, r.w, wIx r.w, rfl, rfl, T.t_WORDS _, wds_ix ok.w, fun m hm => wds_first hm, ?_⟩
    walk_at "go"
    exact k
def spDivisor : Sp := fun vs H Q _ => ∃ (a b : Nat), vs = [.int a, .int b] ∧ Q (.int (Nat.gcd a b)) H
abbrev N_divisor_of : List Str := ["one", "other"]
theorem sc_divisor_of : FnScope N_divisor_of ["one", "other"] (defScope Hd.sdivisor_of) := ⟨rfl, rfl, rfl, by decide +kernel, rfl, by decide +kernel, by decide +kernel⟩
theorem ok_divisor_of (T : Hd.Tx K mg) : Cal P w K mg base 1 "divisor_of" spDivisor := by
  obtain ⟨fd, F⟩ := T.d_divisor_of
  have sc := sc_divisor_of
  refine calD F T.g_divisor_of sc (fun vs H Q E h => ?_) (fun _ _ _ _ _ _ us hl => match us, hl with | [_, _], _ => rfl) (fun cdv A outer s H vs Q E hr h => ?_)
  · obtain ⟨a, b, rfl, _⟩ := h; rfl
  · obtain ⟨a, b, rfl, k⟩ := h
    refine ⟨_, (pss_cons (ps_while PassesOwn.never (pt_cmpR op_gt (pv 1) pe_int (nomark _)) (pss_one (ps_par (i := 0) (j := 1) rfl sc.nd rfl rfl (by decide) rfl rfl (pa_cons (pv 1) (pa_cons (pe_op op_mod (pv 0) (pv 1)) pa_nil)) (by rfl))))
      (pss_one (ps_ret (pv 0)))), ?_⟩
    try dsimp only [cxOf]
    walk_at "go"
    refine ⟨fun m σ H1 => H1 = H ∧ ∃ c : Nat, σ = [some (.int c), some (.int m)] ∧ Nat.gcd c m = Nat.gcd a b, ⟨b, rfl, a, rfl, rfl⟩, fun m σ H1 p => ?_⟩
    obtain ⟨rfl, c, rfl, hg⟩ := p
    by_cases hm : 0 < m
    · walk_at "go"
      refine ⟨_, fun _ _ n => n, ?_⟩
      walk_at "go"
      refine ⟨c % m, Nat.mod_lt _ hm, rfl, m, rfl, ?_⟩
      rw [← hg, Nat.gcd_comm c m, Nat.gcd_rec m c, Nat.gcd_comm]
    · have e : m = 0 := by omega
      subst e
      walk_at "go"
      rw [← hg, Nat.gcd_zero_right] at k
      exact k
def spIsCount : Sp := fun vs H Q _ => ∃ (i : Int), vs = [.int i] ∧ 0 ≤ i ∧ Q (.bl true) H
abbrev N_is_count : List Str := ["thing"]
theorem sc_is_count : FnScope N_is_count ["thing"] (defScope Hd.sis_count) := ⟨rfl, rfl, rfl, by decide +kernel, rfl, by decide +kernel, by decide +kernel⟩
theorem ok_is_count (T : Hd.Tx K mg) : Cal P w K mg base 1 "is_count" spIsCount := by
  obtain ⟨fd, F⟩ := T.d_is_count
  have sc := sc_is_count
  refine calD F T.g_is_count sc (fun vs H Q E h => ?_) (fun _ _ _ _ _ _ us hl => match us, hl with | [_], _ => rfl) (fun cdv A outer s H vs Q E hr h => ?_)
  · obtain ⟨i, rfl, _⟩ := h; rfl
  · obtain ⟨i, rfl, h0, k⟩ := h
    refine ⟨_, (pss_one (ps_ret (pe_and (pe_callB call_isi (by rfl) T.f_isinstance (by decide +kernel) (pa_cons (pv 0) (pa_cons (pe_gTy (n := "int") T.f_int (by decide +kernel)) pa_nil))) (pe_and (pe_not (pe_callB call_isi (by rfl) T.f_isinstance (by decide +kernel) (pa_cons (pv 0) (pa_cons (pe_gTy (n := "bool") T.f_bool (by decide +kernel)) pa_nil)))) (pe_one (pe_cmpR op_ge (pv 0) pe_int (nomark _))))))), ?_⟩
    try dsimp only [cxOf]
    walk_at "go"
    
    rw [decide_eq_true h0]
    exact k
def spIsValue : Sp := fun vs H Q _ => ∃ (p : Addr) (b v : Int), vs = [.ref p] ∧ H p = some (.tup [.int b, .int v]) ∧ 0 ≤ b ∧ b < 8 ∧ 0 ≤ v ∧ ∀ H', Same H H' → Q (.bl true) H'
abbrev N_is_value : List Str := ["thing", "one"]
theorem sc_is_value : FnScope N_is_value ["thing"] (defScope Hd.sis_value) := ⟨rfl, rfl, rfl, by decide +kernel, rfl, by decide +kernel, by decide +kernel⟩
theorem ok_is_value (T : Hd.Tx K mg) : Cal P w K mg base 2 "is_value" spIsValue := by
  obtain ⟨fd, F⟩ := T.d_is_value
  have sc := sc_is_value
  have C_is_count := ok_is_count (P := P) (w := w) (base := base) T
  refine calD F T.g_is_value sc (fun vs H Q E h => ?_) (fun _ _ _ _ _ _ us hl => match us, hl with | [_], _ => rfl) (fun cdv A outer s H vs Q E hr h => ?_)
  · obtain ⟨p, b, v, rfl, _⟩ := h; rfl
  · obtain ⟨p, b, v, rfl, hp, hb0, hb8, hv, k⟩ := h
    refine ⟨_, (pss_cons (ps_if (PW.pt (pw_or (pt_not (pt_val (pe_callB call_isi (by rfl) T.f_isinstance (by decide +kernel) (pa_cons (pv 0) (pa_cons (pe_gTy (n := "tuple") T.f_tuple (by decide +kernel)) pa_nil))))) (pw_or (pt_cmpR op_ne (pe_callB call_len (by rfl) T.f_len (by decide +kernel) (pa_cons (pv 0) pa_nil)) pe_int (nomark _)) (pw_or1 (pt_not (pt_val (pe_callB (cr_all rfl) (by rfl) T.f_all (by decide +kernel) (pa_cons (pe_lc (own := [("one", 1)]) (g := (gName 1)) (tt := tYes) rfl sc.nd (pi_tup (pv 0)) (blkOk_by (own := [("one", 1)]) (N := N_is_value) (sc := defScope Hd.sis_value) (by decide +kernel)) (fun _ _ _ _ _ => (gn 1 sc.nd)) (fun _ _ _ _ _ => pts_nil) (fun _ _ _ _ _ => (pc C_is_count hr (by decide) (pa_cons (pv 1) pa_nil)))) pa_nil)))))))) (pss_one (ps_ret pe_bl)) pss_nil)
      (pss_one (ps_ret (pe_cmpR op_lt (pe_ix (ixT K) (pv 0) pe_int (fun _ _ => rfl)) (pe_gI T.i_MOST_BOARDS_quotes) (nomark _))))), ?_⟩
    try dsimp only [cxOf]
    walk_at "go"
    
    refine ⟨p, rfl, ⟨_, .of hp⟩, fun D hD => ?_⟩
    refine lc_pure (walk_tup (xs := [.int b, .int v])) (List.replicate 2 (.bl true)) (by rfl) hD (fun H1 s => Same.tup s (.of hp)) (fun i x H1 H2 hi s e y => ?_) (fun H1 s e => ?_)
    · obtain ⟨rfl, hx⟩ := y
      have hx' : ∃ n : Int, 0 ≤ n ∧ x = .int n := by
        match i, hi, hx with
        | 0, _, hx => exact ⟨b, hb0, (Option.some.inj hx).symm⟩
        | 1, _, hx => exact ⟨v, hv, (Option.some.inj hx).symm⟩
      obtain ⟨n, hn, rfl⟩ := hx'
      refine ⟨rfl, ?_⟩
      walk_at "go"
      refine ⟨n, rfl, hn, ?_⟩
      exact lc_pend hD (by decide) (by rw [List.getElem?_replicate, if_pos (by exact hi)]) e s
    · walk_at "go"
      refine r_all (.of e) ?_
      have hp1 := s _ _ hp
      walk_at "go"
      rw [decide_eq_true hb8]
      exact k _ s
def spSign (K : PySem.W.Frag) : Sp := fun vs H Q _ => ∃ (key : Int) (a : Addr) (ns : List Int), vs = [.int key, .ref a] ∧ SqL K H a (ns.map V.int) ∧ Q (.int (foldSign key ns)) H
abbrev N_sign_of : List Str := ["key", "numbers", "sign", "number"]
theorem sc_sign_of : FnScope N_sign_of ["key", "numbers"] (defScope Hd.ssign_of) := ⟨rfl, rfl, rfl, by decide +kernel, rfl, by decide +kernel, by decide +kernel⟩
theorem ok_sign_of (T : Hd.Tx K mg) : Cal P w K mg base 1 "sign_of" ((spSign K)) := by
  obtain ⟨fd, F⟩ := T.d_sign_of
  have sc := sc_sign_of
  refine calD F T.g_sign_of sc (fun vs H Q E h => ?_) (fun _ _ _ _ _ _ us hl => match us, hl with | [_, _], _ => rfl) (fun cdv A outer s H vs Q E hr h => ?_)
  · obtain ⟨k, a, ns, rfl, _⟩ := h; rfl
  · obtain ⟨key, a, ns, rfl, hS, k⟩ := h
    refine ⟨_, (pss_cons (sn 2 sc.nd (pv 0))
      (pss_cons (ps_for PassesOwn.never rfl (pi_list (pv 1)) (gn 3 sc.nd) (pss_one (sn 2 sc.nd (pe_op op_mod (pe_op op_add (pe_op op_add (pe_op op_mul (pv 2) (pe_gI T.i_FOLD)) (pv 3)) pe_int) (pe_gI T.i_SIGNS)))))
      (pss_one (ps_ret (pv 2))))), ?_⟩
    try dsimp only [cxOf]
    walk_at "go"
    refine ⟨a, rfl, ⟨_, hS⟩, for_it walk_list (fun i σ H1 => H1 = H ∧ ∃ u, σ = [some (.int key), some (.ref a), some (.int (foldSign key (ns.take i))), u]) ⟨rfl, _, rfl⟩ (fun _ _ _ _ p => p.1 ▸ hS) (fun i x σ H1 H2 hi p y => ?_) (fun σ H1 p => ?_)⟩
    · obtain ⟨rfl, u, rfl⟩ := p
      obtain ⟨rfl, hx⟩ := y
      obtain ⟨n, hn, rfl⟩ := map_int hx
      walk_at "go"
      refine ⟨rfl, some (.int n), ?_⟩
      unfold foldSign
      rw [foldl_next hn]
      rfl
    · obtain ⟨rfl, u, rfl⟩ := p
      walk_at "go"
      rw [List.length_map, List.take_length]
      exact k
end
end Fx

/-! A2: defs and their promises -/
namespace Fx
open PySem PySem.Spec PyProof.Rows L2 Sv Mr
local macro_rules | `(tactic| walk_at "go") => `(tactic| repeat (first
  | with_reducible refine r_seq ?_ | with_reducible refine r_asg ?_ | with_reducible refine r_gn ?_ | with_reducible refine r_ret ?_ | with_reducible refine r_ifS ?_
  | ((with_reducible refine' r_var ?kv ?_); (case kv => exact rfl)) | with_reducible refine r_c ?_ | with_reducible refine r_op ?_ | with_reducible refine r_I0 ?_ | with_reducible refine r_cons ?_ | with_reducible refine r_nil ?_
  | with_reducible refine r_cb ?_ | with_reducible refine r_call ?_ | with_reducible refine r_test ?_ | with_reducible refine r_tB ?_ | with_reducible refine r_k ?_ | with_reducible refine r_or ?_ | with_reducible refine r_and ?_ | with_reducible refine r_not ?_
  | with_reducible refine r_andV ?_ | with_reducible refine r_orV ?_ | with_reducible refine r_notV ?_ | with_reducible refine r_if ?_ | with_reducible refine r_T ?_ | with_reducible refine r_F ?_ | with_reducible refine r_Tn ?_ | with_reducible refine r_Fn ?_
  | with_reducible refine r_isiS ?_ | with_reducible refine r_isiI ?_ | with_reducible refine r_isiIB ?_ | with_reducible refine r_chain ?_ | with_reducible refine r_un ?_ | with_reducible refine r_drop ?_ | with_reducible refine r_tup ?_ | with_reducible refine r_lst ?_
  | ((with_reducible refine' r_eq ?kv ?_); (case kv => exact rfl)) | ((with_reducible refine' r_ne ?kv ?_); (case kv => exact rfl)) | with_reducible refine r_nx ?_ | with_reducible refine r_retN ?_ | with_reducible refine r_yes ?_ | ((with_reducible refine' r_I ?kd ?_); (case kd => first | exact Or.inr ⟨by decide, by decide⟩ | exact ⟨by decide, by decide⟩ | exact ⟨by decide, by decide, by decide⟩ | (show (0 : Int) < _; first | decide | omega)))
  | with_reducible refine r_gCons ?_ | with_reducible refine r_gNil ?_ | with_reducible refine r_tPar ?_ | with_reducible refine r_par ?_ | with_reducible refine r_tPar3 ?_ | with_reducible refine r_par3 ?_ | with_reducible refine r_sl ?_ | with_reducible refine r_part ?_ | with_reducible refine r_parti ?_ | with_reducible refine r_nopart ?_ | with_reducible refine r_gSub ?_ | with_reducible refine r_rU ?_ | with_reducible refine r_bm ?_ | ((with_reducible refine' r_tyL ?kd ?_); (case kd => assumption)) | with_reducible refine r_nn ?_ | with_reducible refine r_meth ?_ | with_reducible refine r_methN ?_ | with_reducible refine r_callN ?_ | with_reducible refine r_fld ?_ | with_reducible refine r_lc ?_ | with_reducible refine r_for ?_ | with_reducible refine r_iList ?_ | with_reducible refine r_iTup ?_ | with_reducible refine r_iStr ?_ | with_reducible refine r_iRng1 ?_ | with_reducible refine r_iEnum ?_ | with_reducible refine r_iZip ?_ | with_reducible refine r_iZipA ?_
  | ((with_reducible refine' r_sz ?kz ?_); (case kz => first | decide | (simp only [List.length_cons, List.length_nil]; omega)))
  | ((with_reducible refine' r_isiT ?kd ?_); (case kd => assumption)) | ((with_reducible refine' r_isiL ?kd ?_); (case kd => assumption)) | ((with_reducible refine' r_isiTL ?kd ?_); (case kd => assumption)) | ((with_reducible refine' r_isiLT ?kd ?_); (case kd => assumption))
  | ((with_reducible refine' r_lenT ?kd ?_); (case kd => exact SqT.of (by assumption))) | ((with_reducible refine' r_lenL ?kd ?_); (case kd => exact SqL.of (by assumption)))
  | ((with_reducible refine' r_ixT ?ka ?kb ?_); (case ka => exact SqT.of (by assumption)); (case kb => exact rfl)) | ((with_reducible refine' r_gTup ?ka ?kb ?_); (case ka => exact SqT.of (by assumption)); (case kb => exact rfl))
  | ((with_reducible refine' r_dT ?kd ?_); (case kd => walk_at "pos")) | ((with_reducible refine' r_dF ?kd ?_); (case kd => walk_at "neg")) | ((with_reducible refine' r_ndT ?kd ?_); (case kd => walk_at "neg")) | ((with_reducible refine' r_ndF ?kd ?_); (case kd => walk_at "pos"))
  | ((with_reducible refine' r_pos ?kd ?_); (case kd => with_reducible exact rfl)) | ((with_reducible refine' r_neg ?kd ?_); (case kd => with_reducible exact rfl)) | ((with_reducible refine' r_pos ?kd ?_); (case kd => (with_reducible show _ = true); decide)) | ((with_reducible refine' r_neg ?kd ?_); (case kd => (with_reducible show _ = false); decide))))
local macro_rules | `(tactic| walk_at "pos") => `(tactic| first | assumption | omega | rfl | exact congrArg V.int (by omega) | exact congrArg V.str (by assumption))
local macro_rules | `(tactic| walk_at "neg") => `(tactic| first | assumption | omega | (intro hne; injection hne with hne; first | omega | contradiction | exact absurd hne (by decide +kernel)) | (intro hne; cases hne))

section
variable {P : Program} {w : World} {K : PySem.W.Frag} {mg : Str → Option Value} {base : Heap}
def spIsValues : Sp := fun vs H Q _ => ∃ (vp : Addr) (ps : List Addr) (vals : List Int), vs = [.ref vp] ∧ H vp = some (.tup (ps.map V.ref)) ∧ PairsAt H ps vals ∧ 1 ≤ vals.length ∧ vals.length ≤ 8 ∧ (∀ v ∈ vals, 0 ≤ v) ∧ ∀ H', Same H H' → Q (.bl true) H'
abbrev N_is_values : List Str := ["thing", "pair", "one", "other"]
theorem sc_is_values : FnScope N_is_values ["thing"] (defScope Hd.sis_values) := ⟨rfl, rfl, rfl, by decide +kernel, rfl, by decide +kernel, by decide +kernel⟩
theorem ok_is_values (T : Hd.Tx K mg) : Cal P w K mg base 3 "is_values" spIsValues := by
  obtain ⟨fd, F⟩ := T.d_is_values
  have sc := sc_is_values
  have C_is_value := ok_is_value (P := P) (w := w) (base := base) T
  refine calD F T.g_is_values sc (fun vs H Q E h => ?_) (fun _ _ _ _ _ _ us hl => match us, hl with | [_], _ => rfl) (fun cdv A outer s H vs Q E hr h => ?_)
  · obtain ⟨vp, ps, vals, rfl, _⟩ := h; rfl
  · obtain ⟨vp, ps, vals, rfl, hv, hp, h1, h8, h0, k⟩ := h
    refine ⟨_, (pss_cons (ps_if (PW.pt (pw_or (pt_not (pt_val (pe_callB call_isi (by rfl) T.f_isinstance (by decide +kernel) (pa_cons (pv 0) (pa_cons (pe_gTy (n := "tuple") T.f_tuple (by decide +kernel)) pa_nil))))) (pw_or1 (pt_not (pt_val (pe_callB (cr_all rfl) (by rfl) T.f_all (by decide +kernel) (pa_cons (pe_lc (own := [("pair", 1)]) (g := (gName 1)) (tt := tYes) rfl sc.nd (pi_tup (pv 0)) (blkOk_by (own := [("pair", 1)]) (N := N_is_values) (sc := defScope Hd.sis_values) (by decide +kernel)) (fun _ _ _ _ _ => (gn 1 sc.nd)) (fun _ _ _ _ _ => pts_nil) (fun _ _ _ _ _ => (pc C_is_value hr (by decide) (pa_cons (pv 1) pa_nil)))) pa_nil))))))) (pss_one (ps_ret pe_bl)) pss_nil)
      (pss_one (ps_ret (pe_callB (cr_all rfl) (by rfl) T.f_all (by decide +kernel) (pa_cons (pe_lc (own := [("one", 2), ("other", 3)]) (g := (gTup K 2 (gCons (gName 2) (gCons (gName 3) gNil)))) (tt := tYes) rfl sc.nd (RZ.pi_zipA (by rfl) T.f_zip (pa_cons (pv 0) (pa_cons (pe_slice sl_tup (pv 0) (po_some pe_int) po_none) pa_nil))) (blkOk_by (own := [("one", 2), ("other", 3)]) (N := N_is_values) (sc := defScope Hd.sis_values) (by decide +kernel)) (fun _ _ _ _ _ => (pg_tup (by rfl) (pgs_cons (gn 2 sc.nd) (pgs_cons (gn 3 sc.nd) pgs_nil)))) (fun _ _ _ _ _ => pts_nil) (fun _ _ _ _ _ => (pe_cmpR op_lt (pe_ix (ixT K) (pv 2) pe_int (fun _ _ => rfl)) (pe_ix (ixT K) (pv 3) pe_int (fun _ _ => rfl)) (nomark _)))) pa_nil))))), ?_⟩
    try dsimp only [cxOf]
    walk_at "go"
    
    refine ⟨vp, rfl, ⟨_, .of hv⟩, fun D hD => ?_⟩
    refine lc_pure (walk_tup (xs := ps.map V.ref)) (List.replicate ps.length (.bl true)) (by simp) hD (fun H1 s => Same.tup s (.of hv)) (fun i x H1 H2 hi s e y => ?_) (fun H1 s e => ?_)
    · obtain ⟨rfl, hx⟩ := y
      obtain ⟨p, hpi, rfl⟩ := map_ref hx
      obtain ⟨v, hvi, hm, hl, hpp⟩ := hp.val hpi
      refine ⟨rfl, ?_⟩
      walk_at "go"
      refine ⟨p, i, v, rfl, s _ _ hpp, by omega, by omega, h0 v hm, fun H3 s3 => ?_⟩
      exact lc_pend hD (by rw [List.length_replicate, hp.1]; omega) (by rw [List.getElem?_replicate, if_pos (by simpa using hi)]) (s3 _ _ e) (Same.trans s s3)
    · walk_at "go"
      refine r_all (.of e) ?_
      walk_at "go"
      have hv1 := s _ _ hv
      have hl : (ps.map V.ref).length = vals.length := by rw [List.length_map, hp.1]
      refine ⟨vp, _, rfl, .of hv1, ?_, ?_⟩
      · rw [hl]
        rw [show (1 : Int) = ((1 : Nat) : Int) from rfl, HT.sIx_nat]
        omega
      rw [show (1 : Int) = ((1 : Nat) : Int) from rfl, cutV_from]
      refine fun p2 n2 => ?_
      generalize hh : upd H1 p2 _ = H2
      have s2 : Same H1 H2 := hh ▸ Same.new n2
      have e2 : H2 p2 = some _ := hh ▸ upd_same
      clear hh
      walk_at "go"
      have hv2 := s2 _ _ hv1
      refine ⟨vp, p2, _, _, rfl, .inr ⟨.of hv2, .of e2, fun D2 hD2 => ?_⟩⟩
      have s02 := Same.trans s s2
      refine lc_pure (walk_zipT rfl) (List.replicate (vals.length - 1) (.bl true)) (by have := hp.1; simp; omega) hD2 (fun H3 s3 => ⟨.of (s3 _ _ hv2), .of (s3 _ _ e2)⟩) (fun i x H3 H4 hi s3 e3 y => ?_) (fun H3 s3 e3 => ?_)
      · obtain ⟨t, x1, x2, rfl, nt, rfl, hx1, hx2⟩ := y
        obtain ⟨p, hpi, rfl⟩ := map_ref hx1
        replace hx2 : (List.drop (min 1 (List.map V.ref ps).length) (List.map V.ref ps))[i]? = some x2 := hx2
        rw [List.getElem?_drop] at hx2
        obtain ⟨q, hqi, rfl⟩ := map_ref hx2
        obtain ⟨v, hvi, hm, hl1, hpp⟩ := hp.val hpi
        obtain ⟨u, hui, hmu, hl2, hqq⟩ := hp.val hqi
        have hmin : min 1 (ps.map V.ref).length = 1 := by rw [hl]; omega
        rw [hmin] at hqq hl2
        have st : Same H3 (upd H3 t (.tup [.ref p, .ref q])) := Same.new nt
        have ht : (upd H3 t (.tup [.ref p, .ref q])) t = some (.tup [.ref p, .ref q]) := upd_same
        have hpp' := st _ _ (s3 _ _ (s02 _ _ hpp))
        have hqq' := st _ _ (s3 _ _ (s02 _ _ hqq))
        refine ⟨t, _, rfl, .of ht, rfl, ?_⟩
        walk_at "go"
        refine ⟨rfl, ?_⟩
        walk_at "go"
        rw [decide_eq_true (show (i : Int) < ((1 + i : Nat) : Int) by omega)]
        exact lc_pend hD2 (by rw [List.length_replicate]; omega) (by rw [List.getElem?_replicate, if_pos (by omega)]) (st _ _ e3) (Same.trans s3 st)
      · walk_at "go"
        refine r_all (.of e3) ?_
        exact k _ (Same.trans s02 s3)
def spIsQuote : Sp := fun vs H Q _ => ∃ (q : Addr) (nm : Str) (st num : Int) (vals : List Int) (sg : Int), vs = [.ref q] ∧ QuoteAt H q nm st num vals sg ∧ QuoteOk nm st num vals sg ∧ ∀ H', Same H H' → Q (.bl true) H'
abbrev N_is_quote : List Str := ["thing", "name", "start", "number", "values", "sign", "one"]
theorem sc_is_quote : FnScope N_is_quote ["thing"] (defScope Hd.sis_quote) := ⟨rfl, rfl, rfl, by decide +kernel, rfl, by decide +kernel, by decide +kernel⟩
theorem ok_is_quote (T : Hd.Tx K mg) : Cal P w K mg base 4 "is_quote" spIsQuote := by
  obtain ⟨fd, F⟩ := T.d_is_quote
  have sc := sc_is_quote
  have C_is_values := ok_is_values (P := P) (w := w) (base := base) T
  have C_is_count := ok_is_count (P := P) (w := w) (base := base) T
  have C_is_name := ok_is_name (P := P) (w := w) (base := base) T
  refine calD F T.g_is_quote sc (fun vs H Q E h => ?_) (fun _ _ _ _ _ _ us hl => match us, hl with | [_], _ => rfl) (fun cdv A outer s H vs Q E hr h => ?_)
  · obtain ⟨q, nm, st, num, vals, sg, rfl, _⟩ := h; rfl
  · obtain ⟨q, nm, st, num, vals, sg, rfl, hq, ok, k⟩ := h
    refine ⟨_, (pss_cons (ps_if (PW.pt (pw_or (pt_not (pt_val (pe_callB call_isi (by rfl) T.f_isinstance (by decide +kernel) (pa_cons (pv 0) (pa_cons (pe_gTy (n := "tuple") T.f_tuple (by decide +kernel)) pa_nil))))) (pw_or1 (pt_cmpR op_ne (pe_callB call_len (by rfl) T.f_len (by decide +kernel) (pa_cons (pv 0) pa_nil)) pe_int (nomark _))))) (pss_one (ps_ret pe_bl)) pss_nil)
      (pss_cons (ps_asg (pv 0) (pg_tup (by rfl) (pgs_cons (gn 1 sc.nd) (pgs_cons (gn 2 sc.nd) (pgs_cons (gn 3 sc.nd) (pgs_cons (gn 4 sc.nd) (pgs_cons (gn 5 sc.nd) pgs_nil)))))))
      (pss_cons (ps_if (PW.pt (pw_or (pt_not (pt_val (pc C_is_name hr (by decide) (pa_cons (pv 1) pa_nil)))) (pw_or1 (pt_not (pt_val (pe_callB (cr_all rfl) (by rfl) T.f_all (by decide +kernel) (pa_cons (pe_lc (own := [("one", 6)]) (g := (gName 6)) (tt := tYes) rfl sc.nd (pi_tup (pe_tup (pa_cons (pv 2) (pa_cons (pv 3) (pa_cons (pv 5) pa_nil))))) (blkOk_by (own := [("one", 6)]) (N := N_is_quote) (sc := defScope Hd.sis_quote) (by decide +kernel)) (fun _ _ _ _ _ => (gn 6 sc.nd)) (fun _ _ _ _ _ => pts_nil) (fun _ _ _ _ _ => (pc C_is_count hr (by decide) (pa_cons (pv 6) pa_nil)))) pa_nil))))))) (pss_one (ps_ret pe_bl)) pss_nil)
      (pss_one (ps_ret (pe_and (pc C_is_values hr (by decide) (pa_cons (pv 4) pa_nil)) (pe_one (pe_cmpR op_lt (pv 5) (pe_gI T.i_SIGNS) (nomark _))))))))), ?_⟩
    obtain ⟨vp, ps, hq1, hv, hp⟩ := hq.ex
    try dsimp only [cxOf]
    walk_at "go"
    
    refine ⟨_, rfl, ok.nm, fun H1 s1 => ?_⟩
    walk_at "go"
    refine fun t n2 => ?_
    generalize hh : upd H1 t _ = H2
    have s2 : Same H1 H2 := hh ▸ Same.new n2
    have e2 : H2 t = some _ := hh ▸ upd_same
    clear hh
    refine ⟨t, rfl, ⟨_, .of e2⟩, fun D hD => ?_⟩
    refine lc_pure (walk_tup (xs := [.int st, .int num, .int sg])) (List.replicate 3 (.bl true)) (by rfl) hD (fun H3 s3 => Same.tup s3 (.of e2)) (fun i x H3 H4 hi s3 e y => ?_) (fun H3 s3 e => ?_)
    · obtain ⟨rfl, hx⟩ := y
      have hx' : ∃ n : Int, 0 ≤ n ∧ x = .int n := by
        match i, hi, hx with
        | 0, _, hx => exact ⟨st, ok.s0, (Option.some.inj hx).symm⟩
        | 1, _, hx => exact ⟨num, ok.n0, (Option.some.inj hx).symm⟩
        | 2, _, hx => exact ⟨sg, ok.g0, (Option.some.inj hx).symm⟩
      obtain ⟨n, hn, rfl⟩ := hx'
      refine ⟨rfl, ?_⟩
      walk_at "go"
      refine ⟨n, rfl, hn, ?_⟩
      exact lc_pend hD (by decide) (by rw [List.getElem?_replicate, if_pos (by exact hi)]) e s3
    · walk_at "go"
      refine r_all (.of e) ?_
      have s03 := Same.trans s1 (Same.trans s2 s3)
      walk_at "go"
      refine ⟨vp, ps, vals, rfl, s03 _ _ hv, hp.same s03, ok.v1, ok.v8, ok.v0, fun H4 s4 => ?_⟩
      walk_at "go"
      rw [decide_eq_true ok.g1]
      exact k _ (Same.trans s03 s4)
def spNumbers : Sp := fun vs H Q _ => ∃ (nm : Str) (st num : Int) (vp : Addr) (ps : List Addr) (vals : List Int), vs = [.str nm, .int st, .int num, .ref vp] ∧ NameOk nm ∧ H vp = some (.tup (ps.map V.ref)) ∧ PairsAt H ps vals ∧ vals.length ≤ 8 ∧ ∀ q H', Same H H' → H' q = some (.lst ((quoteNums nm st num vals).map V.int)) → Q (.ref q) H'
abbrev N_numbers_of : List Str := ["name", "start", "number", "values", "pair", "one"]
theorem sc_numbers_of : FnScope N_numbers_of ["name", "start", "number", "values"] (defScope Hd.snumbers_of) := ⟨rfl, rfl, rfl, by decide +kernel, rfl, by decide +kernel, by decide +kernel⟩
theorem ok_numbers_of (T : Hd.Tx K mg) : Cal P w K mg base 2 "numbers_of" spNumbers := by
  obtain ⟨fd, F⟩ := T.d_numbers_of
  have sc := sc_numbers_of
  have C_name_number := ok_name_number (P := P) (w := w) (base := base) T
  refine calD F T.g_numbers_of sc (fun vs H Q E h => ?_) (fun _ _ _ _ _ _ us hl => match us, hl with | [_, _, _, _], _ => rfl) (fun cdv A outer s H vs Q E hr h => ?_)
  · obtain ⟨nm, st, num, vp, ps, vals, rfl, _⟩ := h; rfl
  · obtain ⟨nm, st, num, vp, ps, vals, rfl, hnm, hv, hp, h8, k⟩ := h
    refine ⟨_, (pss_one (ps_ret (pe_op op_cat (pe_lst (pa_cons (pc C_name_number hr (by decide) (pa_cons (pv 0) pa_nil)) (pa_cons (pv 1) (pa_cons (pv 2) pa_nil)))) (pe_lc2 (own := [("pair", 4), ("one", 5)]) (vs1 := [5]) (g := gName 4) (tt := tYes) (g1 := gName 5) (tt1 := tYes) (wi1 := iTup K (tVar 4)) (te := tVar 5) rfl sc.nd (pi_tup (pv 3)) (blkOk_by (own := [("pair", 4), ("one", 5)]) (N := N_numbers_of) (sc := defScope Hd.snumbers_of) (by decide +kernel)) (by decide) (fun _ _ _ _ _ => gn 4 sc.nd) (fun _ _ _ _ _ => pts_nil) (fun _ _ _ _ _ => piT K (pv 4)) (fun _ _ _ _ _ => gn 5 sc.nd) (fun _ _ _ _ _ => pts_nil) (fun _ _ _ _ _ => pv 5))))), ?_⟩
    try dsimp only [cxOf]
    walk_at "go"
    
    refine ⟨_, rfl, hnm, ?_⟩
    walk_at "go"
    refine fun l nl => ?_
    generalize hh : upd H l _ = H1
    have s1 : Same H H1 := hh ▸ Same.new nl
    have e1 : H1 l = some _ := hh ▸ upd_same
    clear hh
    walk_at "go"
    have hv1 := s1 _ _ hv
    refine ⟨_, rfl, vp, rfl, ⟨_, .of hv1⟩, fun D hD => ?_⟩
    refine ⟨fun i m H2 => m = ps.length - i ∧ i ≤ ps.length ∧ Same H1 H2 ∧ H2 D = some (.lst ((flatP vals i).map V.int)), ⟨ps.length, rfl, Nat.zero_le _, Same.new hD, upd_same⟩, fun i m H2 w => ?_⟩
    obtain ⟨rfl, hi, s2, e2⟩ := w
    have hv2 := s2 _ _ hv1
    by_cases hlt : i < ps.length
    · obtain ⟨v, hvi, hm, hl, hpp⟩ := hp.val (List.getElem?_eq_getElem hlt)
      have hx0 : (ps.map V.ref)[i]? = some (.ref ps[i]) := by rw [List.getElem?_map, List.getElem?_eq_getElem hlt]; rfl
      refine .inr ⟨⟨_, _, .of hv2, hx0⟩, fun H' => Same H1 H' ∧ H' D = some (.lst ((flatP vals (i + 1)).map V.int)), fun H' n => ⟨ps.length - (i + 1), by omega, rfl, hlt, n.1, n.2⟩, fun x H' y => ?_⟩
      obtain ⟨rfl, hx⟩ := y
      have hx1 := hx _ (.of hv2)
      rw [hx0] at hx1
      obtain rfl := Option.some.inj hx1
      have hpp2 := s2 _ _ (s1 _ _ hpp)
      refine ⟨rfl, ?_⟩
      walk_at "go"
      refine ⟨ps[i], rfl, ⟨_, .of hpp2⟩, ?_⟩
      refine ⟨fun j k H3 => k = 2 - j ∧ j ≤ 2 ∧ Same H1 H3 ∧ H3 ps[i] = some (.tup [.int i, .int v]) ∧ H3 D = some (.lst ((flatP vals i ++ [(i : Int), v].take j).map V.int)), ⟨2, rfl, by omega, s2, hpp2, by rw [e2]; simp⟩, fun j k H3 w1 => ?_⟩
      obtain ⟨rfl, hj, s3, hpp3, e3⟩ := w1
      by_cases hj2 : j < 2
      · have hy0 : ∃ n : Int, [V.int i, V.int v][j]? = some (.int n) ∧ [(i : Int), v][j]? = some n := by
          match j, hj2 with
          | 0, _ => exact ⟨_, rfl, rfl⟩
          | 1, _ => exact ⟨_, rfl, rfl⟩
        obtain ⟨n, hy0, hn0⟩ := hy0
        refine .inr ⟨⟨_, _, .of hpp3, hy0⟩, fun H' => Same H1 H' ∧ H' ps[i] = some (.tup [.int i, .int v]) ∧ H' D = some (.lst ((flatP vals i ++ [(i : Int), v].take (j + 1)).map V.int)), fun H' n => ⟨2 - (j + 1), by omega, rfl, hj2, n.1, n.2.1, n.2.2⟩, fun x H' y => ?_⟩
        obtain ⟨rfl, hx⟩ := y
        have hx1 := hx _ (.of hpp3)
        rw [hy0] at hx1
        obtain rfl := Option.some.inj hx1
        refine ⟨rfl, ?_⟩
        walk_at "go"
        refine ⟨_, e3, size_lt ?_, Same.own s3 hD, ?_, ?_⟩
        · rw [List.length_map, List.length_append, flatP_length vals i (by rw [← hp.1]; omega), List.length_take]
          have := hp.1
          omega
        · rw [upd_ne (ne_of hpp3 e3 (by intro z; cases z))]
          exact hpp3
        · rw [upd_same, List.take_add_one, hn0]
          simp [List.map_append, List.append_assoc]
      · have : j = 2 := by omega
        subst this
        refine .inl ⟨⟨_, .of hpp3, Nat.le_refl _⟩, s3, ?_⟩
        rw [e3, flatP_next hvi]
        rfl
    · have : i = ps.length := by omega
      subst this
      refine .inl ⟨⟨_, .of hv2, by rw [List.length_map]; exact Nat.le_refl _⟩, ?_⟩
      refine ⟨l, D, _, _, rfl, rfl, s2 _ _ e1, e2, ?_, ?_⟩
      · refine size_le ?_
        rw [List.length_map, flatP_length vals _ (Nat.le_of_eq hp.1), hp.1]
        show 3 + _ ≤ _
        omega
      refine fun q nq => ?_
      generalize hh : upd H2 q _ = H3
      have s3 : Same H2 H3 := hh ▸ Same.new nq
      have e3 : H3 q = some _ := hh ▸ upd_same
      clear hh
      walk_at "go"
      rw [hp.1] at e3
      refine k q H3 (Same.trans s1 (Same.trans s2 s3)) ?_
      rw [e3]
      rfl
def spIsSigned : Sp := fun vs H Q _ => ∃ (key : Int) (q : Addr) (nm : Str) (st num : Int) (vals : List Int) (sg : Int), vs = [.int key, .ref q] ∧ NameOk nm ∧ QuoteAt H q nm st num vals sg ∧ vals.length ≤ 8 ∧ ∀ H', Same H H' → Q (.bl (decide (sg = signOf key nm st num vals))) H'
abbrev N_is_signed : List Str := ["key", "quote", "parts", "sign", "name", "start", "number", "values"]
theorem sc_is_signed : FnScope N_is_signed ["key", "quote"] (defScope Hd.sis_signed) := ⟨rfl, rfl, rfl, by decide +kernel, rfl, by decide +kernel, by decide +kernel⟩
theorem ok_is_signed (T : Hd.Tx K mg) : Cal P w K mg base 3 "is_signed" spIsSigned := by
  obtain ⟨fd, F⟩ := T.d_is_signed
  have sc := sc_is_signed
  have C_sign_of := ok_sign_of (P := P) (w := w) (base := base) T
  have C_numbers_of := ok_numbers_of (P := P) (w := w) (base := base) T
  refine calD F T.g_is_signed sc (fun vs H Q E h => ?_) (fun _ _ _ _ _ _ us hl => match us, hl with | [_, _], _ => rfl) (fun cdv A outer s H vs Q E hr h => ?_)
  · obtain ⟨key, q, nm, st, num, vals, sg, rfl, _⟩ := h; rfl
  · obtain ⟨key, q, nm, st, num, vals, sg, rfl, hnm, hq, h8, k⟩ := h
    refine ⟨_, (pss_cons (ps_asg (pv 1) (pg_star (n := 2) (i := 0) (by rfl) (pgs_star (gn 2 sc.nd) (pgs_cons (gn 3 sc.nd) pgs_nil))))
      (pss_cons (ps_asg (pv 2) (pg_lst (by rfl) (pgs_cons (gn 4 sc.nd) (pgs_cons (gn 5 sc.nd) (pgs_cons (gn 6 sc.nd) (pgs_cons (gn 7 sc.nd) pgs_nil))))))
      (pss_one (ps_ret (pe_cmpR op_eq (pv 3) (pc C_sign_of hr (by decide) (pa_cons (pv 0) (pa_cons (pc C_numbers_of hr (by decide) (pa_cons (pv 4) (pa_cons (pv 5) (pa_cons (pv 6) (pa_cons (pv 7) pa_nil))))) pa_nil))) (nomark _)))))), ?_⟩
    obtain ⟨vp, ps, hq1, hv, hp⟩ := hq.ex
    try dsimp only [cxOf]
    walk_at "go"
    
    refine ⟨q, _, rfl, .of hq1, (by show 2 ≤ 5 + 1; decide), fun D hD => ?_⟩
    show gCons (gName 2) (gCons (gName 3) gNil) [V.ref D, V.int sg] _ (upd H D (.lst [.str nm, .int st, .int num, .ref vp])) _
    generalize hh : upd H D _ = H1
    have s1 : Same H H1 := hh ▸ Same.new hD
    have e1 : H1 D = some _ := hh ▸ upd_same
    clear hh
    walk_at "go"
    refine r_gTupL (.of e1) rfl ?_
    walk_at "go"
    refine ⟨nm, st, num, vp, ps, vals, rfl, hnm, s1 _ _ hv, hp.same s1, h8, fun l H2 s2 e2 => ?_⟩
    walk_at "go"
    refine ⟨key, l, _, rfl, .of e2, ?_⟩
    walk_at "go"
    have e : decide (V.int sg = V.int (foldSign key (quoteNums nm st num vals))) = decide (sg = signOf key nm st num vals) := by
      unfold signOf
      by_cases h : sg = foldSign key (quoteNums nm st num vals)
      · rw [decide_eq_true h, decide_eq_true (congrArg V.int h)]
      · rw [decide_eq_false h, decide_eq_false (fun z => h (V.int.inj z))]
    rw [e]
    exact k _ (Same.trans s1 s2)
end
end Fx

/-! A3: defs and their promises -/
namespace Fx
open PySem PySem.Spec PyProof.Rows L2 Sv Mr
local macro_rules | `(tactic| walk_at "go") => `(tactic| repeat (first
  | with_reducible refine r_seq ?_ | with_reducible refine r_asg ?_ | with_reducible refine r_gn ?_ | with_reducible refine r_ret ?_ | with_reducible refine r_ifS ?_
  | ((with_reducible refine' r_var ?kv ?_); (case kv => exact rfl)) | with_reducible refine r_c ?_ | with_reducible refine r_op ?_ | with_reducible refine r_I0 ?_ | with_reducible refine r_cons ?_ | with_reducible refine r_nil ?_
  | with_reducible refine r_cb ?_ | with_reducible refine r_call ?_ | with_reducible refine r_test ?_ | with_reducible refine r_tB ?_ | with_reducible refine r_k ?_ | with_reducible refine r_or ?_ | with_reducible refine r_and ?_ | with_reducible refine r_not ?_
  | with_reducible refine r_andV ?_ | with_reducible refine r_orV ?_ | with_reducible refine r_notV ?_ | with_reducible refine r_if ?_ | with_reducible refine r_T ?_ | with_reducible refine r_F ?_ | with_reducible refine r_Tn ?_ | with_reducible refine r_Fn ?_
  | with_reducible refine r_isiS ?_ | with_reducible refine r_isiI ?_ | with_reducible refine r_isiIB ?_ | with_reducible refine r_chain ?_ | with_reducible refine r_un ?_ | with_reducible refine r_drop ?_ | with_reducible refine r_tup ?_ | with_reducible refine r_lst ?_
  | ((with_reducible refine' r_eq ?kv ?_); (case kv => exact rfl)) | ((with_reducible refine' r_ne ?kv ?_); (case kv => exact rfl)) | with_reducible refine r_nx ?_ | with_reducible refine r_retN ?_ | with_reducible refine r_yes ?_ | ((with_reducible refine' r_I ?kd ?_); (case kd => first | exact Or.inr ⟨by decide, by decide⟩ | exact ⟨by decide, by decide⟩ | exact ⟨by decide, by decide, by decide⟩ | (show (0 : Int) < _; first | decide | omega)))
  | with_reducible refine r_gCons ?_ | with_reducible refine r_gNil ?_ | with_reducible refine r_tPar ?_ | with_reducible refine r_par ?_ | with_reducible refine r_tPar3 ?_ | with_reducible refine r_par3 ?_ | with_reducible refine r_sl ?_ | with_reducible refine r_part ?_ | with_reducible refine r_parti ?_ | with_reducible refine r_nopart ?_ | with_reducible refine r_gSub ?_ | with_reducible refine r_rU ?_ | with_reducible refine r_bm ?_ | ((with_reducible refine' r_tyL ?kd ?_); (case kd => assumption)) | with_reducible refine r_nn ?_ | with_reducible refine r_meth ?_ | with_reducible refine r_methN ?_ | with_reducible refine r_callN ?_ | with_reducible refine r_fld ?_ | with_reducible refine r_lc ?_ | with_reducible refine r_for ?_ | with_reducible refine r_iList ?_ | with_reducible refine r_iTup ?_ | with_reducible refine r_iStr ?_ | with_reducible refine r_iRng1 ?_ | with_reducible refine r_iEnum ?_ | with_reducible refine r_iZip ?_ | with_reducible refine r_iZipA ?_
  | ((with_reducible refine' r_sz ?kz ?_); (case kz => first | decide | (simp only [List.length_cons, List.length_nil]; omega)))
  | ((with_reducible refine' r_isiT ?kd ?_); (case kd => assumption)) | ((with_reducible refine' r_isiL ?kd ?_); (case kd => assumption)) | ((with_reducible refine' r_isiTL ?kd ?_); (case kd => assumption)) | ((with_reducible refine' r_isiLT ?kd ?_); (case kd => assumption))
  | ((with_reducible refine' r_lenT ?kd ?_); (case kd => exact SqT.of (by assumption))) | ((with_reducible refine' r_lenL ?kd ?_); (case kd => exact SqL.of (by assumption)))
  | ((with_reducible refine' r_ixT ?ka ?kb ?_); (case ka => exact SqT.of (by assumption)); (case kb => exact rfl)) | ((with_reducible refine' r_gTup ?ka ?kb ?_); (case ka => exact SqT.of (by assumption)); (case kb => exact rfl))
  | ((with_reducible refine' r_dT ?kd ?_); (case kd => walk_at "pos")) | ((with_reducible refine' r_dF ?kd ?_); (case kd => walk_at "neg")) | ((with_reducible refine' r_ndT ?kd ?_); (case kd => walk_at "neg")) | ((with_reducible refine' r_ndF ?kd ?_); (case kd => walk_at "pos"))
  | ((with_reducible refine' r_pos ?kd ?_); (case kd => with_reducible exact rfl)) | ((with_reducible refine' r_neg ?kd ?_); (case kd => with_reducible exact rfl)) | ((with_reducible refine' r_pos ?kd ?_); (case kd => (with_reducible show _ = true); decide)) | ((with_reducible refine' r_neg ?kd ?_); (case kd => (with_reducible show _ = false); decide))))
local macro_rules | `(tactic| walk_at "pos") => `(tactic| first | assumption | omega | rfl | exact congrArg V.int (by omega) | exact congrArg V.str (by assumption))
local macro_rules | `(tactic| walk_at "neg") => `(tactic| first | assumption | omega | (intro hne; injection hne with hne; first | omega | contradiction | exact absurd hne (by decide +kernel)) | (intro hne; cases hne))

section
variable {P : Program} {w : World} {K : PySem.W.Frag} {mg : Str → Option Value} {base : Heap}
theorem decS (a b : Str) : decide (V.str a = V.str b) = decide (a = b) := by
  by_cases h : a = b
  · rw [decide_eq_true h, decide_eq_true (congrArg V.str h)]
  · rw [decide_eq_false h, decide_eq_false (fun z => h (V.str.inj z))]
theorem decB (a b : Bool) : decide (V.bl a = V.bl b) = (a == b) := by cases a <;> cases b <;> rfl
def spCanStand : Sp := fun vs H Q _ => ∃ (p : Addr) (r : Rw) (up : Bool) (m fx : Int), vs = [.ref p, .bl up, .int m, .int fx] ∧ H p = some (.tup r.vs) ∧ RowOk r ∧ ∀ H', Same H H' → Q (.bl (canStand r up m fx)) H'
abbrev N_can_stand : List Str := ["row", "ended", "many", "fixed"]
theorem sc_can_stand : FnScope N_can_stand ["row", "ended", "many", "fixed"] (defScope Hd.scan_stand) := ⟨rfl, rfl, rfl, by decide +kernel, rfl, by decide +kernel, by decide +kernel⟩
theorem ok_can_stand (T : Hd.Tx K mg) : Cal P w K mg base 4 "can_stand" spCanStand := by
  obtain ⟨fd, F⟩ := T.d_can_stand
  have sc := sc_can_stand
  have C_is_row := ok_is_row (P := P) (w := w) (base := base) T
  refine calD F T.g_can_stand sc (fun vs H Q E h => ?_) (fun _ _ _ _ _ _ us hl => match us, hl with | [_, _, _, _], _ => rfl) (fun cdv A outer s H vs Q E hr h => ?_)
  · obtain ⟨p, r, up, m, fx, rfl, _⟩ := h; rfl
  · obtain ⟨p, r, up, m, fx, rfl, hp, ok, k⟩ := h
    refine ⟨_, (pss_cons (ps_if (PW.pt (pw_or (pt_not (pt_val (pc C_is_row hr (by decide) (pa_cons (pv 0) pa_nil)))) (pw_or1 (pt_cmpR op_ge (pe_ix (ixT K) (pv 0) pe_int (fun _ _ => rfl)) (pv 2) (nomark _))))) (pss_one (ps_ret pe_bl)) pss_nil)
      (pss_cons (ps_if (pt_cmpR op_ne (pe_cmpR op_in_seq (pe_ix (ixT K) (pv 0) pe_int (fun _ _ => rfl)) (pe_gR T.g_BEHIND_END) (by rfl)) (pv 1) (nomark _)) (pss_one (ps_ret pe_bl)) pss_nil)
      (pss_one (ps_ret (pe_or (pe_cmpR op_ne (pe_ix (ixT K) (pv 0) pe_int (fun _ _ => rfl)) (pe_gS T.s_RESET) (nomark _)) (pe_one (pe_cmpR op_ge (pe_ix (ixT K) (pv 0) pe_int (fun _ _ => rfl)) (pv 3) (nomark _)))))))), ?_⟩
    have hp' : H p = some (.tup [.int r.b, .str r.w, .str r.nm, .int r.nt]) := hp
    try dsimp only [cxOf]
    walk_at "go"
    
    refine ⟨p, r, rfl, hp, ok, fun H1 s1 => ?_⟩
    have hp1 := s1 _ _ hp'
    walk_at "go"
    have ek : ∀ b, b = canStand r up m fx → Q (.bl b) H1 := fun b e => e ▸ k H1 s1
    by_cases h1 : r.b < m
    · have h1' : ¬ m ≤ r.b := by omega
      walk_at "go"
      refine r_inT (T.t_BEHIND_END _) (by rfl) (by rfl) ?_
      rw [show ([V.str "late", V.str "reset"] : List V) = (["late", "reset"] : List Str).map V.str from rfl, inV_str]
      walk_at "go"
      rw [show decide (r.w ∈ (["late", "reset"] : List Str)) = isLate r.w from rfl, decB]
      by_cases h2 : (isLate r.w == up) = true
      · rw [h2]
        walk_at "go"
        rw [decS]
        by_cases h3 : r.w = "reset"
        · rw [decide_eq_true h3]
          walk_at "go"
          refine ek _ ?_
          unfold canStand
          rw [decide_eq_true h1, h2, decide_eq_true h3]
          rfl
        · rw [decide_eq_false h3]
          walk_at "go"
          refine ek _ ?_
          unfold canStand
          rw [decide_eq_true h1, h2, decide_eq_false h3]
          rfl
      · have h2' : (isLate r.w == up) = false := by simpa using h2
        rw [h2']
        walk_at "go"
        refine ek _ ?_
        unfold canStand
        rw [h2', Bool.and_false, Bool.false_and]
    · have h1' : m ≤ r.b := by omega
      walk_at "go"
      refine ek _ ?_
      unfold canStand
      rw [decide_eq_false h1, Bool.false_and, Bool.false_and]
def spFault : Sp := fun vs H Q _ => ∃ (l : Addr) (ps : List Addr) (rows : List Rw) (m fx : Int), vs = [.ref l, .int m, .int fx] ∧ H l = some (.lst (ps.map V.ref)) ∧ RowsAt H ps rows ∧ (∀ r ∈ rows, RowOk r) ∧ ∀ H', Same H H' → Q (optV (fault rows m fx)) H'
abbrev N_fault : List Str := ["log", "many", "fixed", "ended", "place", "row"]
theorem sc_fault : FnScope N_fault ["log", "many", "fixed"] (defScope Hd.sfault) := ⟨rfl, rfl, rfl, by decide +kernel, rfl, by decide +kernel, by decide +kernel⟩
theorem ok_fault (T : Hd.Tx K mg) : CalK P w K mg base 5 "fault" spFault 1 ["many", "fixed"] := by
  obtain ⟨fd, F⟩ := T.d_fault
  have sc := sc_fault
  have C_can_stand := ok_can_stand (P := P) (w := w) (base := base) T
  refine calKD F T.g_fault sc (fun vs H Q E h => ?_) (fun _ _ _ _ _ _ us ws h1 h2 => match us, ws, h1, h2 with | [_], [_, _], _, _ => rfl) (fun cdv A outer s H vs Q E hr h => ?_)
  · obtain ⟨l, ps, rows, m, fx, rfl, _⟩ := h; rfl
  · obtain ⟨l, ps, rows, m, fx, rfl, hl, hR, ok, k⟩ := h
    refine ⟨_, (pss_cons (sn 3 sc.nd pe_bl)
      (pss_cons (ps_for PassesOwn.never rfl (pi_enum (by rfl) T.f_enumerate (pa_cons (pv 0) pa_nil)) (pg_tup (by rfl) (pgs_cons (gn 4 sc.nd) (pgs_cons (gn 5 sc.nd) pgs_nil))) (pss_cons (ps_if (pt_not (pt_val (pc C_can_stand hr (by decide) (pa_cons (pv 5) (pa_cons (pv 3) (pa_cons (pv 1) (pa_cons (pv 2) pa_nil))))))) (pss_one (ps_ret (pv 4))) pss_nil)
      (pss_one (sn 3 sc.nd (pe_or (pv 3) (pe_one (pe_cmpR op_eq (pe_ix (ixT K) (pv 5) pe_int (fun _ _ => rfl)) (pe_gS T.s_END) (nomark _))))))))
      (pss_one (ps_ret pe_non)))), ?_⟩
    try dsimp only [cxOf]
    walk_at "go"
    
    refine ⟨l, _, rfl, .of hl, for_it walk_enum (fun i σ H1 => Same H H1 ∧ ∃ up u1 u2, σ = [some (.ref l), some (.int m), some (.int fx), some (.bl up), u1, u2] ∧ fault rows m fx = faultFrom m fx up i (rows.drop i)) ⟨Same.refl _, false, _, _, rfl, rfl⟩ (fun i σ H1 _ p => .of (p.1 _ _ hl)) (fun i x σ H1 H2 hi p y => ?_) (fun σ H1 p => ?_)⟩
    · obtain ⟨s1, up, u1, u2, rfl, e⟩ := p
      obtain ⟨t, x1, x2, rfl, nt, rfl, hx1, hx2⟩ := y
      obtain rfl := Option.some.inj hx1
      obtain ⟨p, hpi, rfl⟩ := map_ref hx2
      obtain ⟨r, hri, hm, hlt, hpp⟩ := hR.row hpi
      have st : Same H1 (upd H1 t (.tup [.int i, .ref p])) := Same.new nt
      have ht : (upd H1 t (.tup [.int i, .ref p])) t = some (.tup [.int i, .ref p]) := upd_same
      have hpp' := st _ _ (s1 _ _ hpp)
      have ed : rows.drop i = r :: rows.drop (i + 1) := by
        rw [List.drop_eq_getElem_cons hlt]
        rw [List.getElem?_eq_getElem hlt] at hri
        rw [Option.some.inj hri]
      rw [ed] at e
      unfold faultFrom at e
      walk_at "go"
      refine ⟨p, r, up, m, fx, rfl, hpp', ok r hm, fun H2 s2 => ?_⟩
      have s02 := Same.trans s1 (Same.trans st s2)
      walk_at "go"
      cases c : canStand r up m fx with
      | false =>
        rw [c, if_neg (by decide)] at e
        walk_at "go"
        rw [e] at k
        exact k _ s02
      | true =>
        rw [c, if_pos rfl] at e
        have hp2 : H2 p = some (.tup [.int r.b, .str r.w, .str r.nm, .int r.nt]) := s2 _ _ hpp'
        walk_at "go"
        cases up with
        | true =>
          walk_at "go"
          exact ⟨s02, true, _, _, rfl, e⟩
        | false =>
          walk_at "go"
          refine ⟨s02, _, _, _, rfl, ?_⟩
          rw [decS, e]
          rfl
    · obtain ⟨s1, up, u1, u2, rfl, e⟩ := p
      walk_at "go"
      have ee : fault rows m fx = none := by
        rw [e, List.length_map, hR.1, List.drop_length]
        rfl
      rw [ee] at k
      exact k _ s1
def spLook : Sp := fun vs H Q _ => ∃ (l : Addr) (ps : List Addr) (rows : List Rw) (m fx : Int), vs = [.ref l, .int m, .int fx] ∧ H l = some (.lst (ps.map V.ref)) ∧ RowsAt H ps rows ∧ (∀ r ∈ rows, RowOk r) ∧ fault rows m fx = none ∧ ∀ H', Same H H' → Q .non H'
abbrev N_look_log : List Str := ["log", "many", "fixed", "place"]
theorem sc_look_log : FnScope N_look_log ["log", "many", "fixed"] (defScope Hd.slook_log) := ⟨rfl, rfl, rfl, by decide +kernel, rfl, by decide +kernel, by decide +kernel⟩
theorem ok_look_log (T : Hd.Tx K mg) : Cal P w K mg base 6 "look_log" spLook := by
  obtain ⟨fd, F⟩ := T.d_look_log
  have sc := sc_look_log
  have C_fault := ok_fault (P := P) (w := w) (base := base) T
  refine calD F T.g_look_log sc (fun vs H Q E h => ?_) (fun _ _ _ _ _ _ us hl => match us, hl with | [_, _, _], _ => rfl) (fun cdv A outer s H vs Q E hr h => ?_)
  · obtain ⟨l, ps, rows, m, fx, rfl, _⟩ := h; rfl
  · obtain ⟨l, ps, rows, m, fx, rfl, hl, hR, ok, e, k⟩ := h
    refine ⟨_, (pss_cons (sn 3 sc.nd (pcK C_fault hr (by decide) (pa_cons (pv 0) pa_nil) (pk_cons (pv 1) (pk_cons (pv 2) pk_nil))))
      (pss_one (ps_if (pt_cmpR op_notN (pv 3) pe_non (nomark _)) (pss_one ps_never) pss_nil))), ?_⟩
    try dsimp only [cxOf]
    walk_at "go"
    
    refine ⟨rfl, rfl, l, ps, rows, m, fx, rfl, hl, hR, ok, fun H1 s1 => ?_⟩
    rw [e]
    walk_at "go"
    exact k _ s1
def spBegin : Sp := fun vs H Q _ => ∃ (a : Addr) (b : Bool), vs = [.ref a, .bl b] ∧ Q (.int (if b = true then 2 else 1)) H
abbrev N_Mixing_begin : List Str := ["self", "reset"]
theorem sc_Mixing_begin : FnScope N_Mixing_begin ["self", "reset"] (defScope Hd.sMixing_begin) := ⟨rfl, rfl, rfl, by decide +kernel, rfl, by decide +kernel, by decide +kernel⟩
theorem ok_f_Mixing_begin (T : Hd.Tx K mg) : ∀ fd, FunD K "begin" "Mixing.begin" (defArgs Hd.sMixing_begin) (defBody Hd.sMixing_begin) (defScope Hd.sMixing_begin) [] [("reset", V.bl false)] (He.ma K (He.ga K "Mixing") "begin") fd → FnOk P w K mg base CX0 1 (He.ma K (He.ga K "Mixing") "begin") fd ["self", "reset"] spBegin := by
  intro fd F
  have sc := sc_Mixing_begin
  refine fnD F sc (fun vs H Q E h => ?_)  (fun cdv A outer s H vs Q E hr h => ?_)
  · obtain ⟨a, b, rfl, _⟩ := h; rfl
  · obtain ⟨a, b, rfl, k⟩ := h
    refine ⟨_, (pss_one (ps_ret (pe_ifExp (pt_val (pv 1)) (pe_gI T.i_RESET_BEGIN) (pe_gI T.i_PLAIN_BEGIN)))), ?_⟩
    try dsimp only [cxOf]
    walk_at "go"
    
    cases b with
    | true =>
      walk_at "go"
      exact k
    | false =>
      walk_at "go"
      exact k
theorem ok_Mixing_begin (T : Hd.Tx K mg) : MetK P w K mg base 1 (He.ga K "Mixing") "begin" spBegin 0 ["reset"] := by
  obtain ⟨fd, F⟩ := T.d_Mixing_begin
  exact ⟨_, fd, _, T.c_Mixing, T.m_Mixing_begin, ok_f_Mixing_begin T fd F, kbnD F fun _ _ _ _ _ _ us ws h1 h2 => match us, ws, h1, h2 with | [_], [_], _, _ => rfl⟩
theorem ok_Mixing_beginD (T : Hd.Tx K mg) : MetD P w K mg base 1 (He.ga K "Mixing") "begin" spBegin [.bl false] := by
  obtain ⟨fd, F⟩ := T.d_Mixing_begin
  obtain ⟨ds, v, b⟩ := F.binds0 (ps := ["self", "reset"]) 1 (by simp) rfl fun D doc pm an cdv ct us ks h1 h2 => match us, ks, h1, h2 with | [_], [_], _, _ => ⟨_, _, _, _, _, _, rfl, rfl, rfl⟩
  exact ⟨_, fd, _, ds, T.c_Mixing, T.m_Mixing_begin, ok_f_Mixing_begin T fd F, b, v⟩
def spMixed (K : PySem.W.Frag) : Sp := fun vs H Q _ => ∃ (a : Addr) (h : How) (v : Int) (p : Addr) (r : Rw), vs = [.ref a, .int v, .ref p] ∧ MixAt K H a h ∧ HowOk h ∧ H p = some (.tup r.vs) ∧ RowOk r ∧ Q (.int (mix h v r)) H
abbrev N_Mixing_mixed : List Str := ["self", "value", "row"]
theorem sc_Mixing_mixed : FnScope N_Mixing_mixed ["self", "value", "row"] (defScope Hd.sMixing_mixed) := ⟨rfl, rfl, rfl, by decide +kernel, rfl, by decide +kernel, by decide +kernel⟩
theorem ok_Mixing_mixed (T : Hd.Tx K mg) : Met P w K mg base 3 (He.ga K "Mixing") "mixed" ((spMixed K)) := by
  obtain ⟨fd, F⟩ := T.d_Mixing_mixed
  have sc := sc_Mixing_mixed
  have C_row_number := ok_row_number (P := P) (w := w) (base := base) T
  refine metD T.c_Mixing T.m_Mixing_mixed F sc (fun vs H Q E h => ?_) (fun _ _ _ _ _ _ us hl => match us, hl with | [_, _, _], _ => rfl) (fun cdv A outer s H vs Q E hr h => ?_)
  · obtain ⟨a, h, v, p, r, rfl, _⟩ := h; rfl
  · obtain ⟨a, hw, v, p, r, rfl, hm, hk, hp, ok, k⟩ := h
    refine ⟨_, (pss_cons (ps_if (pt_cmpR op_isN (pe_fld (pv 0) rfl) pe_non (nomark _)) (pss_one (ps_ret (pe_op op_add (pe_op op_add (pe_op op_mul (pv 1) (pe_gI T.i_SPAN)) (pc C_row_number hr (by decide) (pa_cons (pv 2) pa_nil))) pe_int))) pss_nil)
      (pss_one (ps_ret (pe_op op_mod (pe_op op_add (pe_op op_add (pe_op op_mul (pv 1) (pe_fld (pv 0) rfl)) (pc C_row_number hr (by decide) (pa_cons (pv 2) pa_nil))) pe_int) (pe_fld (pv 0) rfl))))), ?_⟩
    obtain ⟨dx, fs, ha, M⟩ := hm.ex
    have ek : ∀ n, n = mix hw v r → Q (.int n) H := fun n e => e ▸ k
    try dsimp only [cxOf]
    walk_at "go"
    
    refine r_fldv ha T.c_Mixing T.n_Mixing_width M.wd ?_
    walk_at "go"
    cases e : hw.wd with
    | none =>
      have e2 : hw.wV = .non := by unfold How.wV; rw [e]
      rw [e2]
      walk_at "go"
      refine ⟨p, r, rfl, hp, ok, ?_⟩
      walk_at "go"
      refine ek _ ?_
      unfold mix
      rw [e]
    | some m =>
      have e2 : hw.wV = .int m := by unfold How.wV; rw [e]
      have hm3 := hk.w1 m e
      rw [e2]
      walk_at "go"
      refine r_fldv ha T.c_Mixing T.n_Mixing_factor M.fc ?_
      walk_at "go"
      refine r_I (.inr ⟨by have := hk.f1; omega, by have := hk.f2; omega⟩) ?_
      walk_at "go"
      refine ⟨p, r, rfl, hp, ok, ?_⟩
      walk_at "go"
      refine r_fldv ha T.c_Mixing T.n_Mixing_width M.wd ?_
      rw [e2]
      walk_at "go"
      refine ek _ ?_
      unfold mix
      rw [e]
end
end Fx

/-! A4: defs and their promises -/
namespace Fx
open PySem PySem.Spec PyProof.Rows L2 Sv Mr
local macro_rules | `(tactic| walk_at "go") => `(tactic| repeat (first
  | with_reducible refine r_seq ?_ | with_reducible refine r_asg ?_ | with_reducible refine r_gn ?_ | with_reducible refine r_ret ?_ | with_reducible refine r_ifS ?_
  | ((with_reducible refine' r_var ?kv ?_); (case kv => exact rfl)) | with_reducible refine r_c ?_ | with_reducible refine r_op ?_ | with_reducible refine r_I0 ?_ | with_reducible refine r_cons ?_ | with_reducible refine r_nil ?_
  | with_reducible refine r_cb ?_ | with_reducible refine r_call ?_ | with_reducible refine r_test ?_ | with_reducible refine r_tB ?_ | with_reducible refine r_k ?_ | with_reducible refine r_or ?_ | with_reducible refine r_and ?_ | with_reducible refine r_not ?_
  | with_reducible refine r_andV ?_ | with_reducible refine r_orV ?_ | with_reducible refine r_notV ?_ | with_reducible refine r_if ?_ | with_reducible refine r_T ?_ | with_reducible refine r_F ?_ | with_reducible refine r_Tn ?_ | with_reducible refine r_Fn ?_
  | with_reducible refine r_isiS ?_ | with_reducible refine r_isiI ?_ | with_reducible refine r_isiIB ?_ | with_reducible refine r_chain ?_ | with_reducible refine r_un ?_ | with_reducible refine r_drop ?_ | with_reducible refine r_tup ?_ | with_reducible refine r_lst ?_
  | ((with_reducible refine' r_eq ?kv ?_); (case kv => exact rfl)) | ((with_reducible refine' r_ne ?kv ?_); (case kv => exact rfl)) | with_reducible refine r_nx ?_ | with_reducible refine r_retN ?_ | with_reducible refine r_yes ?_ | ((with_reducible refine' r_I ?kd ?_); (case kd => first | exact Or.inr ⟨by decide, by decide⟩ | exact ⟨by decide, by decide⟩ | exact ⟨by decide, by decide, by decide⟩ | (show (0 : Int) < _; first | decide | omega)))
  | with_reducible refine r_gCons ?_ | with_reducible refine r_gNil ?_ | with_reducible refine r_tPar ?_ | with_reducible refine r_par ?_ | with_reducible refine r_tPar3 ?_ | with_reducible refine r_par3 ?_ | with_reducible refine r_sl ?_ | with_reducible refine r_part ?_ | with_reducible refine r_parti ?_ | with_reducible refine r_nopart ?_ | with_reducible refine r_gSub ?_ | with_reducible refine r_rU ?_ | with_reducible refine r_bm ?_ | ((with_reducible refine' r_tyL ?kd ?_); (case kd => assumption)) | with_reducible refine r_nn ?_ | with_reducible refine r_meth ?_ | with_reducible refine r_methN ?_ | with_reducible refine r_callN ?_ | with_reducible refine r_fld ?_ | with_reducible refine r_lc ?_ | with_reducible refine r_for ?_ | with_reducible refine r_iList ?_ | with_reducible refine r_iTup ?_ | with_reducible refine r_iStr ?_ | with_reducible refine r_iRng1 ?_ | with_reducible refine r_iEnum ?_ | with_reducible refine r_iZip ?_ | with_reducible refine r_iZipA ?_
  | ((with_reducible refine' r_sz ?kz ?_); (case kz => first | decide | (simp only [List.length_cons, List.length_nil]; omega)))
  | ((with_reducible refine' r_isiT ?kd ?_); (case kd => assumption)) | ((with_reducible refine' r_isiL ?kd ?_); (case kd => assumption)) | ((with_reducible refine' r_isiTL ?kd ?_); (case kd => assumption)) | ((with_reducible refine' r_isiLT ?kd ?_); (case kd => assumption))
  | ((with_reducible refine' r_lenT ?kd ?_); (case kd => exact SqT.of (by assumption))) | ((with_reducible refine' r_lenL ?kd ?_); (case kd => exact SqL.of (by assumption)))
  | ((with_reducible refine' r_ixT ?ka ?kb ?_); (case ka => exact SqT.of (by assumption)); (case kb => exact rfl)) | ((with_reducible refine' r_gTup ?ka ?kb ?_); (case ka => exact SqT.of (by assumption)); (case kb => exact rfl))
  | ((with_reducible refine' r_dT ?kd ?_); (case kd => walk_at "pos")) | ((with_reducible refine' r_dF ?kd ?_); (case kd => walk_at "neg")) | ((with_reducible refine' r_ndT ?kd ?_); (case kd => walk_at "neg")) | ((with_reducible refine' r_ndF ?kd ?_); (case kd => walk_at "pos"))
  | ((with_reducible refine' r_pos ?kd ?_); (case kd => with_reducible exact rfl)) | ((with_reducible refine' r_neg ?kd ?_); (case kd => with_reducible exact rfl)) | ((with_reducible refine' r_pos ?kd ?_); (case kd => (with_reducible show _ = true); decide)) | ((with_reducible refine' r_neg ?kd ?_); (case kd => (with_reducible show _ = false); decide))))
local macro_rules | `(tactic| walk_at "pos") => `(tactic| first | assumption | omega | rfl | exact congrArg V.int (by omega) | exact congrArg V.str (by assumption))
local macro_rules | `(tactic| walk_at "neg") => `(tactic| first | assumption | omega | (intro hne; injection hne with hne; first | omega | contradiction | exact absurd hne (by decide +kernel)) | (intro hne; cases hne))

section
variable {P : Program} {w : World} {K : PySem.W.Frag} {mg : Str → Option Value} {base : Heap}
def spBehind (K : PySem.W.Frag) : Sp := fun vs H Q _ => ∃ (mx : Addr) (hw : How) (bl : Addr) (bs : List Int) (p : Addr) (r : Rw), vs = [.ref mx, .ref bl, .ref p] ∧ MixAt K H mx hw ∧ HowOk hw ∧ H bl = some (.lst (bs.map V.int)) ∧ H p = some (.tup r.vs) ∧ RowOk r ∧ r.b < bs.length ∧ ∀ l H', Same H H' → H' l = some (.lst ((stepB hw bs r).map V.int)) → Q (.ref l) H'
abbrev N_row_behind : List Str := ["mixing", "boards", "row", "board", "found"]
theorem sc_row_behind : FnScope N_row_behind ["mixing", "boards", "row"] (defScope Hd.srow_behind) := ⟨rfl, rfl, rfl, by decide +kernel, rfl, by decide +kernel, by decide +kernel⟩
theorem ok_row_behind (T : Hd.Tx K mg) : Cal P w K mg base 4 "row_behind" ((spBehind K)) := by
  obtain ⟨fd, F⟩ := T.d_row_behind
  have sc := sc_row_behind
  have C_Mixing_begin := ok_Mixing_begin (P := P) (w := w) (base := base) T
  have C_Mixing_beginD := ok_Mixing_beginD (P := P) (w := w) (base := base) T
  have C_Mixing_mixed := ok_Mixing_mixed (P := P) (w := w) (base := base) T
  refine calD F T.g_row_behind sc (fun vs H Q E h => ?_) (fun _ _ _ _ _ _ us hl => match us, hl with | [_, _, _], _ => rfl) (fun cdv A outer s H vs Q E hr h => ?_)
  · obtain ⟨mx, hw, bl, bs, p, r, rfl, _⟩ := h; rfl
  · obtain ⟨mx, hw, bl, bs, p, r, rfl, hm, hk, hb, hp, ok, hlt, k⟩ := h
    refine ⟨_, (pss_cons (sn 3 sc.nd (pe_ix (ixT K) (pv 2) pe_int (fun _ _ => rfl)))
      (pss_cons (sn 4 sc.nd (pe_callTy call_list_of (by rfl) T.f_list (by decide +kernel) (pa_cons (pv 1) pa_nil)))
      (pss_cons (ps_asg (pe_ifExp (pt_cmpR op_eq (pe_ix (ixT K) (pv 2) pe_int (fun _ _ => rfl)) (pe_gS T.s_RESET) (nomark _)) (pmK0 C_Mixing_begin hr (by decide) (pv 0) (pk_cons pe_bl pk_nil)) (pm C_Mixing_mixed hr (by decide) (pv 0) (pa_cons (pe_ix (ixL K) (pv 1) (pv 3) (fun _ _ => rfl)) (pa_cons (pv 2) pa_nil)))) (pg_sub (pv 4) (pv 3) set_list))
      (pss_one (ps_ret (pv 4)))))), ?_⟩
    obtain ⟨dx, fs, ha, M⟩ := hm.ex
    have hp' : H p = some (.tup [.int r.b, .str r.w, .str r.nm, .int r.nt]) := hp
    try dsimp only [cxOf]
    walk_at "go"
    
    refine ⟨bl, _, rfl, .inl (.of hb), ?_⟩
    refine fun l nl => ?_
    generalize hh : upd H l _ = H1
    have s1 : Same H H1 := hh ▸ Same.new nl
    have e1 : H1 l = some _ := hh ▸ upd_same
    clear hh
    have hp1 := s1 _ _ hp'
    have hb1 := s1 _ _ hb
    walk_at "go"
    rw [decS]
    by_cases h : r.w = "reset"
    · walk_at "go"
      refine ⟨mx, dx, fs, rfl, s1 _ _ ha, M.nb, ?_⟩
      walk_at "go"
      refine ⟨rfl, rfl, mx, true, rfl, ?_⟩
      walk_at "go"
      refine ⟨l, _, _, r.b.toNat, rfl, rfl, e1, ixN_of ok.b0 (by rw [List.length_map]; exact hlt), ?_⟩
      walk_at "go"
      refine k l _ (Same.own s1 nl) ?_
      rw [upd_same]
      unfold stepB
      rw [if_pos h, List.map_set]
      rfl
    · walk_at "go"
      refine ⟨mx, dx, fs, rfl, s1 _ _ ha, M.nm, ?_⟩
      walk_at "go"
      refine r_ixL (.of hb1) (atI_ints ok.b0 hlt) ?_
      walk_at "go"
      refine ⟨mx, hw, _, p, r, rfl, hm.same s1, hk, hp1, ok, ?_⟩
      walk_at "go"
      refine ⟨l, _, _, r.b.toNat, rfl, rfl, e1, ixN_of ok.b0 (by rw [List.length_map]; exact hlt), ?_⟩
      walk_at "go"
      refine k l _ (Same.own s1 nl) ?_
      rw [upd_same]
      unfold stepB
      rw [if_neg h, List.map_set]
def spReplays (K : PySem.W.Frag) : Sp := fun vs H Q _ => ∃ (mx : Addr) (hw : How) (l : Addr) (ps : List Addr) (rows : List Rw) (m fx : Int), vs = [.ref mx, .ref l, .int m, .int fx] ∧ MixAt K H mx hw ∧ HowOk hw ∧ H l = some (.lst (ps.map V.ref)) ∧ RowsAt H ps rows ∧ (∀ r ∈ rows, RowOk r) ∧ 0 ≤ m ∧ m ≤ 8 ∧ rows.length ≤ 1000 ∧ fault rows m fx = none ∧ ∀ (q : Addr) (ls : List Addr) (lp : Addr) (H' : Hp), Same H H' → H' q = some (.lst (ls.map V.ref ++ [.ref lp])) → H' lp = some (.lst ((replayB hw rows m.toNat).map V.int)) → Q (.ref q) H'
abbrev N_replays : List Str := ["mixing", "log", "many", "fixed", "board", "found", "row"]
theorem sc_replays : FnScope N_replays ["mixing", "log", "many", "fixed"] (defScope Hd.sreplays) := ⟨rfl, rfl, rfl, by decide +kernel, rfl, by decide +kernel, by decide +kernel⟩
theorem ok_replays (T : Hd.Tx K mg) : CalK P w K mg base 7 "replays" ((spReplays K)) 2 ["many", "fixed"] := by
  obtain ⟨fd, F⟩ := T.d_replays
  have sc := sc_replays
  have C_row_behind := ok_row_behind (P := P) (w := w) (base := base) T
  have C_Mixing_begin := ok_Mixing_begin (P := P) (w := w) (base := base) T
  have C_Mixing_beginD := ok_Mixing_beginD (P := P) (w := w) (base := base) T
  have C_look_log := ok_look_log (P := P) (w := w) (base := base) T
  refine calKD F T.g_replays sc (fun vs H Q E h => ?_) (fun _ _ _ _ _ _ us ws h1 h2 => match us, ws, h1, h2 with | [_, _], [_, _], _, _ => rfl) (fun cdv A outer s H vs Q E hr h => ?_)
  · obtain ⟨mx, hw, l, ps, rows, m, fx, rfl, _⟩ := h; rfl
  · obtain ⟨mx, hw, l, ps, rows, m, fx, rfl, hm, hk, hl, hR, ok, h0, h8, hz, e, k⟩ := h
    refine ⟨_, (pss_cons (ps_expr (pc C_look_log hr (by decide) (pa_cons (pv 1) (pa_cons (pv 2) (pa_cons (pv 3) pa_nil)))))
      (pss_cons (sn 5 sc.nd (pe_lst (pa_cons (pe_lc (own := [("board", 4)]) (g := (gName 4)) (tt := tYes) rfl sc.nd (pi_range1 (by rfl) T.f_range (pa_cons (pv 2) pa_nil)) (blkOk_by (own := [("board", 4)]) (N := N_replays) (sc := defScope Hd.sreplays) (by decide +kernel)) (fun _ _ _ _ _ => (gn 4 sc.nd)) (fun _ _ _ _ _ => pts_nil) (fun _ _ _ _ _ => (pm0D C_Mixing_beginD hr (by decide) (pv 0)))) pa_nil)))
      (pss_cons (ps_for PassesOwn.never rfl (pi_list (pv 1)) (gn 6 sc.nd) (pss_one (ps_expr (pe_bm PySem.F.plainAttrs_list PySem.F.slot_list_append PySem.F.type_list_append mt_append (pv 5) (pa_cons (pc C_row_behind hr (by decide) (pa_cons (pv 0) (pa_cons (pe_ix (ixL K) (pv 5) (pe_un un_neg pe_int) (fun _ _ => rfl)) (pa_cons (pv 6) pa_nil)))) pa_nil)))))
      (pss_one (ps_ret (pv 5)))))), ?_⟩
    obtain ⟨dx, fs, ha, M⟩ := hm.ex
    try dsimp only [cxOf]
    walk_at "go"
    
    refine ⟨l, ps, rows, m, fx, rfl, hl, hR, ok, e, fun H1 s1 => ?_⟩
    walk_at "go"
    refine ⟨m, rfl, by omega, by omega, fun D hD => ?_⟩
    refine lc_pure walk_range (List.replicate m.toNat (.int 1)) (by simp) hD (fun _ _ => trivial) (fun i x H2 H3 hi s2 e2 y => ?_) (fun H2 s2 e2 => ?_)
    · obtain ⟨rfl, rfl⟩ := y
      refine ⟨rfl, ?_⟩
      walk_at "go"
      refine ⟨mx, dx, fs, rfl, s2 _ _ (s1 _ _ ha), M.nb, mx, false, rfl, ?_⟩
      exact lc_pend hD (by rw [List.length_replicate]; omega) (by rw [List.getElem?_replicate, if_pos hi]; rfl) e2 s2
    walk_at "go"
    refine fun q nq => ?_
    generalize hh : upd H2 q _ = H3
    have s3 : Same H2 H3 := hh ▸ Same.new nq
    have e3 : H3 q = some _ := hh ▸ upd_same
    clear hh
    walk_at "go"
    have s03 := Same.trans s1 (Same.trans s2 s3)
    have hqn : H q = none := Same.free (Same.trans s1 s2) nq
    refine ⟨l, rfl, ⟨_, .of (s03 _ _ hl)⟩, for_it (walk_list (xs := ps.map V.ref)) (fun i σ H4 => Same H H4 ∧ ∃ ls lp u1 u2, σ = [some (.ref mx), some (.ref l), some (.int m), some (.int fx), u1, some (.ref q), u2] ∧ H4 q = some (.lst (ls.map V.ref ++ [.ref lp])) ∧ ls.length = i ∧ H4 lp = some (.lst (((rows.take i).foldl (stepB hw) (List.replicate m.toNat 1)).map V.int))) ⟨s03, [], D, _, _, rfl, e3, rfl, by rw [s3 _ _ e2]; simp⟩ (fun i σ H4 _ p => .of (p.1 _ _ hl)) (fun i x σ H4 H5 hi p y => ?_) (fun σ H4 p => ?_)⟩
    · obtain ⟨s4, ls, lp, u1, u2, rfl, hq4, hll, hlp⟩ := p
      obtain ⟨rfl, hx⟩ := y
      obtain ⟨p, hpi, rfl⟩ := map_ref hx
      obtain ⟨r, hri, hrm, hlt, hpp⟩ := hR.row hpi
      have hlen : ((rows.take i).foldl (stepB hw) (List.replicate m.toNat 1)).length = m.toNat := by rw [foldB_length, List.length_replicate]
      walk_at "go"
      refine r_ixL (.of hq4) (atI_last _ _) ?_
      walk_at "go"
      refine ⟨mx, hw, lp, _, p, r, rfl, hm.same s4, hk, hlp, s4 _ _ hpp, ok r hrm, ?_, fun l2 H6 s6 e6 => ?_⟩
      · rw [hlen]
        have := fault_lt e r hrm
        omega
      walk_at "go"
      have hq6 := s6 _ _ hq4
      refine r_append hq6 (by rw [List.length_append, List.length_map, hll]; show i + 1 ≤ 90000; omega) ?_
      walk_at "go"
      have hne : l2 ≠ q := ne_refs_ints hq6 e6
      refine ⟨Same.own (Same.trans s4 s6) hqn, ls ++ [lp], l2, _, _, rfl, ?_, by rw [List.length_append, hll]; rfl, ?_⟩
      · rw [upd_same, List.map_append]
        rfl
      · rw [upd_ne hne, e6, foldl_next hri]
    · obtain ⟨s4, ls, lp, u1, u2, rfl, hq4, hll, hlp⟩ := p
      walk_at "go"
      rw [List.length_map, hR.1, List.take_length] at hlp
      exact k q ls lp _ s4 hq4 hlp
def spReplay (K : PySem.W.Frag) : Sp := fun vs H Q _ => ∃ (mx : Addr) (hw : How) (l : Addr) (ps : List Addr) (rows : List Rw) (m fx : Int), vs = [.ref mx, .ref l, .int m, .int fx] ∧ MixAt K H mx hw ∧ HowOk hw ∧ H l = some (.lst (ps.map V.ref)) ∧ RowsAt H ps rows ∧ (∀ r ∈ rows, RowOk r) ∧ 0 ≤ m ∧ m ≤ 8 ∧ rows.length ≤ 1000 ∧ fault rows m fx = none ∧ ∀ (lp : Addr) (H' : Hp), Same H H' → H' lp = some (.lst ((replayB hw rows m.toNat).map V.int)) → Q (.ref lp) H'
abbrev N_replay : List Str := ["mixing", "log", "many", "fixed"]
theorem sc_replay : FnScope N_replay ["mixing", "log", "many", "fixed"] (defScope Hd.sreplay) := ⟨rfl, rfl, rfl, by decide +kernel, rfl, by decide +kernel, by decide +kernel⟩
theorem ok_replay (T : Hd.Tx K mg) : CalK P w K mg base 8 "replay" ((spReplay K)) 2 ["many", "fixed"] := by
  obtain ⟨fd, F⟩ := T.d_replay
  have sc := sc_replay
  have C_replays := ok_replays (P := P) (w := w) (base := base) T
  refine calKD F T.g_replay sc (fun vs H Q E h => ?_) (fun _ _ _ _ _ _ us ws h1 h2 => match us, ws, h1, h2 with | [_, _], [_, _], _, _ => rfl) (fun cdv A outer s H vs Q E hr h => ?_)
  · obtain ⟨mx, hw, l, ps, rows, m, fx, rfl, _⟩ := h; rfl
  · obtain ⟨mx, hw, l, ps, rows, m, fx, rfl, hm, hk, hl, hR, ok, h0, h8, hz, e, k⟩ := h
    refine ⟨_, (pss_one (ps_ret (pe_ix (ixL K) (pcK C_replays hr (by decide) (pa_cons (pv 0) (pa_cons (pv 1) pa_nil)) (pk_cons (pv 2) (pk_cons (pv 3) pk_nil))) (pe_un un_neg pe_int) (fun _ _ => rfl)))), ?_⟩
    try dsimp only [cxOf]
    walk_at "go"
    
    refine ⟨rfl, rfl, mx, hw, l, ps, rows, m, fx, rfl, hm, hk, hl, hR, ok, h0, h8, hz, e, fun q ls lp H1 s1 e1 e2 => ?_⟩
    walk_at "go"
    refine r_ixL (.of e1) (atI_last _ _) ?_
    exact k lp _ s1 e2
def spLeads (K : PySem.W.Frag) : Sp := fun vs H Q _ => ∃ (mx : Addr) (hw : How) (l : Addr) (ps : List Addr) (rows : List Rw) (vl : Addr) (vals : List Int) (m fx : Int), vs = [.ref mx, .ref l, .ref vl, .int m, .int fx] ∧ MixAt K H mx hw ∧ HowOk hw ∧ H l = some (.lst (ps.map V.ref)) ∧ RowsAt H ps rows ∧ (∀ r ∈ rows, RowOk r) ∧ 0 ≤ m ∧ m ≤ 8 ∧ rows.length ≤ 1000 ∧ H vl = some (.lst (vals.map V.int)) ∧ ∀ H', Same H H' → Q (.bl (leadsB hw rows vals m fx)) H'
abbrev N_leads_to : List Str := ["mixing", "log", "values", "many", "fixed"]
theorem sc_leads_to : FnScope N_leads_to ["mixing", "log", "values", "many", "fixed"] (defScope Hd.sleads_to) := ⟨rfl, rfl, rfl, by decide +kernel, rfl, by decide +kernel, by decide +kernel⟩
theorem ok_leads_to (T : Hd.Tx K mg) : CalK P w K mg base 9 "leads_to" ((spLeads K)) 3 ["many", "fixed"] := by
  obtain ⟨fd, F⟩ := T.d_leads_to
  have sc := sc_leads_to
  have C_replay := ok_replay (P := P) (w := w) (base := base) T
  have C_fault := ok_fault (P := P) (w := w) (base := base) T
  refine calKD F T.g_leads_to sc (fun vs H Q E h => ?_) (fun _ _ _ _ _ _ us ws h1 h2 => match us, ws, h1, h2 with | [_, _, _], [_, _], _, _ => rfl) (fun cdv A outer s H vs Q E hr h => ?_)
  · obtain ⟨mx, hw, l, ps, rows, vl, vals, m, fx, rfl, _⟩ := h; rfl
  · obtain ⟨mx, hw, l, ps, rows, vl, vals, m, fx, rfl, hm, hk, hl, hR, ok, h0, h8, hz, hv, k⟩ := h
    refine ⟨_, (pss_cons (ps_if (pt_cmpR op_notN (pcK C_fault hr (by decide) (pa_cons (pv 1) pa_nil) (pk_cons (pv 3) (pk_cons (pv 4) pk_nil))) pe_non (nomark _)) (pss_one (ps_ret pe_bl)) pss_nil)
      (pss_one (ps_ret (pe_cmpR (op_eqD hr.units) (pcK C_replay hr (by decide) (pa_cons (pv 0) (pa_cons (pv 1) pa_nil)) (pk_cons (pv 3) (pk_cons (pv 4) pk_nil))) (pe_callTy call_list_of (by rfl) T.f_list (by decide +kernel) (pa_cons (pv 2) pa_nil)) (nomark _))))), ?_⟩
    try dsimp only [cxOf]
    walk_at "go"
    
    refine ⟨rfl, rfl, l, ps, rows, m, fx, rfl, hl, hR, ok, fun H1 s1 => ?_⟩
    have ek : ∀ b H2, Same H H2 → b = leadsB hw rows vals m fx → Q (.bl b) H2 := fun b H2 s e => e ▸ k H2 s
    cases e : fault rows m fx with
    | some i =>
      walk_at "go"
      refine ek _ _ s1 ?_
      unfold leadsB
      rw [e]
    | none =>
      walk_at "go"
      refine ⟨rfl, rfl, mx, hw, l, ps, rows, m, fx, rfl, hm.same s1, hk, s1 _ _ hl, hR.same s1, ok, h0, h8, hz, e, fun lp H2 s2 e2 => ?_⟩
      walk_at "go"
      refine ⟨vl, _, rfl, .inl (.of (s2 _ _ (s1 _ _ hv))), ?_⟩
      refine fun v2 nv => ?_
      generalize hh : upd H2 v2 _ = H3
      have s3 : Same H2 H3 := hh ▸ Same.new nv
      have e3 : H3 v2 = some _ := hh ▸ upd_same
      clear hh
      walk_at "go"
      refine ⟨_, _, dI_at (.of (s3 _ _ e2)), dI_at (.of e3), dI_shaped _, dI_shaped _, ?_⟩
      refine ek _ _ (Same.trans s1 (Same.trans s2 s3)) ?_
      rw [dI_eqv]
      unfold leadsB
      rw [e]
end
end Fx

/-! A5: defs and their promises -/
namespace Fx
open PySem PySem.Spec PyProof.Rows L2 Sv Mr
local macro_rules | `(tactic| walk_at "go") => `(tactic| repeat (first
  | with_reducible refine r_seq ?_ | with_reducible refine r_asg ?_ | with_reducible refine r_gn ?_ | with_reducible refine r_ret ?_ | with_reducible refine r_ifS ?_
  | ((with_reducible refine' r_var ?kv ?_); (case kv => exact rfl)) | with_reducible refine r_c ?_ | with_reducible refine r_op ?_ | with_reducible refine r_I0 ?_ | with_reducible refine r_cons ?_ | with_reducible refine r_nil ?_
  | with_reducible refine r_cb ?_ | with_reducible refine r_call ?_ | with_reducible refine r_test ?_ | with_reducible refine r_tB ?_ | with_reducible refine r_k ?_ | with_reducible refine r_or ?_ | with_reducible refine r_and ?_ | with_reducible refine r_not ?_
  | with_reducible refine r_andV ?_ | with_reducible refine r_orV ?_ | with_reducible refine r_notV ?_ | with_reducible refine r_if ?_ | with_reducible refine r_T ?_ | with_reducible refine r_F ?_ | with_reducible refine r_Tn ?_ | with_reducible refine r_Fn ?_
  | with_reducible refine r_isiS ?_ | with_reducible refine r_isiI ?_ | with_reducible refine r_isiIB ?_ | with_reducible refine r_chain ?_ | with_reducible refine r_un ?_ | with_reducible refine r_drop ?_ | with_reducible refine r_tup ?_ | with_reducible refine r_lst ?_
  | ((with_reducible refine' r_eq ?kv ?_); (case kv => exact rfl)) | ((with_reducible refine' r_ne ?kv ?_); (case kv => exact rfl)) | with_reducible refine r_nx ?_ | with_reducible refine r_retN ?_ | with_reducible refine r_yes ?_ | ((with_reducible refine' r_I ?kd ?_); (case kd => first | exact Or.inr ⟨by decide, by decide⟩ | exact ⟨by decide, by decide⟩ | exact ⟨by decide, by decide, by decide⟩ | (show (0 : Int) < _; first | decide | omega)))
  | with_reducible refine r_gCons ?_ | with_reducible refine r_gNil ?_ | with_reducible refine r_tPar ?_ | with_reducible refine r_par ?_ | with_reducible refine r_tPar3 ?_ | with_reducible refine r_par3 ?_ | with_reducible refine r_sl ?_ | with_reducible refine r_part ?_ | with_reducible refine r_parti ?_ | with_reducible refine r_nopart ?_ | with_reducible refine r_gSub ?_ | with_reducible refine r_rU ?_ | with_reducible refine r_bm ?_ | ((with_reducible refine' r_tyL ?kd ?_); (case kd => assumption)) | with_reducible refine r_nn ?_ | with_reducible refine r_meth ?_ | with_reducible refine r_methN ?_ | with_reducible refine r_callN ?_ | with_reducible refine r_fld ?_ | with_reducible refine r_lc ?_ | with_reducible refine r_for ?_ | with_reducible refine r_iList ?_ | with_reducible refine r_iTup ?_ | with_reducible refine r_iStr ?_ | with_reducible refine r_iRng1 ?_ | with_reducible refine r_iEnum ?_ | with_reducible refine r_iZip ?_ | with_reducible refine r_iZipA ?_
  | ((with_reducible refine' r_sz ?kz ?_); (case kz => first | decide | (simp only [List.length_cons, List.length_nil]; omega)))
  | ((with_reducible refine' r_isiT ?kd ?_); (case kd => assumption)) | ((with_reducible refine' r_isiL ?kd ?_); (case kd => assumption)) | ((with_reducible refine' r_isiTL ?kd ?_); (case kd => assumption)) | ((with_reducible refine' r_isiLT ?kd ?_); (case kd => assumption))
  | ((with_reducible refine' r_lenT ?kd ?_); (case kd => exact SqT.of (by assumption))) | ((with_reducible refine' r_lenL ?kd ?_); (case kd => exact SqL.of (by assumption)))
  | ((with_reducible refine' r_ixT ?ka ?kb ?_); (case ka => exact SqT.of (by assumption)); (case kb => exact rfl)) | ((with_reducible refine' r_gTup ?ka ?kb ?_); (case ka => exact SqT.of (by assumption)); (case kb => exact rfl))
  | ((with_reducible refine' r_dT ?kd ?_); (case kd => walk_at "pos")) | ((with_reducible refine' r_dF ?kd ?_); (case kd => walk_at "neg")) | ((with_reducible refine' r_ndT ?kd ?_); (case kd => walk_at "neg")) | ((with_reducible refine' r_ndF ?kd ?_); (case kd => walk_at "pos"))
  | ((with_reducible refine' r_pos ?kd ?_); (case kd => with_reducible exact rfl)) | ((with_reducible refine' r_neg ?kd ?_); (case kd => with_reducible exact rfl)) | ((with_reducible refine' r_pos ?kd ?_); (case kd => (with_reducible show _ = true); decide)) | ((with_reducible refine' r_neg ?kd ?_); (case kd => (with_reducible show _ = false); decide))))
local macro_rules | `(tactic| walk_at "pos") => `(tactic| first | assumption | omega | rfl | exact congrArg V.int (by omega) | exact congrArg V.str (by assumption))
local macro_rules | `(tactic| walk_at "neg") => `(tactic| first | assumption | omega | (intro hne; injection hne with hne; first | omega | contradiction | exact absurd hne (by decide +kernel)) | (intro hne; cases hne))

section
variable {P : Program} {w : World} {K : PySem.W.Frag} {mg : Str → Option Value} {base : Heap}
theorem r_iEz {σ : L2.St} {H : Hp} {R : It → Hp → Prop} {ta : TA} (h : ta σ H fun vs H1 => ∃ a b ys, vs = [.ref a, .ref b] ∧ SqL K H1 a [] ∧ SqL K H1 b ys ∧ R (Ite0 K a b) H1) : iEz K ta σ H R := h
theorem for_ez {a b : Addr} {ys : List V} {g : TG} {tb : TS} {D : Ends} {σ : L2.St} {H : Hp} (h1 : SqL K H a []) (h2 : SqL K H b ys) (h : D.nx σ H) : ForB g tb D σ (Ite0 K a b) H :=
  ⟨fun i m σ' H' => σ' = σ ∧ H' = H, ⟨0, rfl, rfl⟩, fun i m σ' H' p => .inl (by obtain ⟨rfl, rfl⟩ := p; exact ⟨⟨h1, ys, h2⟩, h⟩)⟩
theorem r_fl {a C dx : Addr} {fs : List (Str × V)} {x : Str} {v : V} {Q : V → Hp → Prop} {H : Hp} (ho : H a = some (.ins C dx fs)) (c : Cls K C) (n : NoAttr K C x) (l : fs.lookup x = some v) (h : Q v H) :
    ∃ (b D dx : Addr) (fs : List (Str × V)) (v : V), V.ref a = .ref b ∧ H b = some (.ins D dx fs) ∧ Cls K D ∧ NoAttr K D x ∧ fs.lookup x = some v ∧ Q v H := ⟨a, C, dx, fs, v, rfl, ho, c, n, l, h⟩

def spFF (K : PySem.W.Frag) : Sp := fun vs H Q _ => ∃ (a b : Addr) (ys : List V), vs = [.ref a, .ref b] ∧ SqL K H a [] ∧ SqL K H b ys ∧ Q .non H
abbrev N_first_false : List Str := ["plan", "log", "place", "due", "row"]
theorem sc_first_false : FnScope N_first_false ["plan", "log"] (defScope Hd.sfirst_false) := ⟨rfl, rfl, rfl, by decide +kernel, rfl, by decide +kernel, by decide +kernel⟩
theorem ok_first_false (T : Hd.Tx K mg) : Cal P w K mg base 1 "first_false" ((spFF K)) := by
  obtain ⟨fd, F⟩ := T.d_first_false
  have sc := sc_first_false
  refine calD F T.g_first_false sc (fun vs H Q E h => ?_) (fun _ _ _ _ _ _ us hl => match us, hl with | [_, _], _ => rfl) (fun cdv A outer s H vs Q E hr h => ?_)
  · obtain ⟨a, b, ys, rfl, _⟩ := h; rfl
  · obtain ⟨a, b, ys, rfl, h1, h2, k⟩ := h
    refine ⟨_, (pss_cons (ps_for PassesOwn.never rfl (pi_ez (by rfl) T.f_enumerate (by rfl) T.f_zip (pa_cons (pv 0) (pa_cons (pv 1) pa_nil))) (pg_tup (by rfl) (pgs_cons (gn 2 sc.nd) (pgs_cons (pg_tup (by rfl) (pgs_cons (gn 3 sc.nd) (pgs_cons (gn 4 sc.nd) pgs_nil))) pgs_nil))) (pss_one (ps_if (pt_cmpR (op_neD hr.units) (pv 3) (pv 4) (nomark _)) (pss_one (ps_ret (pv 2))) pss_nil)))
      (pss_one (ps_ret pe_non))), ?_⟩
    try dsimp only [cxOf]
    walk_at "go"
    
    refine r_iEz ?_
    walk_at "go"
    exact ⟨a, b, ys, rfl, h1, h2, for_ez h1 h2 (by walk_at "go"; exact k)⟩
def spVerdict (K : PySem.W.Frag) : Sp := fun vs H Q _ => ∃ (a : Addr) (v : V), vs = [.ref a, v] ∧ SqL K H a [] ∧ ∀ p H', H p = none → H' = upd H p (.tup [.str "fits"]) → Q (.ref p) H'
abbrev N_verdict : List Str := ["policy", "log", "number", "rule", "place"]
theorem sc_verdict : FnScope N_verdict ["policy", "log"] (defScope Hd.sverdict) := ⟨rfl, rfl, rfl, by decide +kernel, rfl, by decide +kernel, by decide +kernel⟩
theorem ok_verdict (T : Hd.Tx K mg) : Cal P w K mg base 1 "verdict" ((spVerdict K)) := by
  obtain ⟨fd, F⟩ := T.d_verdict
  have sc := sc_verdict
  refine calD F T.g_verdict sc (fun vs H Q E h => ?_) (fun _ _ _ _ _ _ us hl => match us, hl with | [_, _], _ => rfl) (fun cdv A outer s H vs Q E hr h => ?_)
  · obtain ⟨a, v, rfl, _⟩ := h; rfl
  · obtain ⟨a, v, rfl, h1, k⟩ := h
    refine ⟨_, (pss_cons (ps_for PassesOwn.never rfl (pi_enum (by rfl) T.f_enumerate (pa_cons (pv 0) pa_nil)) (pg_tup (by rfl) (pgs_cons (gn 2 sc.nd) (pgs_cons (gn 3 sc.nd) pgs_nil))) (pss_cons ps_never
      (pss_one ps_never)))
      (pss_one (ps_ret (pe_tup (pa_cons (pe_gS T.s_FITS) pa_nil))))), ?_⟩
    try dsimp only [cxOf]
    walk_at "go"
    
    refine ⟨a, _, rfl, h1, for_it (walk_enum (xs := [])) (fun i σ H1 => H1 = H) rfl (fun i σ H1 _ p => p ▸ h1) (fun i x σ H1 H2 hi p y => absurd hi (Nat.not_lt_zero _)) (fun σ H1 p => ?_)⟩
    subst p
    walk_at "go"
    exact fun p n => k p _ n rfl
def spFits (K : PySem.W.Frag) : Sp := fun vs H Q _ => ∃ (a : Addr) (v : V), vs = [.ref a, v] ∧ SqL K H a [] ∧ ∀ H', Same H H' → Q (.bl true) H'
abbrev N_fits : List Str := ["policy", "log"]
theorem sc_fits : FnScope N_fits ["policy", "log"] (defScope Hd.sfits) := ⟨rfl, rfl, rfl, by decide +kernel, rfl, by decide +kernel, by decide +kernel⟩
theorem ok_fits (T : Hd.Tx K mg) : Cal P w K mg base 2 "fits" ((spFits K)) := by
  obtain ⟨fd, F⟩ := T.d_fits
  have sc := sc_fits
  have C_verdict := ok_verdict (P := P) (w := w) (base := base) T
  refine calD F T.g_fits sc (fun vs H Q E h => ?_) (fun _ _ _ _ _ _ us hl => match us, hl with | [_, _], _ => rfl) (fun cdv A outer s H vs Q E hr h => ?_)
  · obtain ⟨a, v, rfl, _⟩ := h; rfl
  · obtain ⟨a, v, rfl, h1, k⟩ := h
    refine ⟨_, (pss_one (ps_ret (pe_cmpR (op_eqD hr.units) (pc C_verdict hr (by decide) (pa_cons (pv 0) (pa_cons (pv 1) pa_nil))) (pe_tup (pa_cons (pe_gS T.s_FITS) pa_nil)) (nomark _)))), ?_⟩
    try dsimp only [cxOf]
    walk_at "go"
    
    refine ⟨a, v, rfl, h1, fun p H1 n e => ?_⟩
    have s1 : Same H H1 := e ▸ Same.new n
    have hp : H1 p = some (.tup [.str "fits"]) := e ▸ upd_same
    walk_at "go"
    refine fun q nq => ?_
    generalize hh : upd H1 q _ = H2
    have s2 : Same H1 H2 := hh ▸ Same.new nq
    have e2 : H2 q = some _ := hh ▸ upd_same
    clear hh
    walk_at "go"
    refine ⟨.tuple [.str "fits"], .tuple [.str "fits"], .tup (.of (s2 _ _ hp)) (.cons (.str _) .nil), .tup (.of e2) (.cons (.str _) .nil), by decide +kernel, by decide +kernel, ?_⟩
    rw [show PyData.eqv (.tuple [.str "fits"]) (.tuple [.str "fits"]) = true by decide +kernel]
    exact k _ (Same.trans s1 s2)
def spIsRows (K : PySem.W.Frag) : Sp := fun vs H Q _ => ∃ (l : Addr) (ps : List Addr) (rows : List Rw), vs = [.ref l] ∧ H l = some (.lst (ps.map V.ref)) ∧ RowsAt H ps rows ∧ (∀ r ∈ rows, RowOk r) ∧ rows.length ≤ 1000 ∧ ∀ H', Same H H' → Q (.bl true) H'
theorem kit_listtup : PySem.W.kitAny K (.type "list") [.type "list", .type "tuple"] = some true := kitAny_cons (b := true) (kit_ty (by decide +kernel)) (fun h => by cases h) (fun _ => rfl)
abbrev N_is_rows : List Str := ["thing", "row"]
theorem sc_is_rows : FnScope N_is_rows ["thing"] (defScope Hd.sis_rows) := ⟨rfl, rfl, rfl, by decide +kernel, rfl, by decide +kernel, by decide +kernel⟩
theorem ok_is_rows (T : Hd.Tx K mg) : Cal P w K mg base 4 "is_rows" ((spIsRows K)) := by
  obtain ⟨fd, F⟩ := T.d_is_rows
  have sc := sc_is_rows
  have C_is_row := ok_is_row (P := P) (w := w) (base := base) T
  refine calD F T.g_is_rows sc (fun vs H Q E h => ?_) (fun _ _ _ _ _ _ us hl => match us, hl with | [_], _ => rfl) (fun cdv A outer s H vs Q E hr h => ?_)
  · obtain ⟨l, ps, rows, rfl, _⟩ := h; rfl
  · obtain ⟨l, ps, rows, rfl, hl, hR, ok, hz, k⟩ := h
    refine ⟨_, (pss_one (ps_ret (pe_and (pe_callB call_isiT (by rfl) T.f_isinstance (by decide +kernel) (pa_cons (pv 0) (pa_cons (pe_tup (pa_cons (pe_gTy (n := "list") T.f_list (by decide +kernel)) (pa_cons (pe_gTy (n := "tuple") T.f_tuple (by decide +kernel)) pa_nil))) pa_nil))) (pe_one (pe_callB (cr_all rfl) (by rfl) T.f_all (by decide +kernel) (pa_cons (pe_lc (own := [("row", 1)]) (g := (gName 1)) (tt := tYes) rfl sc.nd (pi_list (pv 0)) (blkOk_by (own := [("row", 1)]) (N := N_is_rows) (sc := defScope Hd.sis_rows) (by decide +kernel)) (fun _ _ _ _ _ => (gn 1 sc.nd)) (fun _ _ _ _ _ => pts_nil) (fun _ _ _ _ _ => (pc C_is_row hr (by decide) (pa_cons (pv 1) pa_nil)))) pa_nil)))))), ?_⟩
    try dsimp only [cxOf]
    walk_at "go"
    
    refine fun p np => ?_
    generalize hh : upd H p _ = H1
    have s1 : Same H H1 := hh ▸ Same.new np
    have e1 : H1 p = some _ := hh ▸ upd_same
    clear hh
    refine ⟨_, p, _, _, _, true, rfl, e1, .cons (.ty _) (.cons (.ty _) .nil), .base (.lst (s1 _ _ hl)), kit_listtup, ?_⟩
    walk_at "go"
    refine ⟨l, rfl, ⟨_, .of (s1 _ _ hl)⟩, fun D hD => ?_⟩
    refine lc_pure (walk_list (xs := ps.map V.ref)) (List.replicate ps.length (.bl true)) (by simp) hD (fun H2 s2 => .of (s2 _ _ (s1 _ _ hl))) (fun i x H2 H3 hi s2 e2 y => ?_) (fun H2 s2 e2 => ?_)
    · obtain ⟨rfl, hx⟩ := y
      obtain ⟨p, hpi, rfl⟩ := map_ref hx
      obtain ⟨r, hri, hrm, hlt, hpp⟩ := hR.row hpi
      refine ⟨rfl, ?_⟩
      walk_at "go"
      refine ⟨p, r, rfl, s2 _ _ (s1 _ _ hpp), ok r hrm, fun H4 s4 => ?_⟩
      have hi' : i < ps.length := by rw [List.length_map] at hi; exact hi
      exact lc_pend hD (by rw [List.length_replicate, hR.1]; omega) (by rw [List.getElem?_replicate, if_pos hi']) (s4 _ _ e2) (Same.trans s2 s4)
    walk_at "go"
    refine r_all (.of e2) ?_
    exact k _ (Same.trans s1 s2)
theorem _root_.Mr.RowsAt.take {H : Hp} {ps : List Addr} {rows : List Rw} (h : RowsAt H ps rows) (n : Nat) : RowsAt H (ps.take n) (rows.take n) := by
  refine ⟨by rw [List.length_take, List.length_take, h.1], fun i p r e1 e2 => ?_⟩
  rw [List.getElem?_take] at e1 e2
  by_cases c : i < n
  · rw [if_pos c] at e1 e2
    exact h.2 i p r e1 e2
  · rw [if_neg c] at e1; cases e1
theorem entD {H : Hp} {a : Ad} {d : Da} (h : StAt K H a d) : ∃ dx fs lv, H a.e = some (.ins (He.ga K "Entry") dx fs) ∧ EnF a d.key d.m d.fx lv fs ∧ LastT H lv d.elast := h.ent
theorem ck_len {H : Hp} {a : Addr} {xs : List V} (e : H a = some (.tup xs)) : SqT K H a xs := .of e
theorem decN (x : Addr) : decide (V.ref x = V.non) = false := decide_eq_false (by simp)
theorem decNN : decide (V.non = V.non) = true := decide_eq_true rfl
def spBack (K : PySem.W.Frag) : Sp := fun vs H Q _ => ∃ (a : Ad) (d : Da) (st : Int), vs = [.ref a.e, .int st] ∧ StAt K H a d ∧ Q (.bl (backB d.elast st)) H
abbrev N_Entry_goes_back : List Str := ["self", "start"]
theorem sc_Entry_goes_back : FnScope N_Entry_goes_back ["self", "start"] (defScope Hd.sEntry_goes_back) := ⟨rfl, rfl, rfl, by decide +kernel, rfl, by decide +kernel, by decide +kernel⟩
theorem ok_Entry_goes_back (T : Hd.Tx K mg) : Met P w K mg base 1 (He.ga K "Entry") "goes_back" ((spBack K)) := by
  obtain ⟨fd, F⟩ := T.d_Entry_goes_back
  have sc := sc_Entry_goes_back
  refine metD T.c_Entry T.m_Entry_goes_back F sc (fun vs H Q E h => ?_) (fun _ _ _ _ _ _ us hl => match us, hl with | [_, _], _ => rfl) (fun cdv A outer s H vs Q E hr h => ?_)
  · obtain ⟨a, d, st, rfl, _⟩ := h; rfl
  · obtain ⟨a, d, st, rfl, S, k⟩ := h
    refine ⟨_, (pss_one (ps_ret (pe_and (pe_cmpR op_notN (pe_fld (pv 0) rfl) pe_non (nomark _)) (pe_one (pe_cmpR op_lt (pv 1) (pe_ix (ixT K) (pe_fld (pv 0) rfl) pe_int (fun _ _ => rfl)) (nomark _)))))), ?_⟩
    obtain ⟨dx, fs, lv, eE, F, hL⟩ := entD S
    try dsimp only [cxOf]
    walk_at "go"
    
    refine r_fldv eE T.c_Entry T.n_Entry_own_last F.last ?_
    walk_at "go"
    cases hE : d.elast with
    | none =>
      rw [hE] at hL k
      obtain rfl : lv = .non := hL
      rw [show decide (V.non = V.non) = true from decide_eq_true rfl]
      walk_at "go"
      exact k
    | some x =>
      obtain ⟨s0, rs⟩ := x
      rw [hE] at hL k
      obtain ⟨p, t, ps, rfl, hp, ht, hR⟩ := hL
      rw [decN]
      walk_at "go"
      refine r_fldv eE T.c_Entry T.n_Entry_own_last F.last ?_
      walk_at "go"
      exact k
def spCut (K : PySem.W.Frag) : Sp := fun vs H Q _ => ∃ (a : Ad) (d : Da) (st : Int) (l : Addr) (ps : List Addr) (rows : List Rw), vs = [.ref a.e, .int st, .ref l] ∧ StAt K H a d ∧ H l = some (.lst (ps.map V.ref)) ∧ RowsAt H ps rows ∧ (∀ r ∈ rows, RowOk r) ∧ rows.length ≤ 1000 ∧ ∀ H', Same H H' → Q (.bl (cutB d.elast st rows)) H'
abbrev N_Entry_is_cut : List Str := ["self", "start", "log"]
theorem sc_Entry_is_cut : FnScope N_Entry_is_cut ["self", "start", "log"] (defScope Hd.sEntry_is_cut) := ⟨rfl, rfl, rfl, by decide +kernel, rfl, by decide +kernel, by decide +kernel⟩
theorem ok_Entry_is_cut (T : Hd.Tx K mg) : Met P w K mg base 1 (He.ga K "Entry") "is_cut" ((spCut K)) := by
  obtain ⟨fd, F⟩ := T.d_Entry_is_cut
  have sc := sc_Entry_is_cut
  refine metD T.c_Entry T.m_Entry_is_cut F sc (fun vs H Q E h => ?_) (fun _ _ _ _ _ _ us hl => match us, hl with | [_, _, _], _ => rfl) (fun cdv A outer s H vs Q E hr h => ?_)
  · obtain ⟨a, d, st, l, ps, rows, rfl, _⟩ := h; rfl
  · obtain ⟨a, d, st, l, ps, rows, rfl, S, hl, hR, ok, hz, k⟩ := h
    refine ⟨_, (pss_cons (ps_if (PW.pt (pw_or (pt_cmpR op_isN (pe_fld (pv 0) rfl) pe_non (nomark _)) (pw_or1 (pt_cmpR op_ne (pv 1) (pe_ix (ixT K) (pe_fld (pv 0) rfl) pe_int (fun _ _ => rfl)) (nomark _))))) (pss_one (ps_ret pe_bl)) pss_nil)
      (pss_one (ps_ret (pe_cmpR (op_neD hr.units) (pe_slice sl_list (pv 2) po_none (po_some (pe_callB call_len (by rfl) T.f_len (by decide +kernel) (pa_cons (pe_ix (ixT K) (pe_fld (pv 0) rfl) pe_int (fun _ _ => rfl)) pa_nil)))) (pe_callTy call_list_of (by rfl) T.f_list (by decide +kernel) (pa_cons (pe_ix (ixT K) (pe_fld (pv 0) rfl) pe_int (fun _ _ => rfl)) pa_nil)) (nomark _))))), ?_⟩
    obtain ⟨dx, fs, lv, eE, F, hL⟩ := entD S
    have lok := S.el
    try dsimp only [cxOf]
    walk_at "go"
    
    refine r_fldv eE T.c_Entry T.n_Entry_own_last F.last ?_
    walk_at "go"
    cases hE : d.elast with
    | none =>
      rw [hE] at hL k
      obtain rfl : lv = .non := hL
      rw [show decide (V.non = V.non) = true from decide_eq_true rfl]
      walk_at "go"
      exact k _ (Same.refl _)
    | some x =>
      obtain ⟨s0, rs⟩ := x
      rw [hE] at hL k lok
      obtain ⟨p, t, qs, rfl, hp, ht, hR2⟩ := hL
      obtain ⟨l0, l1, l2⟩ := lok
      rw [decN]
      walk_at "go"
      refine r_fldv eE T.c_Entry T.n_Entry_own_last F.last ?_
      walk_at "go"
      by_cases hst : st = s0
      · subst hst
        rw [show decide (V.int st = V.int st) = true from decide_eq_true rfl]
        walk_at "go"
        refine r_fldv eE T.c_Entry T.n_Entry_own_last F.last ?_
        walk_at "go"
        refine ⟨l, _, rfl, .of hl, fun q nq => ?_⟩
        generalize hh : upd H q _ = H1
        have s1 : Same H H1 := hh ▸ Same.new nq
        have e1 : H1 q = some _ := hh ▸ upd_same
        clear hh
        walk_at "go"
        refine r_fldv (s1 _ _ eE) T.c_Entry T.n_Entry_own_last F.last ?_
        have hp1 := s1 _ _ hp
        have ht1 := s1 _ _ ht
        walk_at "go"
        refine ⟨t, _, rfl, .inr (.of ht1), ?_⟩
        refine fun v nv => ?_
        generalize hh : upd H1 v _ = H2
        have s2 : Same H1 H2 := hh ▸ Same.new nv
        have e2 : H2 v = some _ := hh ▸ upd_same
        clear hh
        have q1 := s2 _ _ e1
        have R1 : RowsAt H2 (ps.take rs.length) (rows.take rs.length) := ((hR.same s1).same s2).take _
        have R2 : RowsAt H2 qs rs := (hR2.same s1).same s2
        have q2 : H2 q = some (.lst ((ps.take rs.length).map V.ref)) := by
          rw [q1, cutV_to, List.length_map, List.length_map, hR2.1, List.map_take]
          congr 2
          by_cases c : rs.length ≤ ps.length
          · rw [Nat.min_eq_left c]
          · rw [Nat.min_eq_right (by omega), List.take_of_length_le (by rw [List.length_map]; exact Nat.le_refl _), List.take_of_length_le (by rw [List.length_map]; omega)]
        walk_at "go"
        have ok1 : ∀ r ∈ rows.take rs.length, RowOk r := fun r m => ok r (List.mem_of_mem_take m)
        refine ⟨_, _, dRs_at q2 R1, dRs_at e2 R2, dRs_shaped ok1, dRs_shaped l1, ?_⟩
        have kk := k _ (Same.trans s1 s2)
        rw [dRs_eqv]
        rw [show cutB (some (st, rs)) st rows = !decide (rows.take rs.length = rs) from by show (decide (st = st) && _) = _; rw [decide_eq_true rfl]; rfl] at kk
        exact kk
      · rw [show decide (V.int st = V.int s0) = false from decide_eq_false fun z => hst (V.int.inj z)]
        walk_at "go"
        refine (show cutB (some (s0, rs)) st rows = false from ?_) ▸ k _ (Same.refl _)
        show (decide (st = s0) && _) = false
        rw [decide_eq_false hst]
        rfl
def spFew (K : PySem.W.Frag) : Sp := fun vs H Q _ => ∃ (a : Ad) (d : Da) (t : Addr) (ps : List Addr) (vals : List Int), vs = [.ref a.e, .ref t] ∧ StAt K H a d ∧ H t = some (.tup (ps.map V.ref)) ∧ PairsAt H ps vals ∧ vals.length = d.m.toNat ∧ ∀ H', Same H H' → Q (.bl false) H'
abbrev N_Entry_is_few : List Str := ["self", "values", "board", "value"]
theorem sc_Entry_is_few : FnScope N_Entry_is_few ["self", "values"] (defScope Hd.sEntry_is_few) := ⟨rfl, rfl, rfl, by decide +kernel, rfl, by decide +kernel, by decide +kernel⟩
theorem ok_Entry_is_few (T : Hd.Tx K mg) : Met P w K mg base 1 (He.ga K "Entry") "is_few" ((spFew K)) := by
  obtain ⟨fd, F⟩ := T.d_Entry_is_few
  have sc := sc_Entry_is_few
  refine metD T.c_Entry T.m_Entry_is_few F sc (fun vs H Q E h => ?_) (fun _ _ _ _ _ _ us hl => match us, hl with | [_, _], _ => rfl) (fun cdv A outer s H vs Q E hr h => ?_)
  · obtain ⟨a, d, t, ps, vals, rfl, _⟩ := h; rfl
  · obtain ⟨a, d, t, ps, vals, rfl, S, ht, hP, hz, k⟩ := h
    refine ⟨_, (pss_one (ps_ret (pe_cmpR (op_neD hr.units) (pe_lc (own := [("board", 2), ("value", 3)]) (g := (gTup K 2 (gCons (gName 2) (gCons (gName 3) gNil)))) (tt := tYes) rfl sc.nd (pi_tup (pv 1)) (blkOk_by (own := [("board", 2), ("value", 3)]) (N := N_Entry_is_few) (sc := defScope Hd.sEntry_is_few) (by decide +kernel)) (fun _ _ _ _ _ => (pg_tup (by rfl) (pgs_cons (gn 2 sc.nd) (pgs_cons (gn 3 sc.nd) pgs_nil)))) (fun _ _ _ _ _ => pts_nil) (fun _ _ _ _ _ => (pv 2))) (pe_listRg (by rfl) (by rfl) T.f_list (prg_1 (by rfl) T.f_range (pe_fld (pv 0) rfl))) (nomark _)))), ?_⟩
    obtain ⟨dx, fs, lv, eE, F, hL⟩ := entD S
    have m1 := S.m1
    have m8 := S.m8
    try dsimp only [cxOf]
    walk_at "go"
    
    refine ⟨t, rfl, ⟨_, .of ht⟩, fun D hD => ?_⟩
    refine lc_pure (walk_tup (xs := ps.map V.ref)) ((List.range vals.length).map fun i => V.int (0 + (i : Nat))) (by rw [List.length_map, List.length_range, List.length_map, hP.1]) hD (fun H2 s2 => .of (s2 _ _ ht)) (fun i x H2 H3 hi s2 e2 y => ?_) (fun H2 s2 e2 => ?_)
    · obtain ⟨rfl, hx⟩ := y
      obtain ⟨p, hpi, rfl⟩ := map_ref hx
      obtain ⟨v, hvi, hvm, hlt, hpp⟩ := hP.val hpi
      have hp2 := s2 _ _ hpp
      walk_at "go"
      refine ⟨rfl, ?_⟩
      walk_at "go"
      refine lc_pend hD (by rw [List.length_map, List.length_range]; omega) (by rw [List.getElem?_map, List.getElem?_range hlt]; simp) e2 s2
    dsimp only [tLstRg, tRg1]
    walk_at "go"
    refine r_fldv (s2 _ _ eE) T.c_Entry T.n_Entry_own_many F.many ?_
    walk_at "go"
    refine ⟨⟨by decide, by decide, by omega, by omega, by omega⟩, ?_⟩
    refine fun q nq => ?_
    generalize hh : upd H2 q _ = H3
    have s3 : Same H2 H3 := hh ▸ Same.new nq
    have e3 : H3 q = some _ := hh ▸ upd_same
    clear hh
    walk_at "go"
    refine ⟨_, _, dI_at (ns := (List.range vals.length).map fun i => (0 + (i : Nat) : Int)) (.of (by rw [List.map_map]; exact s3 _ _ e2)), dI_at (ns := (List.range (d.m - 0).toNat).map fun i => (0 + (i : Nat) : Int)) (.of (by rw [List.map_map]; exact e3)), dI_shaped _, dI_shaped _, ?_⟩
    rw [dI_eqv, hz, show (d.m - 0).toNat = d.m.toNat by rw [Int.sub_zero], decide_eq_true rfl]
    exact k _ (Same.trans s2 s3)
def spELeads (K : PySem.W.Frag) : Sp := fun vs H Q _ => ∃ (a : Ad) (d : Da) (l : Addr) (qs : List Addr) (rows : List Rw) (t : Addr) (ps : List Addr) (vals : List Int), vs = [.ref a.e, .ref l, .ref t] ∧ StAt K H a d ∧ H l = some (.lst (qs.map V.ref)) ∧ RowsAt H qs rows ∧ (∀ r ∈ rows, RowOk r) ∧ rows.length ≤ 1000 ∧ H t = some (.tup (ps.map V.ref)) ∧ PairsAt H ps vals ∧ vals.length ≤ 100 ∧ ∀ H', Same H H' → Q (.bl (leadsB d.hw rows vals d.m d.fx)) H'
abbrev N_Entry_leads : List Str := ["self", "log", "values", "board", "value", "told"]
theorem sc_Entry_leads : FnScope N_Entry_leads ["self", "log", "values"] (defScope Hd.sEntry_leads) := ⟨rfl, rfl, rfl, by decide +kernel, rfl, by decide +kernel, by decide +kernel⟩
theorem ok_Entry_leads (T : Hd.Tx K mg) : Met P w K mg base 10 (He.ga K "Entry") "leads" ((spELeads K)) := by
  obtain ⟨fd, F⟩ := T.d_Entry_leads
  have sc := sc_Entry_leads
  have C_leads_to := ok_leads_to (P := P) (w := w) (base := base) T
  refine metD T.c_Entry T.m_Entry_leads F sc (fun vs H Q E h => ?_) (fun _ _ _ _ _ _ us hl => match us, hl with | [_, _, _], _ => rfl) (fun cdv A outer s H vs Q E hr h => ?_)
  · obtain ⟨a, d, l, qs, rows, t, ps, vals, rfl, _⟩ := h; rfl
  · obtain ⟨a, d, l, qs, rows, t, ps, vals, rfl, S, hl, hR, ok, hz, ht, hP, hz2, k⟩ := h
    refine ⟨_, (pss_cons (ps_setLc (i := 5) (own := [("board", 3), ("value", 4)]) (g := (gTup K 2 (gCons (gName 3) (gCons (gName 4) gNil)))) (tt := tYes) rfl sc.nd rfl rfl (sw_true rfl rfl rfl (by decide +kernel)) (pi_tup (pv 2)) (blkOk_by (own := [("board", 3), ("value", 4)]) (N := N_Entry_leads) (sc := defScope Hd.sEntry_leads) (by decide +kernel)) (fun _ _ _ _ _ => (pg_tup (by rfl) (pgs_cons (gn 3 sc.nd) (pgs_cons (gn 4 sc.nd) pgs_nil)))) (fun _ _ _ _ _ => pts_nil) (fun _ _ _ _ _ => (pv 4)))
      (pss_one (ps_ret (pcK C_leads_to hr (by decide) (pa_cons (pe_fld (pv 0) rfl) (pa_cons (pv 1) (pa_cons (pv 5) pa_nil))) (pk_cons (pe_fld (pv 0) rfl) (pk_cons (pe_fld (pv 0) rfl) pk_nil)))))), ?_⟩
    obtain ⟨dx, fs, lv, eE, F, hL⟩ := entD S
    have m1 := S.m1
    have m8 := S.m8
    try dsimp only [cxOf]
    walk_at "go"
    
    refine ⟨t, rfl, ⟨_, .of ht⟩, fun D hD => ?_⟩
    refine lc_pure (walk_tup (xs := ps.map V.ref)) (vals.map V.int) (by rw [List.length_map, List.length_map, hP.1]) hD (fun H2 s2 => .of (s2 _ _ ht)) (fun i x H2 H3 hi s2 e2 y => ?_) (fun H2 s2 e2 => ?_)
    · obtain ⟨rfl, hx⟩ := y
      obtain ⟨p, hpi, rfl⟩ := map_ref hx
      obtain ⟨v, hvi, hvm, hlt, hpp⟩ := hP.val hpi
      have hp2 := s2 _ _ hpp
      walk_at "go"
      refine ⟨rfl, ?_⟩
      walk_at "go"
      refine lc_pend hD (by rw [List.length_map]; omega) (by rw [List.getElem?_map, hvi]; rfl) e2 s2
    walk_at "go"
    refine r_fldv (s2 _ _ eE) T.c_Entry T.n_Entry_own_mixing F.mx ?_
    walk_at "go"
    refine r_fldv (s2 _ _ eE) T.c_Entry T.n_Entry_own_many F.many ?_
    walk_at "go"
    refine r_fldv (s2 _ _ eE) T.c_Entry T.n_Entry_own_fixed F.fixed ?_
    walk_at "go"
    refine ⟨rfl, rfl, a.mx, d.hw, l, qs, rows, D, vals, d.m, d.fx, rfl, S.mxat.same s2, S.hok, s2 _ _ hl, hR.same s2, ok, by omega, m8, hz, e2, fun H3 s3 => ?_⟩
    exact k _ (Same.trans s2 s3)
end
end Fx

/-! A6: defs and their promises -/
namespace Fx
open PySem PySem.Spec PyProof.Rows L2 Sv Mr
local macro_rules | `(tactic| walk_at "go") => `(tactic| repeat (first
  | with_reducible refine r_seq ?_ | with_reducible refine r_asg ?_ | with_reducible refine r_gn ?_ | with_reducible refine r_ret ?_ | with_reducible refine r_ifS ?_
  | ((with_reducible refine' r_var ?kv ?_); (case kv => exact rfl)) | with_reducible refine r_c ?_ | with_reducible refine r_op ?_ | with_reducible refine r_I0 ?_ | with_reducible refine r_cons ?_ | with_reducible refine r_nil ?_
  | with_reducible refine r_cb ?_ | with_reducible refine r_call ?_ | with_reducible refine r_test ?_ | with_reducible refine r_tB ?_ | with_reducible refine r_k ?_ | with_reducible refine r_or ?_ | with_reducible refine r_and ?_ | with_reducible refine r_not ?_
  | with_reducible refine r_andV ?_ | with_reducible refine r_orV ?_ | with_reducible refine r_notV ?_ | with_reducible refine r_if ?_ | with_reducible refine r_T ?_ | with_reducible refine r_F ?_ | with_reducible refine r_Tn ?_ | with_reducible refine r_Fn ?_
  | with_reducible refine r_isiS ?_ | with_reducible refine r_isiI ?_ | with_reducible refine r_isiIB ?_ | with_reducible refine r_chain ?_ | with_reducible refine r_un ?_ | with_reducible refine r_drop ?_ | with_reducible refine r_tup ?_ | with_reducible refine r_lst ?_
  | ((with_reducible refine' r_eq ?kv ?_); (case kv => exact rfl)) | ((with_reducible refine' r_ne ?kv ?_); (case kv => exact rfl)) | with_reducible refine r_nx ?_ | with_reducible refine r_retN ?_ | with_reducible refine r_yes ?_ | ((with_reducible refine' r_I ?kd ?_); (case kd => first | exact Or.inr ⟨by decide, by decide⟩ | exact ⟨by decide, by decide⟩ | exact ⟨by decide, by decide, by decide⟩ | (show (0 : Int) < _; first | decide | omega)))
  | with_reducible refine r_gCons ?_ | with_reducible refine r_gNil ?_ | with_reducible refine r_tPar ?_ | with_reducible refine r_par ?_ | with_reducible refine r_tPar3 ?_ | with_reducible refine r_par3 ?_ | with_reducible refine r_sl ?_ | with_reducible refine r_part ?_ | with_reducible refine r_parti ?_ | with_reducible refine r_nopart ?_ | with_reducible refine r_gSub ?_ | with_reducible refine r_rU ?_ | with_reducible refine r_bm ?_ | ((with_reducible refine' r_tyL ?kd ?_); (case kd => assumption)) | with_reducible refine r_nn ?_ | with_reducible refine r_meth ?_ | with_reducible refine r_methN ?_ | with_reducible refine r_callN ?_ | with_reducible refine r_fld ?_ | with_reducible refine r_lc ?_ | with_reducible refine r_for ?_ | with_reducible refine r_iList ?_ | with_reducible refine r_iTup ?_ | with_reducible refine r_iStr ?_ | with_reducible refine r_iRng1 ?_ | with_reducible refine r_iEnum ?_ | with_reducible refine r_iZip ?_ | with_reducible refine r_iZipA ?_
  | ((with_reducible refine' r_sz ?kz ?_); (case kz => first | decide | (simp only [List.length_cons, List.length_nil]; omega)))
  | ((with_reducible refine' r_isiT ?kd ?_); (case kd => assumption)) | ((with_reducible refine' r_isiL ?kd ?_); (case kd => assumption)) | ((with_reducible refine' r_isiTL ?kd ?_); (case kd => assumption)) | ((with_reducible refine' r_isiLT ?kd ?_); (case kd => assumption))
  | ((with_reducible refine' r_lenT ?kd ?_); (case kd => exact SqT.of (by assumption))) | ((with_reducible refine' r_lenL ?kd ?_); (case kd => exact SqL.of (by assumption)))
  | ((with_reducible refine' r_ixT ?ka ?kb ?_); (case ka => exact SqT.of (by assumption)); (case kb => exact rfl)) | ((with_reducible refine' r_gTup ?ka ?kb ?_); (case ka => exact SqT.of (by assumption)); (case kb => exact rfl))
  | ((with_reducible refine' r_dT ?kd ?_); (case kd => walk_at "pos")) | ((with_reducible refine' r_dF ?kd ?_); (case kd => walk_at "neg")) | ((with_reducible refine' r_ndT ?kd ?_); (case kd => walk_at "neg")) | ((with_reducible refine' r_ndF ?kd ?_); (case kd => walk_at "pos"))
  | ((with_reducible refine' r_pos ?kd ?_); (case kd => with_reducible exact rfl)) | ((with_reducible refine' r_neg ?kd ?_); (case kd => with_reducible exact rfl)) | ((with_reducible refine' r_pos ?kd ?_); (case kd => (with_reducible show _ = true); decide)) | ((with_reducible refine' r_neg ?kd ?_); (case kd => (with_reducible show _ = false); decide))))
local macro_rules | `(tactic| walk_at "pos") => `(tactic| first | assumption | omega | rfl | exact congrArg V.int (by omega) | exact congrArg V.str (by assumption))
local macro_rules | `(tactic| walk_at "neg") => `(tactic| first | assumption | omega | (intro hne; injection hne with hne; first | omega | contradiction | exact absurd hne (by decide +kernel)) | (intro hne; cases hne))

section
variable {P : Program} {w : World} {K : PySem.W.Frag} {mg : Str → Option Value} {base : Heap}
theorem r_dpop {σ : L2.St} {H : Hp} {Q : VK} {td ty : TE} (h : td σ H fun x H1 => ∃ a, x = .ref a ∧ IsD H1 a ∧ ty σ H1 fun y H2 => ∃ kvs k v, H2 a = some (.dK kvs) ∧ y = kV k ∧ valV kvs k = some v ∧ Q v (upd H2 a (.dK (dropK kvs k)))) : tDPop1 td ty σ H Q := h
theorem r_sfld {σ : L2.St} {H : Hp} {D : Ends} {ta tv : TE} {x : Str} (h : tv σ H fun y H1 => ta σ H1 fun z H2 => ∃ a C dx fs, z = .ref a ∧ H2 a = some (.ins C dx fs) ∧ Cls K C ∧ NoAttr K C x ∧ fs.length < 1000 ∧ D.nx σ (upd H2 a (.ins C dx (putF x y fs)))) : sFld K ta tv x D σ H := h
theorem lenT {H : Hp} {a : Addr} {xs : List V} (e : H a = some (.tup xs)) : SqT K H a xs := .of e
def spWordOf (K : PySem.W.Frag) : Sp := fun vs H Q _ => ∃ (a : Ad) (d : Da) (q : Addr) (nm : Str) (st num sg : Int) (l : Addr) (qs : List Addr) (rows : List Rw), vs = [.ref a.e, .ref q, .ref l] ∧ StAt K H a d ∧ QuoteAt H q nm st num (shown d.hw rows d.m) sg ∧ H l = some (.lst (qs.map V.ref)) ∧ RowsAt H qs rows ∧ (∀ r ∈ rows, RowOk r) ∧ rows.length ≤ 1000 ∧ ∀ H', Same H H' → Q (.str (wordB d.elast d.m d.fx st rows)) H'
abbrev N_Entry_word_of : List Str := ["self", "quote", "log", "name", "start", "number", "values", "sign"]
theorem sc_Entry_word_of : FnScope N_Entry_word_of ["self", "quote", "log"] (defScope Hd.sEntry_word_of) := ⟨rfl, rfl, rfl, by decide +kernel, rfl, by decide +kernel, by decide +kernel⟩
theorem ok_Entry_word_of (T : Hd.Tx K mg) : Met P w K mg base 11 (He.ga K "Entry") "word_of" ((spWordOf K)) := by
  obtain ⟨fd, F⟩ := T.d_Entry_word_of
  have sc := sc_Entry_word_of
  have C_fits := ok_fits (P := P) (w := w) (base := base) T
  have C_first_false := ok_first_false (P := P) (w := w) (base := base) T
  have C_Entry_is_cut := ok_Entry_is_cut (P := P) (w := w) (base := base) T
  have C_Entry_leads := ok_Entry_leads (P := P) (w := w) (base := base) T
  have C_Entry_is_few := ok_Entry_is_few (P := P) (w := w) (base := base) T
  have C_Entry_goes_back := ok_Entry_goes_back (P := P) (w := w) (base := base) T
  refine metD T.c_Entry T.m_Entry_word_of F sc (fun vs H Q E h => ?_) (fun _ _ _ _ _ _ us hl => match us, hl with | [_, _, _], _ => rfl) (fun cdv A outer s H vs Q E hr h => ?_)
  · obtain ⟨a, d, q, nm, st, num, sg, l, qs, rows, rfl, _⟩ := h; rfl
  · obtain ⟨a, d, q, nm, st, num, sg, l, qs, rows, rfl, S, hq, hl, hR, ok, hz, k⟩ := h
    refine ⟨_, (pss_cons (ps_asg (pv 1) (pg_tup (by rfl) (pgs_cons (gn 3 sc.nd) (pgs_cons (gn 4 sc.nd) (pgs_cons (gn 5 sc.nd) (pgs_cons (gn 6 sc.nd) (pgs_cons (gn 7 sc.nd) pgs_nil)))))))
      (pss_cons (ps_if (pt_val (pm C_Entry_goes_back hr (by decide) (pv 0) (pa_cons (pv 4) pa_nil))) (pss_one (ps_ret pe_str)) pss_nil)
      (pss_cons (ps_if (pt_val (pm C_Entry_is_few hr (by decide) (pv 0) (pa_cons (pv 6) pa_nil))) (pss_one (ps_ret pe_str)) pss_nil)
      (pss_cons (ps_if (pt_not (pt_val (pm C_Entry_leads hr (by decide) (pv 0) (pa_cons (pv 2) (pa_cons (pv 6) pa_nil))))) (pss_one (ps_ret pe_str)) pss_nil)
      (pss_cons (ps_if (pt_val (pm C_Entry_is_cut hr (by decide) (pv 0) (pa_cons (pv 4) (pa_cons (pv 2) pa_nil)))) (pss_one (ps_ret pe_str)) pss_nil)
      (pss_cons (ps_if (pt_cmpR op_notN (pc C_first_false hr (by decide) (pa_cons (pe_fld (pv 0) rfl) (pa_cons (pv 2) pa_nil))) pe_non (nomark _)) (pss_one (ps_ret pe_str)) pss_nil)
      (pss_one (ps_ret (pe_ifExp (pt_val (pc C_fits hr (by decide) (pa_cons (pe_fld (pv 0) rfl) (pa_cons (pv 2) pa_nil)))) pe_str pe_str))))))))), ?_⟩
    obtain ⟨dx, fs, lv, eE, F, hL⟩ := entD S
    obtain ⟨pv, ps, q1, q2, P⟩ := hq.ex
    have m1 := S.m1
    have m8 := S.m8
    have lsh := shown_length d.hw rows d.m
    try dsimp only [cxOf]
    walk_at "go"
    
    refine ⟨a.e, dx, fs, rfl, eE, F.n1, ?_⟩
    walk_at "go"
    refine ⟨a, d, st, rfl, S, ?_⟩
    walk_at "go"
    unfold wordB at k
    cases hb : backB d.elast st with
    | true =>
      rw [hb, if_pos rfl] at k
      walk_at "go"
      exact k _ (Same.refl _)
    | false =>
      rw [hb, if_neg (by decide)] at k
      walk_at "go"
      refine ⟨a.e, dx, fs, rfl, eE, F.n3, ?_⟩
      walk_at "go"
      refine ⟨a, d, pv, ps, _, rfl, S, q2, P, lsh, fun H1 s1 => ?_⟩
      walk_at "go"
      refine ⟨a.e, dx, fs, rfl, s1 _ _ eE, F.n4, ?_⟩
      walk_at "go"
      refine ⟨a, d, l, qs, rows, pv, ps, _, rfl, S.same s1, s1 _ _ hl, hR.same s1, ok, hz, s1 _ _ q2, P.same s1, by omega, fun H2 s2 => ?_⟩
      walk_at "go"
      rw [shown_leads]
      have s02 := Same.trans s1 s2
      by_cases hf : fault rows d.m d.fx = none
      · rw [if_neg (fun z => z hf)] at k
        walk_at "go"
        refine ⟨a.e, dx, fs, rfl, s02 _ _ eE, F.n2, ?_⟩
        walk_at "go"
        refine ⟨a, d, st, l, qs, rows, rfl, S.same s02, s02 _ _ hl, hR.same s02, ok, hz, fun H3 s3 => ?_⟩
        have s03 := Same.trans s02 s3
        walk_at "go"
        cases hc : cutB d.elast st rows with
        | true =>
          rw [hc, if_pos rfl] at k
          walk_at "go"
          exact k _ s03
        | false =>
          rw [hc, if_neg (by decide)] at k
          walk_at "go"
          refine r_fldv (s03 _ _ eE) T.c_Entry T.n_Entry_own_plan F.pn ?_
          walk_at "go"
          refine ⟨a.pn, l, _, rfl, .of (s03 _ _ S.pnat), .of (s03 _ _ hl), ?_⟩
          walk_at "go"
          refine r_fldv (s03 _ _ eE) T.c_Entry T.n_Entry_own_policy F.pl ?_
          walk_at "go"
          refine ⟨a.pl, _, rfl, .of (s03 _ _ S.plat), fun H4 s4 => ?_⟩
          walk_at "go"
          exact k _ (Same.trans s03 s4)
      · rw [if_pos hf] at k
        walk_at "go"
        exact k _ s02
def spETake (K : PySem.W.Frag) : Sp := fun vs H Q _ => ∃ (a : Ad) (d : Da) (q : Addr) (nm : Str) (st num sg : Int) (l : Addr) (qs : List Addr) (rows : List Rw), vs = [.ref a.e, .ref q, .ref l] ∧ StAt K H a d ∧ QuoteAt H q nm st num (shown d.hw rows d.m) sg ∧ H l = some (.lst (qs.map V.ref)) ∧ RowsAt H qs rows ∧ (∀ r ∈ rows, RowOk r) ∧ rows.length ≤ 1000 ∧ 0 ≤ st ∧ (valV d.eask (.inl num)).isSome = true ∧ d.ehist.length < 1000 ∧ l ∉ a.L ∧
  ∀ H', StAt K H' a { d with eask := dropK d.eask (.inl num), ehist := d.ehist ++ [(num, wordB d.elast d.m d.fx st rows)], elast := if wordB d.elast d.m d.fx st rows = "good" then some (st, rows) else d.elast } → Kp a.L H H' → Q (.str (wordB d.elast d.m d.fx st rows)) H' 
abbrev N_Entry_take : List Str := ["self", "quote", "log", "name", "start", "number", "values", "sign", "word"]
theorem sc_Entry_take : FnScope N_Entry_take ["self", "quote", "log"] (defScope Hd.sEntry_take) := ⟨rfl, rfl, rfl, by decide +kernel, rfl, by decide +kernel, by decide +kernel⟩
theorem ok_Entry_take (T : Hd.Tx K mg) : Met P w K mg base 12 (He.ga K "Entry") "take" ((spETake K)) := by
  obtain ⟨fd, F⟩ := T.d_Entry_take
  have sc := sc_Entry_take
  have C_Entry_word_of := ok_Entry_word_of (P := P) (w := w) (base := base) T
  refine metD T.c_Entry T.m_Entry_take F sc (fun vs H Q E h => ?_) (fun _ _ _ _ _ _ us hl => match us, hl with | [_, _, _], _ => rfl) (fun cdv A outer s H vs Q E hr h => ?_)
  · obtain ⟨a, d, q, nm, st, num, sg, l, qs, rows, rfl, _⟩ := h; rfl
  · obtain ⟨a, d, q, nm, st, num, sg, l, qs, rows, rfl, S, hq, hl, hR, ok, hz, s0, hv, hh, hlL, k⟩ := h
    refine ⟨_, (pss_cons (ps_asg (pv 1) (pg_tup (by rfl) (pgs_cons (gn 3 sc.nd) (pgs_cons (gn 4 sc.nd) (pgs_cons (gn 5 sc.nd) (pgs_cons (gn 6 sc.nd) (pgs_cons (gn 7 sc.nd) pgs_nil)))))))
      (pss_cons (sn 8 sc.nd (pm C_Entry_word_of hr (by decide) (pv 0) (pa_cons (pv 1) (pa_cons (pv 2) pa_nil))))
      (pss_cons (ps_expr (pe_dpop1 (pe_fld (pv 0) rfl) (pv 5) ⟨rfl, rfl, rfl, rfl⟩))
      (pss_cons (ps_expr (pe_bm PySem.F.plainAttrs_list PySem.F.slot_list_append PySem.F.type_list_append mt_append (pe_fld (pv 0) rfl) (pa_cons (pe_tup (pa_cons (pv 5) (pa_cons (pv 8) pa_nil))) pa_nil)))
      (pss_cons (ps_if (pt_cmpR op_eq (pv 8) pe_str (nomark _)) (pss_one (ps_fld (pv 0) (pe_tup (pa_cons (pv 4) (pa_cons (pe_callTy call_tuple_of (by rfl) T.f_tuple (by decide +kernel) (pa_cons (pv 2) pa_nil)) pa_nil))) rfl)) pss_nil)
      (pss_one (ps_ret (pv 8)))))))), ?_⟩
    obtain ⟨dx, fs, lv, eE, F, hL⟩ := entD S
    obtain ⟨pv, ps, q1, q2, P⟩ := hq.ex
    try dsimp only [cxOf]
    walk_at "go"
    
    refine ⟨a.e, dx, fs, rfl, eE, F.n5, ?_⟩
    walk_at "go"
    refine ⟨a, d, q, nm, st, num, sg, l, qs, rows, rfl, S, hq, hl, hR, ok, hz, fun H1 s1 => ?_⟩
    generalize hw : wordB d.elast d.m d.fx st rows = wd at k
    walk_at "go"
    refine r_dpop ?_
    walk_at "go"
    refine r_fldv (s1 _ _ eE) T.c_Entry T.n_Entry_own_asked F.ak ?_
    obtain ⟨v0, hv0⟩ := Option.isSome_iff_exists.mp hv
    refine ⟨_, rfl, .inl ⟨_, .inl (s1 _ _ S.akat)⟩, ?_⟩
    walk_at "go"
    refine ⟨_, .inl num, v0, s1 _ _ S.akat, rfl, hv0, ?_⟩
    have S1 := S.same s1
    have S2 := S1.setAk (kvs := dropK d.eask (.inl num)) (Nat.le_trans (dropK_le _ _) S.ea)
    have k2 : Kp a.L H1 (upd H1 a.ak (.dK (dropK d.eask (.inl num)))) := Kp.put (Kp.refl _) (List.mem_of_getElem? (show a.L[2]? = some a.ak from rfl))
    generalize hh2 : upd H1 a.ak _ = H2 at S2 k2
    clear hh2
    dsimp only
    walk_at "go"
    obtain ⟨dx2, fs2, lv2, eE2, F2, hL2⟩ := entD S2
    refine r_fldv eE2 T.c_Entry T.n_Entry_own_history F2.hi ?_
    obtain ⟨hs, eh, fh⟩ := S2.hiat
    refine r_tyL eh ?_
    walk_at "go"
    refine fun tp nt => ?_
    generalize hh : upd H2 tp _ = H3
    have s3 : Same H2 H3 := hh ▸ Same.new nt
    have e3 : H3 tp = some _ := hh ▸ upd_same
    clear hh
    walk_at "go"
    have S3 := S2.same s3
    have eh3 := s3 _ _ eh
    refine r_append eh3 (by rw [List.length_map, fh.1]; have := S2.eh; omega) ?_
    have S4 := S3.pushHi eh3 e3 hh
    have k4 : Kp a.L H3 (upd H3 a.hi (.lst (hs.map V.ref ++ [.ref tp]))) := Kp.put (Kp.refl _) (List.mem_of_getElem? (show a.L[3]? = some a.hi from rfl))
    generalize hh4 : upd H3 a.hi _ = H4 at S4 k4
    clear hh4
    walk_at "go"
    have kk : Kp a.L H H4 := (Same.kp s1).trans (k2.trans ((Same.kp s3).trans k4))
    walk_at "go"
    rw [show decide (V.str wd = V.str "good") = decide (wd = "good") from decS _ _]
    by_cases hg : wd = "good"
    · rw [decide_eq_true hg]
      walk_at "go"
      refine r_sfld ?_
      walk_at "go"
      have hl4 := kk _ _ hl hlL
      have hR4 : RowsAt H4 qs rows := hR.tk (S.tk kk)
      refine ⟨l, _, rfl, .inl ⟨.of hl4, ?_⟩⟩
      refine fun lt nlt => ?_
      generalize hh : upd H4 lt _ = H5
      have s5 : Same H4 H5 := hh ▸ Same.new nlt
      have e5 : H5 lt = some _ := hh ▸ upd_same
      clear hh
      walk_at "go"
      refine fun lp nlp => ?_
      generalize hh : upd H5 lp _ = H6
      have s6 : Same H5 H6 := hh ▸ Same.new nlp
      have e6 : H6 lp = some _ := hh ▸ upd_same
      clear hh
      have S6 := (S4.same s5).same s6
      obtain ⟨dx7, fs7, lv7, eE7, F7, hL7⟩ := entD S6
      walk_at "go"
      refine ⟨a.e, _, dx7, fs7, rfl, eE7, T.c_Entry, T.n_Entry_own_last, by have := F7.z; omega, ?_⟩
      have S7 := S6.setLast (v := .ref lp) (l := (st, rows)) eE7 ⟨lp, lt, qs, rfl, e6, s6 _ _ e5, (hR4.same s5).same s6⟩ ⟨s0, ok, hz⟩
      have k7 : Kp a.L H6 (upd H6 a.e (.ins (He.ga K "Entry") dx7 (putF "own_last" (.ref lp) fs7))) := Kp.put (Kp.refl _) (List.mem_of_getElem? (show a.L[1]? = some a.e from rfl))
      generalize hh7 : upd H6 a.e _ = H7 at S7 k7
      clear hh7
      walk_at "go"
      rw [if_pos hg] at k
      exact k _ S7 (kk.trans ((Same.kp s5).trans ((Same.kp s6).trans k7)))
    · rw [decide_eq_false hg]
      walk_at "go"
      rw [if_neg hg] at k
      exact k _ S4 kk
end
end Fx

/-! A7: defs and their promises -/
namespace Fx
open PySem PySem.Spec PyProof.Rows L2 Sv Mr
local macro_rules | `(tactic| walk_at "go") => `(tactic| repeat (first
  | with_reducible refine r_seq ?_ | with_reducible refine r_asg ?_ | with_reducible refine r_gn ?_ | with_reducible refine r_ret ?_ | with_reducible refine r_ifS ?_
  | ((with_reducible refine' r_var ?kv ?_); (case kv => exact rfl)) | with_reducible refine r_c ?_ | with_reducible refine r_op ?_ | with_reducible refine r_I0 ?_ | with_reducible refine r_cons ?_ | with_reducible refine r_nil ?_
  | with_reducible refine r_cb ?_ | with_reducible refine r_call ?_ | with_reducible refine r_test ?_ | with_reducible refine r_tB ?_ | with_reducible refine r_k ?_ | with_reducible refine r_or ?_ | with_reducible refine r_and ?_ | with_reducible refine r_not ?_
  | with_reducible refine r_andV ?_ | with_reducible refine r_orV ?_ | with_reducible refine r_notV ?_ | with_reducible refine r_if ?_ | with_reducible refine r_T ?_ | with_reducible refine r_F ?_ | with_reducible refine r_Tn ?_ | with_reducible refine r_Fn ?_
  | with_reducible refine r_isiS ?_ | with_reducible refine r_isiI ?_ | with_reducible refine r_isiIB ?_ | with_reducible refine r_chain ?_ | with_reducible refine r_un ?_ | with_reducible refine r_drop ?_ | with_reducible refine r_tup ?_ | with_reducible refine r_lst ?_
  | ((with_reducible refine' r_eq ?kv ?_); (case kv => exact rfl)) | ((with_reducible refine' r_ne ?kv ?_); (case kv => exact rfl)) | with_reducible refine r_nx ?_ | with_reducible refine r_retN ?_ | with_reducible refine r_yes ?_ | ((with_reducible refine' r_I ?kd ?_); (case kd => first | exact Or.inr ⟨by decide, by decide⟩ | exact ⟨by decide, by decide⟩ | exact ⟨by decide, by decide, by decide⟩ | (show (0 : Int) < _; first | decide | omega)))
  | with_reducible refine r_gCons ?_ | with_reducible refine r_gNil ?_ | with_reducible refine r_tPar ?_ | with_reducible refine r_par ?_ | with_reducible refine r_tPar3 ?_ | with_reducible refine r_par3 ?_ | with_reducible refine r_sl ?_ | with_reducible refine r_part ?_ | with_reducible refine r_parti ?_ | with_reducible refine r_nopart ?_ | with_reducible refine r_gSub ?_ | with_reducible refine r_rU ?_ | with_reducible refine r_bm ?_ | ((with_reducible refine' r_tyL ?kd ?_); (case kd => assumption)) | with_reducible refine r_nn ?_ | with_reducible refine r_meth ?_ | with_reducible refine r_methN ?_ | with_reducible refine r_callN ?_ | with_reducible refine r_fld ?_ | with_reducible refine r_lc ?_ | with_reducible refine r_for ?_ | with_reducible refine r_iList ?_ | with_reducible refine r_iTup ?_ | with_reducible refine r_iStr ?_ | with_reducible refine r_iRng1 ?_ | with_reducible refine r_iEnum ?_ | with_reducible refine r_iZip ?_ | with_reducible refine r_iZipA ?_
  | ((with_reducible refine' r_sz ?kz ?_); (case kz => first | decide | (simp only [List.length_cons, List.length_nil]; omega)))
  | ((with_reducible refine' r_isiT ?kd ?_); (case kd => assumption)) | ((with_reducible refine' r_isiL ?kd ?_); (case kd => assumption)) | ((with_reducible refine' r_isiTL ?kd ?_); (case kd => assumption)) | ((with_reducible refine' r_isiLT ?kd ?_); (case kd => assumption))
  | ((with_reducible refine' r_lenT ?kd ?_); (case kd => exact SqT.of (by assumption))) | ((with_reducible refine' r_lenL ?kd ?_); (case kd => exact SqL.of (by assumption)))
  | ((with_reducible refine' r_ixT ?ka ?kb ?_); (case ka => exact SqT.of (by assumption)); (case kb => exact rfl)) | ((with_reducible refine' r_gTup ?ka ?kb ?_); (case ka => exact SqT.of (by assumption)); (case kb => exact rfl))
  | ((with_reducible refine' r_dT ?kd ?_); (case kd => walk_at "pos")) | ((with_reducible refine' r_dF ?kd ?_); (case kd => walk_at "neg")) | ((with_reducible refine' r_ndT ?kd ?_); (case kd => walk_at "neg")) | ((with_reducible refine' r_ndF ?kd ?_); (case kd => walk_at "pos"))
  | ((with_reducible refine' r_pos ?kd ?_); (case kd => with_reducible exact rfl)) | ((with_reducible refine' r_neg ?kd ?_); (case kd => with_reducible exact rfl)) | ((with_reducible refine' r_pos ?kd ?_); (case kd => (with_reducible show _ = true); decide)) | ((with_reducible refine' r_neg ?kd ?_); (case kd => (with_reducible show _ = false); decide))))
local macro_rules | `(tactic| walk_at "pos") => `(tactic| first | assumption | omega | rfl | exact congrArg V.int (by omega) | exact congrArg V.str (by assumption))
local macro_rules | `(tactic| walk_at "neg") => `(tactic| first | assumption | omega | (intro hne; injection hne with hne; first | omega | contradiction | exact absurd hne (by decide +kernel)) | (intro hne; cases hne))

section
variable {P : Program} {w : World} {K : PySem.W.Frag} {mg : Str → Option Value} {base : Heap}
theorem pe_nev {X : Cx} {e : Expr} : PE X e (fun _ _ _ => False) := ⟨fun _ _ _ _ _ _ h => h.elim⟩
theorem r_dget {σ : L2.St} {H : Hp} {Q : VK} {td ty : TE} (h : td σ H fun x H1 => ty σ H1 fun y H2 => ∃ a v, x = .ref a ∧ DGet H2 a y (some v) ∧ Q v H2) : tDGet td ty σ H Q := h
theorem r_dgetv {H : Hp} {a : Addr} {kvs : List (Key × V)} {k : Key} {v : V} {Z : V → Prop} (e : H a = some (.dK kvs)) (hv : valV kvs k = some v) (h : Z v) : ∃ b w, V.ref a = .ref b ∧ DGet H b (kV k) (some w) ∧ Z w := ⟨a, v, rfl, hv ▸ DGet.k e, h⟩
theorem r_din {σ : L2.St} {H : Hp} {Q : VK} {td ty : TE} (h : ty σ H fun y H1 => td σ H1 fun x H2 => ∃ a o, x = .ref a ∧ DGet H2 a y o ∧ Q (.bl o.isSome) H2) : tDIn ty td σ H Q := h
theorem r_ndin {σ : L2.St} {H : Hp} {Q : VK} {td ty : TE} (h : ty σ H fun y H1 => td σ H1 fun x H2 => ∃ a o, x = .ref a ∧ DGet H2 a y o ∧ Q (.bl (!o.isSome)) H2) : tDNotIn ty td σ H Q := h
theorem r_dinv {H : Hp} {a : Addr} {kvs : List (Key × V)} {k : Key} {Z : Option V → Prop} (e : H a = some (.dK kvs)) (h : Z (valV kvs k)) : ∃ b o, V.ref a = .ref b ∧ DGet H b (kV k) o ∧ Z o := ⟨a, _, rfl, DGet.k e, h⟩
theorem r_dput {σ : L2.St} {H : Hp} {D : Ends} {td ty tv : TE} (h : tv σ H fun v H1 => td σ H1 fun x H2 => ty σ H2 fun y H3 => ∃ a H4, x = .ref a ∧ DPut H3 a y v H4 ∧ D.nx σ H4) : sDPut td ty tv D σ H := h
theorem r_dputv {H : Hp} {a : Addr} {kvs : List (Key × V)} {k : Key} {v : V} {Z : Hp → Prop} (e : H a = some (.dK kvs)) (hz : kvs.length < 90000) (h : Z (upd H a (.dK (putK kvs k v)))) : ∃ b H4, V.ref a = .ref b ∧ DPut H b (kV k) v H4 ∧ Z H4 := ⟨a, _, rfl, DPut.k e (size_lt (by omega)), h⟩
theorem r_aug {σ : L2.St} {H : Hp} {D : Ends} {ta tv : TE} {rd : V → V → Hp → VK → Prop} {x : Str} (h : ta σ H fun z H1 => ∃ a C dx fs v, z = .ref a ∧ H1 a = some (.ins C dx fs) ∧ Cls K C ∧ NoAttr K C x ∧ fs.lookup x = some v ∧
  tv σ H1 fun y H2 => rd v y H2 fun w H3 => ∃ dx' fs', H3 a = some (.ins C dx' fs') ∧ fs'.length < 1000 ∧ D.nx σ (upd H3 a (.ins C dx' (putF x w fs')))) : sFldAug K ta tv rd x D σ H := h
theorem ne_of_none' {H : Hp} {a b : Addr} {o : HO} (h : H a = some o) (n : H b = none) : b ≠ a := fun e => by rw [e, h] at n; cases n
theorem _root_.Sv.Kp.free1 {H H' : Hp} {x q : Addr} {o : HO} (k : Kp [x] H H') (n : H' q = none) (hx : H' x = some o) : H q = none := by
  cases e : H q with
  | none => rfl
  | some u =>
    have h := k q u e (by simp; exact ne_of_none' hx n)
    rw [n] at h; cases h
theorem upd_upd {H : Hp} {a : Addr} {o o' : HO} : upd (upd H a o) a o' = upd H a o' := by
  funext b
  by_cases h : b = a
  · subst h; rw [upd_same, upd_same]
  · rw [upd_ne h, upd_ne h, upd_ne h]
def spEInit (K : PySem.W.Frag) : Sp := fun vs H Q _ => ∃ (x dx : Addr) (key : Int) (mx : Addr) (m fx : Int), vs = [.ref x, .int key, .ref mx, .int m, .int fx] ∧ H x = some (.ins (He.ga K "Entry") dx []) ∧
  ∀ H' a fs, EnF a key m fx .non fs → a.e = x → a.mx = mx → H a.pl = none → H a.pn = none → H a.ak = none → H a.hi = none → [a.pl, a.pn, a.ak, a.hi].Nodup → H' x = some (.ins (He.ga K "Entry") dx fs) → H' a.pl = some (.lst []) → H' a.pn = some (.lst []) → H' a.ak = some (.dK []) → H' a.hi = some (.lst []) → Kp [x] H H' → Q .non H' 
abbrev N_Entry_init : List Str := ["self", "key", "mixing", "many", "fixed"]
theorem sc_Entry_init : FnScope N_Entry_init ["self", "key", "mixing", "many", "fixed"] (defScope Hd.sEntry_init) := ⟨rfl, rfl, rfl, by decide +kernel, rfl, by decide +kernel, by decide +kernel⟩
theorem ok_Entry (T : Hd.Tx K mg) : Mak P w K mg base 1 "Entry" (He.ga K "Entry") ((spEInit K)) [] := by
  obtain ⟨fd, F⟩ := T.d_Entry_init
  have sc := sc_Entry_init
  refine makD T.k_Entry T.g_Entry F sc (fun vs H Q E h => ?_) (fun _ _ _ _ _ _ us hl => match us, hl with | [_, _, _, _, _], _ => rfl) (fun cdv A outer s H vs Q E hr h => ?_)
  · obtain ⟨x, dx, key, mx, m, fx, rfl, _⟩ := h; rfl
  · obtain ⟨x, dx, key, mx, m, fx, rfl, hx, k⟩ := h
    refine ⟨_, (pss_cons (ps_fld (pv 0) (pv 1) rfl)
      (pss_cons (ps_fld (pv 0) (pv 2) rfl)
      (pss_cons (ps_fld (pv 0) (pv 3) rfl)
      (pss_cons (ps_fld (pv 0) (pv 4) rfl)
      (pss_cons (ps_fld (pv 0) (pe_lst pa_nil) rfl)
      (pss_cons (ps_fld (pv 0) (pe_lst pa_nil) rfl)
      (pss_cons (ps_fld (pv 0) pe_dnewK rfl)
      (pss_cons (ps_fld (pv 0) pe_non rfl)
      (pss_one (ps_fld (pv 0) (pe_lst pa_nil) rfl)))))))))), ?_⟩
    try dsimp only [cxOf]
    walk_at "go"
    
    first | refine r_sfld ?_ | (dsimp only; refine r_sfld ?_)
    walk_at "go"
    refine ⟨x, _, dx, _, rfl, hx, T.c_Entry, T.n_Entry_own_key, (of_decide_eq_true (by kernel_rfl)), ?_⟩
    generalize hh : upd H x _ = H1
    have k1 : Kp [x] H H1 := hh ▸ Kp.put (Kp.refl H) (by simp)
    replace hx := (congrFun hh x).symm.trans upd_same
    clear hh
    walk_at "go"
    first | refine r_sfld ?_ | (dsimp only; refine r_sfld ?_)
    walk_at "go"
    refine ⟨x, _, dx, _, rfl, hx, T.c_Entry, T.n_Entry_own_mixing, (of_decide_eq_true (by kernel_rfl)), ?_⟩
    generalize hh : upd H1 x _ = H2
    have k2 : Kp [x] H H2 := hh ▸ Kp.put k1 (by simp)
    replace hx := (congrFun hh x).symm.trans upd_same
    clear hh
    walk_at "go"
    first | refine r_sfld ?_ | (dsimp only; refine r_sfld ?_)
    walk_at "go"
    refine ⟨x, _, dx, _, rfl, hx, T.c_Entry, T.n_Entry_own_many, (of_decide_eq_true (by kernel_rfl)), ?_⟩
    generalize hh : upd H2 x _ = H3
    have k3 : Kp [x] H H3 := hh ▸ Kp.put k2 (by simp)
    replace hx := (congrFun hh x).symm.trans upd_same
    clear hh
    walk_at "go"
    first | refine r_sfld ?_ | (dsimp only; refine r_sfld ?_)
    walk_at "go"
    refine ⟨x, _, dx, _, rfl, hx, T.c_Entry, T.n_Entry_own_fixed, (of_decide_eq_true (by kernel_rfl)), ?_⟩
    generalize hh : upd H3 x _ = H4
    have k4 : Kp [x] H H4 := hh ▸ Kp.put k3 (by simp)
    replace hx := (congrFun hh x).symm.trans upd_same
    clear hh
    walk_at "go"
    first | refine r_sfld ?_ | (dsimp only; refine r_sfld ?_)
    walk_at "go"
    refine fun pl n5 => ?_
    generalize hh : upd H4 pl _ = H5
    have s5 : Same H4 H5 := hh ▸ Same.new n5
    have e5 : H5 pl = some _ := hh ▸ upd_same
    clear hh
    walk_at "go"
    have f_pl : H pl = none := Kp.free1 k4 n5 hx
    have x_pl : pl ≠ x := ne_of_none' hx n5
    replace hx := s5 _ _ hx
    have k5 := Kp.trans k4 (Same.kp s5)
    refine ⟨x, _, dx, _, rfl, hx, T.c_Entry, T.n_Entry_own_policy, (of_decide_eq_true (by kernel_rfl)), ?_⟩
    generalize hh : upd H5 x _ = H6
    have k6 : Kp [x] H H6 := hh ▸ Kp.put k5 (by simp)
    replace hx := (congrFun hh x).symm.trans upd_same
    replace e5 := (congrFun hh pl).symm.trans ((upd_ne x_pl).trans e5)
    clear hh
    walk_at "go"
    first | refine r_sfld ?_ | (dsimp only; refine r_sfld ?_)
    walk_at "go"
    refine fun pn n7 => ?_
    generalize hh : upd H6 pn _ = H7
    have s7 : Same H6 H7 := hh ▸ Same.new n7
    have e7 : H7 pn = some _ := hh ▸ upd_same
    clear hh
    walk_at "go"
    have f_pn : H pn = none := Kp.free1 k6 n7 hx
    have x_pn : pn ≠ x := ne_of_none' hx n7
    have d_pl_pn : pl ≠ pn := ne_of_none e5 n7
    replace e5 := s7 _ _ e5
    replace hx := s7 _ _ hx
    have k7 := Kp.trans k6 (Same.kp s7)
    refine ⟨x, _, dx, _, rfl, hx, T.c_Entry, T.n_Entry_own_plan, (of_decide_eq_true (by kernel_rfl)), ?_⟩
    generalize hh : upd H7 x _ = H8
    have k8 : Kp [x] H H8 := hh ▸ Kp.put k7 (by simp)
    replace hx := (congrFun hh x).symm.trans upd_same
    replace e5 := (congrFun hh pl).symm.trans ((upd_ne x_pl).trans e5)
    replace e7 := (congrFun hh pn).symm.trans ((upd_ne x_pn).trans e7)
    clear hh
    walk_at "go"
    first | refine r_sfld ?_ | (dsimp only; refine r_sfld ?_)
    walk_at "go"
    refine fun ak n9 => ?_
    generalize hh : upd H8 ak _ = H9
    have s9 : Same H8 H9 := hh ▸ Same.new n9
    have e9 : H9 ak = some _ := hh ▸ upd_same
    clear hh
    walk_at "go"
    have f_ak : H ak = none := Kp.free1 k8 n9 hx
    have x_ak : ak ≠ x := ne_of_none' hx n9
    have d_pl_ak : pl ≠ ak := ne_of_none e5 n9
    replace e5 := s9 _ _ e5
    have d_pn_ak : pn ≠ ak := ne_of_none e7 n9
    replace e7 := s9 _ _ e7
    replace hx := s9 _ _ hx
    have k9 := Kp.trans k8 (Same.kp s9)
    refine ⟨x, _, dx, _, rfl, hx, T.c_Entry, T.n_Entry_own_asked, (of_decide_eq_true (by kernel_rfl)), ?_⟩
    generalize hh : upd H9 x _ = H10
    have k10 : Kp [x] H H10 := hh ▸ Kp.put k9 (by simp)
    replace hx := (congrFun hh x).symm.trans upd_same
    replace e5 := (congrFun hh pl).symm.trans ((upd_ne x_pl).trans e5)
    replace e7 := (congrFun hh pn).symm.trans ((upd_ne x_pn).trans e7)
    replace e9 := (congrFun hh ak).symm.trans ((upd_ne x_ak).trans e9)
    clear hh
    walk_at "go"
    first | refine r_sfld ?_ | (dsimp only; refine r_sfld ?_)
    walk_at "go"
    refine ⟨x, _, dx, _, rfl, hx, T.c_Entry, T.n_Entry_own_last, (of_decide_eq_true (by kernel_rfl)), ?_⟩
    generalize hh : upd H10 x _ = H11
    have k11 : Kp [x] H H11 := hh ▸ Kp.put k10 (by simp)
    replace hx := (congrFun hh x).symm.trans upd_same
    replace e5 := (congrFun hh pl).symm.trans ((upd_ne x_pl).trans e5)
    replace e7 := (congrFun hh pn).symm.trans ((upd_ne x_pn).trans e7)
    replace e9 := (congrFun hh ak).symm.trans ((upd_ne x_ak).trans e9)
    clear hh
    walk_at "go"
    first | refine r_sfld ?_ | (dsimp only; refine r_sfld ?_)
    walk_at "go"
    refine fun hi n12 => ?_
    generalize hh : upd H11 hi _ = H12
    have s12 : Same H11 H12 := hh ▸ Same.new n12
    have e12 : H12 hi = some _ := hh ▸ upd_same
    clear hh
    walk_at "go"
    have f_hi : H hi = none := Kp.free1 k11 n12 hx
    have x_hi : hi ≠ x := ne_of_none' hx n12
    have d_pl_hi : pl ≠ hi := ne_of_none e5 n12
    replace e5 := s12 _ _ e5
    have d_pn_hi : pn ≠ hi := ne_of_none e7 n12
    replace e7 := s12 _ _ e7
    have d_ak_hi : ak ≠ hi := ne_of_none e9 n12
    replace e9 := s12 _ _ e9
    replace hx := s12 _ _ hx
    have k12 := Kp.trans k11 (Same.kp s12)
    refine ⟨x, _, dx, _, rfl, hx, T.c_Entry, T.n_Entry_own_history, (of_decide_eq_true (by kernel_rfl)), ?_⟩
    generalize hh : upd H12 x _ = H13
    have k13 : Kp [x] H H13 := hh ▸ Kp.put k12 (by simp)
    replace hx := (congrFun hh x).symm.trans upd_same
    replace e5 := (congrFun hh pl).symm.trans ((upd_ne x_pl).trans e5)
    replace e7 := (congrFun hh pn).symm.trans ((upd_ne x_pn).trans e7)
    replace e9 := (congrFun hh ak).symm.trans ((upd_ne x_ak).trans e9)
    replace e12 := (congrFun hh hi).symm.trans ((upd_ne x_hi).trans e12)
    clear hh
    walk_at "go"
    refine k _ ⟨0, x, ak, hi, 0, 0, 0, 0, pl, pn, 0, 0, 0, 0, mx, 0⟩ _ { key := by kernel_rfl, mx := by kernel_rfl, many := by kernel_rfl, fixed := by kernel_rfl, pl := by kernel_rfl, pn := by kernel_rfl, ak := by kernel_rfl, last := by kernel_rfl, hi := by kernel_rfl, n1 := by kernel_rfl, n2 := by kernel_rfl, n3 := by kernel_rfl, n4 := by kernel_rfl, n5 := by kernel_rfl, n6 := by kernel_rfl, z := of_decide_eq_true (by kernel_rfl) } rfl rfl f_pl f_pn f_ak f_hi ?_ hx e5 e7 e9 e12 k13
    simp only [List.nodup_cons, List.mem_cons, List.not_mem_nil, or_false, not_or, not_false_eq_true, List.nodup_nil, and_true]
    exact ⟨⟨d_pl_pn, d_pl_ak, d_pl_hi⟩, ⟨d_pn_ak, d_pn_hi⟩, d_ak_hi⟩
def spMInit (K : PySem.W.Frag) : Sp := fun vs H Q _ => ∃ (x dx : Addr) (hw : How), vs = [.ref x, hw.wV, .int hw.fc] ∧ H x = some (.ins (He.ga K "Mixing") dx []) ∧ HowOk hw ∧ ∀ H', Kp [x] H H' → MixAt K H' x hw → Q .non H' 
abbrev N_Mixing_init : List Str := ["self", "width", "factor"]
theorem sc_Mixing_init : FnScope N_Mixing_init ["self", "width", "factor"] (defScope Hd.sMixing_init) := ⟨rfl, rfl, rfl, by decide +kernel, rfl, by decide +kernel, by decide +kernel⟩
theorem ok_f_Mixing (T : Hd.Tx K mg) : ∀ fd, FunD K "__init__" "Mixing.__init__" (defArgs Hd.sMixing_init) (defBody Hd.sMixing_init) (defScope Hd.sMixing_init) [V.non] [("factor", V.int 7919)] (He.ma K (He.ga K "Mixing") "__init__") fd → FnOk P w K mg base CX0 2 (He.ma K (He.ga K "Mixing") "__init__") fd ["self", "width", "factor"] ((spMInit K)) := by
  intro fd F
  have sc := sc_Mixing_init
  have C_divisor_of := ok_divisor_of (P := P) (w := w) (base := base) T
  have C_is_between := ok_is_between (P := P) (w := w) (base := base) T
  refine fnD F sc (fun vs H Q E h => ?_)  (fun cdv A outer s H vs Q E hr h => ?_)
  · obtain ⟨x, dx, hw, rfl, _⟩ := h; rfl
  · obtain ⟨x, dx, hw, rfl, hx, ok, k⟩ := h
    refine ⟨_, (pss_cons (ps_if (PW.pt (pw_and (pt_cmpR op_notN (pv 1) pe_non (nomark _)) (pw_and1 (pt_not (pt_val (pc C_is_between hr (by decide) (pa_cons (pv 1) (pa_cons (pe_gI T.i_LEAST_WIDTH) (pa_cons (pe_gI T.i_MOST) pa_nil))))))))) (pss_one ps_never) pss_nil)
      (pss_cons (ps_if (PW.pt (pw_or (pt_not (pt_val (pc C_is_between hr (by decide) (pa_cons (pv 2) (pa_cons pe_int (pa_cons (pe_gI T.i_MOST) pa_nil)))))) (pw_or1 (PW.pt (pw_and (pt_cmpR op_notN (pv 1) pe_non (nomark _)) (pw_and1 (pt_cmpR op_gt (pc C_divisor_of hr (by decide) (pa_cons (pv 1) (pa_cons (pv 2) pa_nil))) pe_int (nomark _)))))))) (pss_one ps_never) pss_nil)
      (pss_cons (ps_fld (pv 0) (pv 1) rfl)
      (pss_one (ps_fld (pv 0) (pv 2) rfl))))), ?_⟩
    try dsimp only [cxOf]
    walk_at "go"
    
    have f1 := ok.f1
    have f2 := ok.f2
    cases e : hw.wd with
    | none =>
      have e2 : hw.wV = .non := by unfold How.wV; rw [e]
      rw [e2]
      walk_at "go"
      refine ⟨_, _, _, rfl, ?_⟩
      walk_at "go"
      rw [show (decide ((1 : Int) ≤ hw.fc) && decide (hw.fc ≤ 1000000)) = true by rw [decide_eq_true f1, decide_eq_true f2]; rfl]
      walk_at "go"
      first | refine r_sfld ?_ | (dsimp only; refine r_sfld ?_)
      walk_at "go"
      refine ⟨x, _, dx, _, rfl, hx, T.c_Mixing, T.n_Mixing_width, (of_decide_eq_true (by kernel_rfl)), ?_⟩
      generalize hh : upd H x _ = H1
      have k1 : Kp [x] H H1 := hh ▸ Kp.put (Kp.refl H) (by simp)
      replace hx := (congrFun hh x).symm.trans upd_same
      clear hh
      walk_at "go"
      first | refine r_sfld ?_ | (dsimp only; refine r_sfld ?_)
      walk_at "go"
      refine ⟨x, _, dx, _, rfl, hx, T.c_Mixing, T.n_Mixing_factor, (of_decide_eq_true (by kernel_rfl)), ?_⟩
      generalize hh : upd H1 x _ = H2
      have k2 : Kp [x] H H2 := hh ▸ Kp.put k1 (by simp)
      replace hx := (congrFun hh x).symm.trans upd_same
      clear hh
      walk_at "go"
      exact k _ k2 ⟨⟨dx, _, hx, { wd := by rw [e2]; kernel_rfl, fc := by kernel_rfl, nb := by kernel_rfl, nm := by kernel_rfl }⟩⟩
    | some m =>
      have e2 : hw.wV = .int m := by unfold How.wV; rw [e]
      have w1 := ok.w1 m e
      have w2 := ok.w2 m e
      have g := ok.g m e
      rw [e2]
      walk_at "go"
      refine ⟨_, _, _, rfl, ?_⟩
      walk_at "go"
      rw [show (decide ((3 : Int) ≤ m) && decide (m ≤ 1000000)) = true by rw [decide_eq_true w1, decide_eq_true w2]; rfl]
      walk_at "go"
      refine ⟨_, _, _, rfl, ?_⟩
      walk_at "go"
      rw [show (decide ((1 : Int) ≤ hw.fc) && decide (hw.fc ≤ 1000000)) = true by rw [decide_eq_true f1, decide_eq_true f2]; rfl]
      walk_at "go"
      refine ⟨m.toNat, hw.fc.toNat, ?_, ?_⟩
      · rw [Int.toNat_of_nonneg (by omega), Int.toNat_of_nonneg (by omega)]
        rfl
      walk_at "go"
      first | refine r_sfld ?_ | (dsimp only; refine r_sfld ?_)
      walk_at "go"
      refine ⟨x, _, dx, _, rfl, hx, T.c_Mixing, T.n_Mixing_width, (of_decide_eq_true (by kernel_rfl)), ?_⟩
      generalize hh : upd H x _ = H1
      have k1 : Kp [x] H H1 := hh ▸ Kp.put (Kp.refl H) (by simp)
      replace hx := (congrFun hh x).symm.trans upd_same
      clear hh
      walk_at "go"
      first | refine r_sfld ?_ | (dsimp only; refine r_sfld ?_)
      walk_at "go"
      refine ⟨x, _, dx, _, rfl, hx, T.c_Mixing, T.n_Mixing_factor, (of_decide_eq_true (by kernel_rfl)), ?_⟩
      generalize hh : upd H1 x _ = H2
      have k2 : Kp [x] H H2 := hh ▸ Kp.put k1 (by simp)
      replace hx := (congrFun hh x).symm.trans upd_same
      clear hh
      walk_at "go"
      exact k _ k2 ⟨⟨dx, _, hx, { wd := by rw [e2]; kernel_rfl, fc := by kernel_rfl, nb := by kernel_rfl, nm := by kernel_rfl }⟩⟩
def spBInit (K : PySem.W.Frag) : Sp := fun vs H Q _ => ∃ (x dx : Addr), vs = [.ref x, .int 9, .int 8] ∧ H x = some (.ins (He.ga K "Book") dx []) ∧
  ∀ H' a fs, a.b = x → BkF a 1 fs → H a.eD = none → H' x = some (.ins (He.ga K "Book") dx fs) → H' a.eD = some (.dK []) → Kp [x] H H' → Q .non H' 
abbrev N_Book_init : List Str := ["self", "life", "most"]
theorem sc_Book_init : FnScope N_Book_init ["self", "life", "most"] (defScope Hd.sBook_init) := ⟨rfl, rfl, rfl, by decide +kernel, rfl, by decide +kernel, by decide +kernel⟩
theorem ok_f_Book (T : Hd.Tx K mg) : ∀ fd, FunD K "__init__" "Book.__init__" (defArgs Hd.sBook_init) (defBody Hd.sBook_init) (defScope Hd.sBook_init) [] [("life", V.int 9), ("most", V.int 8)] (He.ma K (He.ga K "Book") "__init__") fd → FnOk P w K mg base CX0 1 (He.ma K (He.ga K "Book") "__init__") fd ["self", "life", "most"] ((spBInit K)) := by
  intro fd F
  have sc := sc_Book_init
  refine fnD F sc (fun vs H Q E h => ?_)  (fun cdv A outer s H vs Q E hr h => ?_)
  · obtain ⟨x, dx, rfl, _⟩ := h; rfl
  · obtain ⟨x, dx, rfl, hx, k⟩ := h
    refine ⟨_, (pss_cons (ps_fld (pv 0) (pv 1) rfl)
      (pss_cons (ps_fld (pv 0) (pv 2) rfl)
      (pss_cons (ps_fld (pv 0) pe_dnewK rfl)
      (pss_cons (ps_fld (pv 0) pe_int rfl)
      (pss_cons (ps_fld (pv 0) pe_int rfl)
      (pss_cons (ps_fld (pv 0) (pe_lst pa_nil) rfl)
      (pss_one (ps_fld (pv 0) pe_int rfl)))))))), ?_⟩
    try dsimp only [cxOf]
    walk_at "go"
    
    first | refine r_sfld ?_ | (dsimp only; refine r_sfld ?_)
    walk_at "go"
    refine ⟨x, _, dx, _, rfl, hx, T.c_Book, T.n_Book_own_life, (of_decide_eq_true (by kernel_rfl)), ?_⟩
    generalize hh : upd H x _ = H1
    have k1 : Kp [x] H H1 := hh ▸ Kp.put (Kp.refl H) (by simp)
    replace hx := (congrFun hh x).symm.trans upd_same
    clear hh
    walk_at "go"
    first | refine r_sfld ?_ | (dsimp only; refine r_sfld ?_)
    walk_at "go"
    refine ⟨x, _, dx, _, rfl, hx, T.c_Book, T.n_Book_own_most, (of_decide_eq_true (by kernel_rfl)), ?_⟩
    generalize hh : upd H1 x _ = H2
    have k2 : Kp [x] H H2 := hh ▸ Kp.put k1 (by simp)
    replace hx := (congrFun hh x).symm.trans upd_same
    clear hh
    walk_at "go"
    first | refine r_sfld ?_ | (dsimp only; refine r_sfld ?_)
    walk_at "go"
    refine fun eD n3 => ?_
    generalize hh : upd H2 eD _ = H3
    have s3 : Same H2 H3 := hh ▸ Same.new n3
    have e3 : H3 eD = some _ := hh ▸ upd_same
    clear hh
    walk_at "go"
    have f_eD : H eD = none := Kp.free1 k2 n3 hx
    have x_eD : eD ≠ x := ne_of_none' hx n3
    replace hx := s3 _ _ hx
    have k3 := Kp.trans k2 (Same.kp s3)
    refine ⟨x, _, dx, _, rfl, hx, T.c_Book, T.n_Book_own_entries, (of_decide_eq_true (by kernel_rfl)), ?_⟩
    generalize hh : upd H3 x _ = H4
    have k4 : Kp [x] H H4 := hh ▸ Kp.put k3 (by simp)
    replace hx := (congrFun hh x).symm.trans upd_same
    replace e3 := (congrFun hh eD).symm.trans ((upd_ne x_eD).trans e3)
    clear hh
    walk_at "go"
    first | refine r_sfld ?_ | (dsimp only; refine r_sfld ?_)
    walk_at "go"
    refine ⟨x, _, dx, _, rfl, hx, T.c_Book, T.n_Book_own_ticks, (of_decide_eq_true (by kernel_rfl)), ?_⟩
    generalize hh : upd H4 x _ = H5
    have k5 : Kp [x] H H5 := hh ▸ Kp.put k4 (by simp)
    replace hx := (congrFun hh x).symm.trans upd_same
    replace e3 := (congrFun hh eD).symm.trans ((upd_ne x_eD).trans e3)
    clear hh
    walk_at "go"
    first | refine r_sfld ?_ | (dsimp only; refine r_sfld ?_)
    walk_at "go"
    refine ⟨x, _, dx, _, rfl, hx, T.c_Book, T.n_Book_own_next, (of_decide_eq_true (by kernel_rfl)), ?_⟩
    generalize hh : upd H5 x _ = H6
    have k6 : Kp [x] H H6 := hh ▸ Kp.put k5 (by simp)
    replace hx := (congrFun hh x).symm.trans upd_same
    replace e3 := (congrFun hh eD).symm.trans ((upd_ne x_eD).trans e3)
    clear hh
    walk_at "go"
    first | refine r_sfld ?_ | (dsimp only; refine r_sfld ?_)
    walk_at "go"
    refine fun lr n7 => ?_
    generalize hh : upd H6 lr _ = H7
    have s7 : Same H6 H7 := hh ▸ Same.new n7
    have e7 : H7 lr = some _ := hh ▸ upd_same
    clear hh
    walk_at "go"
    have f_lr : H lr = none := Kp.free1 k6 n7 hx
    have x_lr : lr ≠ x := ne_of_none' hx n7
    have d_eD_lr : eD ≠ lr := ne_of_none e3 n7
    replace e3 := s7 _ _ e3
    replace hx := s7 _ _ hx
    have k7 := Kp.trans k6 (Same.kp s7)
    refine ⟨x, _, dx, _, rfl, hx, T.c_Book, T.n_Book_log_rows, (of_decide_eq_true (by kernel_rfl)), ?_⟩
    generalize hh : upd H7 x _ = H8
    have k8 : Kp [x] H H8 := hh ▸ Kp.put k7 (by simp)
    replace hx := (congrFun hh x).symm.trans upd_same
    replace e3 := (congrFun hh eD).symm.trans ((upd_ne x_eD).trans e3)
    replace e7 := (congrFun hh lr).symm.trans ((upd_ne x_lr).trans e7)
    clear hh
    walk_at "go"
    first | refine r_sfld ?_ | (dsimp only; refine r_sfld ?_)
    walk_at "go"
    refine ⟨x, _, dx, _, rfl, hx, T.c_Book, T.n_Book_rows_open, (of_decide_eq_true (by kernel_rfl)), ?_⟩
    generalize hh : upd H8 x _ = H9
    have k9 : Kp [x] H H9 := hh ▸ Kp.put k8 (by simp)
    replace hx := (congrFun hh x).symm.trans upd_same
    replace e3 := (congrFun hh eD).symm.trans ((upd_ne x_eD).trans e3)
    replace e7 := (congrFun hh lr).symm.trans ((upd_ne x_lr).trans e7)
    clear hh
    walk_at "go"
    exact k _ ⟨x, 0, 0, 0, 0, 0, 0, 0, 0, 0, 0, 0, eD, 0, 0, 0⟩ _ rfl { life := by kernel_rfl, most := by kernel_rfl, eD := by kernel_rfl, ticks := by kernel_rfl, next := by kernel_rfl, n1 := by kernel_rfl, n2 := by kernel_rfl, n3 := by kernel_rfl, n4 := by kernel_rfl, n5 := by kernel_rfl, n6 := by kernel_rfl, n7 := by kernel_rfl, n8 := by kernel_rfl, n9 := by kernel_rfl, z := of_decide_eq_true (by kernel_rfl) } f_eD hx e3 k9
theorem ok_Mixing (T : Hd.Tx K mg) : MakK P w K mg base 3 "Mixing" (He.ga K "Mixing") (spMInit K) 1 ["factor"] (fun vs zs => vs ++ zs) := by
  obtain ⟨fd, F⟩ := T.d_Mixing_init
  obtain ⟨its, mv, b⟩ := F.kbinds (ps := ["self", "width", "factor"]) 2 ["factor"] [] (fun us _ _ ws => us ++ ws) (by simp) (by simp) (by simp) (fun r _ _ q => r.append q) fun T D doc pm an cdv ct us its mv ws h1 h2 h3 h4 => match us, its, mv, ws, h1, h2, h3, h4 with | [_, _], [_], [], [_], _, _, _, _ => ⟨_, rfl, rfl⟩
  exact ⟨_, fd, _, _, T.k_Mixing, (ok_f_Mixing T fd F).mono (by decide), T.g_Mixing, b⟩
theorem ok_Book (T : Hd.Tx K mg) : Mak P w K mg base 1 "Book" (He.ga K "Book") (spBInit K) [.int 9, .int 8] := by
  obtain ⟨fd, F⟩ := T.d_Book_init
  obtain ⟨ds, v, b⟩ := F.binds0 (ps := ["self", "life", "most"]) 1 (by simp) rfl fun D doc pm an cdv ct us ks h1 h2 => match us, ks, h1, h2 with | [_], [_, _], _, _ => ⟨_, _, _, _, _, _, rfl, rfl, ⟨_, _, _, _, _, _, rfl, rfl, rfl⟩⟩
  exact ⟨_, fd, _, ds, T.k_Book, ok_f_Book T fd F, T.g_Book, b, v⟩
def spBLen (K : PySem.W.Frag) : Sp := fun vs H Q _ => ∃ (a : Ad) (d : Da), vs = [.ref a.b] ∧ StAt K H a d ∧ Q (.int 1) H
abbrev N_Book_len : List Str := ["self"]
theorem sc_Book_len : FnScope N_Book_len ["self"] (defScope Hd.sBook_len) := ⟨rfl, rfl, rfl, by decide +kernel, rfl, by decide +kernel, by decide +kernel⟩
theorem ok_Book_len (T : Hd.Tx K mg) : Met P w K mg base 1 (He.ga K "Book") "__len__" ((spBLen K)) := by
  obtain ⟨fd, F⟩ := T.d_Book_len
  have sc := sc_Book_len
  refine metD T.c_Book T.m_Book_len F sc (fun vs H Q E h => ?_) (fun _ _ _ _ _ _ us hl => match us, hl with | [_], _ => rfl) (fun cdv A outer s H vs Q E hr h => ?_)
  · obtain ⟨a, d, rfl, _⟩ := h; rfl
  · obtain ⟨a, d, rfl, S, k⟩ := h
    refine ⟨_, (pss_one (ps_ret (pe_callB call_lenD (by rfl) T.f_len (by decide +kernel) (pa_cons (pe_fld (pv 0) rfl) pa_nil)))), ?_⟩
    obtain ⟨dx, fs, eB, F⟩ := S.book
    try dsimp only [cxOf]
    walk_at "go"
    
    refine r_fldv eB T.c_Book T.n_Book_own_entries F.eD ?_
    walk_at "go"
    refine ⟨a.eD, _, rfl, S.eDat, ?_⟩
    walk_at "go"
    exact k
def spEntryOf (K : PySem.W.Frag) : Sp := fun vs H Q _ => ∃ (b dx : Addr) (fs : List (Str × V)) (eD : Addr) (nm : Str) (e : Addr), vs = [.ref b, .str nm] ∧ H b = some (.ins (He.ga K "Book") dx fs) ∧ fs.lookup ("own_entries" : Str) = some (.ref eD) ∧ H eD = some (.dK [(.inr nm, .ref e)]) ∧ Q (.ref e) H
abbrev N_Book_entry_of : List Str := ["self", "name"]
theorem sc_Book_entry_of : FnScope N_Book_entry_of ["self", "name"] (defScope Hd.sBook_entry_of) := ⟨rfl, rfl, rfl, by decide +kernel, rfl, by decide +kernel, by decide +kernel⟩
theorem ok_Book_entry_of (T : Hd.Tx K mg) : Met P w K mg base 1 (He.ga K "Book") "entry_of" ((spEntryOf K)) := by
  obtain ⟨fd, F⟩ := T.d_Book_entry_of
  have sc := sc_Book_entry_of
  refine metD T.c_Book T.m_Book_entry_of F sc (fun vs H Q E h => ?_) (fun _ _ _ _ _ _ us hl => match us, hl with | [_, _], _ => rfl) (fun cdv A outer s H vs Q E hr h => ?_)
  · obtain ⟨b, dx, fs, eD, nm, e, rfl, _⟩ := h; rfl
  · obtain ⟨b, dx, fs, eD, nm, e, rfl, eB, lD, hD, k⟩ := h
    refine ⟨_, (pss_cons (ps_if (pt_cmp (pc_dnotin (hu_of hr) (pv 1) (pe_fld (pv 0) rfl))) (pss_one ps_never) pss_nil)
      (pss_one (ps_ret (pe_dget (hu_of hr) (pe_fld (pv 0) rfl) (pv 1) (fun _ _ => rfl))))), ?_⟩
    try dsimp only [cxOf]
    walk_at "go"
    
    refine r_ndin ?_
    walk_at "go"
    refine r_fldv eB T.c_Book T.n_Book_own_entries lD ?_
    have hv : valV [((Sum.inr nm : Key), V.ref e)] (.inr nm) = some (.ref e) := valV_pos rfl
    refine r_dinv (k := .inr nm) hD ?_
    rw [hv]
    dsimp only [Option.isSome]
    walk_at "go"
    refine r_dget ?_
    walk_at "go"
    refine r_fldv eB T.c_Book T.n_Book_own_entries lD ?_
    walk_at "go"
    exact r_dgetv (k := .inr nm) hD hv k
theorem _root_.Mr.EnF.putPl {a : Ad} {key m fx : Int} {lv : V} {fs : List (Str × V)} (h : EnF a key m fx lv fs) (p : Addr) : EnF { a with pl := p } key m fx lv (putF "own_policy" (.ref p) fs) := by
  have o : ∀ g : Str, g ≠ "own_policy" → (putF "own_policy" (.ref p) fs).lookup g = fs.lookup g := fun g hg => putF_other _ _ hg
  exact { key := (o _ (by decide +kernel)).trans h.key, mx := (o _ (by decide +kernel)).trans h.mx, many := (o _ (by decide +kernel)).trans h.many, fixed := (o _ (by decide +kernel)).trans h.fixed, pl := putF_same _ _ _, pn := (o _ (by decide +kernel)).trans h.pn, ak := (o _ (by decide +kernel)).trans h.ak, last := (o _ (by decide +kernel)).trans h.last, hi := (o _ (by decide +kernel)).trans h.hi, n1 := (o _ (by decide +kernel)).trans h.n1, n2 := (o _ (by decide +kernel)).trans h.n2, n3 := (o _ (by decide +kernel)).trans h.n3, n4 := (o _ (by decide +kernel)).trans h.n4, n5 := (o _ (by decide +kernel)).trans h.n5, n6 := (o _ (by decide +kernel)).trans h.n6, z := by rw [putF_len _ _ _ (by rw [h.pl]; rfl)]; exact h.z }
theorem _root_.Mr.EnF.putPn {a : Ad} {key m fx : Int} {lv : V} {fs : List (Str × V)} (h : EnF a key m fx lv fs) (p : Addr) : EnF { a with pn := p } key m fx lv (putF "own_plan" (.ref p) fs) := by
  have o : ∀ g : Str, g ≠ "own_plan" → (putF "own_plan" (.ref p) fs).lookup g = fs.lookup g := fun g hg => putF_other _ _ hg
  exact { key := (o _ (by decide +kernel)).trans h.key, mx := (o _ (by decide +kernel)).trans h.mx, many := (o _ (by decide +kernel)).trans h.many, fixed := (o _ (by decide +kernel)).trans h.fixed, pl := (o _ (by decide +kernel)).trans h.pl, pn := putF_same _ _ _, ak := (o _ (by decide +kernel)).trans h.ak, last := (o _ (by decide +kernel)).trans h.last, hi := (o _ (by decide +kernel)).trans h.hi, n1 := (o _ (by decide +kernel)).trans h.n1, n2 := (o _ (by decide +kernel)).trans h.n2, n3 := (o _ (by decide +kernel)).trans h.n3, n4 := (o _ (by decide +kernel)).trans h.n4, n5 := (o _ (by decide +kernel)).trans h.n5, n6 := (o _ (by decide +kernel)).trans h.n6, z := by rw [putF_len _ _ _ (by rw [h.pn]; rfl)]; exact h.z }
theorem same_mk {H : Hp} {x dx : Addr} {o o' : HO} (n1 : H x = none) (n2 : H dx = none) : Same H (upd (upd H dx o) x o') := fun b u e => by
  rw [upd_ne (ne_of_none e n1), upd_ne (ne_of_none e n2)]; exact e
def spPut (K : PySem.W.Frag) : Sp := fun vs H Q _ => ∃ (a : Ad) (dx : Addr) (fs : List (Str × V)) (nm : Str) (key m fx : Int) (lv : V) (dxe : Addr) (fse : List (Str × V)) (p0 p1 : Addr), vs = [.ref a.b, .str nm, .ref p0, .ref p1] ∧ H a.b = some (.ins (He.ga K "Book") dx fs) ∧ fs.lookup ("own_entries" : Str) = some (.ref a.eD) ∧ fs.lookup ("entry_of" : Str) = none ∧ H a.eD = some (.dK [(.inr nm, .ref a.e)]) ∧
  H a.e = some (.ins (He.ga K "Entry") dxe fse) ∧ EnF a key m fx lv fse ∧ H p0 = some (.lst []) ∧ H p1 = some (.lst []) ∧
  ∀ H' pl pn fse', EnF { a with pl := pl, pn := pn } key m fx lv fse' → H pl = none → H pn = none → pl ≠ pn → H' a.e = some (.ins (He.ga K "Entry") dxe fse') → H' pl = some (.lst []) → H' pn = some (.lst []) → Kp [a.e] H H' → Q .non H' 
abbrev N_Book_put : List Str := ["self", "name", "policy", "plan", "entry"]
theorem sc_Book_put : FnScope N_Book_put ["self", "name", "policy", "plan"] (defScope Hd.sBook_put) := ⟨rfl, rfl, rfl, by decide +kernel, rfl, by decide +kernel, by decide +kernel⟩
theorem ok_Book_put (T : Hd.Tx K mg) : MetK P w K mg base 2 (He.ga K "Book") "put" ((spPut K)) 1 ["policy", "plan"] := by
  obtain ⟨fd, F⟩ := T.d_Book_put
  have sc := sc_Book_put
  have C_Book_entry_of := ok_Book_entry_of (P := P) (w := w) (base := base) T
  refine metKD T.c_Book T.m_Book_put F sc (fun vs H Q E h => ?_) (fun _ _ _ _ _ _ us ws h1 h2 => match us, ws, h1, h2 with | [_, _], [_, _], _, _ => rfl) (fun cdv A outer s H vs Q E hr h => ?_)
  · obtain ⟨a, dx, fs, nm, key, m, fx, lv, dxe, fse, p0, p1, rfl, _⟩ := h; rfl
  · obtain ⟨a, dx, fs, nm, key, m, fx, lv, dxe, fse, p0, p1, rfl, eB, lD, n1, hD, eE, F, h0, h1, k⟩ := h
    refine ⟨_, (pss_cons (sn 4 sc.nd (pm C_Book_entry_of hr (by decide) (pv 0) (pa_cons (pv 1) pa_nil)))
      (pss_cons (ps_fld (pv 4) (pe_ifExp (pt_cmpR op_isN (pv 2) pe_non (nomark _)) (pe_fld (pv 4) rfl) (pe_callTy call_list_of (by rfl) T.f_list (by decide +kernel) (pa_cons (pv 2) pa_nil))) rfl)
      (pss_one (ps_fld (pv 4) (pe_ifExp (pt_cmpR op_isN (pv 3) pe_non (nomark _)) (pe_fld (pv 4) rfl) (pe_callTy call_list_of (by rfl) T.f_list (by decide +kernel) (pa_cons (pv 3) pa_nil))) rfl)))), ?_⟩
    try dsimp only [cxOf]
    walk_at "go"
    
    refine ⟨a.b, dx, fs, rfl, eB, n1, ?_⟩
    walk_at "go"
    refine ⟨a.b, dx, fs, a.eD, nm, a.e, rfl, eB, lD, hD, ?_⟩
    walk_at "go"
    refine r_sfld ?_
    walk_at "go"
    refine ⟨p0, _, rfl, .inl (.of h0), ?_⟩
    refine fun pl npl => ?_
    generalize hh : upd H pl _ = H1
    have s1 : Same H H1 := hh ▸ Same.new npl
    have e1 : H1 pl = some _ := hh ▸ upd_same
    clear hh
    walk_at "go"
    have eE1 := s1 _ _ eE
    refine ⟨a.e, _, dxe, fse, rfl, eE1, T.c_Entry, T.n_Entry_own_policy, Nat.lt_trans F.z (by decide), ?_⟩
    generalize hh : upd H1 a.e _ = H2
    have k2 : Kp [a.e] H H2 := hh ▸ Kp.put (Same.kp s1) (by simp)
    have eE2 := (congrFun hh a.e).symm.trans upd_same
    have e2 := (congrFun hh pl).symm.trans ((upd_ne (ne_of_none' eE npl)).trans e1)
    clear hh
    have F2 := F.putPl pl
    walk_at "go"
    first | refine r_sfld ?_ | (dsimp only; refine r_sfld ?_)
    walk_at "go"
    have h12 : H2 p1 = some (.lst []) := k2 _ _ h1 (by simp; intro z; rw [z, eE] at h1; cases h1)
    refine ⟨p1, _, rfl, .inl (.of h12), ?_⟩
    refine fun pn npn => ?_
    generalize hh : upd H2 pn _ = H3
    have s3 : Same H2 H3 := hh ▸ Same.new npn
    have e3 : H3 pn = some _ := hh ▸ upd_same
    clear hh
    walk_at "go"
    have eE3 := s3 _ _ eE2
    refine ⟨a.e, _, dxe, _, rfl, eE3, T.c_Entry, T.n_Entry_own_plan, Nat.lt_trans F2.z (by decide), ?_⟩
    have npnH : H pn = none := Kp.free1 k2 npn eE2
    generalize hh : upd H3 a.e _ = H4
    have k4 : Kp [a.e] H H4 := hh ▸ Kp.put (k2.trans (Same.kp s3)) (by simp)
    have eE4 := (congrFun hh a.e).symm.trans upd_same
    have e4 := (congrFun hh pn).symm.trans ((upd_ne (ne_of_none' eE2 npn)).trans e3)
    have e5 := (congrFun hh pl).symm.trans ((upd_ne (ne_of_none' eE npl)).trans (s3 _ _ e2))
    clear hh
    walk_at "go"
    exact k _ pl pn _ (F2.putPn pn) npl npnH (ne_of_none e2 npn) eE4 e5 e4 k4
end
end Fx

/-! A8: defs and their promises -/
namespace Fx
open PySem PySem.Spec PyProof.Rows L2 Sv Mr
local macro_rules | `(tactic| walk_at "go") => `(tactic| repeat (first
  | with_reducible refine r_seq ?_ | with_reducible refine r_asg ?_ | with_reducible refine r_gn ?_ | with_reducible refine r_ret ?_ | with_reducible refine r_ifS ?_
  | ((with_reducible refine' r_var ?kv ?_); (case kv => exact rfl)) | with_reducible refine r_c ?_ | with_reducible refine r_op ?_ | with_reducible refine r_I0 ?_ | with_reducible refine r_cons ?_ | with_reducible refine r_nil ?_
  | with_reducible refine r_cb ?_ | with_reducible refine r_call ?_ | with_reducible refine r_test ?_ | with_reducible refine r_tB ?_ | with_reducible refine r_k ?_ | with_reducible refine r_or ?_ | with_reducible refine r_and ?_ | with_reducible refine r_not ?_
  | with_reducible refine r_andV ?_ | with_reducible refine r_orV ?_ | with_reducible refine r_notV ?_ | with_reducible refine r_if ?_ | with_reducible refine r_T ?_ | with_reducible refine r_F ?_ | with_reducible refine r_Tn ?_ | with_reducible refine r_Fn ?_
  | with_reducible refine r_isiS ?_ | with_reducible refine r_isiI ?_ | with_reducible refine r_isiIB ?_ | with_reducible refine r_chain ?_ | with_reducible refine r_un ?_ | with_reducible refine r_drop ?_ | with_reducible refine r_tup ?_ | with_reducible refine r_lst ?_
  | ((with_reducible refine' r_eq ?kv ?_); (case kv => exact rfl)) | ((with_reducible refine' r_ne ?kv ?_); (case kv => exact rfl)) | with_reducible refine r_nx ?_ | with_reducible refine r_retN ?_ | with_reducible refine r_yes ?_ | ((with_reducible refine' r_I ?kd ?_); (case kd => first | exact Or.inr ⟨by decide, by decide⟩ | exact ⟨by decide, by decide⟩ | exact ⟨by decide, by decide, by decide⟩ | (show (0 : Int) < _; first | decide | omega)))
  | with_reducible refine r_gCons ?_ | with_reducible refine r_gNil ?_ | with_reducible refine r_tPar ?_ | with_reducible refine r_par ?_ | with_reducible refine r_tPar3 ?_ | with_reducible refine r_par3 ?_ | with_reducible refine r_sl ?_ | with_reducible refine r_part ?_ | with_reducible refine r_parti ?_ | with_reducible refine r_nopart ?_ | with_reducible refine r_gSub ?_ | with_reducible refine r_rU ?_ | with_reducible refine r_bm ?_ | ((with_reducible refine' r_tyL ?kd ?_); (case kd => assumption)) | with_reducible refine r_nn ?_ | with_reducible refine r_meth ?_ | with_reducible refine r_methN ?_ | with_reducible refine r_callN ?_ | with_reducible refine r_fld ?_ | with_reducible refine r_lc ?_ | with_reducible refine r_for ?_ | with_reducible refine r_iList ?_ | with_reducible refine r_iTup ?_ | with_reducible refine r_iStr ?_ | with_reducible refine r_iRng1 ?_ | with_reducible refine r_iEnum ?_ | with_reducible refine r_iZip ?_ | with_reducible refine r_iZipA ?_
  | ((with_reducible refine' r_sz ?kz ?_); (case kz => first | decide | (simp only [List.length_cons, List.length_nil]; omega)))
  | ((with_reducible refine' r_isiT ?kd ?_); (case kd => assumption)) | ((with_reducible refine' r_isiL ?kd ?_); (case kd => assumption)) | ((with_reducible refine' r_isiTL ?kd ?_); (case kd => assumption)) | ((with_reducible refine' r_isiLT ?kd ?_); (case kd => assumption))
  | ((with_reducible refine' r_lenT ?kd ?_); (case kd => exact SqT.of (by assumption))) | ((with_reducible refine' r_lenL ?kd ?_); (case kd => exact SqL.of (by assumption)))
  | ((with_reducible refine' r_ixT ?ka ?kb ?_); (case ka => exact SqT.of (by assumption)); (case kb => exact rfl)) | ((with_reducible refine' r_gTup ?ka ?kb ?_); (case ka => exact SqT.of (by assumption)); (case kb => exact rfl))
  | ((with_reducible refine' r_dT ?kd ?_); (case kd => walk_at "pos")) | ((with_reducible refine' r_dF ?kd ?_); (case kd => walk_at "neg")) | ((with_reducible refine' r_ndT ?kd ?_); (case kd => walk_at "neg")) | ((with_reducible refine' r_ndF ?kd ?_); (case kd => walk_at "pos"))
  | ((with_reducible refine' r_pos ?kd ?_); (case kd => with_reducible exact rfl)) | ((with_reducible refine' r_neg ?kd ?_); (case kd => with_reducible exact rfl)) | ((with_reducible refine' r_pos ?kd ?_); (case kd => (with_reducible show _ = true); decide)) | ((with_reducible refine' r_neg ?kd ?_); (case kd => (with_reducible show _ = false); decide))))
local macro_rules | `(tactic| walk_at "pos") => `(tactic| first | assumption | omega | rfl | exact congrArg V.int (by omega) | exact congrArg V.str (by assumption))
local macro_rules | `(tactic| walk_at "neg") => `(tactic| first | assumption | omega | (intro hne; injection hne with hne; first | omega | contradiction | exact absurd hne (by decide +kernel)) | (intro hne; cases hne))

section
variable {P : Program} {w : World} {K : PySem.W.Frag} {mg : Str → Option Value} {base : Heap}
theorem r_mk {σ : L2.St} {H : Hp} {Q : VK} {C : Addr} {sp : Sp} {dvs : List V} {E : XK} {t : TA} (h : t σ H fun vs H1 => ∀ x dx, H1 x = none → H1 dx = none → dx ≠ x → sp (.ref x :: (vs ++ dvs)) (upd (upd H1 dx (.own x)) x (.ins C dx [])) (fun v H2 => v = .non ∧ Q (.ref x) H2) E) : tMake C sp dvs E t σ H Q := h
def spKnow (K : PySem.W.Frag) : Sp := fun vs H Q _ => ∃ (a : Ad) (dx : Addr) (fs : List (Str × V)) (nm : Str) (key m fx : Int) (mx : Addr) (p0 p1 : Addr), vs = [.ref a.b, .str nm, .int key, .ref mx, .ref p0, .ref p1, .int m, .int fx] ∧ H a.b = some (.ins (He.ga K "Book") dx fs) ∧ fs.lookup ("own_most" : Str) = some (.int 8) ∧ fs.lookup ("own_entries" : Str) = some (.ref a.eD) ∧ fs.lookup ("entry_of" : Str) = none ∧ fs.lookup ("put" : Str) = none ∧ H a.eD = some (.dK []) ∧ H p0 = some (.lst []) ∧ H p1 = some (.lst []) ∧
  ∀ H' e ak hi pl pn dxe fse, EnF { a with e := e, ak := ak, hi := hi, pl := pl, pn := pn, mx := mx } key m fx .non fse → H e = none → H ak = none → H hi = none → H pl = none → H pn = none → [e, ak, hi, pl, pn].Nodup → H' a.eD = some (.dK [(.inr nm, .ref e)]) → H' e = some (.ins (He.ga K "Entry") dxe fse) → H' ak = some (.dK []) → H' hi = some (.lst []) → H' pl = some (.lst []) → H' pn = some (.lst []) → Kp [a.eD] H H' → Q .non H' 
abbrev N_Book_know : List Str := ["self", "name", "key", "mixing", "policy", "plan", "many", "fixed"]
theorem sc_Book_know : FnScope N_Book_know ["self", "name", "key", "mixing", "policy", "plan", "many", "fixed"] (defScope Hd.sBook_know) := ⟨rfl, rfl, rfl, by decide +kernel, rfl, by decide +kernel, by decide +kernel⟩
theorem ok_Book_know (T : Hd.Tx K mg) : MetK P w K mg base 3 (He.ga K "Book") "know" ((spKnow K)) 2 ["mixing", "policy", "plan", "many", "fixed"] := by
  obtain ⟨fd, F⟩ := T.d_Book_know
  have sc := sc_Book_know
  have C_Book_put := ok_Book_put (P := P) (w := w) (base := base) T
  have C_Entry := ok_Entry (P := P) (w := w) (base := base) T
  refine metKD T.c_Book T.m_Book_know F sc (fun vs H Q E h => ?_) (fun _ _ _ _ _ _ us ws h1 h2 => match us, ws, h1, h2 with | [_, _, _], [_, _, _, _, _], _, _ => rfl) (fun cdv A outer s H vs Q E hr h => ?_)
  · obtain ⟨a, dx, fs, nm, key, m, fx, mx, p0, p1, rfl, _⟩ := h; rfl
  · obtain ⟨a, dx, fs, nm, key, m, fx, mx, p0, p1, rfl, eB, lM, lD, n1, n3, hD, h0, h1, k⟩ := h
    refine ⟨_, (pss_cons (ps_if (pt_cmp (pc_din (hu_of hr) (pv 1) (pe_fld (pv 0) rfl))) (pss_one ps_never) pss_nil)
      (pss_cons (ps_if (pt_cmpR op_ge (pe_callB call_lenD (by rfl) T.f_len (by decide +kernel) (pa_cons (pe_fld (pv 0) rfl) pa_nil)) (pe_fld (pv 0) rfl) (nomark _)) (pss_one ps_never) pss_nil)
      (pss_cons (ps_dput (hu_of hr) (pe_fld (pv 0) rfl) (pv 1) (pmk C_Entry hr (by decide) (pa_cons (pv 2) (pa_cons (pe_ifExp (pt_cmpR op_isN (pv 3) pe_non (nomark _)) pe_nev (pv 3)) (pa_cons (pv 6) (pa_cons (pv 7) pa_nil))))) rfl)
      (pss_one (ps_expr (pmK C_Book_put hr (by decide) (pv 0) (pa_cons (pv 1) pa_nil) (pk_cons (pv 4) (pk_cons (pv 5) pk_nil)))))))), ?_⟩
    try dsimp only [cxOf]
    walk_at "go"
    
    refine r_din ?_
    walk_at "go"
    refine r_fldv eB T.c_Book T.n_Book_own_entries lD ?_
    refine r_dinv (k := .inr nm) hD ?_
    rw [show valV ([] : List (Key × V)) (.inr nm) = none from rfl]
    dsimp only [Option.isSome]
    walk_at "go"
    refine r_fldv eB T.c_Book T.n_Book_own_entries lD ?_
    walk_at "go"
    refine ⟨a.eD, _, rfl, hD, ?_⟩
    walk_at "go"
    refine r_fldv eB T.c_Book T.n_Book_own_most lM ?_
    walk_at "go"
    refine r_dput ?_
    refine r_mk ?_
    walk_at "go"
    intro x dxe nx ndx nxx
    generalize hh : upd (upd H dxe _) x _ = H1
    have s1 : Same H H1 := hh ▸ same_mk nx ndx
    have e1 := (congrFun hh x).symm.trans upd_same
    clear hh
    refine ⟨x, dxe, key, mx, m, fx, rfl, e1, fun H2 a2 fse F ex emx npl npn nak nhi nd e2 epl epn eak ehi k2 => ⟨rfl, ?_⟩⟩
    walk_at "go"
    have kx : ∀ b o, H b = some o → H2 b = some o := fun b o e => k2 b o (s1 b o e) (by simp; exact ne_of_none e nx)
    refine r_fldv (kx _ _ eB) T.c_Book T.n_Book_own_entries lD ?_
    walk_at "go"
    refine r_dputv (k := .inr nm) (kx _ _ hD) (by decide) ?_
    rw [show putK ([] : List (Key × V)) (.inr nm) (.ref x) = [(.inr nm, .ref x)] from rfl]
    have eD2 := kx _ _ hD
    generalize hh : upd H2 a.eD _ = H3
    have k3 : Kp [a.eD] H H3 := hh ▸ Kp.put (fun b o e _ => kx b o e) (by simp)
    have k23 : Kp [a.eD] H2 H3 := hh ▸ Kp.put (Kp.refl _) (by simp)
    have eD3 := (congrFun hh a.eD).symm.trans upd_same
    clear hh
    have far : ∀ (q : Addr) (o : HO), H2 q = some o → H q = none → H3 q = some o := fun q o e n => k23 q o e (by simp; exact ne_of_none' hD n)
    have old : ∀ q : Addr, H1 q = none → H q = none := fun q e => by
      cases h : H q with
      | none => rfl
      | some o => rw [s1 _ _ h] at e; cases e
    have e3 := far _ _ e2 nx
    have ne0 : a.b ≠ a.eD := fun z => by rw [z, hD] at eB; cases eB
    have np0 : p0 ≠ a.eD := fun z => by rw [z, hD] at h0; cases h0
    have np1 : p1 ≠ a.eD := fun z => by rw [z, hD] at h1; cases h1
    have eB3 := k3 _ _ eB (by simp; exact ne0)
    walk_at "go"
    refine ⟨a.b, dx, fs, rfl, eB3, n3, ?_⟩
    walk_at "go"
    refine ⟨rfl, rfl, { a2 with b := a.b, eD := a.eD, e := x }, dx, fs, nm, key, m, fx, .non, dxe, fse, p0, p1, rfl, eB3, lD, n1, eD3, e3, ⟨F.key, F.mx, F.many, F.fixed, F.pl, F.pn, F.ak, F.last, F.hi, F.n1, F.n2, F.n3, F.n4, F.n5, F.n6, F.z⟩, k3 _ _ h0 (by simp; exact np0), k3 _ _ h1 (by simp; exact np1), fun H4 pl pn fse4 F4 n4 n5 ne4 e4 e5 e6 k4 => ?_⟩
    have kf : Kp [a.eD] H H4 := fun b o e n => k4 b o (k3 b o e n) (by simp; exact ne_of_none e nx)
    have hx1 : H1 x ≠ none := by rw [e1]; simp
    have fr : ∀ q : Addr, H3 q = none → H q = none := fun q e => by
      cases h : H q with
      | none => rfl
      | some o =>
        by_cases c : q = a.eD
        · rw [c, eD3] at e; cases e
        · rw [k3 _ _ h (by simp; exact c)] at e; cases e
    have nak2 := old _ nak
    have nhi2 := old _ nhi
    have cak : a2.ak ≠ x := fun z => by rw [z, e1] at nak; cases nak
    have chi : a2.hi ≠ x := fun z => by rw [z, e1] at nhi; cases nhi
    have eak3 := far _ _ eak nak2
    have ehi3 := far _ _ ehi nhi2
    have dah : a2.ak ≠ a2.hi := by
      have nd' := nd
      simp only [List.nodup_cons, List.mem_cons, List.not_mem_nil, or_false, not_or, not_false_eq_true, List.nodup_nil, and_true] at nd'
      exact nd'.2.2
    have m1 : a2.ak ≠ pl := fun z => by rw [← z, eak3] at n4; cases n4
    have m2 : a2.ak ≠ pn := fun z => by rw [← z, eak3] at n5; cases n5
    have m3 : a2.hi ≠ pl := fun z => by rw [← z, ehi3] at n4; cases n4
    have m4 : a2.hi ≠ pn := fun z => by rw [← z, ehi3] at n5; cases n5
    have m5 : x ≠ pl := fun z => by rw [← z, e3] at n4; cases n4
    have m6 : x ≠ pn := fun z => by rw [← z, e3] at n5; cases n5
    walk_at "go"
    refine k H4 x a2.ak a2.hi pl pn dxe fse4 ⟨F4.key, emx ▸ F4.mx, F4.many, F4.fixed, F4.pl, F4.pn, F4.ak, F4.last, F4.hi, F4.n1, F4.n2, F4.n3, F4.n4, F4.n5, F4.n6, F4.z⟩ nx nak2 nhi2 (fr _ n4) (fr _ n5) ?_ (k4 _ _ eD3 (by simp; exact ne_of_none hD nx)) e4 (k4 _ _ eak3 (by simp; exact cak)) (k4 _ _ ehi3 (by simp; exact chi)) e5 e6 kf
    simp only [List.nodup_cons, List.mem_cons, List.not_mem_nil, or_false, not_or, not_false_eq_true, List.nodup_nil, and_true]
    exact ⟨⟨fun z => cak z.symm, fun z => chi z.symm, m5, m6⟩, ⟨dah, m1, m2⟩, ⟨m3, m4⟩, ne4⟩
def LastV (H H' : Hp) (v : V) : Option (Int × List Rw) → Prop
  | none => v = .non
  | some (st, rows) => ∃ (p t : Addr) (ps : List Addr), v = .ref p ∧ H' p = some (.tup [.int st, .ref t]) ∧ H' t = some (.lst (ps.map V.ref)) ∧ RowsAt H' ps rows ∧ H p = none ∧ H t = none
theorem putK_len {kvs : List (Key × V)} {k : Key} {v : V} (h : kvs.length < 1000) : (putK kvs k v).length ≤ 1000 := Nat.le_trans (length_putK kvs k v) h
def spBAsk (K : PySem.W.Frag) : Sp := fun vs H Q _ => ∃ (a : Ad) (d : Da), vs = [.ref a.b, .str d.name] ∧ StAt K H a d ∧ d.eask.length < 1000 ∧ d.bn < 10000 ∧ ∀ H', StAt K H' a { d with eask := putK d.eask (.inl d.bn) (.int 0), bn := d.bn + 1 } → Kp a.L H H' → Q (.int d.bn) H' 
abbrev N_Book_ask : List Str := ["self", "name", "entry", "number"]
theorem sc_Book_ask : FnScope N_Book_ask ["self", "name"] (defScope Hd.sBook_ask) := ⟨rfl, rfl, rfl, by decide +kernel, rfl, by decide +kernel, by decide +kernel⟩
theorem ok_Book_ask (T : Hd.Tx K mg) : Met P w K mg base 2 (He.ga K "Book") "ask" ((spBAsk K)) := by
  obtain ⟨fd, F⟩ := T.d_Book_ask
  have sc := sc_Book_ask
  have C_Book_entry_of := ok_Book_entry_of (P := P) (w := w) (base := base) T
  refine metD T.c_Book T.m_Book_ask F sc (fun vs H Q E h => ?_) (fun _ _ _ _ _ _ us hl => match us, hl with | [_, _], _ => rfl) (fun cdv A outer s H vs Q E hr h => ?_)
  · obtain ⟨a, d, rfl, _⟩ := h; rfl
  · obtain ⟨a, d, rfl, S, hz, hn, k⟩ := h
    refine ⟨_, (pss_cons (sn 2 sc.nd (pm C_Book_entry_of hr (by decide) (pv 0) (pa_cons (pv 1) pa_nil)))
      (pss_cons (sn 3 sc.nd (pe_fld (pv 0) rfl))
      (pss_cons (ps_dput (hu_of hr) (pe_fld (pv 2) rfl) (pv 3) (pe_fld (pv 0) rfl) rfl)
      (pss_cons (ps_fldaug (pv 0) pe_int in_add)
      (pss_one (ps_ret (pv 3))))))), ?_⟩
    obtain ⟨dx, fs, eB, F⟩ := S.book
    obtain ⟨dxe, fse, lv, eE, FE, hL⟩ := entD S
    have bn0 := S.bn0
    try dsimp only [cxOf]
    walk_at "go"
    
    refine ⟨a.b, dx, fs, rfl, eB, F.n1, ?_⟩
    walk_at "go"
    refine ⟨a.b, dx, fs, a.eD, d.name, a.e, rfl, eB, F.eD, S.eDat, ?_⟩
    walk_at "go"
    refine r_fldv eB T.c_Book T.n_Book_own_next F.next ?_
    walk_at "go"
    refine r_dput ?_
    walk_at "go"
    refine r_fldv eB T.c_Book T.n_Book_own_ticks F.ticks ?_
    walk_at "go"
    refine r_fldv eE T.c_Entry T.n_Entry_own_asked FE.ak ?_
    walk_at "go"
    refine r_dputv (k := .inl d.bn) S.akat (by have := S.ea; omega) ?_
    have S1 := S.setAk (kvs := putK d.eask (.inl d.bn) (.int 0)) (putK_len hz)
    have k1 : Kp a.L H (upd H a.ak (.dK (putK d.eask (.inl d.bn) (.int 0)))) := Kp.put (Kp.refl _) (List.mem_of_getElem? (show a.L[2]? = some a.ak from rfl))
    generalize hh : upd H a.ak _ = H1 at S1 k1
    clear hh
    walk_at "go"
    obtain ⟨dx1, fs1, eB1, F1⟩ := S1.book
    refine r_aug ?_
    walk_at "go"
    refine ⟨a.b, _, dx1, fs1, _, rfl, eB1, T.c_Book, T.n_Book_own_next, F1.next, ?_⟩
    walk_at "go"
    refine ⟨_, _, rfl, rfl, dx1, fs1, eB1, Nat.lt_trans F1.z (by decide), ?_⟩
    have S2 := S1.setBn (n := d.bn + 1) eB1 (by omega) (by omega)
    have k2 : Kp a.L H1 (upd H1 a.b (.ins (He.ga K "Book") dx1 (putF "own_next" (.int (d.bn + 1)) fs1))) := Kp.put (Kp.refl _) (List.mem_of_getElem? (show a.L[0]? = some a.b from rfl))
    walk_at "go"
    exact k _ S2 (k1.trans k2)
theorem signOf_bd (key : Int) (nm : Str) (st num : Int) (vals : List Int) : 0 ≤ signOf key nm st num vals ∧ signOf key nm st num vals < 1000000000039 := foldSign_bd _ _ (by unfold quoteNums; simp)
def spBTake (K : PySem.W.Frag) : Sp := fun vs H Q _ => ∃ (a : Ad) (d : Da) (q : Addr) (st num : Int) (l : Addr) (qs : List Addr) (rows : List Rw), vs = [.ref a.b, .ref q, .ref l] ∧ StAt K H a d ∧ QuoteAt H q d.name st num (shown d.hw rows d.m) (signOf d.key d.name st num (shown d.hw rows d.m)) ∧ 0 ≤ num ∧ H l = some (.lst (qs.map V.ref)) ∧ RowsAt H qs rows ∧ (∀ r ∈ rows, RowOk r) ∧ rows.length ≤ 1000 ∧ 0 ≤ st ∧ (valV d.eask (.inl num)).isSome = true ∧ d.ehist.length < 1000 ∧
  ∀ H', StAt K H' a { d with eask := dropK d.eask (.inl num), ehist := d.ehist ++ [(num, wordB d.elast d.m d.fx st rows)], elast := if wordB d.elast d.m d.fx st rows = "good" then some (st, rows) else d.elast } → Kp a.L H H' → Q (.str (wordB d.elast d.m d.fx st rows)) H' 
abbrev N_Book_take : List Str := ["self", "quote", "log", "name", "start", "number", "values", "sign", "entry"]
theorem sc_Book_take : FnScope N_Book_take ["self", "quote", "log"] (defScope Hd.sBook_take) := ⟨rfl, rfl, rfl, by decide +kernel, rfl, by decide +kernel, by decide +kernel⟩
theorem ok_Book_take (T : Hd.Tx K mg) : Met P w K mg base 13 (He.ga K "Book") "take" ((spBTake K)) := by
  obtain ⟨fd, F⟩ := T.d_Book_take
  have sc := sc_Book_take
  have C_Entry_take := ok_Entry_take (P := P) (w := w) (base := base) T
  have C_is_signed := ok_is_signed (P := P) (w := w) (base := base) T
  have C_is_rows := ok_is_rows (P := P) (w := w) (base := base) T
  have C_is_quote := ok_is_quote (P := P) (w := w) (base := base) T
  refine metD T.c_Book T.m_Book_take F sc (fun vs H Q E h => ?_) (fun _ _ _ _ _ _ us hl => match us, hl with | [_, _, _], _ => rfl) (fun cdv A outer s H vs Q E hr h => ?_)
  · obtain ⟨a, d, q, st, num, l, qs, rows, rfl, _⟩ := h; rfl
  · obtain ⟨a, d, q, st, num, l, qs, rows, rfl, S, hq, n0, hl, hR, ok, hz, s0, hv, hh, k⟩ := h
    refine ⟨_, (pss_cons (ps_if (PW.pt (pw_or (pt_not (pt_val (pc C_is_quote hr (by decide) (pa_cons (pv 1) pa_nil)))) (pw_or1 (pt_not (pt_val (pc C_is_rows hr (by decide) (pa_cons (pv 2) pa_nil))))))) (pss_one (ps_ret pe_str)) pss_nil)
      (pss_cons (ps_asg (pv 1) (pg_tup (by rfl) (pgs_cons (gn 3 sc.nd) (pgs_cons (gn 4 sc.nd) (pgs_cons (gn 5 sc.nd) (pgs_cons (gn 6 sc.nd) (pgs_cons (gn 7 sc.nd) pgs_nil)))))))
      (pss_cons (ps_if (pt_cmp (pc_dnotin (hu_of hr) (pv 3) (pe_fld (pv 0) rfl))) (pss_one (ps_ret pe_str)) pss_nil)
      (pss_cons (sn 8 sc.nd (pe_dget (hu_of hr) (pe_fld (pv 0) rfl) (pv 3) (fun _ _ => rfl)))
      (pss_cons (ps_if (pt_not (pt_val (pc C_is_signed hr (by decide) (pa_cons (pe_fld (pv 8) rfl) (pa_cons (pv 1) pa_nil))))) (pss_one (ps_ret pe_str)) pss_nil)
      (pss_one (ps_ret (pe_ifExp (pt_cmp (pc_din (hu_of hr) (pv 5) (pe_fld (pv 8) rfl))) (pm C_Entry_take hr (by decide) (pv 8) (pa_cons (pv 1) (pa_cons (pe_callTy call_list_of (by rfl) T.f_list (by decide +kernel) (pa_cons (pv 2) pa_nil)) pa_nil))) pe_str)))))))), ?_⟩
    obtain ⟨dx, fs, eB, F⟩ := S.book
    obtain ⟨dxe, fse, lv, eE, FE, hL⟩ := entD S
    have m1 := S.m1
    have m8 := S.m8
    have lsh := shown_length d.hw rows d.m
    have vnn : ∀ v ∈ shown d.hw rows d.m, 0 ≤ v := replayB_nn S.hok (fun r hr => ok r (List.mem_filter.mp hr).1) _
    have sb := signOf_bd d.key d.name st num (shown d.hw rows d.m)
    have qok : QuoteOk d.name st num (shown d.hw rows d.m) (signOf d.key d.name st num (shown d.hw rows d.m)) := ⟨S.nm, s0, n0, vnn, by omega, by omega, sb.1, sb.2⟩
    try dsimp only [cxOf]
    walk_at "go"
    
    refine ⟨q, _, st, num, _, _, rfl, hq, qok, fun H1 s1 => ?_⟩
    walk_at "go"
    refine ⟨l, qs, rows, rfl, s1 _ _ hl, hR.same s1, ok, hz, fun H2 s2 => ?_⟩
    have s02 := Same.trans s1 s2
    obtain ⟨pv, ps, q1, q2, P⟩ := (hq.same s02).ex
    have S2 := S.same s02
    walk_at "go"
    refine r_ndin ?_
    walk_at "go"
    refine r_fldv (s02 _ _ eB) T.c_Book T.n_Book_own_entries F.eD ?_
    have hve : valV [((Sum.inr d.name : Key), V.ref a.e)] (.inr d.name) = some (.ref a.e) := valV_pos rfl
    refine r_dinv (k := .inr d.name) S2.eDat ?_
    rw [hve]
    dsimp only [Option.isSome]
    walk_at "go"
    refine r_dget ?_
    walk_at "go"
    refine r_fldv (s02 _ _ eB) T.c_Book T.n_Book_own_entries F.eD ?_
    walk_at "go"
    refine r_dgetv (k := .inr d.name) S2.eDat hve ?_
    walk_at "go"
    refine r_fldv (s02 _ _ eE) T.c_Entry T.n_Entry_own_key FE.key ?_
    walk_at "go"
    refine ⟨d.key, q, d.name, st, num, _, _, rfl, S.nm, hq.same s02, by omega, fun H3 s3 => ?_⟩
    rw [decide_eq_true rfl]
    have s03 := Same.trans s02 s3
    have S3 := S.same s03
    walk_at "go"
    refine r_din ?_
    walk_at "go"
    refine r_fldv (s03 _ _ eE) T.c_Entry T.n_Entry_own_asked FE.ak ?_
    refine r_dinv (k := .inl num) S3.akat ?_
    rw [hv]
    walk_at "go"
    refine ⟨a.e, dxe, fse, rfl, s03 _ _ eE, FE.n6, ?_⟩
    walk_at "go"
    refine ⟨l, _, rfl, .inl (.of (s03 _ _ hl)), ?_⟩
    refine fun p np => ?_
    generalize hh : upd H3 p _ = H4
    have s4 : Same H3 H4 := hh ▸ Same.new np
    have e4 : H4 p = some _ := hh ▸ upd_same
    clear hh
    have s04 := Same.trans s03 s4
    walk_at "go"
    refine ⟨a, d, q, _, st, num, _, p, qs, rows, rfl, S.same s04, hq.same s04, e4, hR.same s04, ok, hz, s0, hv, hh, (S3.new_far np), fun H5 S5 k5 => ?_⟩
    walk_at "go"
    exact k _ S5 ((Same.kp s04).trans k5)
def spNames (K : PySem.W.Frag) : Sp := fun vs H Q _ => ∃ (a : Ad) (d : Da), vs = [.ref a.b] ∧ StAt K H a d ∧ ∀ p H', H p = none → H' = upd H p (.lst [.str d.name]) → Q (.ref p) H' 
abbrev N_Book_names : List Str := ["self"]
theorem sc_Book_names : FnScope N_Book_names ["self"] (defScope Hd.sBook_names) := ⟨rfl, rfl, rfl, by decide +kernel, rfl, by decide +kernel, by decide +kernel⟩
theorem ok_Book_names (T : Hd.Tx K mg) : Met P w K mg base 1 (He.ga K "Book") "names" ((spNames K)) := by
  obtain ⟨fd, F⟩ := T.d_Book_names
  have sc := sc_Book_names
  refine metD T.c_Book T.m_Book_names F sc (fun vs H Q E h => ?_) (fun _ _ _ _ _ _ us hl => match us, hl with | [_], _ => rfl) (fun cdv A outer s H vs Q E hr h => ?_)
  · obtain ⟨a, d, rfl, _⟩ := h; rfl
  · obtain ⟨a, d, rfl, S, k⟩ := h
    refine ⟨_, (pss_one (ps_ret (pe_callB (call_sortedD (by rfl)) (by rfl) T.f_sorted (by decide +kernel) (pa_cons (pe_fld (pv 0) rfl) pa_nil)))), ?_⟩
    obtain ⟨dx, fs, eB, F⟩ := S.book
    try dsimp only [cxOf]
    walk_at "go"
    
    refine r_fldv eB T.c_Book T.n_Book_own_entries F.eD ?_
    walk_at "go"
    refine ⟨a.eD, _, [d.name], rfl, .inl S.eDat, rfl, by show 1 < 64; decide, fun ys p hp _ np => ?_⟩
    rw [List.perm_singleton.mp hp]
    exact k _ _ np rfl
def spAsked (K : PySem.W.Frag) : Sp := fun vs H Q _ => ∃ (a : Ad) (d : Da), vs = [.ref a.b, .str d.name] ∧ StAt K H a d ∧ d.eask = [] ∧ ∀ p H', H p = none → H' = upd H p (.lst []) → Q (.ref p) H' 
abbrev N_Book_asked : List Str := ["self", "name"]
theorem sc_Book_asked : FnScope N_Book_asked ["self", "name"] (defScope Hd.sBook_asked) := ⟨rfl, rfl, rfl, by decide +kernel, rfl, by decide +kernel, by decide +kernel⟩
theorem ok_Book_asked (T : Hd.Tx K mg) : Met P w K mg base 2 (He.ga K "Book") "asked" ((spAsked K)) := by
  obtain ⟨fd, F⟩ := T.d_Book_asked
  have sc := sc_Book_asked
  have C_Book_entry_of := ok_Book_entry_of (P := P) (w := w) (base := base) T
  refine metD T.c_Book T.m_Book_asked F sc (fun vs H Q E h => ?_) (fun _ _ _ _ _ _ us hl => match us, hl with | [_, _], _ => rfl) (fun cdv A outer s H vs Q E hr h => ?_)
  · obtain ⟨a, d, rfl, _⟩ := h; rfl
  · obtain ⟨a, d, rfl, S, he, k⟩ := h
    refine ⟨_, (pss_one (ps_ret (pe_callB (call_sortedDI (by rfl)) (by rfl) T.f_sorted (by decide +kernel) (pa_cons (pe_fld (pm C_Book_entry_of hr (by decide) (pv 0) (pa_cons (pv 1) pa_nil)) rfl) pa_nil)))), ?_⟩
    obtain ⟨dx, fs, eB, F⟩ := S.book
    obtain ⟨dxe, fse, lv, eE, FE, hL⟩ := entD S
    have ea := S.akat
    rw [he] at ea
    try dsimp only [cxOf]
    walk_at "go"
    
    refine ⟨a.b, dx, fs, rfl, eB, F.n1, ?_⟩
    walk_at "go"
    refine ⟨a.b, dx, fs, a.eD, d.name, a.e, rfl, eB, F.eD, S.eDat, ?_⟩
    walk_at "go"
    refine r_fldv eE T.c_Entry T.n_Entry_own_asked FE.ak ?_
    walk_at "go"
    refine ⟨a.ak, _, [], rfl, .inl ea, rfl, by decide, fun ys p hp _ np => ?_⟩
    rw [List.perm_nil.mp hp]
    exact k _ _ np rfl
def spLast (K : PySem.W.Frag) : Sp := fun vs H Q _ => ∃ (a : Ad) (d : Da), vs = [.ref a.b, .str d.name] ∧ StAt K H a d ∧ ∀ v H', Same H H' → LastV H H' v d.elast → Q v H' 
abbrev N_Book_last : List Str := ["self", "name", "found"]
theorem sc_Book_last : FnScope N_Book_last ["self", "name"] (defScope Hd.sBook_last) := ⟨rfl, rfl, rfl, by decide +kernel, rfl, by decide +kernel, by decide +kernel⟩
theorem ok_Book_last (T : Hd.Tx K mg) : Met P w K mg base 2 (He.ga K "Book") "last" ((spLast K)) := by
  obtain ⟨fd, F⟩ := T.d_Book_last
  have sc := sc_Book_last
  have C_Book_entry_of := ok_Book_entry_of (P := P) (w := w) (base := base) T
  refine metD T.c_Book T.m_Book_last F sc (fun vs H Q E h => ?_) (fun _ _ _ _ _ _ us hl => match us, hl with | [_, _], _ => rfl) (fun cdv A outer s H vs Q E hr h => ?_)
  · obtain ⟨a, d, rfl, _⟩ := h; rfl
  · obtain ⟨a, d, rfl, S, k⟩ := h
    refine ⟨_, (pss_cons (sn 2 sc.nd (pe_fld (pm C_Book_entry_of hr (by decide) (pv 0) (pa_cons (pv 1) pa_nil)) rfl))
      (pss_one (ps_ret (pe_ifExp (pt_cmpR op_isN (pv 2) pe_non (nomark _)) pe_non (pe_tup (pa_cons (pe_ix (ixT K) (pv 2) pe_int (fun _ _ => rfl)) (pa_cons (pe_callTy call_list_of (by rfl) T.f_list (by decide +kernel) (pa_cons (pe_ix (ixT K) (pv 2) pe_int (fun _ _ => rfl)) pa_nil)) pa_nil))))))), ?_⟩
    obtain ⟨dx, fs, eB, F⟩ := S.book
    obtain ⟨dxe, fse, lv, eE, FE, hL⟩ := entD S
    try dsimp only [cxOf]
    walk_at "go"
    
    refine ⟨a.b, dx, fs, rfl, eB, F.n1, ?_⟩
    walk_at "go"
    refine ⟨a.b, dx, fs, a.eD, d.name, a.e, rfl, eB, F.eD, S.eDat, ?_⟩
    walk_at "go"
    refine r_fldv eE T.c_Entry T.n_Entry_own_last FE.last ?_
    walk_at "go"
    cases hE : d.elast with
    | none =>
      rw [hE] at hL k
      obtain rfl : lv = .non := hL
      rw [decNN]
      walk_at "go"
      exact k _ _ (Same.refl _) rfl
    | some x =>
      obtain ⟨s0, rs⟩ := x
      rw [hE] at hL k
      obtain ⟨p, t, qs, rfl, hp, ht, hR2⟩ := hL
      rw [decN]
      walk_at "go"
      refine ⟨t, _, rfl, .inr (.of ht), ?_⟩
      refine fun v nv => ?_
      generalize hh : upd H v _ = H1
      have s1 : Same H H1 := hh ▸ Same.new nv
      have e1 : H1 v = some _ := hh ▸ upd_same
      clear hh
      walk_at "go"
      refine fun u nu => ?_
      generalize hh : upd H1 u _ = H2
      have s2 : Same H1 H2 := hh ▸ Same.new nu
      have e2 : H2 u = some _ := hh ▸ upd_same
      clear hh
      exact k _ _ (Same.trans s1 s2) ⟨u, v, qs, rfl, e2, s2 _ _ e1, (hR2.same s1).same s2, Same.free s1 nu, nv⟩
def spHist (K : PySem.W.Frag) : Sp := fun vs H Q _ => ∃ (a : Ad) (d : Da), vs = [.ref a.b, .str d.name] ∧ StAt K H a d ∧ ∀ p hs H', Same H H' → H' p = some (.lst (hs.map V.ref)) → HistAt H' hs d.ehist → Q (.ref p) H' 
abbrev N_Book_history : List Str := ["self", "name"]
theorem sc_Book_history : FnScope N_Book_history ["self", "name"] (defScope Hd.sBook_history) := ⟨rfl, rfl, rfl, by decide +kernel, rfl, by decide +kernel, by decide +kernel⟩
theorem ok_Book_history (T : Hd.Tx K mg) : Met P w K mg base 2 (He.ga K "Book") "history" ((spHist K)) := by
  obtain ⟨fd, F⟩ := T.d_Book_history
  have sc := sc_Book_history
  have C_Book_entry_of := ok_Book_entry_of (P := P) (w := w) (base := base) T
  refine metD T.c_Book T.m_Book_history F sc (fun vs H Q E h => ?_) (fun _ _ _ _ _ _ us hl => match us, hl with | [_, _], _ => rfl) (fun cdv A outer s H vs Q E hr h => ?_)
  · obtain ⟨a, d, rfl, _⟩ := h; rfl
  · obtain ⟨a, d, rfl, S, k⟩ := h
    refine ⟨_, (pss_one (ps_ret (pe_callTy call_list_of (by rfl) T.f_list (by decide +kernel) (pa_cons (pe_fld (pm C_Book_entry_of hr (by decide) (pv 0) (pa_cons (pv 1) pa_nil)) rfl) pa_nil)))), ?_⟩
    obtain ⟨dx, fs, eB, F⟩ := S.book
    obtain ⟨dxe, fse, lv, eE, FE, hL⟩ := entD S
    obtain ⟨hs, e1, f1⟩ := S.hiat
    try dsimp only [cxOf]
    walk_at "go"
    
    refine ⟨a.b, dx, fs, rfl, eB, F.n1, ?_⟩
    walk_at "go"
    refine ⟨a.b, dx, fs, a.eD, d.name, a.e, rfl, eB, F.eD, S.eDat, ?_⟩
    walk_at "go"
    refine r_fldv eE T.c_Entry T.n_Entry_own_history FE.hi ?_
    walk_at "go"
    refine ⟨a.hi, _, rfl, .inl (.of e1), ?_⟩
    refine fun p np => ?_
    generalize hh : upd H p _ = H1
    have s1 : Same H H1 := hh ▸ Same.new np
    have e2 : H1 p = some _ := hh ▸ upd_same
    clear hh
    exact k p hs _ s1 e2 (f1.tk fun x ts e => s1 _ _ e)
end
end Fx

/-! B1: defs and their promises -/
namespace Fx
open PySem PySem.Spec PyProof.Rows L2 Sv Mr
local macro_rules | `(tactic| walk_at "go") => `(tactic| repeat (first
  | with_reducible refine r_seq ?_ | with_reducible refine r_asg ?_ | with_reducible refine r_gn ?_ | with_reducible refine r_ret ?_ | with_reducible refine r_ifS ?_
  | ((with_reducible refine' r_var ?kv ?_); (case kv => exact rfl)) | with_reducible refine r_c ?_ | with_reducible refine r_op ?_ | with_reducible refine r_I0 ?_ | with_reducible refine r_cons ?_ | with_reducible refine r_nil ?_
  | with_reducible refine r_cb ?_ | with_reducible refine r_call ?_ | with_reducible refine r_test ?_ | with_reducible refine r_tB ?_ | with_reducible refine r_k ?_ | with_reducible refine r_or ?_ | with_reducible refine r_and ?_ | with_reducible refine r_not ?_
  | with_reducible refine r_andV ?_ | with_reducible refine r_orV ?_ | with_reducible refine r_notV ?_ | with_reducible refine r_if ?_ | with_reducible refine r_T ?_ | with_reducible refine r_F ?_ | with_reducible refine r_Tn ?_ | with_reducible refine r_Fn ?_
  | with_reducible refine r_isiS ?_ | with_reducible refine r_isiI ?_ | with_reducible refine r_isiIB ?_ | with_reducible refine r_chain ?_ | with_reducible refine r_un ?_ | with_reducible refine r_drop ?_ | with_reducible refine r_tup ?_ | with_reducible refine r_lst ?_
  | ((with_reducible refine' r_eq ?kv ?_); (case kv => exact rfl)) | ((with_reducible refine' r_ne ?kv ?_); (case kv => exact rfl)) | with_reducible refine r_nx ?_ | with_reducible refine r_retN ?_ | with_reducible refine r_yes ?_ | ((with_reducible refine' r_I ?kd ?_); (case kd => first | exact Or.inr ⟨by decide, by decide⟩ | exact ⟨by decide, by decide⟩ | exact ⟨by decide, by decide, by decide⟩ | (show (0 : Int) < _; first | decide | omega)))
  | with_reducible refine r_gCons ?_ | with_reducible refine r_gNil ?_ | with_reducible refine r_tPar ?_ | with_reducible refine r_par ?_ | with_reducible refine r_tPar3 ?_ | with_reducible refine r_par3 ?_ | with_reducible refine r_sl ?_ | with_reducible refine r_part ?_ | with_reducible refine r_parti ?_ | with_reducible refine r_nopart ?_ | with_reducible refine r_gSub ?_ | with_reducible refine r_rU ?_ | with_reducible refine r_bm ?_ | ((with_reducible refine' r_tyL ?kd ?_); (case kd => assumption)) | with_reducible refine r_nn ?_ | with_reducible refine r_meth ?_ | with_reducible refine r_methN ?_ | with_reducible refine r_callN ?_ | with_reducible refine r_fld ?_ | with_reducible refine r_lc ?_ | with_reducible refine r_for ?_ | with_reducible refine r_iList ?_ | with_reducible refine r_iTup ?_ | with_reducible refine r_iStr ?_ | with_reducible refine r_iRng1 ?_ | with_reducible refine r_iEnum ?_ | with_reducible refine r_iZip ?_ | with_reducible refine r_iZipA ?_
  | ((with_reducible refine' r_sz ?kz ?_); (case kz => first | decide | (simp only [List.length_cons, List.length_nil]; omega)))
  | ((with_reducible refine' r_isiT ?kd ?_); (case kd => assumption)) | ((with_reducible refine' r_isiL ?kd ?_); (case kd => assumption)) | ((with_reducible refine' r_isiTL ?kd ?_); (case kd => assumption)) | ((with_reducible refine' r_isiLT ?kd ?_); (case kd => assumption))
  | ((with_reducible refine' r_lenT ?kd ?_); (case kd => exact SqT.of (by assumption))) | ((with_reducible refine' r_lenL ?kd ?_); (case kd => exact SqL.of (by assumption)))
  | ((with_reducible refine' r_ixT ?ka ?kb ?_); (case ka => exact SqT.of (by assumption)); (case kb => exact rfl)) | ((with_reducible refine' r_gTup ?ka ?kb ?_); (case ka => exact SqT.of (by assumption)); (case kb => exact rfl))
  | ((with_reducible refine' r_dT ?kd ?_); (case kd => walk_at "pos")) | ((with_reducible refine' r_dF ?kd ?_); (case kd => walk_at "neg")) | ((with_reducible refine' r_ndT ?kd ?_); (case kd => walk_at "neg")) | ((with_reducible refine' r_ndF ?kd ?_); (case kd => walk_at "pos"))
  | ((with_reducible refine' r_pos ?kd ?_); (case kd => with_reducible exact rfl)) | ((with_reducible refine' r_neg ?kd ?_); (case kd => with_reducible exact rfl)) | ((with_reducible refine' r_pos ?kd ?_); (case kd => (with_reducible show _ = true); decide)) | ((with_reducible refine' r_neg ?kd ?_); (case kd => (with_reducible show _ = false); decide))))
local macro_rules | `(tactic| walk_at "pos") => `(tactic| first | assumption | omega | rfl | exact congrArg V.int (by omega) | exact congrArg V.str (by assumption))
local macro_rules | `(tactic| walk_at "neg") => `(tactic| first | assumption | omega | (intro hne; injection hne with hne; first | omega | contradiction | exact absurd hne (by decide +kernel)) | (intro hne; cases hne))

section
variable {P : Program} {w : World} {K : PySem.W.Frag} {mg : Str → Option Value} {base : Heap}
/-- the box of numbers: its counter is at most n -/
def BoxAt (H : Hp) (bx : Addr) (n : Int) : Prop := ∃ x y z : Int, H bx = some (.lst [.int x, .int y, .int z]) ∧ 0 ≤ x ∧ 0 ≤ y ∧ y < 1099511627776 ∧ 0 ≤ z ∧ z ≤ n
theorem BoxAt.mono {H : Hp} {bx : Addr} {n m : Int} (h : BoxAt H bx n) (l : n ≤ m) : BoxAt H bx m := let ⟨x, y, z, e, a, b, c, d, g⟩ := h; ⟨x, y, z, e, a, b, c, d, Int.le_trans g l⟩
theorem BoxAt.same {H H' : Hp} {bx : Addr} {n : Int} (h : BoxAt H bx n) (s : Same H H') : BoxAt H' bx n := let ⟨x, y, z, e, r⟩ := h; ⟨x, y, z, s _ _ e, r⟩
theorem BoxAt.kp {H H' : Hp} {S : List Addr} {bx : Addr} {n : Int} (h : BoxAt H bx n) (s : Kp S H H') (m : bx ∉ S) : BoxAt H' bx n := let ⟨x, y, z, e, r⟩ := h; ⟨x, y, z, s _ _ e m, r⟩
theorem bit_sm (b : Bool) : -(2 ^ 64) < (if b = true then (1 : Int) else 0) ∧ (if b = true then (1 : Int) else 0) < 2 ^ 64 := by cases b <;> decide
theorem mul_bit {c : Int} (b : Bool) (h : 0 ≤ c) : 0 ≤ c * (if b = true then (1 : Int) else 0) := by
  cases b
  · show 0 ≤ c * 0; omega
  · show 0 ≤ c * 1; omega
abbrev rAbs : List V → Hp → VK → Prop := fun xs H Q => ∃ i, xs = [.int i] ∧ Q (.int (if i < 0 then -i else i)) H
abbrev rIntOf : List V → Hp → VK → Prop := fun xs H Q => (∃ i, xs = [.int i] ∧ Q (.int i) H) ∨ ∃ k, xs = [.bl k] ∧ Q (.int (if k then 1 else 0)) H
def spBox (K : PySem.W.Frag) : Sp := fun vs H Q _ => ∃ (l : Addr) (ns : List Int) (k : Int), vs = [.ref l, .int k] ∧ SqL K H l (ns.map V.int) ∧ ns.length ≤ 100000 ∧ 0 ≤ k ∧ k ≤ 4 ∧ ∀ H' bx, Same H H' → H bx = none → BoxAt H' bx 0 → Q (.ref bx) H' 
abbrev N_L_box : List Str := ["_law_script", "_law_k", "_law_cell"]
theorem sc_L_box : FnScope N_L_box ["_law_script", "_law_k"] (defScope Hd.sL_box) := ⟨rfl, rfl, rfl, by decide +kernel, rfl, by decide +kernel, by decide +kernel⟩
theorem ok_L_box (T : Hd.Tx K mg) : Cal P w K mg base 1 "_law_box" ((spBox K)) := by
  obtain ⟨fd, F⟩ := T.d_L_box
  have sc := sc_L_box
  refine calD F T.g_L_box sc (fun vs H Q E h => ?_) (fun _ _ _ _ _ _ us hl => match us, hl with | [_, _], _ => rfl) (fun cdv A outer s H vs Q E hr h => ?_)
  · obtain ⟨l, ns, k, rfl, _⟩ := h; rfl
  · obtain ⟨l, ns, j, rfl, hl, hz, h0, h1, k⟩ := h
    refine ⟨_, (pss_cons (sn 2 sc.nd pe_int)
      (pss_cons (ps_if (pt_cmpR op_lt (pv 1) (pe_callB call_len (by rfl) T.f_len (by decide +kernel) (pa_cons (pv 0) pa_nil)) (nomark _)) (pss_one (sn 2 sc.nd (pe_ix (ixL K) (pv 0) (pv 1) (fun _ _ => rfl)))) pss_nil)
      (pss_one (ps_ret (pe_lst (pa_cons (pe_op op_mul (pe_callB call_abs (by rfl) T.f_abs (by decide +kernel) (pa_cons (pv 2) pa_nil)) (pe_callTy call_int1 (by rfl) T.f_int (by decide +kernel) (pa_cons (pe_cmpR op_ge (pe_callB call_abs (by rfl) T.f_abs (by decide +kernel) (pa_cons (pv 2) pa_nil)) (pe_op op_pow pe_int pe_int) (nomark _)) pa_nil))) (pa_cons (pe_op op_add (pe_op op_add (pe_op op_mod (pv 2) pe_int) (pe_op op_mul pe_int (pv 1))) pe_int) (pa_cons pe_int pa_nil)))))))), ?_⟩
    have c0 : ∀ c : Int, 0 ≤ (if c < 0 then -c else c) := fun c => by split <;> omega
    have fin : ∀ c A : Int, 0 ≤ A → ∀ p, H p = none → Q (.ref p) (upd H p (.lst [.int A, .int (c % 2147483629 + 7919 * j + 11), .int 0])) := fun c A hA p np => by
      have d0 : 0 ≤ c % 2147483629 := Int.emod_nonneg _ (by decide)
      have d1 : c % 2147483629 < 2147483629 := Int.emod_lt_of_pos _ (by decide)
      exact k _ p (Same.new np) np ⟨_, _, _, upd_same, hA, by omega, by omega, Int.le_refl 0, Int.le_refl 0⟩
    try dsimp only [cxOf]
    walk_at "go"
    refine r_lenL hl ?_
    walk_at "go"
    rw [List.length_map]
    by_cases hj : j < (ns.length : Nat)
    · rw [decide_eq_true hj]
      walk_at "go"
      refine r_ixL hl (atI_ints h0 hj) ?_
      walk_at "go"
      refine ⟨(ns.getD j.toNat 0), rfl, ?_⟩
      walk_at "go"
      refine ⟨(ns.getD j.toNat 0), rfl, ?_⟩
      walk_at "go"
      refine .inr ⟨_, rfl, ?_⟩
      walk_at "go"
      refine ⟨_, _, rfl, rfl, Or.inr (bit_sm _), ?_⟩
      walk_at "go"
      refine ⟨_, _, rfl, rfl, Or.inl ⟨by decide, by decide⟩, ?_⟩
      walk_at "go"
      exact fin (ns.getD j.toNat 0) _ (mul_bit _ (c0 (ns.getD j.toNat 0)))
    · rw [decide_eq_false hj]
      walk_at "go"
      refine ⟨0, rfl, ?_⟩
      walk_at "go"
      refine ⟨0, rfl, ?_⟩
      walk_at "go"
      refine .inr ⟨_, rfl, ?_⟩
      walk_at "go"
      refine ⟨_, _, rfl, rfl, Or.inl ⟨by decide, by decide⟩, ?_⟩
      walk_at "go"
      exact fin 0 _ (mul_bit _ (c0 0))
def spTake : Sp := fun vs H Q _ => ∃ (bx : Addr) (n sz : Int), vs = [.ref bx, .int sz] ∧ BoxAt H bx n ∧ n < 1000000 ∧ 1 ≤ sz ∧ sz ≤ 1000001 ∧ ∀ r H', 0 ≤ r → r < sz → Kp [bx] H H' → BoxAt H' bx (n + 1) → Q (.int r) H' 
abbrev N_L_take : List Str := ["_law_box_here", "_law_size", "_law_found", "_law_once"]
theorem sc_L_take : FnScope N_L_take ["_law_box_here", "_law_size"] (defScope Hd.sL_take) := ⟨rfl, rfl, rfl, by decide +kernel, rfl, by decide +kernel, by decide +kernel⟩
theorem ok_L_take (T : Hd.Tx K mg) : Cal P w K mg base 1 "_law_take" spTake := by
  obtain ⟨fd, F⟩ := T.d_L_take
  have sc := sc_L_take
  refine calD F T.g_L_take sc (fun vs H Q E h => ?_) (fun _ _ _ _ _ _ us hl => match us, hl with | [_, _], _ => rfl) (fun cdv A outer s H vs Q E hr h => ?_)
  · obtain ⟨bx, n, z, rfl, _⟩ := h; rfl
  · obtain ⟨bx, n, sz, rfl, hb, hn, h1, h2, k⟩ := h
    refine ⟨_, (pss_cons (ps_if (pt_cmpR op_gt (pe_ix (ixL K) (pv 0) pe_int (fun _ _ => rfl)) pe_int (nomark _)) (pss_cons (sn 2 sc.nd (pe_op op_mod (pe_ix (ixL K) (pv 0) pe_int (fun _ _ => rfl)) (pv 1)))
      (pss_cons (ps_asg (pe_op op_fdiv (pe_ix (ixL K) (pv 0) pe_int (fun _ _ => rfl)) (pv 1)) (pg_sub (pv 0) pe_int set_list))
      (pss_one (ps_ret (pv 2))))) pss_nil)
      (pss_cons (ps_asg (pe_op op_add (pe_ix (ixL K) (pv 0) pe_int (fun _ _ => rfl)) pe_int) (pg_sub (pv 0) pe_int set_list))
      (pss_cons (sn 3 sc.nd (pe_op op_mod (pe_op op_pow (pe_op op_add (pe_ix (ixL K) (pv 0) pe_int (fun _ _ => rfl)) (pe_op op_mul pe_int (pe_ix (ixL K) (pv 0) pe_int (fun _ _ => rfl)))) pe_int) pe_int))
      (pss_one (ps_ret (pe_op op_mod (pe_op op_fdiv (pe_op op_mod (pe_op op_add (pe_op op_mul (pv 3) (pe_op op_add (pe_op op_mod (pv 3) pe_int) pe_int)) (pe_op op_mul (pe_ix (ixL K) (pv 0) pe_int (fun _ _ => rfl)) pe_int)) pe_int) pe_int) (pv 1))))))), ?_⟩
    obtain ⟨x, y, z, eb, x0, y0, y1, z0, z1⟩ := hb
    have fin : ∀ (r a b c : Int) (H' : Hp), 0 ≤ r → r < sz → H' = upd H bx (.lst [.int a, .int b, .int c]) → 0 ≤ a → 0 ≤ b → b < 1099511627776 → 0 ≤ c → c ≤ n + 1 → Q (.int r) H' := fun r a b c H' r0 r1 e a0 b0 b1 c0 c1 => by
      subst e
      exact k r _ r0 r1 (Kp.put (Kp.refl _) (by simp)) ⟨a, b, c, upd_same, a0, b0, b1, c0, c1⟩
    try dsimp only [cxOf]
    walk_at "go"
    
    refine r_ixL (.of eb) (show atI [V.int x, V.int y, V.int z] 0 = some (.int x) from rfl) ?_
    walk_at "go"
    by_cases hx : 0 < x
    · rw [decide_eq_true hx]
      walk_at "go"
      refine r_ixL (.of eb) (show atI [V.int x, V.int y, V.int z] 0 = some (.int x) from rfl) ?_
      walk_at "go"
      refine r_ixL (.of eb) (show atI [V.int x, V.int y, V.int z] 0 = some (.int x) from rfl) ?_
      walk_at "go"
      refine r_I ⟨by omega, by omega⟩ ?_
      walk_at "go"
      refine ⟨bx, _, _, 0, rfl, rfl, eb, rfl, ?_⟩
      walk_at "go"
      exact fin _ _ _ _ _ (Int.emod_nonneg _ (by omega)) (Int.emod_lt_of_pos _ (by omega)) rfl (Int.ediv_nonneg x0 (by omega)) y0 y1 z0 (by omega)
    · rw [decide_eq_false hx]
      walk_at "go"
      refine r_ixL (.of eb) (show atI [V.int x, V.int y, V.int z] 2 = some (.int z) from rfl) ?_
      walk_at "go"
      refine ⟨bx, _, _, 2, rfl, rfl, eb, rfl, ?_⟩
      generalize hh : upd H bx _ = H1
      have e1 : H1 bx = some (.lst [.int x, .int y, .int (z + 1)]) := (congrFun hh bx).symm.trans upd_same
      walk_at "go"
      refine r_ixL (.of e1) (show atI [V.int x, V.int y, V.int (z + 1)] 1 = some (.int y) from rfl) ?_
      walk_at "go"
      refine r_ixL (.of e1) (show atI [V.int x, V.int y, V.int (z + 1)] 2 = some (.int (z + 1)) from rfl) ?_
      refine r_I (Or.inl ⟨by omega, by omega⟩) ?_
      walk_at "go"
      refine r_I ⟨by decide, by decide, by omega⟩ ?_
      walk_at "go"
      generalize ho : (y + 39373 * (z + 1)) ^ _ % 2147483647 = o
      have o0 : 0 ≤ o := ho ▸ Int.emod_nonneg _ (by decide)
      have o1 : o < 2147483647 := ho ▸ Int.emod_lt_of_pos _ (by decide)
      walk_at "go"
      have o2 : 0 ≤ o % 40009 := Int.emod_nonneg _ (by decide)
      have o3 : o % 40009 < 40009 := Int.emod_lt_of_pos _ (by decide)
      refine r_I (Or.inl ⟨by omega, by omega⟩) ?_
      walk_at "go"
      refine r_ixL (.of e1) (show atI [V.int x, V.int y, V.int (z + 1)] 2 = some (.int (z + 1)) from rfl) ?_
      walk_at "go"
      refine fin _ x y (z + 1) _ (Int.emod_nonneg _ (by omega)) (Int.emod_lt_of_pos _ (by omega)) hh.symm x0 y0 y1 (by omega) (by omega)
def spPick (K : PySem.W.Frag) : Sp := fun vs H Q _ => ∃ (bx : Addr) (n : Int) (l : Addr) (xs : List Str), vs = [.ref bx, .ref l] ∧ BoxAt H bx n ∧ n < 1000000 ∧ H l = some (.lst (xs.map V.str)) ∧ l ≠ bx ∧ 1 ≤ xs.length ∧ xs.length ≤ 1000 ∧ ∀ x H', x ∈ xs → Kp [bx] H H' → BoxAt H' bx (n + 1) → Q (.str x) H' 
abbrev N_L_pick : List Str := ["_law_box_here", "_law_things"]
theorem sc_L_pick : FnScope N_L_pick ["_law_box_here", "_law_things"] (defScope Hd.sL_pick) := ⟨rfl, rfl, rfl, by decide +kernel, rfl, by decide +kernel, by decide +kernel⟩
theorem ok_L_pick (T : Hd.Tx K mg) : Cal P w K mg base 2 "_law_pick" ((spPick K)) := by
  obtain ⟨fd, F⟩ := T.d_L_pick
  have sc := sc_L_pick
  have C_L_take := ok_L_take (P := P) (w := w) (base := base) T
  refine calD F T.g_L_pick sc (fun vs H Q E h => ?_) (fun _ _ _ _ _ _ us hl => match us, hl with | [_, _], _ => rfl) (fun cdv A outer s H vs Q E hr h => ?_)
  · obtain ⟨bx, n, l, xs, rfl, _⟩ := h; rfl
  · obtain ⟨bx, n, l, xs, rfl, hb, hn, hl, hbl, z0, z1, k⟩ := h
    refine ⟨_, (pss_one (ps_ret (pe_ix (ixL K) (pv 1) (pc C_L_take hr (by decide) (pa_cons (pv 0) (pa_cons (pe_callB call_len (by rfl) T.f_len (by decide +kernel) (pa_cons (pv 1) pa_nil)) pa_nil))) (fun _ _ => rfl)))), ?_⟩
    have lm : (xs.map V.str).length = xs.length := List.length_map _
    try dsimp only [cxOf]
    walk_at "go"
    
    refine ⟨bx, n, _, rfl, hb, hn, by omega, by omega, fun r H1 r0 r1 k1 b1 => ?_⟩
    have hl1 := k1 _ _ hl (by simp; exact fun e => hbl e)
    walk_at "go"
    obtain ⟨x, hx⟩ : ∃ x, xs[r.toNat]? = some x := ⟨_, List.getElem?_eq_getElem (by omega)⟩
    refine r_ixL (.of hl1) (v := .str x) ?_ ?_
    · unfold atI
      rw [ixN_of r0 r1]
      show (xs.map V.str)[r.toNat]? = _
      rw [List.getElem?_map, hx]
      rfl
    exact k x H1 (List.mem_of_getElem? hx) k1 b1
def spNote (K : PySem.W.Frag) : Sp := fun vs H Q _ => ∃ (bx : Addr) (n : Int), vs = [.ref bx] ∧ BoxAt H bx n ∧ n < 999999 ∧ ∀ r H', 0 ≤ r → r < 9973 → Kp [bx] H H' → BoxAt H' bx (n + 2) → Q (.int r) H' 
abbrev N_L_note : List Str := ["_law_box_here"]
theorem sc_L_note : FnScope N_L_note ["_law_box_here"] (defScope Hd.sL_note) := ⟨rfl, rfl, rfl, by decide +kernel, rfl, by decide +kernel, by decide +kernel⟩
theorem ok_L_note (T : Hd.Tx K mg) : Cal P w K mg base 2 "_law_note" ((spNote K)) := by
  obtain ⟨fd, F⟩ := T.d_L_note
  have sc := sc_L_note
  have C_L_take := ok_L_take (P := P) (w := w) (base := base) T
  refine calD F T.g_L_note sc (fun vs H Q E h => ?_) (fun _ _ _ _ _ _ us hl => match us, hl with | [_], _ => rfl) (fun cdv A outer s H vs Q E hr h => ?_)
  · obtain ⟨bx, n, rfl, _⟩ := h; rfl
  · obtain ⟨bx, n, rfl, hb, hn, k⟩ := h
    refine ⟨_, (pss_one (ps_ret (pc C_L_take hr (by decide) (pa_cons (pv 0) (pa_cons (pe_ix (ixL K) (pe_lst (pa_cons pe_int (pa_cons pe_int (pa_cons pe_int pa_nil)))) (pc C_L_take hr (by decide) (pa_cons (pv 0) (pa_cons pe_int pa_nil))) (fun _ _ => rfl)) pa_nil))))), ?_⟩
    try dsimp only [cxOf]
    walk_at "go"
    
    refine fun p np => ?_
    generalize hh : upd H p _ = H1
    have s1 : Same H H1 := hh ▸ Same.new np
    have e1 : H1 p = some _ := hh ▸ upd_same
    clear hh
    walk_at "go"
    have hb1 := hb.same s1
    refine ⟨bx, n, _, rfl, hb1, by omega, by decide, by decide, fun r H2 r0 r1 k2 b2 => ?_⟩
    have npb : p ≠ bx := fun e => by obtain ⟨_, _, _, q, _⟩ := hb; rw [e, q] at np; cases np
    have e2 := k2 _ _ e1 (by simp; exact npb)
    walk_at "go"
    refine r_ixL (.of e2) (atI_ints (bs := [3, 12, 9973]) r0 (by simpa using r1)) ?_
    have cs : ([3, 12, 9973] : List Int).getD r.toNat 0 = 3 ∨ ([3, 12, 9973] : List Int).getD r.toNat 0 = 12 ∨ ([3, 12, 9973] : List Int).getD r.toNat 0 = 9973 := by
      have h : r.toNat = 0 ∨ r.toNat = 1 ∨ r.toNat = 2 := by omega
      rcases h with h | h | h <;> rw [h] <;> simp
    generalize ([3, 12, 9973] : List Int).getD r.toNat 0 = sz at cs
    walk_at "go"
    refine ⟨bx, n + 1, sz, rfl, b2, by omega, by omega, by omega, fun q H3 q0 q1 k3 b3 => ?_⟩
    walk_at "go"
    exact k q H3 q0 (by omega) ((Same.kp s1).trans (k2.trans k3)) (b3.mono (by omega))
end
end Fx

/-! B2: defs and their promises -/
namespace Fx
open PySem PySem.Spec PyProof.Rows L2 Sv Mr
local macro_rules | `(tactic| walk_at "go") => `(tactic| repeat (first
  | with_reducible refine r_seq ?_ | with_reducible refine r_asg ?_ | with_reducible refine r_gn ?_ | with_reducible refine r_ret ?_ | with_reducible refine r_ifS ?_
  | ((with_reducible refine' r_var ?kv ?_); (case kv => exact rfl)) | with_reducible refine r_c ?_ | with_reducible refine r_op ?_ | with_reducible refine r_I0 ?_ | with_reducible refine r_cons ?_ | with_reducible refine r_nil ?_
  | with_reducible refine r_cb ?_ | with_reducible refine r_call ?_ | with_reducible refine r_test ?_ | with_reducible refine r_tB ?_ | with_reducible refine r_k ?_ | with_reducible refine r_or ?_ | with_reducible refine r_and ?_ | with_reducible refine r_not ?_
  | with_reducible refine r_andV ?_ | with_reducible refine r_orV ?_ | with_reducible refine r_notV ?_ | with_reducible refine r_if ?_ | with_reducible refine r_T ?_ | with_reducible refine r_F ?_ | with_reducible refine r_Tn ?_ | with_reducible refine r_Fn ?_
  | with_reducible refine r_isiS ?_ | with_reducible refine r_isiI ?_ | with_reducible refine r_isiIB ?_ | with_reducible refine r_chain ?_ | with_reducible refine r_un ?_ | with_reducible refine r_drop ?_ | with_reducible refine r_tup ?_ | with_reducible refine r_lst ?_
  | ((with_reducible refine' r_eq ?kv ?_); (case kv => exact rfl)) | ((with_reducible refine' r_ne ?kv ?_); (case kv => exact rfl)) | with_reducible refine r_nx ?_ | with_reducible refine r_retN ?_ | with_reducible refine r_yes ?_ | ((with_reducible refine' r_I ?kd ?_); (case kd => first | exact Or.inr ⟨by decide, by decide⟩ | exact ⟨by decide, by decide⟩ | exact ⟨by decide, by decide, by decide⟩ | (show (0 : Int) < _; first | decide | omega)))
  | with_reducible refine r_gCons ?_ | with_reducible refine r_gNil ?_ | with_reducible refine r_tPar ?_ | with_reducible refine r_par ?_ | with_reducible refine r_tPar3 ?_ | with_reducible refine r_par3 ?_ | with_reducible refine r_sl ?_ | with_reducible refine r_part ?_ | with_reducible refine r_parti ?_ | with_reducible refine r_nopart ?_ | with_reducible refine r_gSub ?_ | with_reducible refine r_rU ?_ | with_reducible refine r_bm ?_ | ((with_reducible refine' r_tyL ?kd ?_); (case kd => assumption)) | with_reducible refine r_nn ?_ | with_reducible refine r_meth ?_ | with_reducible refine r_methN ?_ | with_reducible refine r_callN ?_ | with_reducible refine r_fld ?_ | with_reducible refine r_lc ?_ | with_reducible refine r_for ?_ | with_reducible refine r_iList ?_ | with_reducible refine r_iTup ?_ | with_reducible refine r_iStr ?_ | with_reducible refine r_iRng1 ?_ | with_reducible refine r_iEnum ?_ | with_reducible refine r_iZip ?_ | with_reducible refine r_iZipA ?_
  | ((with_reducible refine' r_sz ?kz ?_); (case kz => first | decide | (simp only [List.length_cons, List.length_nil]; omega)))
  | ((with_reducible refine' r_isiT ?kd ?_); (case kd => assumption)) | ((with_reducible refine' r_isiL ?kd ?_); (case kd => assumption)) | ((with_reducible refine' r_isiTL ?kd ?_); (case kd => assumption)) | ((with_reducible refine' r_isiLT ?kd ?_); (case kd => assumption))
  | ((with_reducible refine' r_lenT ?kd ?_); (case kd => exact SqT.of (by assumption))) | ((with_reducible refine' r_lenL ?kd ?_); (case kd => exact SqL.of (by assumption)))
  | ((with_reducible refine' r_ixT ?ka ?kb ?_); (case ka => exact SqT.of (by assumption)); (case kb => exact rfl)) | ((with_reducible refine' r_gTup ?ka ?kb ?_); (case ka => exact SqT.of (by assumption)); (case kb => exact rfl))
  | ((with_reducible refine' r_dT ?kd ?_); (case kd => walk_at "pos")) | ((with_reducible refine' r_dF ?kd ?_); (case kd => walk_at "neg")) | ((with_reducible refine' r_ndT ?kd ?_); (case kd => walk_at "neg")) | ((with_reducible refine' r_ndF ?kd ?_); (case kd => walk_at "pos"))
  | ((with_reducible refine' r_pos ?kd ?_); (case kd => with_reducible exact rfl)) | ((with_reducible refine' r_neg ?kd ?_); (case kd => with_reducible exact rfl)) | ((with_reducible refine' r_pos ?kd ?_); (case kd => (with_reducible show _ = true); decide)) | ((with_reducible refine' r_neg ?kd ?_); (case kd => (with_reducible show _ = false); decide))))
local macro_rules | `(tactic| walk_at "pos") => `(tactic| first | assumption | omega | rfl | exact congrArg V.int (by omega) | exact congrArg V.str (by assumption))
local macro_rules | `(tactic| walk_at "neg") => `(tactic| first | assumption | omega | (intro hne; injection hne with hne; first | omega | contradiction | exact absurd hne (by decide +kernel)) | (intro hne; cases hne))

section
variable {P : Program} {w : World} {K : PySem.W.Frag} {mg : Str → Option Value} {base : Heap}
theorem walk_imp {J : It} {n : Nat} {G G' : Hp → Prop} {Y : Nat → Hp → V → Hp → Prop} (w : Walk J n G Y) (h : ∀ H, G' H → G H) : Walk J n G' Y := ⟨fun i H hi q => w.1 i H hi (h H q), fun H q => w.2 H (h H q), fun i H v H' hi q y => w.3 i H v H' hi (h H q) y⟩
theorem pi_or {X : Cx} {tg e : Expr} {w1 w2 : TI} (h1 : PI X tg e w1) (h2 : PI X tg e w2) : PI X tg e (fun σ H R => w1 σ H R ∨ w2 σ H R) :=
  ⟨fun pins s σ H R I h => h.elim (h1.run pins s σ H R I) (h2.run pins s σ H R I)⟩
abbrev N_L_name_number : List Str := ["_law_name", "_law_found", "_law_sign"]
theorem sc_L_name_number : FnScope N_L_name_number ["_law_name"] (defScope Hd.sL_name_number) := ⟨rfl, rfl, rfl, by decide +kernel, rfl, by decide +kernel, by decide +kernel⟩
theorem ok_L_name_number (T : Hd.Tx K mg) : Cal P w K mg base 1 "_law_name_number" spNameNum := by
  obtain ⟨fd, F⟩ := T.d_L_name_number
  have sc := sc_L_name_number
  refine calD F T.g_L_name_number sc (fun vs H Q E h => ?_) (fun _ _ _ _ _ _ us hl => match us, hl with | [_], _ => rfl) (fun cdv A outer s H vs Q E hr h => ?_)
  · obtain ⟨z, rfl, _⟩ := h; rfl
  · obtain ⟨z, rfl, hz, k⟩ := h
    refine ⟨_, (pss_cons (sn 1 sc.nd pe_int)
      (pss_cons (ps_for PassesOwn.never rfl (pi_str (pv 0)) (gn 2 sc.nd) (pss_one (sn 1 sc.nd (pe_op op_add (pe_op op_add (pe_op op_mul (pv 1) pe_int) (pe_bm PySem.F.plainAttrs_str PySem.F.slot_str_index PySem.F.type_str_index mt_sindex pe_str (pa_cons (pv 2) pa_nil))) pe_int))))
      (pss_one (ps_ret (pv 1))))), ?_⟩
    obtain ⟨h1, h4, hc⟩ := id hz
    
    try dsimp only [cxOf]
    walk_at "go"
    refine ⟨z, rfl, for_it walk_str (fun i σ H1 => H1 = H ∧ ∃ u, σ = [some (.str z), some (.int ((z.cps.toList.take i).foldl (fun a c => a * 27 + ((c - 97 : Nat) : Int) + 1) 0)), u]) ⟨rfl, _, rfl⟩ (fun _ _ _ _ _ => trivial) (fun i x σ H1 H2 hi p y => ?_) (fun σ H1 p => ?_)⟩
    · obtain ⟨rfl, u, rfl⟩ := p
      obtain ⟨rfl, c, hc', rfl⟩ := y
      have hc2 := hc c (mem_code hc')
      walk_at "go"
      refine ⟨rfl, ?_⟩
      walk_at "go"
      refine ⟨_, _, _, _, rfl, rfl, abc_ix hc2, ?_⟩
      walk_at "go"
      refine ⟨rfl, some (.str ⟨#[c]⟩), ?_⟩
      rw [foldl_next (toList_code hc')]
      rfl
    · obtain ⟨rfl, u, rfl⟩ := p
      walk_at "go"
      have e : z.cps.toList.take z.cps.size = z.cps.toList := by rw [← Array.length_toList, List.take_length]
      rw [e]
      exact k
def spLRowNum : Sp := fun vs H Q _ => ∃ (p : Addr) (r : Rw), vs = [.ref p] ∧ H p = some (.tup (Rw.vs r)) ∧ RowOk r ∧ ∀ H', Same H H' → Q (.int (rowNum r)) H' 
abbrev N_L_row_number : List Str := ["_law_row_here", "_law_place"]
theorem sc_L_row_number : FnScope N_L_row_number ["_law_row_here"] (defScope Hd.sL_row_number) := ⟨rfl, rfl, rfl, by decide +kernel, rfl, by decide +kernel, by decide +kernel⟩
theorem ok_L_row_number (T : Hd.Tx K mg) : Cal P w K mg base 2 "_law_row_number" spLRowNum := by
  obtain ⟨fd, F⟩ := T.d_L_row_number
  have sc := sc_L_row_number
  have C_L_name_number := ok_L_name_number (P := P) (w := w) (base := base) T
  refine calD F T.g_L_row_number sc (fun vs H Q E h => ?_) (fun _ _ _ _ _ _ us hl => match us, hl with | [_], _ => rfl) (fun cdv A outer s H vs Q E hr h => ?_)
  · obtain ⟨p, r, rfl, _⟩ := h; rfl
  · obtain ⟨p, r, rfl, hp, ok, k⟩ := h
    refine ⟨_, (pss_cons (sn 1 sc.nd (pe_bm PySem.F.plainAttrs_list PySem.F.slot_list_index PySem.F.type_list_index mt_index (pe_lst (pa_cons pe_str (pa_cons pe_str (pa_cons pe_str (pa_cons pe_str (pa_cons pe_str pa_nil)))))) (pa_cons (pe_ix (ixT K) (pv 0) pe_int (fun _ _ => rfl)) pa_nil)))
      (pss_one (ps_ret (pe_op op_add (pe_op op_mul (pe_op op_add (pe_op op_mul (pc C_L_name_number hr (by decide) (pa_cons (pe_ix (ixT K) (pv 0) pe_int (fun _ _ => rfl)) pa_nil)) pe_int) (pv 1)) pe_int) (pe_ix (ixT K) (pv 0) pe_int (fun _ _ => rfl)))))), ?_⟩
    have hp' : H p = some (.tup [.int r.b, .str r.w, .str r.nm, .int r.nt]) := hp
    try dsimp only [cxOf]
    walk_at "go"
    
    refine fun l nl => ?_
    generalize hh : upd H l _ = H1
    have s1 : Same H H1 := hh ▸ Same.new nl
    have e1 : H1 l = some _ := hh ▸ upd_same
    clear hh
    have hp1 := s1 _ _ hp'
    refine r_tyL e1 ?_
    walk_at "go"
    refine ⟨l, _, .str r.w, wIx r.w, .str r.w, rfl, rfl, .of e1, rfl, rfl, ?_, ?_, ?_, ?_⟩
    · show (wds.map V.str)[wIx r.w]? = _
      rw [List.getElem?_map, wds_ix ok.w]
      rfl
    · show (r.w == r.w) = true
      exact beq_self_eq_true _
    · intro m z hm hz
      have hz' : (wds.map V.str)[m]? = some z := hz
      rw [List.getElem?_map] at hz'
      have hf := wds_first hm
      cases hw : wds[m]? with
      | none => rw [hw] at hz'; cases hz'
      | some y =>
        rw [hw] at hz'
        obtain rfl := Option.some.inj hz'
        show (y == r.w) = false
        rw [str_beq]
        exact decide_eq_false fun z => hf (by rw [hw, z])
    walk_at "go"
    refine ⟨_, rfl, ok.nm, ?_⟩
    walk_at "go"
    exact k _ s1
def spLMixed : Sp := fun vs H Q _ => ∃ (a : Addr) (h : How) (v : Int) (p : Addr) (r : Rw), vs = [.ref a, .int v, .ref p] ∧ H a = some (.tup [h.wV, .int h.fc]) ∧ HowOk h ∧ H p = some (.tup r.vs) ∧ RowOk r ∧ ∀ H', Same H H' → Q (.int (mix h v r)) H' 
abbrev N_L_mixed : List Str := ["_law_how_here", "_law_value", "_law_row_here", "_law_number"]
theorem sc_L_mixed : FnScope N_L_mixed ["_law_how_here", "_law_value", "_law_row_here"] (defScope Hd.sL_mixed) := ⟨rfl, rfl, rfl, by decide +kernel, rfl, by decide +kernel, by decide +kernel⟩
theorem ok_L_mixed (T : Hd.Tx K mg) : Cal P w K mg base 3 "_law_mixed" spLMixed := by
  obtain ⟨fd, F⟩ := T.d_L_mixed
  have sc := sc_L_mixed
  have C_L_row_number := ok_L_row_number (P := P) (w := w) (base := base) T
  refine calD F T.g_L_mixed sc (fun vs H Q E h => ?_) (fun _ _ _ _ _ _ us hl => match us, hl with | [_, _, _], _ => rfl) (fun cdv A outer s H vs Q E hr h => ?_)
  · obtain ⟨a, h, v, p, r, rfl, _⟩ := h; rfl
  · obtain ⟨a, hw, v, p, r, rfl, ha, hk, hp, ok, k⟩ := h
    refine ⟨_, (pss_cons (sn 3 sc.nd (pe_op op_add (pc C_L_row_number hr (by decide) (pa_cons (pv 2) pa_nil)) pe_int))
      (pss_one (ps_ret (pe_ifExp (pt_cmpR op_isN (pe_ix (ixT K) (pv 0) pe_int (fun _ _ => rfl)) pe_non (nomark _)) (pe_op op_add (pe_op op_mul (pv 1) pe_int) (pv 3)) (pe_op op_mod (pe_op op_add (pe_op op_mul (pv 1) (pe_ix (ixT K) (pv 0) pe_int (fun _ _ => rfl))) (pv 3)) (pe_ix (ixT K) (pv 0) pe_int (fun _ _ => rfl))))))), ?_⟩
    try dsimp only [cxOf]
    walk_at "go"
    
    refine ⟨p, r, rfl, hp, ok, fun H1 s1 => ?_⟩
    have ha1 := s1 _ _ ha
    have ek : ∀ n, n = mix hw v r → Q (.int n) H1 := fun n e => e ▸ k _ s1
    walk_at "go"
    cases e : hw.wd with
    | none =>
      have e2 : hw.wV = .non := by unfold How.wV; rw [e]
      rw [e2, decNN]
      walk_at "go"
      refine ek _ ?_
      unfold mix
      rw [e]
      show v * 26500305465 + (rowNum r + 1) = v * 26500305465 + rowNum r + 1
      omega
    | some m =>
      have e2 : hw.wV = .int m := by unfold How.wV; rw [e]
      have hm3 := hk.w1 m e
      have f1 := hk.f1
      have f2 := hk.f2
      rw [e2] at ha1 ⊢
      rw [show decide (V.int m = V.non) = false from decide_eq_false (by simp)]
      walk_at "go"
      refine ⟨_, _, rfl, rfl, Or.inr ⟨by omega, by omega⟩, ?_⟩
      walk_at "go"
      refine ek _ ?_
      unfold mix
      rw [e]
      show (v * hw.fc + (rowNum r + 1)) % m = (v * hw.fc + rowNum r + 1) % m
      rw [Int.add_assoc]
def spLReplay : Sp := fun vs H Q _ => ∃ (a : Addr) (hw : How) (l : Addr) (ps : List Addr) (rows : List Rw) (m : Int), vs = [.ref a, .ref l, .int m] ∧ H a = some (.tup [hw.wV, .int hw.fc]) ∧ HowOk hw ∧ H l = some (.lst (ps.map V.ref)) ∧ RowsAt H ps rows ∧ (∀ r ∈ rows, RowOk r) ∧ (∀ r ∈ rows, r.b < m) ∧ 0 ≤ m ∧ m ≤ 8 ∧ ∀ q H', Same H H' → H q = none → H' q = some (.lst ((replayB hw rows m.toNat).map V.int)) → Q (.ref q) H' 
abbrev N_L_replay : List Str := ["_law_how_here", "_law_rows", "_law_size", "_law_found", "_law_row_here", "_law_value"]
theorem sc_L_replay : FnScope N_L_replay ["_law_how_here", "_law_rows", "_law_size"] (defScope Hd.sL_replay) := ⟨rfl, rfl, rfl, by decide +kernel, rfl, by decide +kernel, by decide +kernel⟩
theorem ok_L_replay (T : Hd.Tx K mg) : Cal P w K mg base 4 "_law_replay" spLReplay := by
  obtain ⟨fd, F⟩ := T.d_L_replay
  have sc := sc_L_replay
  have C_L_mixed := ok_L_mixed (P := P) (w := w) (base := base) T
  refine calD F T.g_L_replay sc (fun vs H Q E h => ?_) (fun _ _ _ _ _ _ us hl => match us, hl with | [_, _, _], _ => rfl) (fun cdv A outer s H vs Q E hr h => ?_)
  · obtain ⟨a, hw, l, ps, rows, m, rfl, _⟩ := h; rfl
  · obtain ⟨a, hw, l, ps, rows, m, rfl, ha, hk, hl, hR, ok, hb, m0, m8, k⟩ := h
    refine ⟨_, (pss_cons (sn 3 sc.nd (pe_op op_rep (pe_lst (pa_cons pe_int pa_nil)) (pv 2)))
      (pss_cons (ps_for PassesOwn.never rfl (pi_list (pv 1)) (gn 4 sc.nd) (pss_cons (sn 5 sc.nd (pc C_L_mixed hr (by decide) (pa_cons (pv 0) (pa_cons (pe_ix (ixL K) (pv 3) (pe_ix (ixT K) (pv 4) pe_int (fun _ _ => rfl)) (fun _ _ => rfl)) (pa_cons (pv 4) pa_nil)))))
      (pss_one (ps_asg (pe_ifExp (pt_cmpR op_eq (pe_ix (ixT K) (pv 4) pe_int (fun _ _ => rfl)) pe_str (nomark _)) pe_int (pv 5)) (pg_sub (pv 3) (pe_ix (ixT K) (pv 4) pe_int (fun _ _ => rfl)) set_list)))))
      (pss_one (ps_ret (pv 3))))), ?_⟩
    try dsimp only [cxOf]
    walk_at "go"
    
    refine fun l1 nl1 => ?_
    generalize hh : upd H l1 _ = H1
    have s1 : Same H H1 := hh ▸ Same.new nl1
    have e1 : H1 l1 = some _ := hh ▸ upd_same
    clear hh
    walk_at "go"
    refine ⟨l1, m, _, rfl, rfl, e1, by omega, by omega, ?_, ?_⟩
    · refine size_le ?_
      show 1 * m.toNat ≤ 100000
      omega
    refine fun q nq => ?_
    generalize hh : upd H1 q _ = H2
    have s2 : Same H1 H2 := hh ▸ Same.new nq
    have e2 : H2 q = some _ := hh ▸ upd_same
    clear hh
    have e2' : H2 q = some (.lst ((replayB hw [] m.toNat).map V.int)) := by
      rw [e2]
      show _ = some (HO.lst ((List.replicate m.toNat 1).map V.int))
      congr 2
      rw [List.map_replicate]
      generalize m.toNat = n
      induction n with
      | zero => rfl
      | succ n ih => rw [List.replicate_succ, List.flatten_cons, ih, List.replicate_succ]; rfl
    have s02 := Same.trans s1 s2
    have nqH : H q = none := Same.free s1 nq
    walk_at "go"
    refine ⟨l, rfl, ⟨_, .of (s02 _ _ hl)⟩, for_it (walk_list (xs := ps.map V.ref)) (fun i σ H3 => Kp [q] H2 H3 ∧ Same H H3 ∧ ∃ u1 u2, σ = [some (.ref a), some (.ref l), some (.int m), some (.ref q), u1, u2] ∧ H3 q = some (.lst (((rows.take i).foldl (stepB hw) (List.replicate m.toNat 1)).map V.int))) ⟨Kp.refl _, s02, _, _, rfl, e2'⟩ (fun i σ H3 _ p => .of (p.2.1 _ _ hl)) (fun i x σ H3 H4 hi p y => ?_) (fun σ H3 p => ?_)⟩
    · obtain ⟨kq, s3, u1, u2, rfl, eq3⟩ := p
      obtain ⟨rfl, hx⟩ := y
      obtain ⟨p, hpi, rfl⟩ := map_ref hx
      obtain ⟨r, hri, hrm, hlt, hpp⟩ := hR.row hpi
      have okr := ok r hrm
      have hbr := hb r hrm
      have hp3 : H4 p = some (.tup [.int r.b, .str r.w, .str r.nm, .int r.nt]) := s3 _ _ hpp
      have hlen : ((rows.take i).foldl (stepB hw) (List.replicate m.toNat 1)).length = m.toNat := by rw [foldB_length, List.length_replicate]
      have hbl : r.b < (((rows.take i).foldl (stepB hw) (List.replicate m.toNat 1)).length : Int) := by rw [hlen]; omega
      walk_at "go"
      refine r_ixL (.of eq3) (atI_ints okr.b0 hbl) ?_
      walk_at "go"
      refine ⟨a, hw, _, p, r, rfl, s3 _ _ ha, hk, hp3, okr, fun H5 s5 => ?_⟩
      have hp5 := s5 _ _ hp3
      have eq5 := s5 _ _ eq3
      walk_at "go"
      rw [show decide (V.str r.w = V.str "reset") = decide (r.w = "reset") from decS _ _]
      have fin : ∀ (v : Int) (σ' : L2.St), v = (if r.w = "reset" then 2 else mix hw (((rows.take i).foldl (stepB hw) (List.replicate m.toNat 1)).getD r.b.toNat 0) r) → ∀ u1 u2, σ' = [some (.ref a), some (.ref l), some (.int m), some (.ref q), u1, u2] →
          (fun (σ : L2.St) (H3 : Hp) => Kp [q] H2 H3 ∧ Same H H3 ∧ ∃ u1 u2, σ = [some (.ref a), some (.ref l), some (.int m), some (.ref q), u1, u2] ∧ H3 q = some (.lst (((rows.take (i + 1)).foldl (stepB hw) (List.replicate m.toNat 1)).map V.int))) σ' (upd H5 q (.lst ((((rows.take i).foldl (stepB hw) (List.replicate m.toNat 1)).map V.int).set r.b.toNat (.int v)))) := fun v σ' ev u1 u2 es => by
        refine ⟨Kp.put (kq.trans (Same.kp s5)) (by simp), Same.own (Same.trans s3 s5) nqH, u1, u2, es, ?_⟩
        rw [upd_same, foldl_next hri, ev]
        unfold stepB
        rw [List.map_set]
      by_cases h : r.w = "reset"
      · rw [decide_eq_true h]
        walk_at "go"
        refine ⟨q, _, _, r.b.toNat, rfl, rfl, eq5, ixN_of okr.b0 (by rw [List.length_map]; exact hbl), ?_⟩
        walk_at "go"
        exact fin _ _ (by rw [if_pos h]) _ _ rfl
      · rw [decide_eq_false h]
        walk_at "go"
        refine ⟨q, _, _, r.b.toNat, rfl, rfl, eq5, ixN_of okr.b0 (by rw [List.length_map]; exact hbl), ?_⟩
        walk_at "go"
        exact fin _ _ (by rw [if_neg h]) _ _ rfl
    · obtain ⟨kq, s3, u1, u2, rfl, eq3⟩ := p
      walk_at "go"
      rw [List.length_map, hR.1, List.take_length] at eq3
      exact k q _ s3 nqH eq3
abbrev N_L_fault : List Str := ["_law_rows", "_law_size", "_law_kept", "_law_up", "_law_place", "_law_row_here"]
theorem sc_L_fault : FnScope N_L_fault ["_law_rows", "_law_size", "_law_kept"] (defScope Hd.sL_fault) := ⟨rfl, rfl, rfl, by decide +kernel, rfl, by decide +kernel, by decide +kernel⟩
theorem ok_L_fault (T : Hd.Tx K mg) : Cal P w K mg base 1 "_law_fault" spFault := by
  obtain ⟨fd, F⟩ := T.d_L_fault
  have sc := sc_L_fault
  refine calD F T.g_L_fault sc (fun vs H Q E h => ?_) (fun _ _ _ _ _ _ us hl => match us, hl with | [_, _, _], _ => rfl) (fun cdv A outer s H vs Q E hr h => ?_)
  · obtain ⟨l, ps, rows, m, fx, rfl, _⟩ := h; rfl
  · obtain ⟨l, ps, rows, m, fx, rfl, hl, hR, ok, k⟩ := h
    refine ⟨_, (pss_cons (sn 3 sc.nd pe_bl)
      (pss_cons (ps_for PassesOwn.never rfl (pi_enum (by rfl) T.f_enumerate (pa_cons (pv 0) pa_nil)) (pg_tup (by rfl) (pgs_cons (gn 4 sc.nd) (pgs_cons (gn 5 sc.nd) pgs_nil))) (pss_cons (ps_if (PW.pt (pw_or (pt_cmpR op_ge (pe_ix (ixT K) (pv 5) pe_int (fun _ _ => rfl)) (pv 1) (nomark _)) (pw_or (pt_cmpR op_ne (pe_cmpR op_in_seq (pe_ix (ixT K) (pv 5) pe_int (fun _ _ => rfl)) (pe_tup (pa_cons pe_str (pa_cons pe_str pa_nil))) (by rfl)) (pv 3) (nomark _)) (pw_or1 (PW.pt (pw_and (pt_cmpR op_eq (pe_ix (ixT K) (pv 5) pe_int (fun _ _ => rfl)) pe_str (nomark _)) (pw_and1 (pt_cmpR op_lt (pe_ix (ixT K) (pv 5) pe_int (fun _ _ => rfl)) (pv 2) (nomark _))))))))) (pss_one (ps_ret (pv 4))) pss_nil)
      (pss_one (sn 3 sc.nd (pe_or (pv 3) (pe_one (pe_cmpR op_eq (pe_ix (ixT K) (pv 5) pe_int (fun _ _ => rfl)) pe_str (nomark _))))))))
      (pss_one (ps_ret pe_non)))), ?_⟩
    try dsimp only [cxOf]
    walk_at "go"
    
    refine ⟨l, _, rfl, .of hl, for_it walk_enum (fun i σ H1 => Same H H1 ∧ ∃ up u1 u2, σ = [some (.ref l), some (.int m), some (.int fx), some (.bl up), u1, u2] ∧ fault rows m fx = faultFrom m fx up i (rows.drop i)) ⟨Same.refl _, false, _, _, rfl, rfl⟩ (fun i σ H1 _ p => .of (p.1 _ _ hl)) (fun i x σ H1 H2 hi p y => ?_) (fun σ H1 p => ?_)⟩
    · obtain ⟨s1, up, u1, u2, rfl, e⟩ := p
      obtain ⟨t, x1, x2, rfl, nt, rfl, hx1, hx2⟩ := y
      obtain rfl := Option.some.inj hx1
      obtain ⟨p, hpi, rfl⟩ := map_ref hx2
      obtain ⟨r, hri, hm, hlt, hpp⟩ := hR.row hpi
      have st : Same H1 (upd H1 t (.tup [.int i, .ref p])) := Same.new nt
      have ht : (upd H1 t (.tup [.int i, .ref p])) t = some (.tup [.int i, .ref p]) := upd_same
      have hp' : (upd H1 t (.tup [.int i, .ref p])) p = some (.tup [.int r.b, .str r.w, .str r.nm, .int r.nt]) := st _ _ (s1 _ _ hpp)
      have ed : rows.drop i = r :: rows.drop (i + 1) := by
        rw [List.drop_eq_getElem_cons hlt]
        rw [List.getElem?_eq_getElem hlt] at hri
        rw [Option.some.inj hri]
      rw [ed] at e
      unfold faultFrom at e
      have hgo : Same H (upd H1 t (.tup [.int i, .ref p])) := Same.trans s1 st
      generalize upd H1 t (.tup [.int i, .ref p]) = H2 at *
      walk_at "go"
      have bad : ∀ H3, Same H H3 → canStand r up m fx = false → Q (.int i) H3 := fun H3 s3 c => by
        rw [c, if_neg (by decide)] at e
        rw [e] at k
        exact k _ s3
      by_cases h1 : r.b < m
      · have h1' : ¬ m ≤ r.b := by omega
        rw [decide_eq_false h1']
        walk_at "go"
        refine fun wt nwt => ?_
        generalize hh : upd H2 wt _ = H3
        have s3 : Same H2 H3 := hh ▸ Same.new nwt
        have e3 : H3 wt = some _ := hh ▸ upd_same
        clear hh
        have hp3 := s3 _ _ hp'
        have s03 := Same.trans hgo s3
        refine r_inT (.of e3) (by rfl) (by rfl) ?_
        rw [show ([V.str "late", V.str "reset"] : List V) = (["late", "reset"] : List Str).map V.str from rfl, inV_str]
        walk_at "go"
        rw [show decide (r.w ∈ (["late", "reset"] : List Str)) = isLate r.w from rfl, decB]
        by_cases h2 : (isLate r.w == up) = true
        · rw [h2]
          walk_at "go"
          rw [show decide (V.str r.w = V.str "reset") = decide (r.w = "reset") from decS _ _]
          have good : ∀ H4 (σ' : L2.St), Same H H4 → canStand r up m fx = true → ∀ u1 u2, σ' = [some (.ref l), some (.int m), some (.int fx), some (.bl (up || decide (r.w = "end"))), u1, u2] →
              Same H H4 ∧ ∃ up u1 u2, σ' = [some (.ref l), some (.int m), some (.int fx), some (.bl up), u1, u2] ∧ fault rows m fx = faultFrom m fx up (i + 1) (rows.drop (i + 1)) := fun H4 σ' s4 c u1 u2 es => by
            rw [c, if_pos rfl] at e
            exact ⟨s4, _, u1, u2, es, e⟩
          have tl : ∀ H4, Same H H4 → H4 p = some (.tup [.int r.b, .str r.w, .str r.nm, .int r.nt]) → canStand r up m fx = true → True := fun _ _ _ _ => trivial
          by_cases h3 : r.w = "reset"
          · rw [decide_eq_true h3]
            walk_at "go"
            by_cases h4 : r.b < fx
            · rw [decide_eq_true h4]
              walk_at "go"
              refine bad _ s03 ?_
              unfold canStand
              rw [decide_eq_true h1, h2, decide_eq_true h3, decide_eq_false (by omega)]
              rfl
            · rw [decide_eq_false h4]
              walk_at "go"
              cases up with
              | true =>
                walk_at "go"
                refine good _ _ s03 ?_ _ _ rfl
                unfold canStand
                rw [decide_eq_true h1, h2, decide_eq_true h3, decide_eq_true (by omega)]
                rfl
              | false =>
                walk_at "go"
                rw [show decide (V.str r.w = V.str "end") = decide (r.w = "end") from decS _ _]
                refine good _ _ s03 ?_ _ _ rfl
                unfold canStand
                rw [decide_eq_true h1, h2, decide_eq_true h3, decide_eq_true (by omega)]
                rfl
          · rw [decide_eq_false h3]
            walk_at "go"
            cases up with
            | true =>
              walk_at "go"
              refine good _ _ s03 ?_ _ _ rfl
              unfold canStand
              rw [decide_eq_true h1, h2, decide_eq_false h3]
              rfl
            | false =>
              walk_at "go"
              rw [show decide (V.str r.w = V.str "end") = decide (r.w = "end") from decS _ _]
              refine good _ _ s03 ?_ _ _ rfl
              unfold canStand
              rw [decide_eq_true h1, h2, decide_eq_false h3]
              rfl
        · have h2' : (isLate r.w == up) = false := by simpa using h2
          rw [h2']
          walk_at "go"
          refine bad _ s03 ?_
          unfold canStand
          rw [h2', Bool.and_false, Bool.false_and]
      · have h1' : m ≤ r.b := by omega
        rw [decide_eq_true h1']
        walk_at "go"
        refine bad _ hgo ?_
        unfold canStand
        rw [decide_eq_false h1, Bool.false_and, Bool.false_and]
    · obtain ⟨s1, up, u1, u2, rfl, e⟩ := p
      walk_at "go"
      have ee : fault rows m fx = none := by
        rw [e, List.length_map, hR.1, List.drop_length]
        rfl
      rw [ee] at k
      exact k _ s1
abbrev N_L_folded_sign : List Str := ["_law_key", "_law_numbers", "_law_found", "_law_number"]
theorem sc_L_folded_sign : FnScope N_L_folded_sign ["_law_key", "_law_numbers"] (defScope Hd.sL_folded_sign) := ⟨rfl, rfl, rfl, by decide +kernel, rfl, by decide +kernel, by decide +kernel⟩
theorem ok_L_folded_sign (T : Hd.Tx K mg) : Cal P w K mg base 1 "_law_folded_sign" ((spSign K)) := by
  obtain ⟨fd, F⟩ := T.d_L_folded_sign
  have sc := sc_L_folded_sign
  refine calD F T.g_L_folded_sign sc (fun vs H Q E h => ?_) (fun _ _ _ _ _ _ us hl => match us, hl with | [_, _], _ => rfl) (fun cdv A outer s H vs Q E hr h => ?_)
  · obtain ⟨k, a, ns, rfl, _⟩ := h; rfl
  · obtain ⟨key, a, ns, rfl, hS, k⟩ := h
    refine ⟨_, (pss_cons (sn 2 sc.nd (pv 0))
      (pss_cons (ps_for PassesOwn.never rfl (pi_list (pv 1)) (gn 3 sc.nd) (pss_one (sn 2 sc.nd (pe_op op_mod (pe_op op_add (pe_op op_add (pe_op op_mul (pv 2) pe_int) (pv 3)) pe_int) pe_int))))
      (pss_one (ps_ret (pv 2))))), ?_⟩
    try dsimp only [cxOf]
    walk_at "go"
    
    refine ⟨a, rfl, ⟨_, hS⟩, for_it walk_list (fun i σ H1 => H1 = H ∧ ∃ u, σ = [some (.int key), some (.ref a), some (.int (foldSign key (ns.take i))), u]) ⟨rfl, _, rfl⟩ (fun _ _ _ _ p => p.1 ▸ hS) (fun i x σ H1 H2 hi p y => ?_) (fun σ H1 p => ?_)⟩
    · obtain ⟨rfl, u, rfl⟩ := p
      obtain ⟨rfl, hx⟩ := y
      obtain ⟨n, hn, rfl⟩ := map_int hx
      walk_at "go"
      refine ⟨rfl, some (.int n), ?_⟩
      unfold foldSign
      rw [foldl_next hn]
      rfl
    · obtain ⟨rfl, u, rfl⟩ := p
      walk_at "go"
      rw [List.length_map, List.take_length]
      exact k
abbrev N_L_verdict : List Str := ["_law_rules", "_law_rows", "_law_k", "_law_rule", "_law_place"]
theorem sc_L_verdict : FnScope N_L_verdict ["_law_rules", "_law_rows"] (defScope Hd.sL_verdict) := ⟨rfl, rfl, rfl, by decide +kernel, rfl, by decide +kernel, by decide +kernel⟩
theorem ok_L_verdict (T : Hd.Tx K mg) : Cal P w K mg base 1 "_law_verdict" ((spVerdict K)) := by
  obtain ⟨fd, F⟩ := T.d_L_verdict
  have sc := sc_L_verdict
  refine calD F T.g_L_verdict sc (fun vs H Q E h => ?_) (fun _ _ _ _ _ _ us hl => match us, hl with | [_, _], _ => rfl) (fun cdv A outer s H vs Q E hr h => ?_)
  · obtain ⟨a, v, rfl, _⟩ := h; rfl
  · obtain ⟨a, v, rfl, h1, k⟩ := h
    refine ⟨_, (pss_cons (ps_for PassesOwn.never rfl (pi_enum (by rfl) T.f_enumerate (pa_cons (pv 0) pa_nil)) (pg_tup (by rfl) (pgs_cons (gn 2 sc.nd) (pgs_cons (gn 3 sc.nd) pgs_nil))) (pss_cons ps_never
      (pss_one ps_never)))
      (pss_one (ps_ret (pe_tup (pa_cons pe_str pa_nil))))), ?_⟩
    try dsimp only [cxOf]
    walk_at "go"
    
    refine ⟨a, _, rfl, h1, for_it (walk_enum (xs := [])) (fun i σ H1 => H1 = H) rfl (fun i σ H1 _ p => p ▸ h1) (fun i x σ H1 H2 hi p y => absurd hi (Nat.not_lt_zero _)) (fun σ H1 p => ?_)⟩
    subst p
    walk_at "go"
    exact fun p n => k p _ n rfl
theorem dec0 (d : Nat) : decide (V.int (d : Nat) = V.int 0) = decide (d = 0) := by
  by_cases h : d = 0
  · subst h; rfl
  · rw [decide_eq_false h, decide_eq_false (fun z => h (by have := V.int.inj z; omega))]
def spShares : Sp := fun vs H Q _ => ∃ (a b : Nat), vs = [.int a, .int b] ∧ ∀ c : Bool, (c = false → Nat.gcd a b ≤ 1) → Q (.bl c) H
abbrev N_L_shares : List Str := ["_law_one", "_law_two", "_law_turn"]
theorem sc_L_shares : FnScope N_L_shares ["_law_one", "_law_two"] (defScope Hd.sL_shares) := ⟨rfl, rfl, rfl, by decide +kernel, rfl, by decide +kernel, by decide +kernel⟩
theorem ok_L_shares (T : Hd.Tx K mg) : Cal P w K mg base 1 "_law_shares" spShares := by
  obtain ⟨fd, F⟩ := T.d_L_shares
  have sc := sc_L_shares
  refine calD F T.g_L_shares sc (fun vs H Q E h => ?_) (fun _ _ _ _ _ _ us hl => match us, hl with | [_, _], _ => rfl) (fun cdv A outer s H vs Q E hr h => ?_)
  · obtain ⟨a, b, rfl, _⟩ := h; rfl
  · obtain ⟨a, b, rfl, k⟩ := h
    refine ⟨_, (pss_cons (ps_for PassesOwn.never rfl (pi_range1 (by rfl) T.f_range (pa_cons pe_int pa_nil)) (gn 2 sc.nd) (pss_cons (ps_if (pt_cmpR op_eq (pv 1) pe_int (nomark _)) (pss_one (ps_ret (pe_cmpR op_gt (pv 0) pe_int (nomark _)))) pss_nil)
      (pss_one (ps_par (i := 0) (j := 1) rfl sc.nd rfl rfl (by decide) rfl rfl (pa_cons (pv 1) (pa_cons (pe_op op_mod (pv 0) (pv 1)) pa_nil)) (by rfl)))))
      (pss_one (ps_ret pe_bl))), ?_⟩
    try dsimp only [cxOf]
    walk_at "go"
    
    refine ⟨64, rfl, by decide, by decide, for_it walk_range (fun i σ H1 => H1 = H ∧ ∃ (c d : Nat) (u : Option V), σ = [some (.int c), some (.int d), u] ∧ Nat.gcd c d = Nat.gcd a b) ⟨rfl, a, b, _, rfl, rfl⟩ (fun _ _ _ _ _ => trivial) (fun i x σ H1 H2 hi p y => ?_) (fun σ H1 p => ?_)⟩
    · obtain ⟨rfl, c, d, u, rfl, g⟩ := p
      obtain ⟨rfl, rfl⟩ := y
      walk_at "go"
      rw [show decide (V.int (d : Nat) = V.int 0) = decide (d = 0) from dec0 d]
      by_cases hd : d = 0
      · subst hd
        rw [decide_eq_true rfl]
        walk_at "go"
        refine k _ fun e => ?_
        rw [← g, Nat.gcd_zero_right]
        have := of_decide_eq_false e
        omega
      · rw [decide_eq_false hd]
        have hd' : (0 : Int) < (d : Nat) := by omega
        walk_at "go"
        exact ⟨rfl, d, c % d, _, rfl, by rw [← g, Nat.gcd_comm c d, Nat.gcd_rec d c, Nat.gcd_comm]⟩
    · obtain ⟨rfl, c, d, u, rfl, g⟩ := p
      walk_at "go"
      exact k _ fun e => by cases e
def spLQuote (K : PySem.W.Frag) : Sp := fun vs H Q _ => ∃ (key : Int) (nm : Str) (st num : Int) (tv : Addr) (ps : List Addr) (vals : List Int), vs = [.int key, .str nm, .int st, .int num, .ref tv] ∧ NameOk nm ∧ (H tv = some (.lst (ps.map V.ref)) ∨ H tv = some (.tup (ps.map V.ref))) ∧ PairsAt H ps vals ∧ vals.length ≤ 100 ∧ ∀ q H', Same H H' → H q = none → QuoteAt H' q nm st num vals (signOf key nm st num vals) → Q (.ref q) H' 
abbrev N_L_quote : List Str := ["_law_key", "_law_name", "_law_start", "_law_number", "_law_pairs", "_law_numbers", "_law_board", "_law_value"]
theorem sc_L_quote : FnScope N_L_quote ["_law_key", "_law_name", "_law_start", "_law_number", "_law_pairs"] (defScope Hd.sL_quote) := ⟨rfl, rfl, rfl, by decide +kernel, rfl, by decide +kernel, by decide +kernel⟩
theorem ok_L_quote (T : Hd.Tx K mg) : Cal P w K mg base 2 "_law_quote" ((spLQuote K)) := by
  obtain ⟨fd, F⟩ := T.d_L_quote
  have sc := sc_L_quote
  have C_L_folded_sign := ok_L_folded_sign (P := P) (w := w) (base := base) T
  have C_L_name_number := ok_L_name_number (P := P) (w := w) (base := base) T
  refine calD F T.g_L_quote sc (fun vs H Q E h => ?_) (fun _ _ _ _ _ _ us hl => match us, hl with | [_, _, _, _, _], _ => rfl) (fun cdv A outer s H vs Q E hr h => ?_)
  · obtain ⟨key, nm, st, num, tv, ps, vals, rfl, _⟩ := h; rfl
  · obtain ⟨key, nm, st, num, tv, ps, vals, rfl, hnm, htv, hP, hz, k⟩ := h
    refine ⟨_, (pss_cons (sn 5 sc.nd (pe_lst (pa_cons (pc C_L_name_number hr (by decide) (pa_cons (pv 1) pa_nil)) (pa_cons (pv 2) (pa_cons (pv 3) pa_nil)))))
      (pss_cons (ps_for PassesOwn.never rfl (pi_or (pi_list (pv 4)) (pi_tup (pv 4))) (pg_tup (by rfl) (pgs_cons (gn 6 sc.nd) (pgs_cons (gn 7 sc.nd) pgs_nil))) (pss_one (sn 5 sc.nd (pe_op op_cat (pv 5) (pe_lst (pa_cons (pv 6) (pa_cons (pv 7) pa_nil)))))))
      (pss_one (ps_ret (pe_tup (pa_cons (pv 1) (pa_cons (pv 2) (pa_cons (pv 3) (pa_cons (pe_callTy call_tuple_of (by rfl) T.f_tuple (by decide +kernel) (pa_cons (pv 4) pa_nil)) (pa_cons (pc C_L_folded_sign hr (by decide) (pa_cons (pv 0) (pa_cons (pv 5) pa_nil))) pa_nil)))))))))), ?_⟩
    try dsimp only [cxOf]
    walk_at "go"
    
    refine ⟨nm, rfl, hnm, ?_⟩
    walk_at "go"
    refine fun l nl => ?_
    generalize hh : upd H l _ = H1
    have s1 : Same H H1 := hh ▸ Same.new nl
    have e1 : H1 l = some _ := hh ▸ upd_same
    clear hh
    walk_at "go"
    have e1' : H1 l = some (.lst (([nameNum nm, st, num] ++ flatP vals 0).map V.int)) := e1
    have step : ∀ (J : It) (Yx : Walk J (ps.map V.ref).length (fun H2 => Same H1 H2) (fun i H2 x H3 => H3 = H2 ∧ (ps.map V.ref)[i]? = some x)) {g : TG} {tb : TS} {D : Ends},
        (∀ i σ H2 lp u1 u2 p v, Same H1 H2 → σ = [some (.int key), some (.str nm), some (.int st), some (.int num), some (.ref tv), some (.ref lp), u1, u2] → H2 lp = some (.lst (([nameNum nm, st, num] ++ flatP vals i).map V.int)) → ps[i]? = some p → vals[i]? = some v → H2 p = some (.tup [.int i, .int v]) → i < vals.length →
          ∀ N : L2.St → Hp → Prop, (∀ H3 lp u1 u2, Same H1 H3 → H3 lp = some (.lst (([nameNum nm, st, num] ++ flatP vals (i + 1)).map V.int)) → N [some (.int key), some (.str nm), some (.int st), some (.int num), some (.ref tv), some (.ref lp), u1, u2] H3) → g (.ref p) σ H2 fun σ2 H3 => tb { D with nx := N, ct := N, bk := D.nx } σ2 H3) →
        (∀ H2 lp u1 u2, Same H1 H2 → H2 lp = some (.lst ((quoteNums nm st num vals).map V.int)) → D.nx [some (.int key), some (.str nm), some (.int st), some (.int num), some (.ref tv), some (.ref lp), u1, u2] H2) →
        ForB g tb D [some (.int key), some (.str nm), some (.int st), some (.int num), some (.ref tv), some (.ref l), none, none] J H1 := fun J w0 g tb D hs hd =>
      for_it w0 (fun i σ H2 => Same H1 H2 ∧ ∃ lp u1 u2, σ = [some (.int key), some (.str nm), some (.int st), some (.int num), some (.ref tv), some (.ref lp), u1, u2] ∧ H2 lp = some (.lst (([nameNum nm, st, num] ++ flatP vals i).map V.int))) ⟨Same.refl _, l, none, none, rfl, e1'⟩ (fun i σ H2 _ p => p.1) (fun i x σ H2 H3 hi p y => by
        obtain ⟨s2, lp, u1, u2, es, elp⟩ := p
        obtain ⟨rfl, hx⟩ := y
        obtain ⟨p, hpi, rfl⟩ := map_ref hx
        obtain ⟨v, hvi, hvm, hlt, hpp⟩ := hP.val hpi
        exact hs i σ _ lp u1 u2 p v s2 es elp hpi hvi (s2 _ _ (s1 _ _ hpp)) hlt _ fun H4 lp u1 u2 s4 e4 => ⟨s4, lp, u1, u2, rfl, e4⟩) (fun σ H2 p => by
        obtain ⟨s2, lp, u1, u2, rfl, elp⟩ := p
        rw [List.length_map, hP.1] at elp
        exact hd H2 lp u1 u2 s2 elp)
    have turn : ∀ (i : Nat) (σ : L2.St) (H2 : Hp) (lp : Addr) (u1 u2 : Option V) (p : Addr) (v : Int), Same H1 H2 → σ = [some (.int key), some (.str nm), some (.int st), some (.int num), some (.ref tv), some (.ref lp), u1, u2] → H2 lp = some (.lst (([nameNum nm, st, num] ++ flatP vals i).map V.int)) → ps[i]? = some p → vals[i]? = some v → H2 p = some (.tup [.int i, .int v]) → i < vals.length →
          ∀ (N B : L2.St → Hp → Prop) (R : VK), (∀ H3 lp u1 u2, Same H1 H3 → H3 lp = some (.lst (([nameNum nm, st, num] ++ flatP vals (i + 1)).map V.int)) → N [some (.int key), some (.str nm), some (.int st), some (.int num), some (.ref tv), some (.ref lp), u1, u2] H3) →
          gTup K 2 (gCons (gName 6) (gCons (gName 7) gNil)) (.ref p) σ H2 fun σ2 H3 => tAsg (tOp rCat (tVar 5) (tLst (tCons (tVar 6) (tCons (tVar 7) tNil)))) (gName 5) { nx := N, rt := R, ct := N, bk := B } σ2 H3 := fun i σ H2 lp u1 u2 p v s2 es elp hpi hvi hpp hlt N B R hN => by
      subst es
      walk_at "go"
      refine fun q nq => ?_
      generalize hh : upd H2 q _ = H3
      have s3 : Same H2 H3 := hh ▸ Same.new nq
      have e3 : H3 q = some _ := hh ▸ upd_same
      clear hh
      walk_at "go"
      have elp3 := s3 _ _ elp
      refine ⟨lp, q, _, _, rfl, rfl, elp3, e3, ?_, ?_⟩
      · refine size_le ?_
        rw [List.length_map, List.length_append, flatP_length vals i (by omega)]
        show 3 + 2 * i + 2 ≤ 100000
        omega
      refine fun q2 nq2 => ?_
      generalize hh : upd H3 q2 _ = H4
      have s4 : Same H3 H4 := hh ▸ Same.new nq2
      have e4 : H4 q2 = some _ := hh ▸ upd_same
      clear hh
      walk_at "go"
      refine hN H4 q2 _ _ (Same.trans s2 (Same.trans s3 s4)) ?_
      rw [e4, flatP_next hvi]
      simp
    rcases htv with htv | htv
    · left
      walk_at "go"
      refine ⟨tv, rfl, ⟨_, .of (s1 _ _ htv)⟩, step _ (walk_imp walk_list fun H2 s => .of (s _ _ (s1 _ _ htv))) (fun i σ H2 lp u1 u2 p v s2 es elp hpi hvi hpp hlt N hN => turn i σ H2 lp u1 u2 p v s2 es elp hpi hvi hpp hlt N _ _ hN) (fun H2 lp u1 u2 s2 elp => ?_)⟩
      walk_at "go"
      have fin : ∀ (H3 : Hp) (tq : Addr) (qs : List V), Same H2 H3 → H3 tq = some (.tup (ps.map V.ref)) → ∀ q, H3 q = none → Q (.ref q) (upd H3 q (.tup [.str nm, .int st, .int num, .ref tq, .int (signOf key nm st num vals)])) := fun H3 tq _ s3 etq q nq => by
        have s03 := Same.trans s1 (Same.trans s2 s3)
        exact k q _ (Same.own s03 (Same.free s03 nq)) (Same.free s03 nq) ⟨tq, ps, upd_same, by rw [upd_ne (ne_of_none etq nq)]; exact etq, (hP.same s03).same (Same.new nq)⟩
      have htv2 := s2 _ _ (s1 _ _ htv)
      refine ⟨tv, _, rfl, .inl ⟨.of htv2, ?_⟩⟩
      refine fun tq ntq => ?_
      generalize hh : upd H2 tq _ = H3
      have s3 : Same H2 H3 := hh ▸ Same.new ntq
      have e3 : H3 tq = some _ := hh ▸ upd_same
      clear hh
      walk_at "go"
      refine ⟨key, lp, _, rfl, .of (s3 _ _ elp), ?_⟩
      walk_at "go"
      exact fin H3 tq [] s3 e3
    · right
      walk_at "go"
      refine ⟨tv, rfl, ⟨_, .of (s1 _ _ htv)⟩, step _ (walk_imp walk_tup fun H2 s => .of (s _ _ (s1 _ _ htv))) (fun i σ H2 lp u1 u2 p v s2 es elp hpi hvi hpp hlt N hN => turn i σ H2 lp u1 u2 p v s2 es elp hpi hvi hpp hlt N _ _ hN) (fun H2 lp u1 u2 s2 elp => ?_)⟩
      walk_at "go"
      have fin : ∀ (H3 : Hp) (tq : Addr) (qs : List V), Same H2 H3 → H3 tq = some (.tup (ps.map V.ref)) → ∀ q, H3 q = none → Q (.ref q) (upd H3 q (.tup [.str nm, .int st, .int num, .ref tq, .int (signOf key nm st num vals)])) := fun H3 tq _ s3 etq q nq => by
        have s03 := Same.trans s1 (Same.trans s2 s3)
        exact k q _ (Same.own s03 (Same.free s03 nq)) (Same.free s03 nq) ⟨tq, ps, upd_same, by rw [upd_ne (ne_of_none etq nq)]; exact etq, (hP.same s03).same (Same.new nq)⟩
      have htv2 := s2 _ _ (s1 _ _ htv)
      refine ⟨tv, _, rfl, .inr ⟨.of htv2, ?_⟩⟩
      walk_at "go"
      refine ⟨key, lp, _, rfl, .of elp, ?_⟩
      walk_at "go"
      exact fin H2 tv [] (Same.refl _) htv2
end
end Fx

/-! B3: defs and their promises -/
namespace Fx
open PySem PySem.Spec PyProof.Rows L2 Sv Mr
local macro_rules | `(tactic| walk_at "go") => `(tactic| repeat (first
  | with_reducible refine r_seq ?_ | with_reducible refine r_asg ?_ | with_reducible refine r_gn ?_ | with_reducible refine r_ret ?_ | with_reducible refine r_ifS ?_
  | ((with_reducible refine' r_var ?kv ?_); (case kv => exact rfl)) | with_reducible refine r_c ?_ | with_reducible refine r_op ?_ | with_reducible refine r_I0 ?_ | with_reducible refine r_cons ?_ | with_reducible refine r_nil ?_
  | with_reducible refine r_cb ?_ | with_reducible refine r_call ?_ | with_reducible refine r_test ?_ | with_reducible refine r_tB ?_ | with_reducible refine r_k ?_ | with_reducible refine r_or ?_ | with_reducible refine r_and ?_ | with_reducible refine r_not ?_
  | with_reducible refine r_andV ?_ | with_reducible refine r_orV ?_ | with_reducible refine r_notV ?_ | with_reducible refine r_if ?_ | with_reducible refine r_T ?_ | with_reducible refine r_F ?_ | with_reducible refine r_Tn ?_ | with_reducible refine r_Fn ?_
  | with_reducible refine r_isiS ?_ | with_reducible refine r_isiI ?_ | with_reducible refine r_isiIB ?_ | with_reducible refine r_chain ?_ | with_reducible refine r_un ?_ | with_reducible refine r_drop ?_ | with_reducible refine r_tup ?_ | with_reducible refine r_lst ?_
  | ((with_reducible refine' r_eq ?kv ?_); (case kv => exact rfl)) | ((with_reducible refine' r_ne ?kv ?_); (case kv => exact rfl)) | with_reducible refine r_nx ?_ | with_reducible refine r_retN ?_ | with_reducible refine r_yes ?_ | ((with_reducible refine' r_I ?kd ?_); (case kd => first | exact Or.inr ⟨by decide, by decide⟩ | exact ⟨by decide, by decide⟩ | exact ⟨by decide, by decide, by decide⟩ | (show (0 : Int) < _; first | decide | omega)))
  | with_reducible refine r_gCons ?_ | with_reducible refine r_gNil ?_ | with_reducible refine r_tPar ?_ | with_reducible refine r_par ?_ | with_reducible refine r_tPar3 ?_ | with_reducible refine r_par3 ?_ | with_reducible refine r_sl ?_ | with_reducible refine r_part ?_ | with_reducible refine r_parti ?_ | with_reducible refine r_nopart ?_ | with_reducible refine r_gSub ?_ | with_reducible refine r_rU ?_ | with_reducible refine r_bm ?_ | ((with_reducible refine' r_tyL ?kd ?_); (case kd => assumption)) | with_reducible refine r_nn ?_ | with_reducible refine r_meth ?_ | with_reducible refine r_methN ?_ | with_reducible refine r_callN ?_ | with_reducible refine r_fld ?_ | with_reducible refine r_lc ?_ | with_reducible refine r_for ?_ | with_reducible refine r_iList ?_ | with_reducible refine r_iTup ?_ | with_reducible refine r_iStr ?_ | with_reducible refine r_iRng1 ?_ | with_reducible refine r_iEnum ?_ | with_reducible refine r_iZip ?_ | with_reducible refine r_iZipA ?_
  | ((with_reducible refine' r_sz ?kz ?_); (case kz => first | decide | (simp only [List.length_cons, List.length_nil]; omega)))
  | ((with_reducible refine' r_isiT ?kd ?_); (case kd => assumption)) | ((with_reducible refine' r_isiL ?kd ?_); (case kd => assumption)) | ((with_reducible refine' r_isiTL ?kd ?_); (case kd => assumption)) | ((with_reducible refine' r_isiLT ?kd ?_); (case kd => assumption))
  | ((with_reducible refine' r_lenT ?kd ?_); (case kd => exact SqT.of (by assumption))) | ((with_reducible refine' r_lenL ?kd ?_); (case kd => exact SqL.of (by assumption)))
  | ((with_reducible refine' r_ixT ?ka ?kb ?_); (case ka => exact SqT.of (by assumption)); (case kb => exact rfl)) | ((with_reducible refine' r_gTup ?ka ?kb ?_); (case ka => exact SqT.of (by assumption)); (case kb => exact rfl))
  | ((with_reducible refine' r_dT ?kd ?_); (case kd => walk_at "pos")) | ((with_reducible refine' r_dF ?kd ?_); (case kd => walk_at "neg")) | ((with_reducible refine' r_ndT ?kd ?_); (case kd => walk_at "neg")) | ((with_reducible refine' r_ndF ?kd ?_); (case kd => walk_at "pos"))
  | ((with_reducible refine' r_pos ?kd ?_); (case kd => with_reducible exact rfl)) | ((with_reducible refine' r_neg ?kd ?_); (case kd => with_reducible exact rfl)) | ((with_reducible refine' r_pos ?kd ?_); (case kd => (with_reducible show _ = true); decide)) | ((with_reducible refine' r_neg ?kd ?_); (case kd => (with_reducible show _ = false); decide))))
local macro_rules | `(tactic| walk_at "pos") => `(tactic| first | assumption | omega | rfl | exact congrArg V.int (by omega) | exact congrArg V.str (by assumption))
local macro_rules | `(tactic| walk_at "neg") => `(tactic| first | assumption | omega | (intro hne; injection hne with hne; first | omega | contradiction | exact absurd hne (by decide +kernel)) | (intro hne; cases hne))

section
variable {P : Program} {w : World} {K : PySem.W.Frag} {mg : Str → Option Value} {base : Heap}
theorem getD_mem {xs : List Int} {k : Int} (h0 : 0 ≤ k) (h1 : k < xs.length) : xs.getD k.toNat 0 ∈ xs := by
  rw [List.getD_eq_getElem?_getD, List.getElem?_eq_getElem (by omega : k.toNat < xs.length)]
  exact List.getElem_mem _
theorem box_ne {H : Hp} {bx p : Addr} {n : Int} (hb : BoxAt H bx n) (np : H p = none) : p ≠ bx := fun e => by obtain ⟨_, _, _, q, _⟩ := hb; rw [e, q] at np; cases np
theorem notbx {p bx : Addr} (h : p ≠ bx) : p ∉ [bx] := by simp; exact h
theorem decI (a b : Int) : decide (V.int a = V.int b) = decide (a = b) := by
  by_cases h : a = b
  · subst h; rw [decide_eq_true rfl, decide_eq_true rfl]
  · rw [decide_eq_false h, decide_eq_false (fun z => h (V.int.inj z))]
theorem free_kp {H H' : Hp} {bx p : Addr} {n m : Int} (k : Kp [bx] H H') (b : BoxAt H' bx n) (np : H' p = none) (hb : BoxAt H bx m) : H p = none := by
  obtain ⟨_, _, _, e, _⟩ := b
  exact Kp.free1 k np e
def spHow (K : PySem.W.Frag) : Sp := fun vs H Q _ => ∃ (bx : Addr) (n : Int), vs = [.ref bx] ∧ BoxAt H bx n ∧ n < 999990 ∧ ∀ p hw H', HowOk hw → Kp [bx] H H' → H p = none → H' p = some (.tup [hw.wV, .int hw.fc]) → BoxAt H' bx (n + 10) → Q (.ref p) H' 
abbrev N_L_how : List Str := ["_law_box_here", "_law_way", "_law_width", "_law_by"]
theorem sc_L_how : FnScope N_L_how ["_law_box_here"] (defScope Hd.sL_how) := ⟨rfl, rfl, rfl, by decide +kernel, rfl, by decide +kernel, by decide +kernel⟩
theorem ok_L_how (T : Hd.Tx K mg) : Cal P w K mg base 2 "_law_how" ((spHow K)) := by
  obtain ⟨fd, F⟩ := T.d_L_how
  have sc := sc_L_how
  have C_L_shares := ok_L_shares (P := P) (w := w) (base := base) T
  have C_L_take := ok_L_take (P := P) (w := w) (base := base) T
  refine calD F T.g_L_how sc (fun vs H Q E h => ?_) (fun _ _ _ _ _ _ us hl => match us, hl with | [_], _ => rfl) (fun cdv A outer s H vs Q E hr h => ?_)
  · obtain ⟨bx, n, rfl, _⟩ := h; rfl
  · obtain ⟨bx, n, rfl, hb, hn, k⟩ := h
    refine ⟨_, (pss_cons (ps_par3 (i := 1) (j := 2) (l := 3) rfl sc.nd rfl rfl rfl (by decide) (by decide) (by decide) rfl rfl rfl (pa_cons (pc C_L_take hr (by decide) (pa_cons (pv 0) (pa_cons pe_int pa_nil))) (pa_cons pe_int (pa_cons pe_int pa_nil))) (by rfl))
      (pss_cons (ps_if (pt_cmpR op_eq (pv 1) pe_int (nomark _)) (pss_one (ps_ret (pe_tup (pa_cons pe_non (pa_cons (pe_ix (ixL K) (pe_lst (pa_cons pe_int (pa_cons pe_int (pa_cons pe_int (pa_cons pe_int pa_nil))))) (pc C_L_take hr (by decide) (pa_cons (pv 0) (pa_cons pe_int pa_nil))) (fun _ _ => rfl)) pa_nil))))) pss_nil)
      (pss_cons (sn 2 sc.nd (pe_op op_add pe_int (pc C_L_take hr (by decide) (pa_cons (pv 0) (pa_cons (pe_ix (ixL K) (pe_lst (pa_cons pe_int (pa_cons pe_int (pa_cons pe_int (pa_cons pe_int pa_nil))))) (pc C_L_take hr (by decide) (pa_cons (pv 0) (pa_cons pe_int pa_nil))) (fun _ _ => rfl)) pa_nil)))))
      (pss_cons (sn 3 sc.nd (pe_op op_add pe_int (pc C_L_take hr (by decide) (pa_cons (pv 0) (pa_cons (pe_ix (ixL K) (pe_lst (pa_cons pe_int (pa_cons (pe_op op_pow pe_int pe_int) pa_nil))) (pc C_L_take hr (by decide) (pa_cons (pv 0) (pa_cons pe_int pa_nil))) (fun _ _ => rfl)) pa_nil)))))
      (pss_one (ps_ret (pe_tup (pa_cons (pv 2) (pa_cons (pe_ifExp (pt_val (pc C_L_shares hr (by decide) (pa_cons (pv 2) (pa_cons (pv 3) pa_nil)))) pe_int (pv 3)) pa_nil))))))))), ?_⟩
    try dsimp only [cxOf]
    walk_at "go"
    
    refine ⟨bx, n, _, rfl, hb, by omega, by decide, by decide, fun r H1 r0 r1 k1 b1 => ?_⟩
    walk_at "go"
    rw [show decide (V.int r = V.int 0) = decide (r = 0) from decI _ _]
    by_cases hr0 : r = 0
    · rw [decide_eq_true hr0]
      walk_at "go"
      refine fun p np => ?_
      generalize hh : upd H1 p _ = H2
      have s2 : Same H1 H2 := hh ▸ Same.new np
      have e2 : H2 p = some _ := hh ▸ upd_same
      clear hh
      walk_at "go"
      refine ⟨bx, n + 1, _, rfl, b1.same s2, by omega, by decide, by decide, fun r2 H3 q0 q1 k3 b3 => ?_⟩
      have e3 := k3 _ _ e2 (notbx (box_ne b1 np))
      walk_at "go"
      refine r_ixL (.of e3) (atI_ints (bs := [7919, 7919, 7, 1]) q0 (by simpa using q1)) ?_
      have cs := getD_mem (xs := [7919, 7919, 7, 1]) q0 (by simpa using q1)
      generalize ([7919, 7919, 7, 1] : List Int).getD r2.toNat 0 = fc at cs
      have c2 : 1 ≤ fc ∧ fc ≤ 1000000 := by simp at cs; omega
      walk_at "go"
      refine fun t nt => ?_
      generalize hh : upd H3 t _ = H4
      have s4 : Same H3 H4 := hh ▸ Same.new nt
      have e4 : H4 t = some _ := hh ▸ upd_same
      clear hh
      exact k t ⟨none, fc⟩ H4 ⟨c2.1, c2.2, (fun m h => by cases h), (fun m h => by cases h), (fun m h => by cases h)⟩ (k1.trans ((Same.kp s2).trans (k3.trans (Same.kp s4)))) (free_kp (k1.trans ((Same.kp s2).trans k3)) b3 nt hb) e4 ((b3.same s4).mono (by omega))
    · rw [decide_eq_false hr0]
      walk_at "go"
      refine fun p np => ?_
      generalize hh : upd H1 p _ = H2
      have s2 : Same H1 H2 := hh ▸ Same.new np
      have e2 : H2 p = some _ := hh ▸ upd_same
      clear hh
      walk_at "go"
      refine ⟨bx, n + 1, _, rfl, b1.same s2, by omega, by decide, by decide, fun r2 H3 q0 q1 k3 b3 => ?_⟩
      have e3 := k3 _ _ e2 (notbx (box_ne b1 np))
      walk_at "go"
      refine r_ixL (.of e3) (atI_ints (bs := [8, 98, 498, 999998]) q0 (by simpa using q1)) ?_
      have cs := getD_mem (xs := [8, 98, 498, 999998]) q0 (by simpa using q1)
      generalize ([8, 98, 498, 999998] : List Int).getD r2.toNat 0 = wz at cs
      have c2 : 1 ≤ wz ∧ wz ≤ 999998 := by simp at cs; omega
      walk_at "go"
      refine ⟨bx, n + 1 + 1, wz, rfl, b3, by omega, by omega, by omega, fun r3 H4 q2 q3 k4 b4 => ?_⟩
      walk_at "go"
      refine fun p2 np2 => ?_
      generalize hh : upd H4 p2 _ = H5
      have s5 : Same H4 H5 := hh ▸ Same.new np2
      have e5 : H5 p2 = some _ := hh ▸ upd_same
      clear hh
      walk_at "go"
      refine ⟨bx, n + 1 + 1 + 1, _, rfl, b4.same s5, by omega, by decide, by decide, fun r4 H6 q4 q5 k6 b6 => ?_⟩
      have e6 : H6 p2 = some (.lst (([12, 1000000] : List Int).map V.int)) := k6 _ _ e5 (notbx (box_ne b4 np2))
      walk_at "go"
      refine r_ixL (.of e6) (atI_ints (bs := [12, 1000000]) q4 (by simpa using q5)) ?_
      have cs2 := getD_mem (xs := [12, 1000000]) q4 (by simpa using q5)
      generalize ([12, 1000000] : List Int).getD r4.toNat 0 = bz at cs2
      have c3 : 12 ≤ bz ∧ bz ≤ 1000000 := by simp at cs2; omega
      walk_at "go"
      refine ⟨bx, n + 1 + 1 + 1 + 1, bz, rfl, b6, by omega, by omega, by omega, fun r5 H7 q6 q7 k7 b7 => ?_⟩
      have K7 : Kp [bx] H H7 := k1.trans ((Same.kp s2).trans (k3.trans (k4.trans ((Same.kp s5).trans (k6.trans k7)))))
      walk_at "go"
      refine ⟨(3 + r3).toNat, (1 + r5).toNat, ?_, fun c hc => ?_⟩
      · rw [Int.toNat_of_nonneg (by omega), Int.toNat_of_nonneg (by omega)]
        rfl
      walk_at "go"
      have fin : ∀ fc : Int, 1 ≤ fc → fc ≤ 1000000 → Nat.gcd (3 + r3).toNat fc.toNat ≤ 1 → ∀ q, H7 q = none → Q (.ref q) (upd H7 q (.tup [.int (3 + r3), .int fc])) := fun fc f1 f2 g q nq => by
        have hs : Same H7 (upd H7 q (.tup [.int (3 + r3), .int fc])) := Same.new nq
        exact k q ⟨some (3 + r3), fc⟩ _ ⟨f1, f2, fun m h => by cases h; show 3 ≤ 3 + r3; omega, fun m h => by cases h; show 3 + r3 ≤ 1000000; omega, fun m h => by cases h; exact g⟩ (K7.trans (Same.kp hs)) (free_kp K7 b7 nq hb) upd_same ((b7.same hs).mono (by omega))
      cases c with
      | true =>
        walk_at "go"
        exact fin 1 (by decide) (by decide) (by rw [show ((1 : Int).toNat) = 1 from rfl, Nat.gcd_one_right]; exact Nat.le_refl 1)
      | false =>
        walk_at "go"
        exact fin (1 + r5) (by omega) (by omega) (hc rfl)
def spLRow (K : PySem.W.Frag) : Sp := fun vs H Q _ => ∃ (bx : Addr) (n : Int) (l : Addr) (xs : List Str) (wd : Str) (m : Int), vs = [.ref bx, .ref l, .str wd, .int m] ∧ BoxAt H bx n ∧ n < 999990 ∧ H l = some (.lst (xs.map V.str)) ∧ l ≠ bx ∧ 1 ≤ xs.length ∧ xs.length ≤ 1000 ∧ (∀ x ∈ xs, NameOk x) ∧ wd ∈ wds ∧ 1 ≤ m ∧ m ≤ 8 ∧
  ∀ p r H', RowOk r → r.b < m → r.w = wd → Kp [bx] H H' → H p = none → H' p = some (.tup r.vs) → BoxAt H' bx (n + 5) → Q (.ref p) H' 
abbrev N_L_row : List Str := ["_law_box_here", "_law_names_here", "_law_word_here", "_law_size", "_law_note_here"]
theorem sc_L_row : FnScope N_L_row ["_law_box_here", "_law_names_here", "_law_word_here", "_law_size"] (defScope Hd.sL_row) := ⟨rfl, rfl, rfl, by decide +kernel, rfl, by decide +kernel, by decide +kernel⟩
theorem ok_L_row (T : Hd.Tx K mg) : Cal P w K mg base 3 "_law_row" ((spLRow K)) := by
  obtain ⟨fd, F⟩ := T.d_L_row
  have sc := sc_L_row
  have C_L_pick := ok_L_pick (P := P) (w := w) (base := base) T
  have C_L_take := ok_L_take (P := P) (w := w) (base := base) T
  have C_L_note := ok_L_note (P := P) (w := w) (base := base) T
  refine calD F T.g_L_row sc (fun vs H Q E h => ?_) (fun _ _ _ _ _ _ us hl => match us, hl with | [_, _, _, _], _ => rfl) (fun cdv A outer s H vs Q E hr h => ?_)
  · obtain ⟨bx, n, l, xs, wd, m, rfl, _⟩ := h; rfl
  · obtain ⟨bx, n, l, xs, wd, m, rfl, hb, hn, hl, hlb, z0, z1, hnm, hw, m1, m8, k⟩ := h
    refine ⟨_, (pss_cons (sn 4 sc.nd (pe_ifExp (pt_cmpR op_in_seq (pv 2) (pe_tup (pa_cons pe_str (pa_cons pe_str pa_nil))) (by rfl)) pe_int (pc C_L_note hr (by decide) (pa_cons (pv 0) pa_nil))))
      (pss_one (ps_ret (pe_tup (pa_cons (pc C_L_take hr (by decide) (pa_cons (pv 0) (pa_cons (pv 3) pa_nil))) (pa_cons (pv 2) (pa_cons (pc C_L_pick hr (by decide) (pa_cons (pv 0) (pa_cons (pv 1) pa_nil))) (pa_cons (pv 4) pa_nil)))))))), ?_⟩
    try dsimp only [cxOf]
    walk_at "go"
    
    refine fun wt nwt => ?_
    generalize hh : upd H wt _ = H1
    have s1 : Same H H1 := hh ▸ Same.new nwt
    have e1 : H1 wt = some _ := hh ▸ upd_same
    clear hh
    walk_at "go"
    refine r_inT (.of e1) (by rfl) (by rfl) ?_
    rw [show ([V.str "end", V.str "reset"] : List V) = (["end", "reset"] : List Str).map V.str from rfl, inV_str]
    have mem : (wd ∈ (["end", "reset"] : List Str)) ↔ (wd = "end" ∨ wd = "reset") := by simp
    by_cases hm : wd ∈ (["end", "reset"] : List Str)
    · rw [decide_eq_true hm]
      walk_at "go"
      refine ⟨bx, n + 2, m, rfl, (hb.same s1).mono (by omega), by omega, m1, by omega, fun r9 H7 r0 r1 k7 b7 => ?_⟩
      have K7 : Kp [bx] H H7 := Kp.trans (Same.kp s1) k7
      have hl7 := K7 _ _ hl (notbx hlb)
      walk_at "go"
      refine ⟨bx, n + 2 + 1, l, xs, rfl, b7, by omega, hl7, hlb, z0, z1, fun x H8 hx k8 b8 => ?_⟩
      walk_at "go"
      refine fun p np => ?_
      generalize hh : upd H8 p _ = H9
      have s9 : Same H8 H9 := hh ▸ Same.new np
      have e9 : H9 p = some _ := hh ▸ upd_same
      clear hh
      exact k p ⟨r9, wd, x, 0⟩ H9 ⟨r0, by show r9 < 8; omega, hw, hnm x hx, Int.le_refl 0, by show (0:Int) < 9973; decide, fun _ => rfl⟩ (by show r9 < m; exact r1) rfl ((K7.trans k8).trans (Same.kp s9)) (free_kp (K7.trans k8) b8 np hb) e9 ((b8.same s9).mono (by omega))
    · rw [decide_eq_false hm]
      walk_at "go"
      refine ⟨bx, n, rfl, hb.same s1, by omega, fun r H2 q0 q1 k2 b2 => ?_⟩
      walk_at "go"
      refine ⟨bx, n + 2, m, rfl, b2, by omega, m1, by omega, fun r9 H7 r0 r1 k7 b7 => ?_⟩
      have K7 : Kp [bx] H H7 := Kp.trans ((Same.kp s1).trans k2) k7
      have hl7 := K7 _ _ hl (notbx hlb)
      walk_at "go"
      refine ⟨bx, n + 2 + 1, l, xs, rfl, b7, by omega, hl7, hlb, z0, z1, fun x H8 hx k8 b8 => ?_⟩
      walk_at "go"
      refine fun p np => ?_
      generalize hh : upd H8 p _ = H9
      have s9 : Same H8 H9 := hh ▸ Same.new np
      have e9 : H9 p = some _ := hh ▸ upd_same
      clear hh
      exact k p ⟨r9, wd, x, r⟩ H9 ⟨r0, by show r9 < 8; omega, hw, hnm x hx, q0, q1, fun z => absurd (mem.mpr z) hm⟩ (by show r9 < m; exact r1) rfl ((K7.trans k8).trans (Same.kp s9)) (free_kp (K7.trans k8) b8 np hb) e9 ((b8.same s9).mono (by omega))
theorem tkp_box {H H' : Hp} {bx : Addr} {n : Int} (k : Kp [bx] H H') (b : BoxAt H bx n) : TKp H H' := fun x ts e => k x _ e (notbx fun z => by
  obtain ⟨_, _, _, q, _⟩ := b
  rw [z, q] at e; cases e)
theorem tkp_put {H : Hp} {D : Addr} {l : List V} {o : HO} (e : H D = some (.lst l)) : TKp H (upd H D o) := fun x ts h => by
  rw [upd_ne (fun z => by rw [z, e] at h; cases h)]; exact h
theorem _root_.Mr.RowsAt.push {H : Hp} {ps : List Addr} {rows : List Rw} {p : Addr} {r : Rw} (h : RowsAt H ps rows) (e : H p = some (.tup r.vs)) : RowsAt H (ps ++ [p]) (rows ++ [r]) := by
  refine ⟨by rw [List.length_append, List.length_append, h.1]; rfl, fun i q x h1 h2 => ?_⟩
  rcases Nat.lt_trichotomy i ps.length with c | c | c
  · rw [List.getElem?_append_left c] at h1
    rw [List.getElem?_append_left (h.1 ▸ c)] at h2
    exact h.2 i q x h1 h2
  · have e1 : (ps ++ [p])[i]? = some p := by rw [c]; simp
    have e2 : (rows ++ [r])[i]? = some r := by rw [c, h.1]; simp
    rw [e1] at h1
    rw [e2] at h2
    cases h1
    cases h2
    exact e
  · rw [List.getElem?_eq_none (by rw [List.length_append]; show ps.length + 1 ≤ i; omega)] at h1
    cases h1
def ended (rows : List Rw) : Bool := rows.any fun r => decide (r.w = "end")
theorem faultFrom_snoc {m fx : Int} {r : Rw} : ∀ (rows : List Rw) (up : Bool) (i : Nat), faultFrom m fx up i rows = none → canStand r (up || ended rows) m fx = true → faultFrom m fx up i (rows ++ [r]) = none
  | [], up, i, _, h => by
    have h' : canStand r up m fx = true := by simpa [ended] using h
    show (if canStand r up m fx = true then none else some i) = none
    rw [if_pos h']
  | q :: t, up, i, h0, h => by
    unfold faultFrom at h0
    show (if canStand q up m fx = true then faultFrom m fx (up || decide (q.w = "end")) (i + 1) (t ++ [r]) else some i) = none
    by_cases c : canStand q up m fx = true
    · rw [if_pos c] at h0 ⊢
      refine faultFrom_snoc t _ _ h0 ?_
      have e : ended (q :: t) = (decide (q.w = "end") || ended t) := rfl
      rw [e, ← Bool.or_assoc] at h
      exact h
    · rw [if_neg c] at h0; cases h0
theorem fault_snoc {m fx : Int} {r : Rw} {rows : List Rw} (h0 : fault rows m fx = none) (h : canStand r (ended rows) m fx = true) : fault (rows ++ [r]) m fx = none := faultFrom_snoc rows false 0 h0 (by simpa using h)
theorem ended_snoc (rows : List Rw) (r : Rw) : ended (rows ++ [r]) = (ended rows || decide (r.w = "end")) := by unfold ended; rw [List.any_append]; simp
/-- rows that are laid, with a list of them at p -/
structure LogAt (H : Hp) (p : Addr) (rows : List Rw) (m fx : Int) (up : Bool) : Prop where
  ex : ∃ ps, H p = some (.lst (ps.map V.ref)) ∧ RowsAt H ps rows
  ok : ∀ r ∈ rows, RowOk r
  flt : fault rows m fx = none
  nd : ended rows = up
theorem LogAt.kp {H H' : Hp} {p bx : Addr} {rows : List Rw} {m fx n : Int} {up : Bool} (h : LogAt H p rows m fx up) (k : Kp [bx] H H') (b : BoxAt H bx n) (ne : p ≠ bx) : LogAt H' p rows m fx up := by
  obtain ⟨ps, e, R⟩ := h.ex
  exact ⟨⟨ps, k _ _ e (notbx ne), R.tk (tkp_box k b)⟩, h.ok, h.flt, h.nd⟩
theorem canLow {r : Rw} {m fx : Int} (h : r.b < m) (h1 : isLate r.w = false) (h2 : r.w ≠ "reset") : canStand r false m fx = true := by
  unfold canStand; rw [decide_eq_true h, h1, decide_eq_false h2]; rfl
theorem canLate {r : Rw} {m fx : Int} (h : r.b < m) (h1 : isLate r.w = true) (h2 : r.w ≠ "reset" ∨ fx ≤ r.b) : canStand r true m fx = true := by
  unfold canStand; rw [decide_eq_true h, h1]
  rcases h2 with h2 | h2
  · rw [decide_eq_false h2]; rfl
  · rw [decide_eq_true h2]; cases decide (r.w = "reset") <;> rfl

def spLLog (K : PySem.W.Frag) : Sp := fun vs H Q _ => ∃ (bx : Addr) (n : Int) (l : Addr) (xs : List Str) (m fx : Int), vs = [.ref bx, .ref l, .int m, .int fx, .int 6] ∧ BoxAt H bx n ∧ n < 990000 ∧ H l = some (.lst (xs.map V.str)) ∧ l ≠ bx ∧ 1 ≤ xs.length ∧ xs.length ≤ 1000 ∧ (∀ x ∈ xs, NameOk x) ∧ 1 ≤ m ∧ m ≤ 8 ∧ 0 ≤ fx ∧ fx < m ∧
  ∀ p rows H', Kp [bx] H H' → H p = none → (∃ up, LogAt H' p rows m fx up) → rows.length ≤ 6 → BoxAt H' bx (n + 300) → Q (.ref p) H' 
abbrev N_L_log : List Str := ["_law_box_here", "_law_names_here", "_law_size", "_law_kept", "_law_count", "_law_k", "_law_rows", "_law_word_here", "_law_row_here"]
theorem sc_L_log : FnScope N_L_log ["_law_box_here", "_law_names_here", "_law_size", "_law_kept", "_law_count"] (defScope Hd.sL_log) := ⟨rfl, rfl, rfl, by decide +kernel, rfl, by decide +kernel, by decide +kernel⟩
theorem ok_L_log (T : Hd.Tx K mg) : Cal P w K mg base 4 "_law_log" ((spLLog K)) := by
  obtain ⟨fd, F⟩ := T.d_L_log
  have sc := sc_L_log
  have C_L_take := ok_L_take (P := P) (w := w) (base := base) T
  have C_L_row := ok_L_row (P := P) (w := w) (base := base) T
  refine calD F T.g_L_log sc (fun vs H Q E h => ?_) (fun _ _ _ _ _ _ us hl => match us, hl with | [_, _, _, _, _], _ => rfl) (fun cdv A outer s H vs Q E hr h => ?_)
  · obtain ⟨bx, n, l, xs, m, fx, rfl, _⟩ := h; rfl
  · obtain ⟨bx, n, l, xs, m, fx, rfl, hb, hn, hl, hlb, z0, z1, hnm, m1, m8, fx0, fxm, k⟩ := h
    refine ⟨_, (pss_cons (ps_setLc (i := 6) (own := [("_law_k", 5)]) (g := (gName 5)) (tt := tYes) rfl sc.nd rfl rfl (sw_true rfl rfl rfl (by decide +kernel)) (pi_range1 (by rfl) T.f_range (pa_cons (pc C_L_take hr (by decide) (pa_cons (pv 0) (pa_cons (pe_op op_add (pv 4) pe_int) pa_nil))) pa_nil)) (blkOk_by (own := [("_law_k", 5)]) (N := N_L_log) (sc := defScope Hd.sL_log) (by decide +kernel)) (fun _ _ _ _ _ => (gn 5 sc.nd)) (fun _ _ _ _ _ => pts_nil) (fun _ _ _ _ _ => (pc C_L_row hr (by decide) (pa_cons (pv 0) (pa_cons (pv 1) (pa_cons (pe_ix (ixL K) (pe_lst (pa_cons pe_str (pa_cons pe_str pa_nil))) (pc C_L_take hr (by decide) (pa_cons (pv 0) (pa_cons pe_int pa_nil))) (fun _ _ => rfl)) (pa_cons (pv 2) pa_nil)))))))
      (pss_cons (ps_if (PW.pt (pw_and (pt_cmpR op_lt (pe_callB call_len (by rfl) T.f_len (by decide +kernel) (pa_cons (pv 6) pa_nil)) (pv 4) (nomark _)) (pw_and1 (pt_cmpR op_gt (pc C_L_take hr (by decide) (pa_cons (pv 0) (pa_cons pe_int pa_nil))) pe_int (nomark _))))) (pss_cons (ps_expr (pe_bm PySem.F.plainAttrs_list PySem.F.slot_list_append PySem.F.type_list_append mt_append (pv 6) (pa_cons (pc C_L_row hr (by decide) (pa_cons (pv 0) (pa_cons (pv 1) (pa_cons pe_str (pa_cons (pv 2) pa_nil))))) pa_nil)))
      (pss_one (ps_for PassesOwn.never rfl (pi_range1 (by rfl) T.f_range (pa_cons (pc C_L_take hr (by decide) (pa_cons (pv 0) (pa_cons (pe_op op_add (pe_op op_sub (pv 4) (pe_callB call_len (by rfl) T.f_len (by decide +kernel) (pa_cons (pv 6) pa_nil))) pe_int) pa_nil))) pa_nil)) (gn 5 sc.nd) (pss_cons (sn 7 sc.nd (pe_ix (ixL K) (pe_lst (pa_cons pe_str (pa_cons pe_str pa_nil))) (pe_callTy call_int1 (by rfl) T.f_int (by decide +kernel) (pa_cons (pe_and (pe_cmpR op_eq (pc C_L_take hr (by decide) (pa_cons (pv 0) (pa_cons pe_int pa_nil))) pe_int (nomark _)) (pe_one (pe_cmpR op_lt (pv 3) (pv 2) (nomark _)))) pa_nil)) (fun _ _ => rfl)))
      (pss_cons (sn 8 sc.nd (pc C_L_row hr (by decide) (pa_cons (pv 0) (pa_cons (pv 1) (pa_cons (pv 7) (pa_cons (pv 2) pa_nil))))))
      (pss_one (ps_expr (pe_bm PySem.F.plainAttrs_list PySem.F.slot_list_append PySem.F.type_list_append mt_append (pv 6) (pa_cons (pe_ifExp (pt_cmpR op_eq (pv 7) pe_str (nomark _)) (pe_op op_catT (pe_tup (pa_cons (pe_op op_add (pv 3) (pe_op op_mod (pe_ix (ixT K) (pv 8) pe_int (fun _ _ => rfl)) (pe_op op_sub (pv 2) (pv 3)))) pa_nil)) (pe_slice sl_tup (pv 8) (po_some pe_int) po_none)) (pv 8)) pa_nil))))))))) pss_nil)
      (pss_one (ps_ret (pv 6))))), ?_⟩
    try dsimp only [cxOf]
    walk_at "go"
    
    refine ⟨bx, n, _, rfl, hb, by omega, by decide, by decide, fun c0 H1 c00 c01 k1 b1 => ?_⟩
    have hl1 := k1 _ _ hl (notbx hlb)
    walk_at "go"
    refine ⟨c0, rfl, by omega, by omega, fun D hD => ?_⟩
    have Db := box_ne b1 hD
    have Dl : D ≠ l := fun z => by rw [z, hl1] at hD; cases hD
    have INV : ∀ i H2, (∃ rows, LogAt H2 D rows m fx false ∧ rows.length = i ∧ Kp [bx] H1 H2 ∧ BoxAt H2 bx (n + 1 + 10 * i)) → True := fun _ _ _ => trivial
    refine lc_it walk_range (fun i H2 => ∃ rows, LogAt H2 D rows m fx false ∧ rows.length = i ∧ Kp [bx] H1 H2 ∧ BoxAt H2 bx (n + 1 + 10 * i)) ⟨[], ⟨⟨[], upd_same, rfl, fun i p r h => by simp at h⟩, (fun r h => by cases h), rfl, rfl⟩, rfl, Kp.own (Kp.refl _) hD, (b1.kp (Kp.own (S := []) (Kp.refl _) hD) (by simp)).mono (by omega)⟩ (fun _ _ _ _ => trivial) (fun i x H2 H3 hi p y => ?_) (fun H2 p => ?_)
    · obtain ⟨rows, LA, hlen, k2, b2⟩ := p
      obtain ⟨rfl, rfl⟩ := y
      obtain ⟨ps, e2, R2⟩ := LA.ex
      have hi6 : (i : Int) < 7 := by omega
      have hl2 := k2 _ _ hl1 (notbx hlb)
      refine ⟨rfl, ?_⟩
      walk_at "go"
      refine fun wt nwt => ?_
      generalize hh : upd H3 wt _ = H4
      have s4 : Same H3 H4 := hh ▸ Same.new nwt
      have e4 : H4 wt = some _ := hh ▸ upd_same
      clear hh
      walk_at "go"
      refine ⟨bx, _, _, rfl, b2.same s4, by omega, by decide, by decide, fun r H5 r0 r1 k5 b5 => ?_⟩
      have wtb := box_ne b2 nwt
      have e5 : H5 wt = some (.lst [.str "load", .str "set"]) := k5 _ _ e4 (notbx wtb)
      walk_at "go"
      have wd : ∃ z : Str, atI [V.str "load", V.str "set"] r = some (.str z) ∧ z ∈ wds ∧ isLate z = false ∧ z ≠ "reset" ∧ z ≠ "end" := by
        have h : r = 0 ∨ r = 1 := by omega
        rcases h with h | h <;> subst h
        · exact ⟨"load", rfl, by decide +kernel, by decide +kernel, by decide +kernel, by decide +kernel⟩
        · exact ⟨"set", rfl, by decide +kernel, by decide +kernel, by decide +kernel, by decide +kernel⟩
      obtain ⟨z, ez, zw, z1', z2', z3'⟩ := wd
      refine r_ixL (.of e5) ez ?_
      walk_at "go"
      have hl5 := k5 _ _ (s4 _ _ hl2) (notbx hlb)
      refine ⟨bx, _, l, xs, z, m, rfl, b5, by omega, hl5, hlb, z0, z1, hnm, zw, m1, m8, fun p r2 H6 ok2 lt2 w2 k6 np6 e6 b6 => ?_⟩
      have k26 : Kp [bx] H3 H6 := (Same.kp s4).trans (k5.trans k6)
      have eD : H6 D = some (.lst (ps.map V.ref)) := k26 _ _ e2 (notbx Db)
      have tk : TKp H3 H6 := tkp_box k26 b2
      refine ⟨ps.map V.ref, eD, size_lt (by rw [List.length_map, R2.1]; omega), rows ++ [r2], ⟨⟨ps ++ [p], ?_, ?_⟩, ?_, ?_, ?_⟩, ?_, ?_, ?_⟩
      · rw [upd_same, List.map_append]; rfl
      · exact ((R2.tk tk).push e6).tk (tkp_put eD)
      · intro r3 h3
        rcases List.mem_append.mp h3 with h3 | h3
        · exact LA.ok r3 h3
        · rw [List.mem_singleton.mp h3]; exact ok2
      · refine fault_snoc LA.flt ?_
        rw [LA.nd]
        exact canLow lt2 (by rw [w2]; exact z1') (by rw [w2]; exact z2')
      · rw [ended_snoc, LA.nd, w2, decide_eq_false z3']; rfl
      · rw [List.length_append, hlen]; rfl
      · exact Kp.own (k2.trans k26) hD
      · refine (b6.kp (Kp.put (S := [D]) (Kp.refl _) (by simp)) (by simp; exact fun z => Db z.symm)).mono ?_
        show n + 1 + 10 * (i : Int) + 1 + 5 ≤ n + 1 + 10 * ((i + 1 : Nat) : Int)
        omega
    obtain ⟨rows, LA, hlen, k2, b2⟩ := p
    obtain ⟨ps, e2, R2⟩ := LA.ex
    have len6 : rows.length ≤ 6 := by rw [hlen]; omega
    have K2 := k1.trans k2
    have D0 : H D = none := free_kp k1 b1 hD hb
    have b2' : BoxAt H2 bx (n + 71) := b2.mono (by omega)
    walk_at "go"
    rw [List.length_map, R2.1]
    have fin0 : Q (.ref D) H2 := k D rows H2 K2 D0 ⟨_, LA.ex, LA.ok, LA.flt, LA.nd⟩ len6 (b2'.mono (by omega))
    by_cases hl6 : (rows.length : Int) < 6
    · rw [decide_eq_true hl6]
      walk_at "go"
      refine ⟨bx, n + 71, 4, rfl, b2', by omega, by decide, by decide, fun g H3 g0 g1 k3 b3 => ?_⟩
      walk_at "go"
      by_cases hg : 0 < g
      · rw [decide_eq_true hg]
        walk_at "go"
        have e3 := k3 _ _ e2 (notbx Db)
        refine r_tyL e3 ?_
        walk_at "go"
        have hl3 := (K2.trans k3) _ _ hl (notbx hlb)
        refine ⟨bx, _, l, xs, "end", m, rfl, b3, by omega, hl3, hlb, z0, z1, hnm, by decide +kernel, m1, m8, fun p1 r1 H4 ok1 lt1 w1 k4 np1 ep1 b4 => ?_⟩
        walk_at "go"
        have e4 := k4 _ _ e3 (notbx Db)
        refine r_append e4 (by rw [List.length_map, R2.1]; omega) ?_
        have tk1 : TKp H2 H4 := tkp_box (k3.trans k4) b2
        have RR : RowsAt H4 (ps ++ [p1]) (rows ++ [r1]) := (R2.tk tk1).push ep1
        generalize hh : upd H4 D _ = H5
        have e5 : H5 D = some (.lst ((ps ++ [p1]).map V.ref)) := (congrFun hh D).symm.trans (by rw [upd_same, List.map_append]; rfl)
        have LA5 : LogAt H5 D (rows ++ [r1]) m fx true := by
          refine ⟨⟨_, e5, hh ▸ RR.tk (tkp_put e4)⟩, fun r3 h3 => ?_, fault_snoc LA.flt ?_, ?_⟩
          · rcases List.mem_append.mp h3 with h3 | h3
            · exact LA.ok r3 h3
            · rw [List.mem_singleton.mp h3]; exact ok1
          · rw [LA.nd]
            exact canLow lt1 (by rw [w1]; decide +kernel) (by rw [w1]; decide +kernel)
          · rw [ended_snoc, LA.nd, w1, decide_eq_true rfl]; rfl
        have K5 : Kp [bx] H H5 := hh ▸ Kp.own (K2.trans (k3.trans k4)) D0
        have b5 : BoxAt H5 bx (n + 77) := hh ▸ (b4.kp (Kp.put (S := [D]) (Kp.refl _) (by simp)) (by simp; exact fun z => Db z.symm)).mono (by omega)
        clear hh
        walk_at "go"
        have l5 : ((ps ++ [p1]).map V.ref).length = rows.length + 1 := by rw [List.length_map, List.length_append, R2.1]; rfl
        refine ⟨bx, _, _, rfl, b5, by omega, by omega, by omega, fun c1 H6 c10 c11 k6 b6 => ?_⟩
        have LA6 : LogAt H6 D (rows ++ [r1]) m fx true := LA5.kp k6 b5 Db
        walk_at "go"
        refine ⟨c1, rfl, by omega, by omega, for_it walk_range (fun i σ H7 => ∃ u1 u2 u3 rows7, σ = [some (.ref bx), some (.ref l), some (.int m), some (.int fx), some (.int 6), u1, some (.ref D), u2, u3] ∧ LogAt H7 D rows7 m fx true ∧ rows7.length = rows.length + 1 + i ∧ Kp [bx] H H7 ∧ BoxAt H7 bx (n + 80 + 10 * i)) ⟨_, _, _, rows ++ [r1], rfl, LA6, by rw [List.length_append]; rfl, K5.trans k6, b6.mono (by omega)⟩ (fun _ _ _ _ _ => trivial) (fun i x σ H7 H8 hi p y => ?_) (fun σ H7 p => ?_)⟩
        · obtain ⟨u1, u2, u3, rows7, rfl, LA7, hlen7, K7, b7⟩ := p
          obtain ⟨rfl, rfl⟩ := y
          obtain ⟨ps7, e7, R7⟩ := LA7.ex
          have hi6 : (i : Int) < 7 := by omega
          have hl7 := K7 _ _ hl (notbx hlb)
          walk_at "go"
          refine fun wt nwt => ?_
          generalize hh : upd H8 wt _ = H9
          have s9 : Same H8 H9 := hh ▸ Same.new nwt
          have e9 : H9 wt = some _ := hh ▸ upd_same
          clear hh
          walk_at "go"
          have wtb := box_ne b7 nwt
          refine ⟨bx, _, _, rfl, b7.same s9, by omega, by decide, by decide, fun r H10 r0 r1 k10 b10 => ?_⟩
          have e10 : H10 wt = some (.lst [.str "late", .str "reset"]) := k10 _ _ e9 (notbx wtb)
          walk_at "go"
          rw [decI]
          by_cases hr0 : r = 0
          · rw [decide_eq_true hr0]
            walk_at "go"
            refine .inr ⟨_, rfl, ?_⟩
            rw [decide_eq_true fxm]
            refine r_ixL (.of e10) (v := .str "reset") rfl ?_
            walk_at "go"
            have hl10 := k10 _ _ (s9 _ _ hl7) (notbx hlb)
            refine ⟨bx, _, l, xs, "reset", m, rfl, b10, by omega, hl10, hlb, z0, z1, hnm, by decide +kernel, m1, m8, fun p2 r2 H11 ok2 lt2 w2 k11 np2 ep2 b11 => ?_⟩
            have k811 : Kp [bx] H8 H11 := (Same.kp s9).trans (k10.trans k11)
            have e11 : H11 D = some (.lst (ps7.map V.ref)) := k811 _ _ e7 (notbx Db)
            have R11 : RowsAt H11 ps7 rows7 := R7.tk (tkp_box k811 b7)
            have ep2' : H11 p2 = some (.tup [.int r2.b, .str r2.w, .str r2.nm, .int r2.nt]) := ep2
            walk_at "go"
            refine fun q1 nq1 => ?_
            generalize hh : upd H11 q1 _ = H12
            have s12 : Same H11 H12 := hh ▸ Same.new nq1
            have e12 : H12 q1 = some _ := hh ▸ upd_same
            clear hh
            walk_at "go"
            refine ⟨p2, _, rfl, .of (s12 _ _ ep2'), (by show ¬ (HT.sIx 4 0 (some 1) = 0 ∧ HT.sIx 4 4 none = 4); decide), fun q2 nq2 => ?_⟩
            generalize hh : upd H12 q2 _ = H13
            have s13 : Same H12 H13 := hh ▸ Same.new nq2
            have e13 : H13 q2 = some (.tup [.str r2.w, .str r2.nm, .int r2.nt]) := (congrFun hh q2).symm.trans upd_same
            clear hh
            walk_at "go"
            refine ⟨q1, q2, _, _, rfl, rfl, .of (s13 _ _ e12), .of e13, by simp, size_le (by show 4 ≤ 100000; decide), (fun z => by cases z), fun _ q3 nq3 => ?_⟩
            generalize hh : upd H13 q3 _ = H14
            have s14 : Same H13 H14 := hh ▸ Same.new nq3
            have e14 : H14 q3 = some (.tup (Rw.vs { r2 with b := fx + r2.b % (m - fx) })) := (congrFun hh q3).symm.trans upd_same
            clear hh
            have s1114 : Same H11 H14 := Same.trans s12 (Same.trans s13 s14)
            have md0 : 0 ≤ r2.b % (m - fx) := Int.emod_nonneg _ (by omega)
            have md1 : r2.b % (m - fx) < m - fx := Int.emod_lt_of_pos _ (by omega)
            have ok3 : RowOk { r2 with b := fx + r2.b % (m - fx) } := ⟨by show 0 ≤ fx + r2.b % (m - fx); omega, by show fx + r2.b % (m - fx) < 8; omega, ok2.w, ok2.nm, ok2.n0, ok2.n1, ok2.nz⟩
            walk_at "go"
            refine r_append (s1114 _ _ e11) (by rw [List.length_map, R7.1]; omega) ?_
            have RR : RowsAt H14 (ps7 ++ [q3]) (rows7 ++ [{ r2 with b := fx + r2.b % (m - fx) }]) := (R11.same s1114).push e14
            walk_at "go"
            refine ⟨_, _, _, rows7 ++ [{ r2 with b := fx + r2.b % (m - fx) }], rfl, ⟨⟨_, by rw [upd_same]; exact congrArg (fun z => some (HO.lst z)) (show ps7.map V.ref ++ [V.ref q3] = (ps7 ++ [q3]).map V.ref by rw [List.map_append]; rfl), RR.tk (tkp_put (s1114 _ _ e11))⟩, fun r3 h3 => ?_, fault_snoc LA7.flt (by rw [LA7.nd]; exact canLate (by show fx + r2.b % (m - fx) < m; omega) (by show isLate r2.w = true; rw [w2]; decide +kernel) (.inr (by show fx ≤ fx + r2.b % (m - fx); omega))), by rw [ended_snoc, LA7.nd]; rfl⟩, by rw [List.length_append, hlen7]; show _ + 1 = _; omega, Kp.own (K7.trans (k811.trans (Same.kp s1114))) D0, (BoxAt.kp (b11.same s1114) (Kp.put (S := [D]) (Kp.refl _) (by simp)) (by simp; exact fun z => Db z.symm)).mono (by omega)⟩
            rcases List.mem_append.mp h3 with h3 | h3
            · exact LA7.ok r3 h3
            · rw [List.mem_singleton.mp h3]; exact ok3
    
          · rw [decide_eq_false hr0]
            walk_at "go"
            refine .inr ⟨_, rfl, ?_⟩
            refine r_ixL (.of e10) (v := .str "late") rfl ?_
            walk_at "go"
            have hl10 := k10 _ _ (s9 _ _ hl7) (notbx hlb)
            refine ⟨bx, _, l, xs, "late", m, rfl, b10, by omega, hl10, hlb, z0, z1, hnm, by decide +kernel, m1, m8, fun p2 r2 H11 ok2 lt2 w2 k11 np2 ep2 b11 => ?_⟩
            have k811 : Kp [bx] H8 H11 := (Same.kp s9).trans (k10.trans k11)
            have e11 : H11 D = some (.lst (ps7.map V.ref)) := k811 _ _ e7 (notbx Db)
            have R11 : RowsAt H11 ps7 rows7 := R7.tk (tkp_box k811 b7)
            have ep2' : H11 p2 = some (.tup [.int r2.b, .str r2.w, .str r2.nm, .int r2.nt]) := ep2
            walk_at "go"
            refine r_append e11 (by rw [List.length_map, R7.1]; omega) ?_
            have RR : RowsAt H11 (ps7 ++ [p2]) (rows7 ++ [r2]) := (R11).push ep2
            walk_at "go"
            refine ⟨_, _, _, rows7 ++ [r2], rfl, ⟨⟨_, by rw [upd_same]; exact congrArg (fun z => some (HO.lst z)) (show ps7.map V.ref ++ [V.ref p2] = (ps7 ++ [p2]).map V.ref by rw [List.map_append]; rfl), RR.tk (tkp_put e11)⟩, fun r3 h3 => ?_, fault_snoc LA7.flt (by rw [LA7.nd]; exact canLate lt2 (by rw [w2]; decide +kernel) (.inl (by rw [w2]; decide +kernel))), by rw [ended_snoc, LA7.nd]; rfl⟩, by rw [List.length_append, hlen7]; show _ + 1 = _; omega, Kp.own (K7.trans k811) D0, (BoxAt.kp b11 (Kp.put (S := [D]) (Kp.refl _) (by simp)) (by simp; exact fun z => Db z.symm)).mono (by omega)⟩
            rcases List.mem_append.mp h3 with h3 | h3
            · exact LA7.ok r3 h3
            · rw [List.mem_singleton.mp h3]; exact ok2
        · obtain ⟨u1, u2, u3, rows7, rfl, LA7, hlen7, K7, b7⟩ := p
          walk_at "go"
          exact k D rows7 H7 K7 D0 ⟨_, LA7⟩ (by omega) (b7.mono (by omega))
      · rw [decide_eq_false hg]
        walk_at "go"
        exact k D rows H3 (K2.trans k3) D0 ⟨_, LA.kp k3 b2 Db⟩ len6 (b3.mono (by omega))
    · rw [decide_eq_false hl6]
      walk_at "go"
      exact fin0
end
end Fx

/-! B4: defs and their promises -/
namespace Fx
open PySem PySem.Spec PyProof.Rows L2 Sv Mr
local macro_rules | `(tactic| walk_at "go") => `(tactic| repeat (first
  | with_reducible refine r_seq ?_ | with_reducible refine r_asg ?_ | with_reducible refine r_gn ?_ | with_reducible refine r_ret ?_ | with_reducible refine r_ifS ?_
  | ((with_reducible refine' r_var ?kv ?_); (case kv => exact rfl)) | with_reducible refine r_c ?_ | with_reducible refine r_op ?_ | with_reducible refine r_I0 ?_ | with_reducible refine r_cons ?_ | with_reducible refine r_nil ?_
  | with_reducible refine r_cb ?_ | with_reducible refine r_call ?_ | with_reducible refine r_test ?_ | with_reducible refine r_tB ?_ | with_reducible refine r_k ?_ | with_reducible refine r_or ?_ | with_reducible refine r_and ?_ | with_reducible refine r_not ?_
  | with_reducible refine r_andV ?_ | with_reducible refine r_orV ?_ | with_reducible refine r_notV ?_ | with_reducible refine r_if ?_ | with_reducible refine r_T ?_ | with_reducible refine r_F ?_ | with_reducible refine r_Tn ?_ | with_reducible refine r_Fn ?_
  | with_reducible refine r_isiS ?_ | with_reducible refine r_isiI ?_ | with_reducible refine r_isiIB ?_ | with_reducible refine r_chain ?_ | with_reducible refine r_un ?_ | with_reducible refine r_drop ?_ | with_reducible refine r_tup ?_ | with_reducible refine r_lst ?_
  | ((with_reducible refine' r_eq ?kv ?_); (case kv => exact rfl)) | ((with_reducible refine' r_ne ?kv ?_); (case kv => exact rfl)) | with_reducible refine r_nx ?_ | with_reducible refine r_retN ?_ | with_reducible refine r_yes ?_ | ((with_reducible refine' r_I ?kd ?_); (case kd => first | exact Or.inr ⟨by decide, by decide⟩ | exact ⟨by decide, by decide⟩ | exact ⟨by decide, by decide, by decide⟩ | (show (0 : Int) < _; first | decide | omega)))
  | with_reducible refine r_gCons ?_ | with_reducible refine r_gNil ?_ | with_reducible refine r_tPar ?_ | with_reducible refine r_par ?_ | with_reducible refine r_tPar3 ?_ | with_reducible refine r_par3 ?_ | with_reducible refine r_sl ?_ | with_reducible refine r_part ?_ | with_reducible refine r_parti ?_ | with_reducible refine r_nopart ?_ | with_reducible refine r_gSub ?_ | with_reducible refine r_rU ?_ | with_reducible refine r_bm ?_ | ((with_reducible refine' r_tyL ?kd ?_); (case kd => assumption)) | with_reducible refine r_nn ?_ | with_reducible refine r_meth ?_ | with_reducible refine r_methN ?_ | with_reducible refine r_callN ?_ | with_reducible refine r_fld ?_ | with_reducible refine r_lc ?_ | with_reducible refine r_for ?_ | with_reducible refine r_iList ?_ | with_reducible refine r_iTup ?_ | with_reducible refine r_iStr ?_ | with_reducible refine r_iRng1 ?_ | with_reducible refine r_iEnum ?_ | with_reducible refine r_iZip ?_ | with_reducible refine r_iZipA ?_
  | ((with_reducible refine' r_sz ?kz ?_); (case kz => first | decide | (simp only [List.length_cons, List.length_nil]; omega)))
  | ((with_reducible refine' r_isiT ?kd ?_); (case kd => assumption)) | ((with_reducible refine' r_isiL ?kd ?_); (case kd => assumption)) | ((with_reducible refine' r_isiTL ?kd ?_); (case kd => assumption)) | ((with_reducible refine' r_isiLT ?kd ?_); (case kd => assumption))
  | ((with_reducible refine' r_lenT ?kd ?_); (case kd => exact SqT.of (by assumption))) | ((with_reducible refine' r_lenL ?kd ?_); (case kd => exact SqL.of (by assumption)))
  | ((with_reducible refine' r_ixT ?ka ?kb ?_); (case ka => exact SqT.of (by assumption)); (case kb => exact rfl)) | ((with_reducible refine' r_gTup ?ka ?kb ?_); (case ka => exact SqT.of (by assumption)); (case kb => exact rfl))
  | ((with_reducible refine' r_dT ?kd ?_); (case kd => walk_at "pos")) | ((with_reducible refine' r_dF ?kd ?_); (case kd => walk_at "neg")) | ((with_reducible refine' r_ndT ?kd ?_); (case kd => walk_at "neg")) | ((with_reducible refine' r_ndF ?kd ?_); (case kd => walk_at "pos"))
  | ((with_reducible refine' r_pos ?kd ?_); (case kd => with_reducible exact rfl)) | ((with_reducible refine' r_neg ?kd ?_); (case kd => with_reducible exact rfl)) | ((with_reducible refine' r_pos ?kd ?_); (case kd => (with_reducible show _ = true); decide)) | ((with_reducible refine' r_neg ?kd ?_); (case kd => (with_reducible show _ = false); decide))))
local macro_rules | `(tactic| walk_at "pos") => `(tactic| first | assumption | omega | rfl | exact congrArg V.int (by omega) | exact congrArg V.str (by assumption))
local macro_rules | `(tactic| walk_at "neg") => `(tactic| first | assumption | omega | (intro hne; injection hne with hne; first | omega | contradiction | exact absurd hne (by decide +kernel)) | (intro hne; cases hne))

section
variable {P : Program} {w : World} {K : PySem.W.Frag} {mg : Str → Option Value} {base : Heap}
theorem sum_one : ∀ zs : List Nat, ((zs.map fun c => (⟨#[c]⟩ : Str)).map fun x => x.length).sum = zs.length
  | [] => rfl
  | _ :: r => by
    rw [List.map_cons, List.map_cons, List.sum_cons, sum_one r, List.length_cons]
    show 1 + r.length = r.length + 1
    omega
def Low (z : Str) : Prop := ∀ c ∈ z.cps.toList, 97 ≤ c ∧ c ≤ 122
theorem abc_at {i : Int} (h0 : 0 ≤ i) (h1 : i < 26) : ∃ c, atI ("abcdefghijklmnopqrstuvwxyz" : Str).cps.toList i = some c ∧ 97 ≤ c ∧ c ≤ 122 := by
  have key : ∀ k, k < 26 → ∃ c, c < 123 ∧ ("abcdefghijklmnopqrstuvwxyz" : Str).cps.toList[k]? = some c ∧ 97 ≤ c ∧ c ≤ 122 := by decide +kernel
  obtain ⟨c, _, e, h⟩ := key i.toNat (by omega)
  refine ⟨c, ?_, h⟩
  unfold atI
  rw [ixN_of h0 (by show i < ((26 : Nat) : Int); exact h1)]
  exact e
theorem joinL_one : ∀ cs : List Nat, TL.joinL [] (cs.map fun c => [c]) = cs
  | [] => rfl
  | [c] => rfl
  | c :: d :: r => by
    have ih := joinL_one (d :: r)
    show [c] ++ ([] ++ TL.joinL [] ((d :: r).map fun c => [c])) = _
    rw [ih]
    rfl
theorem name_mk {z : Str} {k : Int} {c : Nat} (hz : Low z) (h3 : z.length ≤ 3) (k0 : 0 ≤ k) (c1 : 97 ≤ c) (c2 : c ≤ 122) : NameOk (cutS z none (some k) ++ ⟨#[c]⟩ ++ cutS z (some k) none) := by
  obtain ⟨m, rfl⟩ : ∃ m : Nat, k = (m : Int) := ⟨k.toNat, by omega⟩
  have e1 : TL.tl (cutS z none (some (m : Int))) = (TL.tl z).take (min m z.length) := by
    show TL.tl ⟨_⟩ = _
    rw [TL.tl_mk, HT.sIx_nat, HT.sIx_none, List.drop_zero, Nat.sub_zero]
  have e2 : TL.tl (cutS z (some (m : Int)) none) = (TL.tl z).drop (min m z.length) := by
    show TL.tl ⟨_⟩ = _
    rw [TL.tl_mk, HT.sIx_nat, HT.sIx_none]
    refine List.take_of_length_le ?_
    rw [List.length_drop]
    exact Nat.le_refl _
  have e3 : TL.tl (cutS z none (some (m : Int)) ++ ⟨#[c]⟩ ++ cutS z (some (m : Int)) none) = (TL.tl z).take (min m z.length) ++ [c] ++ (TL.tl z).drop (min m z.length) := by rw [TL.tl_append, TL.tl_append, e1, e2]
  have lz : (TL.tl z).length = z.length := Array.length_toList
  have ll : (cutS z none (some (m : Int)) ++ ⟨#[c]⟩ ++ cutS z (some (m : Int)) none).length = z.length + 1 := by
    have e4 : (cutS z none (some (m : Int)) ++ ⟨#[c]⟩ ++ cutS z (some (m : Int)) none).length = (TL.tl (cutS z none (some (m : Int)) ++ ⟨#[c]⟩ ++ cutS z (some (m : Int)) none)).length := Array.length_toList.symm
    rw [e4, e3]
    simp only [List.length_append, List.length_take, List.length_drop, lz, List.length_cons, List.length_nil]
    omega
  refine ⟨by omega, by omega, fun x hx => ?_⟩
  rw [show (cutS z none (some (m : Int)) ++ ⟨#[c]⟩ ++ cutS z (some (m : Int)) none).cps.toList = _ from e3] at hx
  rcases List.mem_append.mp hx with h | h
  · rcases List.mem_append.mp h with h | h
    · exact hz x (List.mem_of_mem_take h)
    · rw [List.mem_singleton.mp h]; exact ⟨c1, c2⟩
  · exact hz x (List.mem_of_mem_drop h)
theorem join_low {cs : List Nat} (h : ∀ c ∈ cs, 97 ≤ c ∧ c ≤ 122) : Low (Txt.join "" (cs.map fun c => (⟨#[c]⟩ : Str))) ∧ (Txt.join "" (cs.map fun c => (⟨#[c]⟩ : Str))).length = cs.length := by
  have e := SX.join_S [] (cs.map fun c => [c])
  rw [List.map_map, joinL_one] at e
  have e2 : Txt.join "" (cs.map fun c => (⟨#[c]⟩ : Str)) = ⟨cs.toArray⟩ := e
  rw [e2]
  refine ⟨fun c hc => h c (by simpa using hc), ?_⟩
  show cs.toArray.size = _
  simp

def spLNames (K : PySem.W.Frag) : Sp := fun vs H Q _ => ∃ (bx : Addr) (n : Int), vs = [.ref bx, .int 3] ∧ BoxAt H bx n ∧ n < 990000 ∧ ∀ p (xs : List Str) H', xs.length = 3 → (∀ x ∈ xs, NameOk x) → Kp [bx] H H' → H p = none → H' p = some (.lst (xs.map V.str)) → BoxAt H' bx (n + 20) → Q (.ref p) H' 
abbrev N_L_names : List Str := ["_law_box_here", "_law_size", "_law_letters", "_law_begun_here", "_law_by", "_law_k", "_law_tail", "_law_at"]
theorem sc_L_names : FnScope N_L_names ["_law_box_here", "_law_size"] (defScope Hd.sL_names) := ⟨rfl, rfl, rfl, by decide +kernel, rfl, by decide +kernel, by decide +kernel⟩
theorem ok_L_names (T : Hd.Tx K mg) : Cal P w K mg base 2 "_law_names" ((spLNames K)) := by
  obtain ⟨fd, F⟩ := T.d_L_names
  have sc := sc_L_names
  have C_L_take := ok_L_take (P := P) (w := w) (base := base) T
  refine calD F T.g_L_names sc (fun vs H Q E h => ?_) (fun _ _ _ _ _ _ us hl => match us, hl with | [_, _], _ => rfl) (fun cdv A outer s H vs Q E hr h => ?_)
  · obtain ⟨bx, n, rfl, _⟩ := h; rfl
  · obtain ⟨bx, n, rfl, hb, hn, k⟩ := h
    refine ⟨_, (pss_cons (ps_asg (pe_tup (pa_cons pe_str (pa_cons (pc C_L_take hr (by decide) (pa_cons (pv 0) (pa_cons pe_int pa_nil))) (pa_cons (pe_ix (ixL K) (pe_lst (pa_cons pe_int (pa_cons pe_int (pa_cons pe_int (pa_cons pe_int pa_nil))))) (pc C_L_take hr (by decide) (pa_cons (pv 0) (pa_cons pe_int pa_nil))) (fun _ _ => rfl)) pa_nil)))) (pg_tup (by rfl) (pgs_cons (gn 2 sc.nd) (pgs_cons (gn 3 sc.nd) (pgs_cons (gn 4 sc.nd) pgs_nil)))))
      (pss_cons (sn 6 sc.nd (pe_join pe_str (pe_lc (own := [("_law_k", 5)]) (g := (gName 5)) (tt := tYes) rfl sc.nd (pi_range1 (by rfl) T.f_range (pa_cons (pc C_L_take hr (by decide) (pa_cons (pv 0) (pa_cons pe_int pa_nil))) pa_nil)) (blkOk_by (own := [("_law_k", 5)]) (N := N_L_names) (sc := defScope Hd.sL_names) (by decide +kernel)) (fun _ _ _ _ _ => (gn 5 sc.nd)) (fun _ _ _ _ _ => pts_nil) (fun _ _ _ _ _ => (pe_ix ix_str (pv 2) (pc C_L_take hr (by decide) (pa_cons (pv 0) (pa_cons pe_int pa_nil))) (fun _ _ => rfl))))))
      (pss_cons (sn 7 sc.nd (pc C_L_take hr (by decide) (pa_cons (pv 0) (pa_cons (pe_op op_add (pe_callB call_len (by rfl) T.f_len (by decide +kernel) (pa_cons (pv 6) pa_nil)) pe_int) pa_nil))))
      (pss_one (ps_ret (pe_lc (own := [("_law_k", 5)]) (g := (gName 5)) (tt := tYes) rfl sc.nd (pi_range1 (by rfl) T.f_range (pa_cons (pv 1) pa_nil)) (blkOk_by (own := [("_law_k", 5)]) (N := N_L_names) (sc := defScope Hd.sL_names) (by decide +kernel)) (fun _ _ _ _ _ => (gn 5 sc.nd)) (fun _ _ _ _ _ => pts_nil) (fun _ _ _ _ _ => (pe_op op_add_str (pe_op op_add_str (pe_slice sl_str (pv 6) po_none (po_some (pv 7))) (pe_ix ix_str (pv 2) (pe_op op_mod (pe_op op_add (pv 3) (pe_op op_mul (pv 4) (pv 5))) pe_int) (fun _ _ => rfl))) (pe_slice sl_str (pv 6) (po_some (pv 7)) po_none))))))))), ?_⟩
    try dsimp only [cxOf]
    walk_at "go"
    
    refine ⟨bx, n, _, rfl, hb, by omega, by decide, by decide, fun bg H1 bg0 bg1 k1 b1 => ?_⟩
    walk_at "go"
    refine fun p np => ?_
    generalize hh : upd H1 p _ = H2
    have s2 : Same H1 H2 := hh ▸ Same.new np
    have e2 : H2 p = some _ := hh ▸ upd_same
    clear hh
    walk_at "go"
    refine ⟨bx, _, _, rfl, b1.same s2, by omega, by decide, by decide, fun r H3 r0 r1 k3 b3 => ?_⟩
    have e3 : H3 p = some (.lst (([1, 3, 7, 25] : List Int).map V.int)) := k3 _ _ e2 (notbx (box_ne b1 np))
    walk_at "go"
    refine r_ixL (.of e3) (atI_ints (bs := [1, 3, 7, 25]) r0 (by simpa using r1)) ?_
    have cs := getD_mem (xs := [1, 3, 7, 25]) r0 (by simpa using r1)
    generalize ([1, 3, 7, 25] : List Int).getD r.toNat 0 = wy at cs
    have c2 : 1 ≤ wy ∧ wy ≤ 25 := by simp at cs; omega
    walk_at "go"
    refine fun t nt => ?_
    generalize hh : upd H3 t _ = H4
    have s4 : Same H3 H4 := hh ▸ Same.new nt
    have e4 : H4 t = some _ := hh ▸ upd_same
    clear hh
    have b4 := b3.same s4
    have K4 : Kp [bx] H H4 := k1.trans ((Same.kp s2).trans (k3.trans (Same.kp s4)))
    walk_at "go"
    refine ⟨⟨_, rfl⟩, ?_⟩
    walk_at "go"
    refine ⟨bx, _, _, rfl, b4, by omega, by decide, by decide, fun tn H5 tn0 tn1 k5 b5 => ?_⟩
    walk_at "go"
    refine ⟨tn, rfl, by omega, by omega, fun D hD => ?_⟩
    have Db := box_ne b5 hD
    refine lc_it walk_range (fun i H6 => ∃ zs : List Nat, H6 D = some (.lst (zs.map fun c => V.str ⟨#[c]⟩)) ∧ zs.length = i ∧ (∀ c ∈ zs, 97 ≤ c ∧ c ≤ 122) ∧ Kp [bx] H5 H6 ∧ BoxAt H6 bx (n + 4 + i)) ⟨[], upd_same, rfl, (fun c h => by cases h), Kp.own (Kp.refl _) hD, (b5.kp (Kp.own (S := []) (Kp.refl _) hD) (by simp)).mono (by omega)⟩ (fun _ _ _ _ => trivial) (fun i x H6 H7 hi p y => ?_) (fun H6 p => ?_)
    · obtain ⟨zs, e6, hlen, hzs, k6, b6⟩ := p
      obtain ⟨rfl, rfl⟩ := y
      have hi4 : (i : Int) < 4 := by omega
      refine ⟨rfl, ?_⟩
      walk_at "go"
      refine ⟨bx, _, _, rfl, b6, by omega, by decide, by decide, fun q H8 q0 q1 k8 b8 => ?_⟩
      walk_at "go"
      obtain ⟨c, hc, hc1, hc2⟩ := abc_at q0 q1
      refine ⟨_, q, c, rfl, rfl, size_le (by decide +kernel), hc, ?_⟩
      have e8 := k8 _ _ e6 (notbx Db)
      refine ⟨_, e8, size_lt (by rw [List.length_map]; omega), zs ++ [c], ?_, by rw [List.length_append, hlen]; rfl, fun d hd => ?_, Kp.own (k6.trans k8) hD, ?_⟩
      · rw [upd_same, List.map_append]; rfl
      · rcases List.mem_append.mp hd with h | h
        · exact hzs d h
        · rw [List.mem_singleton.mp h]; exact ⟨hc1, hc2⟩
      · refine (b8.kp (Kp.put (S := [D]) (Kp.refl _) (by simp)) (by simp; exact fun z => Db z.symm)).mono ?_
        show n + 4 + (i : Int) + 1 ≤ n + 4 + ((i + 1 : Nat) : Int)
        omega
    obtain ⟨zs, e6, hlen, hzs, k6, b6⟩ := p
    have e6' : H6 D = some (.lst ((zs.map fun c => (⟨#[c]⟩ : Str)).map V.str)) := by rw [e6, List.map_map]; rfl
    obtain ⟨lw, ll⟩ := join_low hzs
    walk_at "go"
    have K6 : Kp [bx] H H6 := K4.trans (k5.trans k6)
    refine ⟨"", D, zs.map (fun c => (⟨#[c]⟩ : Str)), rfl, rfl, .inl (.of e6'), ?_, ?_⟩
    · rw [sum_one]
      show zs.length + (zs.map _).length * 0 ≤ 16777216
      omega
    generalize Txt.join "" (zs.map fun c => (⟨#[c]⟩ : Str)) = tl0 at lw ll ⊢
    have ll3 : tl0.length ≤ 3 := by omega
    walk_at "go"
    refine r_lenS (by omega) ?_
    walk_at "go"
    refine ⟨bx, _, _, rfl, b6, by omega, by omega, by omega, fun ak H7 a0 a1 k7 b7 => ?_⟩
    walk_at "go"
    refine ⟨3, rfl, by decide, by decide, fun D2 hD2 => ?_⟩
    refine lc_it walk_range (fun i H8 => ∃ xs : List Str, H8 D2 = some (.lst (xs.map V.str)) ∧ xs.length = i ∧ (∀ x ∈ xs, NameOk x) ∧ Same H7 H8) ⟨[], upd_same, rfl, (fun c h => by cases h), Same.new hD2⟩ (fun _ _ _ _ => trivial) (fun i x H8 H9 hi p y => ?_) (fun H8 p => ?_)
    · obtain ⟨xs, e8, hlen8, hxs, s8⟩ := p
      obtain ⟨rfl, rfl⟩ := y
      refine ⟨rfl, ?_⟩
      walk_at "go"
      refine ⟨tl0, rfl, size_le (by omega), ?_⟩
      walk_at "go"
      refine ⟨_, _, rfl, rfl, Or.inl ⟨by omega, by omega⟩, ?_⟩
      walk_at "go"
      obtain ⟨c, hc, hc1, hc2⟩ := abc_at (i := (bg + wy * (0 + (i : Nat))) % 26) (Int.emod_nonneg _ (by decide)) (Int.emod_lt_of_pos _ (by decide))
      refine ⟨_, _, c, rfl, rfl, size_le (by decide +kernel), hc, ?_⟩
      have nk := name_mk lw ll3 a0 hc1 hc2
      have lt1 : (cutS tl0 none (some ak)).length ≤ tl0.length := cutS_length _ _ _
      have lt2 : (cutS tl0 (some ak) none).length ≤ tl0.length := cutS_length _ _ _
      refine ⟨_, _, rfl, rfl, size_le (by show _ + 1 ≤ 100000; omega), ?_⟩
      walk_at "go"
      refine ⟨tl0, rfl, size_le (by omega), ?_⟩
      have l3 : (cutS tl0 none (some ak) ++ (⟨#[c]⟩ : Str)).length ≤ 4 := by
        have e5 : (cutS tl0 none (some ak) ++ (⟨#[c]⟩ : Str)).length = (TL.tl (cutS tl0 none (some ak) ++ (⟨#[c]⟩ : Str))).length := Array.length_toList.symm
        rw [e5, TL.tl_append, List.length_append]
        have e6 : (TL.tl (cutS tl0 none (some ak))).length = (cutS tl0 none (some ak)).length := Array.length_toList
        have e7 : (TL.tl (⟨#[c]⟩ : Str)).length = 1 := rfl
        omega
      refine ⟨_, _, rfl, rfl, size_le (by omega), ?_⟩
      refine ⟨_, e8, size_lt (by rw [List.length_map]; omega), xs ++ [cutS tl0 none (some ak) ++ ⟨#[c]⟩ ++ cutS tl0 (some ak) none], ?_, by rw [List.length_append, hlen8]; rfl, fun d hd => ?_, Same.own s8 hD2⟩
      · rw [upd_same, List.map_append]; rfl
      · rcases List.mem_append.mp hd with h | h
        · exact hxs d h
        · rw [List.mem_singleton.mp h]; exact nk
    obtain ⟨xs, e8, hlen8, hxs, s8⟩ := p
    have K7 : Kp [bx] H H7 := K6.trans k7
    exact k D2 xs H8 (by omega) hxs (K7.trans (Same.kp s8)) (free_kp K7 b7 hD2 hb) e8 ((b7.same s8).mono (by omega))
end
end Fx

/-! B5: defs and their promises -/
namespace Fx
open PySem PySem.Spec PyProof.Rows L2 Sv Mr
local macro_rules | `(tactic| walk_at "go") => `(tactic| repeat (first
  | with_reducible refine r_seq ?_ | with_reducible refine r_asg ?_ | with_reducible refine r_gn ?_ | with_reducible refine r_ret ?_ | with_reducible refine r_ifS ?_
  | ((with_reducible refine' r_var ?kv ?_); (case kv => exact rfl)) | with_reducible refine r_c ?_ | with_reducible refine r_op ?_ | with_reducible refine r_I0 ?_ | with_reducible refine r_cons ?_ | with_reducible refine r_nil ?_
  | with_reducible refine r_cb ?_ | with_reducible refine r_call ?_ | with_reducible refine r_test ?_ | with_reducible refine r_tB ?_ | with_reducible refine r_k ?_ | with_reducible refine r_or ?_ | with_reducible refine r_and ?_ | with_reducible refine r_not ?_
  | with_reducible refine r_andV ?_ | with_reducible refine r_orV ?_ | with_reducible refine r_notV ?_ | with_reducible refine r_if ?_ | with_reducible refine r_T ?_ | with_reducible refine r_F ?_ | with_reducible refine r_Tn ?_ | with_reducible refine r_Fn ?_
  | with_reducible refine r_isiS ?_ | with_reducible refine r_isiI ?_ | with_reducible refine r_isiIB ?_ | with_reducible refine r_chain ?_ | with_reducible refine r_un ?_ | with_reducible refine r_drop ?_ | with_reducible refine r_tup ?_ | with_reducible refine r_lst ?_
  | ((with_reducible refine' r_eq ?kv ?_); (case kv => exact rfl)) | ((with_reducible refine' r_ne ?kv ?_); (case kv => exact rfl)) | with_reducible refine r_nx ?_ | with_reducible refine r_retN ?_ | with_reducible refine r_yes ?_ | ((with_reducible refine' r_I ?kd ?_); (case kd => first | exact Or.inr ⟨by decide, by decide⟩ | exact ⟨by decide, by decide⟩ | exact ⟨by decide, by decide, by decide⟩ | (show (0 : Int) < _; first | decide | omega)))
  | with_reducible refine r_gCons ?_ | with_reducible refine r_gNil ?_ | with_reducible refine r_tPar ?_ | with_reducible refine r_par ?_ | with_reducible refine r_tPar3 ?_ | with_reducible refine r_par3 ?_ | with_reducible refine r_sl ?_ | with_reducible refine r_part ?_ | with_reducible refine r_parti ?_ | with_reducible refine r_nopart ?_ | with_reducible refine r_gSub ?_ | with_reducible refine r_rU ?_ | with_reducible refine r_bm ?_ | ((with_reducible refine' r_tyL ?kd ?_); (case kd => assumption)) | with_reducible refine r_nn ?_ | with_reducible refine r_meth ?_ | with_reducible refine r_methN ?_ | with_reducible refine r_callN ?_ | with_reducible refine r_fld ?_ | with_reducible refine r_lc ?_ | with_reducible refine r_for ?_ | with_reducible refine r_iList ?_ | with_reducible refine r_iTup ?_ | with_reducible refine r_iStr ?_ | with_reducible refine r_iRng1 ?_ | with_reducible refine r_iEnum ?_ | with_reducible refine r_iZip ?_ | with_reducible refine r_iZipA ?_
  | ((with_reducible refine' r_sz ?kz ?_); (case kz => first | decide | (simp only [List.length_cons, List.length_nil]; omega)))
  | ((with_reducible refine' r_isiT ?kd ?_); (case kd => assumption)) | ((with_reducible refine' r_isiL ?kd ?_); (case kd => assumption)) | ((with_reducible refine' r_isiTL ?kd ?_); (case kd => assumption)) | ((with_reducible refine' r_isiLT ?kd ?_); (case kd => assumption))
  | ((with_reducible refine' r_lenT ?kd ?_); (case kd => exact SqT.of (by assumption))) | ((with_reducible refine' r_lenL ?kd ?_); (case kd => exact SqL.of (by assumption)))
  | ((with_reducible refine' r_ixT ?ka ?kb ?_); (case ka => exact SqT.of (by assumption)); (case kb => exact rfl)) | ((with_reducible refine' r_gTup ?ka ?kb ?_); (case ka => exact SqT.of (by assumption)); (case kb => exact rfl))
  | ((with_reducible refine' r_dT ?kd ?_); (case kd => walk_at "pos")) | ((with_reducible refine' r_dF ?kd ?_); (case kd => walk_at "neg")) | ((with_reducible refine' r_ndT ?kd ?_); (case kd => walk_at "neg")) | ((with_reducible refine' r_ndF ?kd ?_); (case kd => walk_at "pos"))
  | ((with_reducible refine' r_pos ?kd ?_); (case kd => with_reducible exact rfl)) | ((with_reducible refine' r_neg ?kd ?_); (case kd => with_reducible exact rfl)) | ((with_reducible refine' r_pos ?kd ?_); (case kd => (with_reducible show _ = true); decide)) | ((with_reducible refine' r_neg ?kd ?_); (case kd => (with_reducible show _ = false); decide))))
local macro_rules | `(tactic| walk_at "pos") => `(tactic| first | assumption | omega | rfl | exact congrArg V.int (by omega) | exact congrArg V.str (by assumption))
local macro_rules | `(tactic| walk_at "neg") => `(tactic| first | assumption | omega | (intro hne; injection hne with hne; first | omega | contradiction | exact absurd hne (by decide +kernel)) | (intro hne; cases hne))

section
variable {P : Program} {w : World} {K : PySem.W.Frag} {mg : Str → Option Value} {base : Heap}
def Flat (x y : V) : Prop := (∃ i, x = .int i ∧ y = .int i) ∨ (∃ z, x = .str z ∧ y = .str z) ∨ (x = .non ∧ y = .non)
def SameV (H : Hp) : Nat → V → V → Prop
  | 0, x, y => Flat x y
  | n + 1, x, y => Flat x y ∨ ∃ (p q : Addr) (xs ys : List V), x = .ref p ∧ y = .ref q ∧ ((H p = some (.lst xs) ∧ H q = some (.lst ys)) ∨ (H p = some (.tup xs) ∧ H q = some (.tup ys))) ∧ xs.length = ys.length ∧ xs.length ≤ 10000 ∧ ∀ (i : Nat) (x y : V), xs[i]? = some x → ys[i]? = some y → SameV H n x y
theorem SameV.same {H H' : Hp} (s : Same H H') : ∀ {n : Nat} {x y : V}, SameV H n x y → SameV H' n x y
  | 0, _, _, h => h
  | n + 1, x, y, h => by
    rcases h with h | ⟨p, q, xs, ys, e1, e2, h1, h2, hz, h3⟩
    · exact .inl h
    · refine .inr ⟨p, q, xs, ys, e1, e2, ?_, h2, hz, fun i x y a b => SameV.same s (h3 i x y a b)⟩
      rcases h1 with ⟨a, b⟩ | ⟨a, b⟩
      · exact .inl ⟨s _ _ a, s _ _ b⟩
      · exact .inr ⟨s _ _ a, s _ _ b⟩
def spSame (n : Nat) : Sp := fun vs H Q _ => ∃ x y : V, vs = [x, y] ∧ SameV H n x y ∧ ∀ H', Same H H' → Q (.bl true) H'
theorem kit_no2 {t : String} (h1 : kitB t "list" = some false) (h2 : kitB t "tuple" = some false) : PySem.W.kitAny K (.type t) [.type "list", .type "tuple"] = some false := kitAny_cons (b := false) (kit_ty h1) (fun _ => kitAny_cons (b := false) (kit_ty h2) (fun _ => rfl) (fun h => by cases h)) (fun h => by cases h)
theorem kit_yes2 : PySem.W.kitAny K (.type "tuple") [.type "list", .type "tuple"] = some true := kitAny_cons (b := false) (kit_ty (by decide +kernel)) (fun _ => kitAny_cons (b := true) (kit_ty (by decide +kernel)) (fun h => by cases h) (fun _ => rfl)) (fun h => by cases h)
abbrev N_L_same : List Str := ["_law_found", "_law_due", "_law_one", "_law_two"]
theorem sc_L_same : FnScope N_L_same ["_law_found", "_law_due"] (defScope Hd.sL_same) := ⟨rfl, rfl, rfl, by decide +kernel, rfl, by decide +kernel, by decide +kernel⟩
theorem ok_L_same (T : Hd.Tx K mg) : ∀ n, Cal P w K mg base (n + 1) "_law_same" (spSame n) := by
  intro n
  obtain ⟨fd, F⟩ := T.d_L_same
  have sc := sc_L_same
  induction n with
  | zero =>
    refine calD F T.g_L_same sc (fun vs H Q E h => by obtain ⟨x, y, rfl, _⟩ := h; rfl) (fun _ _ _ _ _ _ us hl => match us, hl with | [_, _], _ => rfl) (fun cdv A outer s H vs Q E hr h => ?_)
    · obtain ⟨x, y, rfl, hf, k⟩ := h
      refine ⟨_, (pss_cons (ps_if (pt_val (pe_callB call_isiT (by rfl) T.f_isinstance (by decide +kernel) (pa_cons (pv 1) (pa_cons (pe_tup (pa_cons (pe_gTy (n := "list") T.f_list (by decide +kernel)) (pa_cons (pe_gTy (n := "tuple") T.f_tuple (by decide +kernel)) pa_nil))) pa_nil)))) (pss_cons (ps_if (PW.pt (pw_or (pt_cmpR op_ne (pe_callB call_isi (by rfl) T.f_isinstance (by decide +kernel) (pa_cons (pv 0) (pa_cons (pe_gTy (n := "list") T.f_list (by decide +kernel)) pa_nil))) (pe_callB call_isi (by rfl) T.f_isinstance (by decide +kernel) (pa_cons (pv 1) (pa_cons (pe_gTy (n := "list") T.f_list (by decide +kernel)) pa_nil))) (nomark _)) (pw_or1 (pt_cmpR op_ne (pe_callB call_isi (by rfl) T.f_isinstance (by decide +kernel) (pa_cons (pv 0) (pa_cons (pe_gTy (n := "tuple") T.f_tuple (by decide +kernel)) pa_nil))) (pe_callB call_isi (by rfl) T.f_isinstance (by decide +kernel) (pa_cons (pv 1) (pa_cons (pe_gTy (n := "tuple") T.f_tuple (by decide +kernel)) pa_nil))) (nomark _))))) (pss_one (ps_ret pe_bl)) pss_nil)
      (pss_cons (ps_if (pt_cmpR op_ne (pe_callB call_len (by rfl) T.f_len (by decide +kernel) (pa_cons (pv 0) pa_nil)) (pe_callB call_len (by rfl) T.f_len (by decide +kernel) (pa_cons (pv 1) pa_nil)) (nomark _)) (pss_one (ps_ret pe_bl)) pss_nil)
      (pss_one (ps_ret (pe_callB (cr_all rfl) (by rfl) T.f_all (by decide +kernel) (pa_cons (pe_lc (own := [("_law_one", 2), ("_law_two", 3)]) (g := (gTup K 2 (gCons (gName 2) (gCons (gName 3) gNil)))) (tt := tYes) rfl sc.nd (RZ.pi_zipA (by rfl) T.f_zip (pa_cons (pv 0) (pa_cons (pv 1) pa_nil))) (blkOk_by (own := [("_law_one", 2), ("_law_two", 3)]) (N := N_L_same) (sc := defScope Hd.sL_same) (by decide +kernel)) (fun _ _ _ _ _ => (pg_tup (by rfl) (pgs_cons (gn 2 sc.nd) (pgs_cons (gn 3 sc.nd) pgs_nil)))) (fun _ _ _ _ _ => pts_nil) (fun _ _ _ _ _ => pe_nev)) pa_nil)))))) pss_nil)
      (pss_cons (ps_if (PW.pt (pw_or (pt_cmpR op_isN (pv 1) pe_non (nomark _)) (pw_or1 (pt_val (pe_callB call_isi (by rfl) T.f_isinstance (by decide +kernel) (pa_cons (pv 1) (pa_cons (pe_gTy (n := "str") T.f_str (by decide +kernel)) pa_nil))))))) (pss_one (ps_ret (pe_and (pe_cmpR op_eq (pv 0) (pv 1) (nomark _)) (pe_one (pe_cmpR op_eq (pe_callB call_isi (by rfl) T.f_isinstance (by decide +kernel) (pa_cons (pv 0) (pa_cons (pe_gTy (n := "str") T.f_str (by decide +kernel)) pa_nil))) (pe_callB call_isi (by rfl) T.f_isinstance (by decide +kernel) (pa_cons (pv 1) (pa_cons (pe_gTy (n := "str") T.f_str (by decide +kernel)) pa_nil))) (nomark _)))))) pss_nil)
      (pss_one (ps_ret (pe_and (pe_callB call_isi (by rfl) T.f_isinstance (by decide +kernel) (pa_cons (pv 0) (pa_cons (pe_gTy (n := "int") T.f_int (by decide +kernel)) pa_nil))) (pe_and (pe_cmpR op_eq (pe_callB call_isi (by rfl) T.f_isinstance (by decide +kernel) (pa_cons (pv 0) (pa_cons (pe_gTy (n := "bool") T.f_bool (by decide +kernel)) pa_nil))) (pe_callB call_isi (by rfl) T.f_isinstance (by decide +kernel) (pa_cons (pv 1) (pa_cons (pe_gTy (n := "bool") T.f_bool (by decide +kernel)) pa_nil))) (nomark _)) (pe_one (pe_cmpR op_eq (pv 0) (pv 1) (nomark _))))))))), ?_⟩
      rcases hf with ⟨i, rfl, rfl⟩ | ⟨z, rfl, rfl⟩ | ⟨rfl, rfl⟩
      · try dsimp only [cxOf]
        walk_at "go"
        refine fun t nt => ?_
        generalize hh : upd H t _ = H1
        have s1 : Same H H1 := hh ▸ Same.new nt
        have e1 : H1 t = some _ := hh ▸ upd_same
        clear hh
        refine ⟨_, t, _, _, _, false, rfl, e1, .cons (.ty _) (.cons (.ty _) .nil), .base (.int i), kit_no2 (by decide +kernel) (by decide +kernel), ?_⟩
        walk_at "go"
        refine r_isi (.ty _) (.base (.int i)) (kit_ty (b := "str") (r := false) (by decide +kernel)) ?_
        walk_at "go"
        rw [decide_eq_true (rfl : V.int i = V.int i)]
        exact k _ s1
      · try dsimp only [cxOf]
        walk_at "go"
        refine fun t nt => ?_
        generalize hh : upd H t _ = H1
        have s1 : Same H H1 := hh ▸ Same.new nt
        have e1 : H1 t = some _ := hh ▸ upd_same
        clear hh
        refine ⟨_, t, _, _, _, false, rfl, e1, .cons (.ty _) (.cons (.ty _) .nil), .base (.str z), kit_no2 (by decide +kernel) (by decide +kernel), ?_⟩
        walk_at "go"
        exact k _ s1
      · try dsimp only [cxOf]
        walk_at "go"
        refine fun t nt => ?_
        generalize hh : upd H t _ = H1
        have s1 : Same H H1 := hh ▸ Same.new nt
        have e1 : H1 t = some _ := hh ▸ upd_same
        clear hh
        refine ⟨_, t, _, _, _, false, rfl, e1, .cons (.ty _) (.cons (.ty _) .nil), .base .non, kit_no2 (by decide +kernel) (by decide +kernel), ?_⟩
        walk_at "go"
        refine r_isi (.ty _) (.base .non) (kit_ty (b := "str") (r := false) (by decide +kernel)) ?_
        walk_at "go"
        refine r_isi (.ty _) (.base .non) (kit_ty (b := "str") (r := false) (by decide +kernel)) ?_
        walk_at "go"
        exact k _ s1
  | succ n ih =>
    refine calD F T.g_L_same sc (fun vs H Q E h => by obtain ⟨x, y, rfl, _⟩ := h; rfl) (fun _ _ _ _ _ _ us hl => match us, hl with | [_, _], _ => rfl) (fun cdv A outer s H vs Q E hr h => ?_)
    · obtain ⟨x, y, rfl, hf, k⟩ := h
      refine ⟨_, (pss_cons (ps_if (pt_val (pe_callB call_isiT (by rfl) T.f_isinstance (by decide +kernel) (pa_cons (pv 1) (pa_cons (pe_tup (pa_cons (pe_gTy (n := "list") T.f_list (by decide +kernel)) (pa_cons (pe_gTy (n := "tuple") T.f_tuple (by decide +kernel)) pa_nil))) pa_nil)))) (pss_cons (ps_if (PW.pt (pw_or (pt_cmpR op_ne (pe_callB call_isi (by rfl) T.f_isinstance (by decide +kernel) (pa_cons (pv 0) (pa_cons (pe_gTy (n := "list") T.f_list (by decide +kernel)) pa_nil))) (pe_callB call_isi (by rfl) T.f_isinstance (by decide +kernel) (pa_cons (pv 1) (pa_cons (pe_gTy (n := "list") T.f_list (by decide +kernel)) pa_nil))) (nomark _)) (pw_or1 (pt_cmpR op_ne (pe_callB call_isi (by rfl) T.f_isinstance (by decide +kernel) (pa_cons (pv 0) (pa_cons (pe_gTy (n := "tuple") T.f_tuple (by decide +kernel)) pa_nil))) (pe_callB call_isi (by rfl) T.f_isinstance (by decide +kernel) (pa_cons (pv 1) (pa_cons (pe_gTy (n := "tuple") T.f_tuple (by decide +kernel)) pa_nil))) (nomark _))))) (pss_one (ps_ret pe_bl)) pss_nil)
      (pss_cons (ps_if (pt_cmpR op_ne (pe_callB call_len (by rfl) T.f_len (by decide +kernel) (pa_cons (pv 0) pa_nil)) (pe_callB call_len (by rfl) T.f_len (by decide +kernel) (pa_cons (pv 1) pa_nil)) (nomark _)) (pss_one (ps_ret pe_bl)) pss_nil)
      (pss_one (ps_ret (pe_callB (cr_all rfl) (by rfl) T.f_all (by decide +kernel) (pa_cons (pe_lc (own := [("_law_one", 2), ("_law_two", 3)]) (g := (gTup K 2 (gCons (gName 2) (gCons (gName 3) gNil)))) (tt := tYes) rfl sc.nd (RZ.pi_zipA (by rfl) T.f_zip (pa_cons (pv 0) (pa_cons (pv 1) pa_nil))) (blkOk_by (own := [("_law_one", 2), ("_law_two", 3)]) (N := N_L_same) (sc := defScope Hd.sL_same) (by decide +kernel)) (fun _ _ _ _ _ => (pg_tup (by rfl) (pgs_cons (gn 2 sc.nd) (pgs_cons (gn 3 sc.nd) pgs_nil)))) (fun _ _ _ _ _ => pts_nil) (fun _ _ _ _ _ => (pc ih hr (Nat.le_refl _) (pa_cons (pv 2) (pa_cons (pv 3) pa_nil))))) pa_nil)))))) pss_nil)
      (pss_cons (ps_if (PW.pt (pw_or (pt_cmpR op_isN (pv 1) pe_non (nomark _)) (pw_or1 (pt_val (pe_callB call_isi (by rfl) T.f_isinstance (by decide +kernel) (pa_cons (pv 1) (pa_cons (pe_gTy (n := "str") T.f_str (by decide +kernel)) pa_nil))))))) (pss_one (ps_ret (pe_and (pe_cmpR op_eq (pv 0) (pv 1) (nomark _)) (pe_one (pe_cmpR op_eq (pe_callB call_isi (by rfl) T.f_isinstance (by decide +kernel) (pa_cons (pv 0) (pa_cons (pe_gTy (n := "str") T.f_str (by decide +kernel)) pa_nil))) (pe_callB call_isi (by rfl) T.f_isinstance (by decide +kernel) (pa_cons (pv 1) (pa_cons (pe_gTy (n := "str") T.f_str (by decide +kernel)) pa_nil))) (nomark _)))))) pss_nil)
      (pss_one (ps_ret (pe_and (pe_callB call_isi (by rfl) T.f_isinstance (by decide +kernel) (pa_cons (pv 0) (pa_cons (pe_gTy (n := "int") T.f_int (by decide +kernel)) pa_nil))) (pe_and (pe_cmpR op_eq (pe_callB call_isi (by rfl) T.f_isinstance (by decide +kernel) (pa_cons (pv 0) (pa_cons (pe_gTy (n := "bool") T.f_bool (by decide +kernel)) pa_nil))) (pe_callB call_isi (by rfl) T.f_isinstance (by decide +kernel) (pa_cons (pv 1) (pa_cons (pe_gTy (n := "bool") T.f_bool (by decide +kernel)) pa_nil))) (nomark _)) (pe_one (pe_cmpR op_eq (pv 0) (pv 1) (nomark _))))))))), ?_⟩
      rcases hf with hf | ⟨p, q, xs, ys, rfl, rfl, hpq, hlen, hz, hs⟩
      · rcases hf with ⟨i, rfl, rfl⟩ | ⟨z, rfl, rfl⟩ | ⟨rfl, rfl⟩
        · try dsimp only [cxOf]
          walk_at "go"
          refine fun t nt => ?_
          generalize hh : upd H t _ = H1
          have s1 : Same H H1 := hh ▸ Same.new nt
          have e1 : H1 t = some _ := hh ▸ upd_same
          clear hh
          refine ⟨_, t, _, _, _, false, rfl, e1, .cons (.ty _) (.cons (.ty _) .nil), .base (.int i), kit_no2 (by decide +kernel) (by decide +kernel), ?_⟩
          walk_at "go"
          refine r_isi (.ty _) (.base (.int i)) (kit_ty (b := "str") (r := false) (by decide +kernel)) ?_
          walk_at "go"
          rw [decide_eq_true (rfl : V.int i = V.int i)]
          exact k _ s1
        · try dsimp only [cxOf]
          walk_at "go"
          refine fun t nt => ?_
          generalize hh : upd H t _ = H1
          have s1 : Same H H1 := hh ▸ Same.new nt
          have e1 : H1 t = some _ := hh ▸ upd_same
          clear hh
          refine ⟨_, t, _, _, _, false, rfl, e1, .cons (.ty _) (.cons (.ty _) .nil), .base (.str z), kit_no2 (by decide +kernel) (by decide +kernel), ?_⟩
          walk_at "go"
          exact k _ s1
        · try dsimp only [cxOf]
          walk_at "go"
          refine fun t nt => ?_
          generalize hh : upd H t _ = H1
          have s1 : Same H H1 := hh ▸ Same.new nt
          have e1 : H1 t = some _ := hh ▸ upd_same
          clear hh
          refine ⟨_, t, _, _, _, false, rfl, e1, .cons (.ty _) (.cons (.ty _) .nil), .base .non, kit_no2 (by decide +kernel) (by decide +kernel), ?_⟩
          walk_at "go"
          refine r_isi (.ty _) (.base .non) (kit_ty (b := "str") (r := false) (by decide +kernel)) ?_
          walk_at "go"
          refine r_isi (.ty _) (.base .non) (kit_ty (b := "str") (r := false) (by decide +kernel)) ?_
          walk_at "go"
          exact k _ s1
      · rcases hpq with ⟨hp, hq⟩ | ⟨hp, hq⟩
        · try dsimp only [cxOf]
          walk_at "go"
          refine fun t nt => ?_
          generalize hh : upd H t _ = H1
          have s1 : Same H H1 := hh ▸ Same.new nt
          have e1 : H1 t = some _ := hh ▸ upd_same
          clear hh
          refine ⟨_, t, _, _, _, true, rfl, e1, .cons (.ty _) (.cons (.ty _) .nil), .base (.lst (s1 _ _ hq)), kit_listtup, ?_⟩
          have hp1 := s1 _ _ hp
          have hq1 := s1 _ _ hq
          walk_at "go"
          refine ⟨p, q, _, _, rfl, .inl ⟨.of hp1, .of hq1, fun D hD => ?_⟩⟩
          refine lc_pure (walk_zip rfl) (List.replicate xs.length (.bl true)) (by simp; omega) hD (fun H3 s3 => ⟨.of (s3 _ _ hp1), .of (s3 _ _ hq1)⟩) (fun i x H3 H4 hi s3 e3 y => ?_) (fun H3 s3 e3 => ?_)
          · obtain ⟨tp, x1, x2, rfl, ntp, rfl, hx1, hx2⟩ := y
            have st : Same H3 (upd H3 tp (.tup [x1, x2])) := Same.new ntp
            have ht : (upd H3 tp (.tup [x1, x2])) tp = some (.tup [x1, x2]) := upd_same
            have s0 : Same H (upd H3 tp (.tup [x1, x2])) := Same.trans s1 (Same.trans s3 st)
            have eD := st _ _ e3
            have s1u : Same H1 (upd H3 tp (.tup [x1, x2])) := Same.trans s3 st
            generalize upd H3 tp (.tup [x1, x2]) = H4 at *
            walk_at "go"
            refine ⟨rfl, ?_⟩
            walk_at "go"
            refine ⟨x1, x2, rfl, (hs i x1 x2 hx1 hx2).same s0, fun H5 s5 => ?_⟩
            have hi' : i < xs.length := by omega
            exact lc_pend hD (by rw [List.length_replicate]; omega) (by rw [List.getElem?_replicate, if_pos hi']) (s5 _ _ eD) (Same.trans s1u s5)
          · walk_at "go"
            refine r_all (.of e3) ?_
            exact k _ (Same.trans s1 s3)
        · try dsimp only [cxOf]
          walk_at "go"
          refine fun t nt => ?_
          generalize hh : upd H t _ = H1
          have s1 : Same H H1 := hh ▸ Same.new nt
          have e1 : H1 t = some _ := hh ▸ upd_same
          clear hh
          refine ⟨_, t, _, _, _, true, rfl, e1, .cons (.ty _) (.cons (.ty _) .nil), .base (.tup (s1 _ _ hq)), kit_yes2, ?_⟩
          have hp1 := s1 _ _ hp
          have hq1 := s1 _ _ hq
          walk_at "go"
          refine ⟨p, q, _, _, rfl, .inr ⟨.of hp1, .of hq1, fun D hD => ?_⟩⟩
          refine lc_pure (walk_zipT rfl) (List.replicate xs.length (.bl true)) (by simp; omega) hD (fun H3 s3 => ⟨.of (s3 _ _ hp1), .of (s3 _ _ hq1)⟩) (fun i x H3 H4 hi s3 e3 y => ?_) (fun H3 s3 e3 => ?_)
          · obtain ⟨tp, x1, x2, rfl, ntp, rfl, hx1, hx2⟩ := y
            have st : Same H3 (upd H3 tp (.tup [x1, x2])) := Same.new ntp
            have ht : (upd H3 tp (.tup [x1, x2])) tp = some (.tup [x1, x2]) := upd_same
            have s0 : Same H (upd H3 tp (.tup [x1, x2])) := Same.trans s1 (Same.trans s3 st)
            have eD := st _ _ e3
            have s1u : Same H1 (upd H3 tp (.tup [x1, x2])) := Same.trans s3 st
            generalize upd H3 tp (.tup [x1, x2]) = H4 at *
            walk_at "go"
            refine ⟨rfl, ?_⟩
            walk_at "go"
            refine ⟨x1, x2, rfl, (hs i x1 x2 hx1 hx2).same s0, fun H5 s5 => ?_⟩
            have hi' : i < xs.length := by omega
            exact lc_pend hD (by rw [List.length_replicate]; omega) (by rw [List.getElem?_replicate, if_pos hi']) (s5 _ _ eD) (Same.trans s1u s5)
          · walk_at "go"
            refine r_all (.of e3) ?_
            exact k _ (Same.trans s1 s3)

end
end Fx

/-! B6: defs and their promises -/
namespace Fx
open PySem PySem.Spec PyProof.Rows L2 Sv Mr
section
variable {P : Program} {w : World} {K : PySem.W.Frag} {mg : Str → Option Value} {base : Heap}
theorem own_key {a : Ad} {key m fx : Int} {lv : V} : valV (ownK a key m fx lv) (.inr "key") = some (.int key) := by kernel_rfl
theorem own_how {a : Ad} {key m fx : Int} {lv : V} : valV (ownK a key m fx lv) (.inr "how") = some (.ref a.hp) := by kernel_rfl
theorem own_size {a : Ad} {key m fx : Int} {lv : V} : valV (ownK a key m fx lv) (.inr "size") = some (.int m) := by kernel_rfl
theorem own_kept {a : Ad} {key m fx : Int} {lv : V} : valV (ownK a key m fx lv) (.inr "kept") = some (.int fx) := by kernel_rfl
theorem own_rules {a : Ad} {key m fx : Int} {lv : V} : valV (ownK a key m fx lv) (.inr "rules") = some (.ref a.orl) := by kernel_rfl
theorem own_plan {a : Ad} {key m fx : Int} {lv : V} : valV (ownK a key m fx lv) (.inr "plan") = some (.ref a.opn) := by kernel_rfl
theorem own_asked {a : Ad} {key m fx : Int} {lv : V} : valV (ownK a key m fx lv) (.inr "asked") = some (.ref a.oak) := by kernel_rfl
theorem own_last {a : Ad} {key m fx : Int} {lv : V} : valV (ownK a key m fx lv) (.inr "last") = some (lv) := by kernel_rfl
theorem own_history {a : Ad} {key m fx : Int} {lv : V} : valV (ownK a key m fx lv) (.inr "history") = some (.ref a.ohi) := by kernel_rfl
theorem w_life {a : Ad} {n : Int} : valV (wK a n) (.inr "life") = some (.int 9) := by kernel_rfl
theorem w_top {a : Ad} {n : Int} : valV (wK a n) (.inr "top") = some (.int 8) := by kernel_rfl
theorem w_ticks {a : Ad} {n : Int} : valV (wK a n) (.inr "ticks") = some (.int 0) := by kernel_rfl
theorem w_next {a : Ad} {n : Int} : valV (wK a n) (.inr "next") = some (.int n) := by kernel_rfl
theorem w_known {a : Ad} {n : Int} : valV (wK a n) (.inr "known") = some (.ref a.kd) := by kernel_rfl
theorem r_mkN {σ : L2.St} {H : Hp} {Q : VK} {C : Addr} {n m : Nat} {sp : Sp} {gV : List V → List V → List V} {E : XK} {t tk : TA} (h : t σ H fun vs H1 => tk σ H1 fun zs H2 => vs.length = n ∧ zs.length = m ∧
  ∀ x dx, H2 x = none → H2 dx = none → dx ≠ x → sp (gV (.ref x :: vs) zs) (upd (upd H2 dx (.own x)) x (.ins C dx [])) (fun v H3 => v = .non ∧ Q (.ref x) H3) E) : tMakeN C n m sp gV E t tk σ H Q := h
theorem r_disp {σ : L2.St} {H : Hp} {Q : VK} {trs : List (TE × TE)} (h : ∀ p, H p = none → tPairs trs σ (upd H p (.dK [])) fun ps H2 => H2 p = some (.dK []) ∧ ∃ kvs : List (Key × V), ps = kvs.map (fun kv => (kV kv.1, kv.2)) ∧ kvs.length ≤ 15 ∧ Q (.ref p) (upd H2 p (.dK (mergeK [] kvs)))) : tDisp trs σ H Q := h
theorem r_dnew {σ : L2.St} {H : Hp} {Q : VK} (h : ∀ p, H p = none → Q (.ref p) (upd H p (.dK []))) : tDNewK σ H Q := h
theorem r_pcons {σ : L2.St} {H : Hp} {Q : List (V × V) → Hp → Prop} {tk tv : TE} {r : List (TE × TE)} (h : tk σ H fun k H1 => tv σ H1 fun v H2 => tPairs r σ H2 fun ps H3 => Q ((k, v) :: ps) H3) : tPairs ((tk, tv) :: r) σ H Q := h
theorem r_pnil {σ : L2.St} {H : Hp} {Q : List (V × V) → Hp → Prop} (h : Q [] H) : tPairs [] σ H Q := h
local macro_rules | `(tactic| walk_at "go") => `(tactic| repeat (first
  | with_reducible refine r_seq ?_ | with_reducible refine r_asg ?_ | with_reducible refine r_gn ?_ | with_reducible refine r_ret ?_ | with_reducible refine r_ifS ?_
  | ((with_reducible refine' r_var ?kv ?_); (case kv => exact rfl)) | with_reducible refine r_c ?_ | with_reducible refine r_op ?_ | with_reducible refine r_I0 ?_ | with_reducible refine r_cons ?_ | with_reducible refine r_nil ?_
  | with_reducible refine r_cb ?_ | with_reducible refine r_call ?_ | with_reducible refine r_test ?_ | with_reducible refine r_tB ?_ | with_reducible refine r_k ?_ | with_reducible refine r_or ?_ | with_reducible refine r_and ?_ | with_reducible refine r_not ?_
  | with_reducible refine r_andV ?_ | with_reducible refine r_orV ?_ | with_reducible refine r_notV ?_ | with_reducible refine r_if ?_ | with_reducible refine r_T ?_ | with_reducible refine r_F ?_ | with_reducible refine r_Tn ?_ | with_reducible refine r_Fn ?_
  | with_reducible refine r_isiS ?_ | with_reducible refine r_isiI ?_ | with_reducible refine r_isiIB ?_ | with_reducible refine r_chain ?_ | with_reducible refine r_un ?_ | with_reducible refine r_drop ?_ | with_reducible refine r_tup ?_ | with_reducible refine r_lst ?_
  | ((with_reducible refine' r_eq ?kv ?_); (case kv => exact rfl)) | ((with_reducible refine' r_ne ?kv ?_); (case kv => exact rfl)) | with_reducible refine r_nx ?_ | with_reducible refine r_retN ?_ | with_reducible refine r_yes ?_ | ((with_reducible refine' r_I ?kd ?_); (case kd => first | exact Or.inr ⟨by decide, by decide⟩ | exact ⟨by decide, by decide⟩ | exact ⟨by decide, by decide, by decide⟩ | (show (0 : Int) < _; first | decide | omega)))
  | with_reducible refine r_dget ?_ | with_reducible refine r_din ?_ | with_reducible refine r_ndin ?_ | with_reducible refine r_dput ?_ | with_reducible refine r_mk ?_ | with_reducible refine r_dpop ?_ | with_reducible refine r_mkN ?_ | with_reducible refine r_disp ?_ | with_reducible refine r_dnew ?_ | with_reducible refine r_pcons ?_ | with_reducible refine r_pnil ?_ | with_reducible refine r_gCons ?_ | with_reducible refine r_gNil ?_ | with_reducible refine r_tPar ?_ | with_reducible refine r_par ?_ | with_reducible refine r_tPar3 ?_ | with_reducible refine r_par3 ?_ | with_reducible refine r_sl ?_ | with_reducible refine r_part ?_ | with_reducible refine r_parti ?_ | with_reducible refine r_nopart ?_ | with_reducible refine r_gSub ?_ | with_reducible refine r_rU ?_ | with_reducible refine r_bm ?_ | ((with_reducible refine' r_tyL ?kd ?_); (case kd => assumption)) | with_reducible refine r_nn ?_ | with_reducible refine r_meth ?_ | with_reducible refine r_methN ?_ | with_reducible refine r_callN ?_ | with_reducible refine r_fld ?_ | with_reducible refine r_lc ?_ | with_reducible refine r_for ?_ | with_reducible refine r_iList ?_ | with_reducible refine r_iTup ?_ | with_reducible refine r_iStr ?_ | with_reducible refine r_iRng1 ?_ | with_reducible refine r_iEnum ?_ | with_reducible refine r_iZip ?_ | with_reducible refine r_iZipA ?_
  | ((with_reducible refine' r_sz ?kz ?_); (case kz => first | decide | (simp only [List.length_cons, List.length_nil]; omega)))
  | ((with_reducible refine' r_isiT ?kd ?_); (case kd => assumption)) | ((with_reducible refine' r_isiL ?kd ?_); (case kd => assumption)) | ((with_reducible refine' r_isiTL ?kd ?_); (case kd => assumption)) | ((with_reducible refine' r_isiLT ?kd ?_); (case kd => assumption))
  | ((with_reducible refine' r_lenT ?kd ?_); (case kd => exact SqT.of (by assumption))) | ((with_reducible refine' r_lenL ?kd ?_); (case kd => exact SqL.of (by assumption)))
  | ((with_reducible refine' r_ixT ?ka ?kb ?_); (case ka => exact SqT.of (by assumption)); (case kb => exact rfl)) | ((with_reducible refine' r_gTup ?ka ?kb ?_); (case ka => exact SqT.of (by assumption)); (case kb => exact rfl))
  | ((with_reducible refine' r_dT ?kd ?_); (case kd => walk_at "pos")) | ((with_reducible refine' r_dF ?kd ?_); (case kd => walk_at "neg")) | ((with_reducible refine' r_ndT ?kd ?_); (case kd => walk_at "neg")) | ((with_reducible refine' r_ndF ?kd ?_); (case kd => walk_at "pos"))
  | ((with_reducible refine' r_pos ?kd ?_); (case kd => with_reducible exact rfl)) | ((with_reducible refine' r_neg ?kd ?_); (case kd => with_reducible exact rfl)) | ((with_reducible refine' r_pos ?kd ?_); (case kd => (with_reducible show _ = true); decide)) | ((with_reducible refine' r_neg ?kd ?_); (case kd => (with_reducible show _ = false); decide))))
local macro_rules | `(tactic| walk_at "pos") => `(tactic| first | assumption | omega | rfl | exact congrArg V.int (by omega) | exact congrArg V.str (by assumption))
local macro_rules | `(tactic| walk_at "neg") => `(tactic| first | assumption | omega | (intro hne; injection hne with hne; first | omega | contradiction | exact absurd hne (by decide +kernel)) | (intro hne; cases hne))

def spBegun : Sp := fun vs H Q _ => ∃ (x y : Int), vs = [.int x, .int y] ∧ ∀ p q H', Same H H' → H p = none → H q = none → p ≠ q → H' p = some (.dK [(.inr "life", .int x), (.inr "top", .int y), (.inr "ticks", .int 0), (.inr "next", .int 1), (.inr "known", .ref q)]) → H' q = some (.dK []) → Q (.ref p) H' 
abbrev N_L_begun : List Str := ["_law_life_told", "_law_top"]
theorem sc_L_begun : FnScope N_L_begun ["_law_life_told", "_law_top"] (defScope Hd.sL_begun) := ⟨rfl, rfl, rfl, by decide +kernel, rfl, by decide +kernel, by decide +kernel⟩
theorem ok_L_begun (T : Hd.Tx K mg) : Cal P w K mg base 1 "_law_begun" spBegun := by
  obtain ⟨fd, F⟩ := T.d_L_begun
  have sc := sc_L_begun
  refine calD F T.g_L_begun sc (fun vs H Q E h => ?_) (fun _ _ _ _ _ _ us hl => match us, hl with | [_, _], _ => rfl) (fun cdv A outer s H vs Q E hr h => ?_)
  · obtain ⟨x, y, rfl, _⟩ := h; rfl
  · obtain ⟨x, y, rfl, k⟩ := h
    refine ⟨_, (pss_one (ps_ret (pe_disp (pps_cons pe_str (pv 0) (pps_cons pe_str (pv 1) (pps_cons pe_str pe_int (pps_cons pe_str pe_int (pps_cons pe_str pe_dnewK pps_nil))))) (by rfl) (by rfl) (fun z => by cases z) (by decide)))), ?_⟩
    try dsimp only [cxOf]
    walk_at "go"
    
    intro p np
    generalize hh : upd H p _ = H1
    have s1 : Same H H1 := hh ▸ Same.new np
    have e1 := (congrFun hh p).symm.trans upd_same
    clear hh
    walk_at "go"
    intro q nq
    generalize hh : upd H1 q _ = H2
    have s2 : Same H1 H2 := hh ▸ Same.new nq
    have e2 := (congrFun hh q).symm.trans upd_same
    clear hh
    walk_at "go"
    refine ⟨s2 _ _ e1, [(.inr "life", .int x), (.inr "top", .int y), (.inr "ticks", .int 0), (.inr "next", .int 1), (.inr "known", .ref q)], rfl, by show 5 ≤ 15; decide, ?_⟩
    have qp : q ≠ p := ne_of_none' e1 nq
    have hm : mergeK [] [(.inr "life", .int x), (.inr "top", .int y), (.inr "ticks", .int 0), (.inr "next", .int 1), (.inr "known", V.ref q)] = [(.inr "life", .int x), (.inr "top", .int y), (.inr "ticks", .int 0), (.inr "next", .int 1), (.inr "known", V.ref q)] := by kernel_rfl
    rw [hm]
    exact k p q _ (Same.own (Same.trans s1 s2) np) np (Same.free s1 nq) (fun z => qp z.symm) upd_same (by rw [upd_ne qp]; exact e2)
def spStock (K : PySem.W.Frag) : Sp := fun vs H Q _ => ∃ (bx : Addr) (n m fx : Int), vs = [.ref bx, .int m, .int fx] ∧ BoxAt H bx n ∧ n < 990000 ∧
  ∀ p hp hw key orl opn oak ohi H', HowOk hw → 0 ≤ key → key ≤ 1000000 → Kp [bx] H H' → H p = none → H orl = none → H opn = none → H oak = none → H ohi = none → [p, orl, opn, oak, ohi].Nodup → H' hp = some (.tup [hw.wV, .int hw.fc]) →
    H' p = some (.dK [(.inr "key", .int key), (.inr "how", .ref hp), (.inr "size", .int m), (.inr "kept", .int fx), (.inr "rules", .ref orl), (.inr "plan", .ref opn), (.inr "asked", .ref oak), (.inr "last", .non), (.inr "history", .ref ohi)]) → H' orl = some (.lst []) → H' opn = some (.lst []) → H' oak = some (.dK []) → H' ohi = some (.lst []) → BoxAt H' bx (n + 20) → Q (.ref p) H' 
abbrev N_L_stock : List Str := ["_law_box_here", "_law_size", "_law_kept", "_law_how_here", "_law_found"]
theorem sc_L_stock : FnScope N_L_stock ["_law_box_here", "_law_size", "_law_kept"] (defScope Hd.sL_stock) := ⟨rfl, rfl, rfl, by decide +kernel, rfl, by decide +kernel, by decide +kernel⟩
theorem ok_L_stock (T : Hd.Tx K mg) : Cal P w K mg base 3 "_law_stock" ((spStock K)) := by
  obtain ⟨fd, F⟩ := T.d_L_stock
  have sc := sc_L_stock
  have C_L_take := ok_L_take (P := P) (w := w) (base := base) T
  have C_L_how := ok_L_how (P := P) (w := w) (base := base) T
  refine calD F T.g_L_stock sc (fun vs H Q E h => ?_) (fun _ _ _ _ _ _ us hl => match us, hl with | [_, _, _], _ => rfl) (fun cdv A outer s H vs Q E hr h => ?_)
  · obtain ⟨bx, n, m, fx, rfl, _⟩ := h; rfl
  · obtain ⟨bx, n, m, fx, rfl, hb, hn, k⟩ := h
    refine ⟨_, (pss_cons (sn 3 sc.nd (pc C_L_how hr (by decide) (pa_cons (pv 0) pa_nil)))
      (pss_cons (sn 4 sc.nd (pe_disp (pps_cons pe_str (pc C_L_take hr (by decide) (pa_cons (pv 0) (pa_cons (pe_op op_add (pe_op op_pow pe_int pe_int) pe_int) pa_nil))) (pps_cons pe_str (pv 3) (pps_cons pe_str (pv 1) (pps_cons pe_str (pv 2) (pps_cons pe_str (pe_lst pa_nil) (pps_cons pe_str (pe_lst pa_nil) pps_nil)))))) (by rfl) (by rfl) (fun z => by cases z) (by decide)))
      (pss_cons (ps_expr (pe_bm PySem.F.plainAttrs_dict PySem.F.slot_dict_update PySem.F.type_dict_update mt_dupd (pv 4) (pa_cons (pe_disp (pps_cons pe_str pe_dnewK (pps_cons pe_str pe_non (pps_cons pe_str (pe_lst pa_nil) pps_nil))) (by rfl) (by rfl) (fun z => by cases z) (by decide)) pa_nil)))
      (pss_one (ps_ret (pv 4)))))), ?_⟩
    try dsimp only [cxOf]
    walk_at "go"
    
    refine ⟨bx, n, rfl, hb, by omega, fun hp hw H1 hok k1 nhp ehp b1 => ?_⟩
    walk_at "go"
    intro p np
    generalize hh : upd H1 p _ = H2
    have s2 : Same H1 H2 := hh ▸ Same.new np
    have e2 := (congrFun hh p).symm.trans upd_same
    clear hh
    have npH := free_kp k1 b1 np hb
    walk_at "go"
    refine ⟨bx, _, _, rfl, b1.same s2, by omega, by decide, by decide, fun key H3 key0 key1 k3 b3 => ?_⟩
    have pb := box_ne b1 np
    have e3 := k3 _ _ e2 (notbx pb)
    have K3 : Kp [bx] H H3 := k1.trans ((Same.kp s2).trans k3)
    walk_at "go"
    refine fun orl norl => ?_
    generalize hh : upd H3 orl _ = H4
    have s4 : Same H3 H4 := hh ▸ Same.new norl
    have e4 : H4 orl = some _ := hh ▸ upd_same
    clear hh
    walk_at "go"
    refine fun opn nopn => ?_
    generalize hh : upd H4 opn _ = H5
    have s5 : Same H4 H5 := hh ▸ Same.new nopn
    have e5 : H5 opn = some _ := hh ▸ upd_same
    clear hh
    walk_at "go"
    have e35 := s5 _ _ (s4 _ _ e3)
    refine ⟨e35, [(.inr "key", .int key), (.inr "how", .ref hp), (.inr "size", .int m), (.inr "kept", .int fx), (.inr "rules", .ref orl), (.inr "plan", .ref opn)], rfl, by show 6 ≤ 15; decide, ?_⟩
    have hm : mergeK [] [(.inr "key", .int key), (.inr "how", V.ref hp), (.inr "size", .int m), (.inr "kept", .int fx), (.inr "rules", .ref orl), (.inr "plan", .ref opn)] = [(.inr "key", .int key), (.inr "how", V.ref hp), (.inr "size", .int m), (.inr "kept", .int fx), (.inr "rules", .ref orl), (.inr "plan", .ref opn)] := by kernel_rfl
    rw [hm]
    generalize hh : upd H5 p _ = H6
    have s6 : Kp [bx] H H6 := hh ▸ Kp.own (K3.trans ((Same.kp s4).trans (Same.kp s5))) npH
    have k56 : Kp [p] H5 H6 := hh ▸ Kp.put (Kp.refl _) (by simp)
    have e6 := (congrFun hh p).symm.trans upd_same
    clear hh
    walk_at "go"
    refine r_tyD e6 ?_
    walk_at "go"
    intro q nq
    generalize hh : upd H6 q _ = H7
    have s7 : Same H6 H7 := hh ▸ Same.new nq
    have e7 := (congrFun hh q).symm.trans upd_same
    clear hh
    walk_at "go"
    intro oak noak
    generalize hh : upd H7 oak _ = H8
    have s8 : Same H7 H8 := hh ▸ Same.new noak
    have e8 := (congrFun hh oak).symm.trans upd_same
    clear hh
    walk_at "go"
    refine fun ohi nohi => ?_
    generalize hh : upd H8 ohi _ = H9
    have s9 : Same H8 H9 := hh ▸ Same.new nohi
    have e9 : H9 ohi = some _ := hh ▸ upd_same
    clear hh
    walk_at "go"
    have qp : q ≠ p := ne_of_none' e6 nq
    have e7q := s9 _ _ (s8 _ _ e7)
    refine ⟨e7q, [(.inr "asked", .ref oak), (.inr "last", .non), (.inr "history", .ref ohi)], rfl, by show 3 ≤ 15; decide, ?_⟩
    have hm2 : mergeK [] [(.inr "asked", .ref oak), (.inr "last", V.non), (.inr "history", .ref ohi)] = [(.inr "asked", .ref oak), (.inr "last", V.non), (.inr "history", .ref ohi)] := by kernel_rfl
    rw [hm2]
    generalize hh : upd H9 q _ = H10
    have k910 : Kp [q] H9 H10 := hh ▸ Kp.put (Kp.refl _) (by simp)
    have e10 := (congrFun hh q).symm.trans upd_same
    clear hh
    have e10p := k910 _ _ (s9 _ _ (s8 _ _ (s7 _ _ e6))) (notbx (fun z => qp z.symm))
    walk_at "go"
    refine ⟨p, q, _, _, rfl, rfl, e10p, e10, fun z => qp z.symm, by show 6 + 3 ≤ 1000; decide, ?_⟩
    have hm3 : mergeK [(.inr "key", .int key), (.inr "how", V.ref hp), (.inr "size", .int m), (.inr "kept", .int fx), (.inr "rules", .ref orl), (.inr "plan", .ref opn)] [(.inr "asked", .ref oak), (.inr "last", V.non), (.inr "history", .ref ohi)] = [(.inr "key", .int key), (.inr "how", V.ref hp), (.inr "size", .int m), (.inr "kept", .int fx), (.inr "rules", .ref orl), (.inr "plan", .ref opn), (.inr "asked", .ref oak), (.inr "last", V.non), (.inr "history", .ref ohi)] := by kernel_rfl
    rw [hm3]
    generalize hh : upd H10 p _ = H11
    have k1011 : Kp [p] H10 H11 := hh ▸ Kp.put (Kp.refl _) (by simp)
    have e11 := (congrFun hh p).symm.trans upd_same
    clear hh
    walk_at "go"
    have p1 : orl ≠ p := ne_of_none' e3 norl
    have p2 : opn ≠ p := ne_of_none' (s4 _ _ e3) nopn
    have p3 : oak ≠ p := ne_of_none' (s7 _ _ e6) noak
    have p4 : ohi ≠ p := ne_of_none' (s8 _ _ (s7 _ _ e6)) nohi
    have d1 : opn ≠ orl := ne_of_none' e4 nopn
    have e46 := k56 _ _ (s5 _ _ e4) (notbx p1)
    have e56 := k56 _ _ e5 (notbx p2)
    have d2 : oak ≠ orl := ne_of_none' (s7 _ _ e46) noak
    have d3 : oak ≠ opn := ne_of_none' (s7 _ _ e56) noak
    have d4 : ohi ≠ orl := ne_of_none' (s8 _ _ (s7 _ _ e46)) nohi
    have d5 : ohi ≠ opn := ne_of_none' (s8 _ _ (s7 _ _ e56)) nohi
    have d6 : ohi ≠ oak := ne_of_none' e8 nohi
    have q1 : q ≠ orl := ne_of_none' e46 nq
    have q2 : q ≠ opn := ne_of_none' e56 nq
    have q3 : oak ≠ q := ne_of_none' e7 noak
    have q4 : ohi ≠ q := ne_of_none' (s8 _ _ e7) nohi
    have b6 : BoxAt H6 bx (n + 11) := by
      have := ((b3.same s4).same s5).kp k56 (notbx (fun z => pb z.symm))
      exact this.mono (by omega)
    have b9 : BoxAt H9 bx (n + 11) := ((b6.same s7).same s8).same s9
    have qb := box_ne b6 nq
    have b11 : BoxAt H11 bx (n + 11) := (b9.kp k910 (notbx (fun z => qb z.symm))).kp k1011 (notbx (fun z => pb z.symm))
    have K9 : Kp [bx] H H9 := s6.trans ((Same.kp s7).trans ((Same.kp s8).trans (Same.kp s9)))
    have nqH : H q = none := free_kp s6 b6 nq hb
    have K11 : Kp [bx] H H11 := fun y o e nb => by
      have y1 : y ≠ q := ne_of_none e nqH
      have y2 : y ≠ p := ne_of_none e npH
      exact k1011 _ _ (k910 _ _ (K9 y o e nb) (notbx y1)) (notbx y2)
    have far : ∀ y o, H9 y = some o → y ≠ q → y ≠ p → H11 y = some o := fun y o e y1 y2 => k1011 _ _ (k910 _ _ e (notbx y1)) (notbx y2)
    have nohiH : H ohi = none := free_kp (s6.trans ((Same.kp s7).trans (Same.kp s8))) ((b6.same s7).same s8) nohi hb
    have noakH : H oak = none := free_kp (s6.trans (Same.kp s7)) (b6.same s7) noak hb
    have norlH : H orl = none := free_kp K3 b3 norl hb
    have nopnH : H opn = none := free_kp (K3.trans (Same.kp s4)) (b3.same s4) nopn hb
    have hp3 := k3 _ _ (s2 _ _ ehp) (notbx (box_ne hb nhp))
    have hpp : hp ≠ p := fun z => ne_of_none' ehp np z.symm
    have hp6 := k56 _ _ (s5 _ _ (s4 _ _ hp3)) (notbx hpp)
    have hp9 := s9 _ _ (s8 _ _ (s7 _ _ hp6))
    have hpq : hp ≠ q := fun z => ne_of_none' hp6 nq z.symm
    have t6 : (10 : Int) ^ Int.toNat 6 = 1000000 := by decide
    have key1' : key < 10 ^ Int.toNat 6 + 1 := key1
    refine k p hp hw key orl opn oak ohi H11 hok key0 (by omega) K11 npH norlH nopnH noakH nohiH ?_ (far hp _ hp9 hpq hpp) e11 (far orl _ (s9 _ _ (s8 _ _ (s7 _ _ e46))) (fun z => q1 z.symm) p1) (far opn _ (s9 _ _ (s8 _ _ (s7 _ _ e56))) (fun z => q2 z.symm) p2) (far oak _ (s9 _ _ e8) q3 p3) (far ohi _ e9 q4 p4) (b11.mono (by omega))
    simp only [List.nodup_cons, List.mem_cons, List.not_mem_nil, or_false, not_or, not_false_eq_true, List.nodup_nil, and_true]
    exact ⟨⟨fun z => p1 z.symm, fun z => p2 z.symm, fun z => p3 z.symm, fun z => p4 z.symm⟩, ⟨fun z => d1 z.symm, fun z => d2 z.symm, fun z => d4 z.symm⟩, ⟨fun z => d3 z.symm, fun z => d5 z.symm⟩, fun z => d6 z.symm⟩
def Pre (K : PySem.W.Frag) (H : Hp) (a : Ad) (d : Da) : Prop := (∃ dx fs, H a.b = some (.ins (He.ga K "Book") dx fs) ∧ BkF a 1 fs) ∧ H a.eD = some (.dK []) ∧ H a.w = some (.dK (wK a 1)) ∧ H a.kd = some (.dK []) ∧ H a.own = some (.dK (ownK a d.key d.m d.fx .non)) ∧ H a.hp = some (.tup [d.hw.wV, .int d.hw.fc]) ∧ H a.orl = some (.lst []) ∧ H a.opn = some (.lst []) ∧ H a.oak = some (.dK []) ∧ H a.ohi = some (.lst []) ∧
  [a.b, a.own, a.oak, a.ohi, a.w, a.orl, a.opn, a.eD, a.kd].Nodup
def Da0 (d : Da) : Prop := NameOk d.name ∧ 0 ≤ d.key ∧ d.key ≤ 1000000 ∧ HowOk d.hw ∧ 1 ≤ d.m ∧ d.m ≤ 8 ∧ 0 ≤ d.fx ∧ d.fx < d.m ∧ d.bn = 1 ∧ d.wn = 1 ∧ d.eask = [] ∧ d.oask = [] ∧ d.elast = none ∧ d.olast = none ∧ d.ehist = [] ∧ d.ohist = []
def spKA (K : PySem.W.Frag) : Sp := fun vs H Q _ => ∃ (a : Ad) (d : Da), vs = [.ref a.b, .ref a.w, .str d.name, .ref a.own] ∧ Da0 d ∧ Pre K H a d ∧ ∀ H' a', a'.b = a.b → a'.w = a.w → a'.own = a.own → (∀ y ∈ a'.L, y ∈ [a.b, a.own, a.oak, a.ohi, a.w, a.orl, a.opn, a.eD, a.kd] ∨ H y = none) → StAt K H' a' d → Kp [a.eD, a.kd] H H' → Q .non H' 
abbrev N_L_known_as : List Str := ["_law_book", "_law_w", "_law_name", "_law_own", "_law_how_here", "_law_rules", "_law_rows"]
theorem sc_L_known_as : FnScope N_L_known_as ["_law_book", "_law_w", "_law_name", "_law_own"] (defScope Hd.sL_known_as) := ⟨rfl, rfl, rfl, by decide +kernel, rfl, by decide +kernel, by decide +kernel⟩
theorem ok_L_known_as (T : Hd.Tx K mg) : Cal P w K mg base 5 "_law_known_as" ((spKA K)) := by
  obtain ⟨fd, F⟩ := T.d_L_known_as
  have sc := sc_L_known_as
  have C_Book_know := ok_Book_know (P := P) (w := w) (base := base) T
  have C_Mixing := ok_Mixing (P := P) (w := w) (base := base) T
  refine calD F T.g_L_known_as sc (fun vs H Q E h => ?_) (fun _ _ _ _ _ _ us hl => match us, hl with | [_, _, _, _], _ => rfl) (fun cdv A outer s H vs Q E hr h => ?_)
  · obtain ⟨a, d, rfl, _⟩ := h; rfl
  · obtain ⟨a, d, rfl, D0, ⟨⟨dx, fs, eB, F⟩, hD, hw0, hkd, hown, hhp, horl, hopn, hoak, hohi, nd⟩, k⟩ := h
    refine ⟨_, (pss_cons (sn 4 sc.nd (pmkK C_Mixing hr (by decide) (pa_cons (pe_ix (ixT K) (pe_dget (hu_of hr) (pv 3) pe_str (fun _ _ => rfl)) pe_int (fun _ _ => rfl)) pa_nil) (pk_cons (pe_ix (ixT K) (pe_dget (hu_of hr) (pv 3) pe_str (fun _ _ => rfl)) pe_int (fun _ _ => rfl)) pk_nil)))
      (pss_cons (ps_par (i := 5) (j := 6) rfl sc.nd rfl rfl (by decide) rfl rfl (pa_cons (pe_callTy call_list_of (by rfl) T.f_list (by decide +kernel) (pa_cons (pe_dget (hu_of hr) (pv 3) pe_str (fun _ _ => rfl)) pa_nil)) (pa_cons (pe_callTy call_list_of (by rfl) T.f_list (by decide +kernel) (pa_cons (pe_dget (hu_of hr) (pv 3) pe_str (fun _ _ => rfl)) pa_nil)) pa_nil)) (by rfl))
      (pss_cons (ps_expr (pmK C_Book_know hr (by decide) (pv 0) (pa_cons (pv 2) (pa_cons (pe_dget (hu_of hr) (pv 3) pe_str (fun _ _ => rfl)) pa_nil)) (pk_cons (pv 4) (pk_cons (pv 5) (pk_cons (pv 6) (pk_cons (pe_dget (hu_of hr) (pv 3) pe_str (fun _ _ => rfl)) (pk_cons (pe_dget (hu_of hr) (pv 3) pe_str (fun _ _ => rfl)) pk_nil)))))))
      (pss_one (ps_dput (hu_of hr) (pe_dget (hu_of hr) (pv 1) pe_str (fun _ _ => rfl)) (pv 2) (pv 3) rfl))))), ?_⟩
    obtain ⟨c1, c2, c3, c4, c5, c6, c7, c8, c9, c10, c11, c12, c13, c14, c15, c16⟩ := D0
    try dsimp only [cxOf]
    walk_at "go"
    
    refine r_dgetv (k := .inr "how") hown own_how ?_
    walk_at "go"
    refine r_dgetv (k := .inr "how") hown own_how ?_
    walk_at "go"
    refine ⟨rfl, rfl, fun x dx0 nx ndx nxx => ?_⟩
    generalize hh : upd (upd H dx0 _) x _ = H1
    have s1 : Same H H1 := hh ▸ same_mk nx ndx
    have e1 := (congrFun hh x).symm.trans upd_same
    clear hh
    refine ⟨x, dx0, d.hw, rfl, e1, c4, fun H2 k2 hmx => ⟨rfl, ?_⟩⟩
    have s2 : Same H H2 := fun b o e => k2 b o (s1 b o e) (by simp; exact ne_of_none e nx)
    walk_at "go"
    refine r_dgetv (k := .inr "rules") (s2 _ _ hown) own_rules ?_
    walk_at "go"
    refine ⟨a.orl, _, rfl, .inl (.of (s2 _ _ horl)), ?_⟩
    refine fun p0 np0 => ?_
    generalize hh : upd H2 p0 _ = H3
    have s3 : Same H2 H3 := hh ▸ Same.new np0
    have e3 : H3 p0 = some _ := hh ▸ upd_same
    clear hh
    walk_at "go"
    refine r_dgetv (k := .inr "plan") (s3 _ _ (s2 _ _ hown)) own_plan ?_
    walk_at "go"
    refine ⟨a.opn, _, rfl, .inl (.of (s3 _ _ (s2 _ _ hopn))), ?_⟩
    refine fun p1 np1 => ?_
    generalize hh : upd H3 p1 _ = H4
    have s4 : Same H3 H4 := hh ▸ Same.new np1
    have e4 : H4 p1 = some _ := hh ▸ upd_same
    clear hh
    walk_at "go"
    have s04 : Same H H4 := Same.trans s2 (Same.trans s3 s4)
    have mx4 := (hmx.same s3).same s4
    refine ⟨a.b, dx, fs, rfl, s04 _ _ eB, F.n2, ?_⟩
    walk_at "go"
    refine r_dgetv (k := .inr "key") (s04 _ _ hown) own_key ?_
    walk_at "go"
    refine r_dgetv (k := .inr "size") (s04 _ _ hown) own_size ?_
    walk_at "go"
    refine r_dgetv (k := .inr "kept") (s04 _ _ hown) own_kept ?_
    walk_at "go"
    refine ⟨rfl, rfl, a, dx, fs, d.name, d.key, d.m, d.fx, x, p0, p1, rfl, s04 _ _ eB, F.most, F.eD, F.n1, F.n3, s04 _ _ hD, s4 _ _ e3, e4, fun H5 e ak hi pl pn dxe fse FE ne nak nhi npl npn nd5 e5D e5 e5k e5h e5p e5n k5 => ?_⟩
    walk_at "go"
    have nd' := nd
    have nd5' := nd5
    simp only [List.nodup_cons, List.mem_cons, List.not_mem_nil, or_false, not_or, not_false_eq_true, List.nodup_nil, and_true] at nd' nd5'
    obtain ⟨⟨n01, n02, n03, n04, n05, n06, n07, n08⟩, ⟨n12, n13, n14, n15, n16, n17, n18⟩, ⟨n23, n24, n25, n26, n27, n28⟩, ⟨n34, n35, n36, n37, n38⟩, ⟨n45, n46, n47, n48⟩, ⟨n56, n57, n58⟩, ⟨n67, n68⟩, n78⟩ := nd'
    obtain ⟨⟨m01, m02, m03, m04⟩, ⟨m12, m13, m14⟩, ⟨m23, m24⟩, m34⟩ := nd5'
    have lift5 : ∀ y o, H y = some o → y ≠ a.eD → H5 y = some o := fun y o e n => k5 _ _ (s04 _ _ e) (notbx n)
    refine r_dgetv (k := .inr "known") (lift5 _ _ hw0 n47) w_known ?_
    walk_at "go"
    refine r_dputv (k := .inr d.name) (lift5 _ _ hkd (fun z => n78 z.symm)) (by decide) ?_
    rw [show putK ([] : List (Key × V)) (.inr d.name) (.ref a.own) = [(.inr d.name, .ref a.own)] from rfl]
    generalize hh : upd H5 a.kd _ = H6
    have e6 := (congrFun hh a.kd).symm.trans upd_same
    have up5 : ∀ y o, H5 y = some o → y ≠ a.kd → H6 y = some o := fun y o e n => (congrFun hh y).symm.trans ((upd_ne n).trans e)
    clear hh
    have up : ∀ y o, H y = some o → y ≠ a.eD → y ≠ a.kd → H6 y = some o := fun y o e n1 n2 => up5 _ _ (lift5 _ _ e n1) n2
    have oB := s04 _ _ eB
    have oD := s04 _ _ hD
    have oW := s04 _ _ hw0
    have oK := s04 _ _ hkd
    have oO := s04 _ _ hown
    have oR := s04 _ _ horl
    have oP := s04 _ _ hopn
    have oA := s04 _ _ hoak
    have oH := s04 _ _ hohi
    obtain ⟨dxm, fsm, oX, fX⟩ := mx4.ex
    have xD : x ≠ a.eD := ne_of_none' hD nx
    have xK : x ≠ a.kd := ne_of_none' hkd nx
    have eK : e ≠ a.kd := ne_of_none' oK ne
    have akK : ak ≠ a.kd := ne_of_none' oK nak
    have hiK : hi ≠ a.kd := ne_of_none' oK nhi
    have plK : pl ≠ a.kd := ne_of_none' oK npl
    have pnK : pn ≠ a.kd := ne_of_none' oK npn
    walk_at "go"
    refine k H6 { a with e := e, ak := ak, hi := hi, pl := pl, pn := pn, mx := x } rfl rfl rfl ?_ ?_ (fun b o h n => up b o h (fun z => n (by rw [z]; simp)) (fun z => n (by rw [z]; simp)))
    · have fe := Same.free s04 ne
      have fa := Same.free s04 nak
      have fh := Same.free s04 nhi
      have fp := Same.free s04 npl
      have fn := Same.free s04 npn
      intro y hy
      simp only [Ad.L, List.mem_cons, List.not_mem_nil, or_false] at hy ⊢
      rcases hy with rfl | rfl | rfl | rfl | rfl | rfl | rfl | rfl | rfl | rfl | rfl | rfl | rfl | rfl | rfl <;> first | exact .inr (by assumption) | exact .inl (by simp)
    exact {
      nd := by
        show [a.b, e, ak, hi, a.own, a.oak, a.ohi, a.w, pl, pn, a.orl, a.opn, a.eD, a.kd, x].Nodup
        simp only [List.nodup_cons, List.mem_cons, List.not_mem_nil, or_false, not_or, not_false_eq_true, List.nodup_nil, and_true]
        refine ⟨⟨?_, ?_, ?_, ?_, ?_, ?_, ?_, ?_, ?_, ?_, ?_, ?_, ?_, ?_⟩, ⟨?_, ?_, ?_, ?_, ?_, ?_, ?_, ?_, ?_, ?_, ?_, ?_, ?_⟩, ⟨?_, ?_, ?_, ?_, ?_, ?_, ?_, ?_, ?_, ?_, ?_, ?_⟩, ⟨?_, ?_, ?_, ?_, ?_, ?_, ?_, ?_, ?_, ?_, ?_⟩, ⟨?_, ?_, ?_, ?_, ?_, ?_, ?_, ?_, ?_, ?_⟩, ⟨?_, ?_, ?_, ?_, ?_, ?_, ?_, ?_, ?_⟩, ⟨?_, ?_, ?_, ?_, ?_, ?_, ?_, ?_⟩, ⟨?_, ?_, ?_, ?_, ?_, ?_, ?_⟩, ⟨?_, ?_, ?_, ?_, ?_, ?_⟩, ⟨?_, ?_, ?_, ?_, ?_⟩, ⟨?_, ?_, ?_, ?_⟩, ⟨?_, ?_, ?_⟩, ⟨?_, ?_⟩, ?_⟩ <;> first | assumption | exact ne_of_none (H := H4) (by assumption) (by assumption) | exact ne_of_none (H := H) (by assumption) (by assumption) | exact ne_of_none' (H := H4) (by assumption) (by assumption) | exact ne_of_none' (H := H) (by assumption) (by assumption)
      nm := c1
      k0 := c2
      k1 := c3
      hok := c4
      m1 := c5
      m8 := c6
      fx0 := c7
      fxm := c8
      bn0 := by rw [c9]; decide
      bn1 := by rw [c9]; decide
      wn0 := by rw [c10]; decide
      wn1 := by rw [c10]; decide
      el := by rw [c13]; exact True.intro
      ol := by rw [c14]; exact True.intro
      eh := by rw [c15]; decide
      oh := by rw [c16]; decide
      ea := by rw [c11]; decide
      oa := by rw [c12]; decide
      book := ⟨dx, fs, up _ _ eB n07 n08, by rw [c9]; exact ⟨F.life, F.most, F.eD, F.ticks, F.next, F.n1, F.n2, F.n3, F.n4, F.n5, F.n6, F.n7, F.n8, F.n9, F.z⟩⟩
      eDat := up5 _ _ e5D n78
      ent := ⟨dxe, fse, .non, up5 _ _ e5 eK, FE, by rw [c13]; rfl⟩
      plat := up5 _ _ e5p plK
      pnat := up5 _ _ e5n pnK
      akat := by rw [c11]; exact up5 _ _ e5k akK
      hiat := ⟨[], up5 _ _ e5h hiK, by rw [c15]; exact ⟨rfl, fun i p x h => by simp at h⟩⟩
      mxat := ⟨⟨dxm, fsm, up5 _ _ (k5 _ _ oX (notbx xD)) xK, fX⟩⟩
      wat := by rw [c10]; exact up _ _ hw0 n47 n48
      kdat := e6
      ownat := ⟨.non, up _ _ hown n17 n18, by rw [c14]; rfl⟩
      hpat := up _ _ hhp (fun z => by rw [z, hD] at hhp; cases hhp) (fun z => by rw [z, hkd] at hhp; cases hhp)
      orlat := up _ _ horl n57 n58
      opnat := up _ _ hopn n67 n68
      oakat := by rw [c12]; exact up _ _ hoak n27 n28
      ohiat := ⟨[], up _ _ hohi n37 n38, by rw [c16]; exact ⟨rfl, fun i p x h => by simp at h⟩⟩ }
end
end Fx

/-! B7: defs and their promises -/
namespace Fx
open PySem PySem.Spec PyProof.Rows L2 Sv Mr
section
variable {P : Program} {w : World} {K : PySem.W.Frag} {mg : Str → Option Value} {base : Heap}
local macro_rules | `(tactic| walk_at "go") => `(tactic| repeat (first
  | with_reducible refine r_seq ?_ | with_reducible refine r_asg ?_ | with_reducible refine r_gn ?_ | with_reducible refine r_ret ?_ | with_reducible refine r_ifS ?_
  | ((with_reducible refine' r_var ?kv ?_); (case kv => exact rfl)) | with_reducible refine r_c ?_ | with_reducible refine r_op ?_ | with_reducible refine r_I0 ?_ | with_reducible refine r_cons ?_ | with_reducible refine r_nil ?_
  | with_reducible refine r_cb ?_ | with_reducible refine r_call ?_ | with_reducible refine r_test ?_ | with_reducible refine r_tB ?_ | with_reducible refine r_k ?_ | with_reducible refine r_or ?_ | with_reducible refine r_and ?_ | with_reducible refine r_not ?_
  | with_reducible refine r_andV ?_ | with_reducible refine r_orV ?_ | with_reducible refine r_notV ?_ | with_reducible refine r_if ?_ | with_reducible refine r_T ?_ | with_reducible refine r_F ?_ | with_reducible refine r_Tn ?_ | with_reducible refine r_Fn ?_
  | with_reducible refine r_isiS ?_ | with_reducible refine r_isiI ?_ | with_reducible refine r_isiIB ?_ | with_reducible refine r_chain ?_ | with_reducible refine r_un ?_ | with_reducible refine r_drop ?_ | with_reducible refine r_tup ?_ | with_reducible refine r_lst ?_
  | ((with_reducible refine' r_eq ?kv ?_); (case kv => exact rfl)) | ((with_reducible refine' r_ne ?kv ?_); (case kv => exact rfl)) | with_reducible refine r_nx ?_ | with_reducible refine r_retN ?_ | with_reducible refine r_yes ?_ | ((with_reducible refine' r_I ?kd ?_); (case kd => first | exact Or.inr ⟨by decide, by decide⟩ | exact ⟨by decide, by decide⟩ | exact ⟨by decide, by decide, by decide⟩ | (show (0 : Int) < _; first | decide | omega)))
  | with_reducible refine r_dget ?_ | with_reducible refine r_din ?_ | with_reducible refine r_ndin ?_ | with_reducible refine r_dput ?_ | with_reducible refine r_mk ?_ | with_reducible refine r_dpop ?_ | with_reducible refine r_mkN ?_ | with_reducible refine r_disp ?_ | with_reducible refine r_dnew ?_ | with_reducible refine r_pcons ?_ | with_reducible refine r_pnil ?_ | with_reducible refine r_gCons ?_ | with_reducible refine r_gNil ?_ | with_reducible refine r_tPar ?_ | with_reducible refine r_par ?_ | with_reducible refine r_tPar3 ?_ | with_reducible refine r_par3 ?_ | with_reducible refine r_sl ?_ | with_reducible refine r_part ?_ | with_reducible refine r_parti ?_ | with_reducible refine r_nopart ?_ | with_reducible refine r_gSub ?_ | with_reducible refine r_rU ?_ | with_reducible refine r_bm ?_ | ((with_reducible refine' r_tyL ?kd ?_); (case kd => assumption)) | with_reducible refine r_nn ?_ | with_reducible refine r_meth ?_ | with_reducible refine r_methN ?_ | with_reducible refine r_callN ?_ | with_reducible refine r_fld ?_ | with_reducible refine r_lc ?_ | with_reducible refine r_for ?_ | with_reducible refine r_iList ?_ | with_reducible refine r_iTup ?_ | with_reducible refine r_iStr ?_ | with_reducible refine r_iRng1 ?_ | with_reducible refine r_iEnum ?_ | with_reducible refine r_iZip ?_ | with_reducible refine r_iZipA ?_
  | ((with_reducible refine' r_sz ?kz ?_); (case kz => first | decide | (simp only [List.length_cons, List.length_nil]; omega)))
  | ((with_reducible refine' r_isiT ?kd ?_); (case kd => assumption)) | ((with_reducible refine' r_isiL ?kd ?_); (case kd => assumption)) | ((with_reducible refine' r_isiTL ?kd ?_); (case kd => assumption)) | ((with_reducible refine' r_isiLT ?kd ?_); (case kd => assumption))
  | ((with_reducible refine' r_lenT ?kd ?_); (case kd => exact SqT.of (by assumption))) | ((with_reducible refine' r_lenL ?kd ?_); (case kd => exact SqL.of (by assumption)))
  | ((with_reducible refine' r_ixT ?ka ?kb ?_); (case ka => exact SqT.of (by assumption)); (case kb => exact rfl)) | ((with_reducible refine' r_gTup ?ka ?kb ?_); (case ka => exact SqT.of (by assumption)); (case kb => exact rfl))
  | ((with_reducible refine' r_dT ?kd ?_); (case kd => walk_at "pos")) | ((with_reducible refine' r_dF ?kd ?_); (case kd => walk_at "neg")) | ((with_reducible refine' r_ndT ?kd ?_); (case kd => walk_at "neg")) | ((with_reducible refine' r_ndF ?kd ?_); (case kd => walk_at "pos"))
  | ((with_reducible refine' r_pos ?kd ?_); (case kd => with_reducible exact rfl)) | ((with_reducible refine' r_neg ?kd ?_); (case kd => with_reducible exact rfl)) | ((with_reducible refine' r_pos ?kd ?_); (case kd => (with_reducible show _ = true); decide)) | ((with_reducible refine' r_neg ?kd ?_); (case kd => (with_reducible show _ = false); decide))))
local macro_rules | `(tactic| walk_at "pos") => `(tactic| first | assumption | omega | rfl | exact congrArg V.int (by omega) | exact congrArg V.str (by assumption))
local macro_rules | `(tactic| walk_at "neg") => `(tactic| first | assumption | omega | (intro hne; injection hne with hne; first | omega | contradiction | exact absurd hne (by decide +kernel)) | (intro hne; cases hne))

theorem r_iKeys {σ : L2.St} {H : Hp} {R : It → Hp → Prop} {td : TE} (h : td σ H fun x H1 => ∃ d o, x = .ref d ∧ ((∃ kvs, H1 d = some (.frz o (.dK kvs)) ∧ R (Itk d o kvs) H1) ∨ ∃ kvs, H1 d = some (.frz o (.dT kvs)) ∧ R (Itkt d o kvs) H1)) : iKeys td σ H R := h
theorem r_lockE {σ : L2.St} {H : Hp} {Q : VK} {t : TE} (h : ∃ d u, H d = some u ∧ Mut (some u) ∧ ∀ od, t σ (upd H d (.frz od u)) fun v H' => H' d = some (.frz od u) ∧ Q v (upd H' d u)) : tLockE t σ H Q := h
def askK (ns : List Int) : List (Key × V) := ns.map fun n => (.inl n, .int 0)
theorem askK_get {ns : List Int} {i : Nat} {p : Key × V} (h : (askK ns)[i]? = some p) : ∃ n, ns[i]? = some n ∧ p = (.inl n, .int 0) := by
  unfold askK at h
  rw [List.getElem?_map] at h
  cases e : ns[i]? with
  | none => rw [e] at h; cases h
  | some n => rw [e] at h; exact ⟨n, rfl, (Option.some.inj h).symm⟩
theorem askK_val {ns : List Int} {n : Int} (h : n ∈ ns) : valV (askK ns) (.inl n) = some (.int 0) := by
  induction ns with
  | nil => cases h
  | cons m r ih =>
    by_cases e : m = n
    · subst e; exact valV_pos rfl
    · show valV ((Sum.inl m, V.int 0) :: askK r) (.inl n) = _
      rw [valV_neg (fun z => e (Sum.inl.inj z))]
      exact ih ((List.mem_cons.mp h).resolve_left (fun z => e z.symm))
def spANow (K : PySem.W.Frag) : Sp := fun vs H Q _ => ∃ (a : Ad) (d : Da) (ns : List Int), vs = [.ref a.w, .str d.name] ∧ StAt K H a d ∧ d.oask = askK ns ∧ ns.length ≤ 1 ∧ ∀ p H', Same H H' → H p = none → H' p = some (.lst (ns.map V.int)) → Q (.ref p) H' 
abbrev N_L_asked_now : List Str := ["_law_w", "_law_name", "_law_own", "_law_number"]
theorem sc_L_asked_now : FnScope N_L_asked_now ["_law_w", "_law_name"] (defScope Hd.sL_asked_now) := ⟨rfl, rfl, rfl, by decide +kernel, rfl, by decide +kernel, by decide +kernel⟩
theorem ok_L_asked_now (T : Hd.Tx K mg) : Cal P w K mg base 1 "_law_asked_now" ((spANow K)) := by
  obtain ⟨fd, F⟩ := T.d_L_asked_now
  have sc := sc_L_asked_now
  refine calD F T.g_L_asked_now sc (fun vs H Q E h => ?_) (fun _ _ _ _ _ _ us hl => match us, hl with | [_, _], _ => rfl) (fun cdv A outer s H vs Q E hr h => ?_)
  · obtain ⟨a, d, ns, rfl, _⟩ := h; rfl
  · obtain ⟨a, d, ns, rfl, S, hns, hz, k⟩ := h
    refine ⟨_, (pss_cons (sn 2 sc.nd (pe_dget (hu_of hr) (pe_dget (hu_of hr) (pe_dget (hu_of hr) (pv 0) pe_str (fun _ _ => rfl)) (pv 1) (fun _ _ => rfl)) pe_str (fun _ _ => rfl)))
      (pss_one (ps_ret (pe_callB cr_sorted (by rfl) T.f_sorted (by decide +kernel) (pa_cons (pe_lock (pe_lc (own := [("_law_number", 3)]) (g := (gName 3)) rfl sc.nd (pi_keys (pv 2)) (blkOk_by (own := [("_law_number", 3)]) (N := N_L_asked_now) (sc := defScope Hd.sL_asked_now) (by decide +kernel)) (fun _ _ _ _ _ => (gn 3 sc.nd)) (fun _ _ _ _ _ => (pts_one (pt_cmpR op_lt (pe_op op_sub (pe_dget (hu_of hr) (pv 0) pe_str (fun _ _ => rfl)) (pe_dget (hu_of hr) (pv 2) (pv 3) (fun _ _ => rfl))) (pe_dget (hu_of hr) (pv 0) pe_str (fun _ _ => rfl)) (nomark _)))) (fun _ _ _ _ _ => (pv 3)))) pa_nil))))), ?_⟩
    have hvk : valV [((Sum.inr d.name : Key), V.ref a.own)] (.inr d.name) = some (.ref a.own) := valV_pos rfl
    obtain ⟨lv, eO, hL⟩ := S.ownat
    have eA := S.oakat
    rw [hns] at eA
    have nwo : a.w ≠ a.oak := ne_ix S.nd (i := 7) (j := 5) rfl rfl (by decide)
    try dsimp only [cxOf]
    walk_at "go"
    
    refine r_dgetv (k := .inr "known") S.wat w_known ?_
    walk_at "go"
    refine r_dgetv (k := .inr d.name) S.kdat hvk ?_
    walk_at "go"
    refine r_dgetv (k := .inr "asked") eO own_asked ?_
    walk_at "go"
    refine r_lockE ?_
    refine ⟨a.oak, _, eA, True.intro, fun od => ?_⟩
    generalize hh : upd H a.oak _ = HL
    have eL := (congrFun hh a.oak).symm.trans upd_same
    have upL : ∀ y o, H y = some o → y ≠ a.oak → HL y = some o := fun y o e n => (congrFun hh y).symm.trans ((upd_ne n).trans e)
    have dnL : ∀ y o, HL y = some o → y ≠ a.oak → H y = some o := fun y o e n => ((upd_ne n).symm.trans (congrFun hh y)).trans e
    have noL : ∀ y, HL y = none → H y = none := fun y e => by
      have n : y ≠ a.oak := fun z => by rw [z, eL] at e; cases e
      exact ((upd_ne n).symm.trans (congrFun hh y)).trans e
    clear hh
    have eW := upL _ _ S.wat nwo
    walk_at "go"
    refine r_iKeys ?_
    walk_at "go"
    refine ⟨a.oak, _, rfl, .inl ⟨_, eL, fun D hD => ?_⟩⟩
    refine lc_it walk_keys (fun i H2 => Same HL H2 ∧ H2 D = some (.lst ((ns.take i).map V.int))) ⟨Same.new hD, upd_same⟩ (fun i H2 _ p => p.1 _ _ eL) (fun i x H2 H3 hi p y => ?_) (fun H2 p => ?_)
    · obtain ⟨s2, e2⟩ := p
      obtain ⟨rfl, k0, v0, hk0, rfl⟩ := y
      obtain ⟨n, hn, hp⟩ := askK_get hk0
      cases hp
      have hm : n ∈ ns := List.mem_of_getElem? hn
      refine ⟨rfl, ?_⟩
      walk_at "go"
      refine r_dgetv (k := .inr "ticks") (s2 _ _ eW) w_ticks ?_
      walk_at "go"
      refine ⟨a.oak, .int 0, rfl, .inl ⟨_, .inl n, .inr ⟨od, s2 _ _ eL⟩, rfl, (askK_val hm).symm⟩, ?_⟩
      walk_at "go"
      refine r_dgetv (k := .inr "life") (s2 _ _ eW) w_life ?_
      walk_at "go"
      refine ⟨_, e2, size_lt (by rw [List.length_map, List.length_take]; omega), Same.own s2 hD, ?_⟩
      rw [upd_same, List.take_add_one, hn, List.map_append]
      rfl
    obtain ⟨s2, e2⟩ := p
    have hl : (ns.take (askK ns).length) = ns := by unfold askK; rw [List.length_map, List.take_length]
    rw [hl] at e2
    refine ⟨s2 _ _ eL, ?_⟩
    have Do : D ≠ a.oak := fun z => by rw [z, eL] at hD; cases hD
    have sF : Same H (upd H2 a.oak (.dK (askK ns))) := fun y o e => by
      by_cases c : y = a.oak
      · rw [c, upd_same]; rw [c, eA] at e; exact e
      · rw [upd_ne c]; exact s2 _ _ (upL _ _ e c)
    have eF : (upd H2 a.oak (.dK (askK ns))) D = some (.lst (ns.map V.int)) := by rw [upd_ne Do]; exact e2
    generalize upd H2 a.oak (.dK (askK ns)) = H4 at sF eF
    walk_at "go"
    refine ⟨D, ns, rfl, .of eF, by omega, fun ns' p hp _ np => ?_⟩
    have e : ns' = ns := by
      match ns, hz with
      | [], _ => exact List.perm_nil.mp hp
      | [n], _ => exact List.perm_singleton.mp hp
    rw [e]
    exact k p _ (Same.own sF (Same.free sF np)) (Same.free sF np) upd_same
def spLAsk (K : PySem.W.Frag) : Sp := fun vs H Q _ => ∃ (a : Ad) (d : Da), vs = [.ref a.b, .ref a.w, .str d.name] ∧ StAt K H a d ∧ d.oask = [] ∧ d.eask = [] ∧ d.bn = d.wn ∧ d.wn < 10000 ∧ ∀ H', StAt K H' a { d with oask := askK [d.wn], wn := d.wn + 1, eask := askK [d.wn], bn := d.wn + 1 } → Kp a.L H H' → Q (.bl true) H' 
abbrev N_L_ask : List Str := ["_law_book", "_law_w", "_law_name"]
theorem sc_L_ask : FnScope N_L_ask ["_law_book", "_law_w", "_law_name"] (defScope Hd.sL_ask) := ⟨rfl, rfl, rfl, by decide +kernel, rfl, by decide +kernel, by decide +kernel⟩
theorem ok_L_ask (T : Hd.Tx K mg) : Cal P w K mg base 8 "_law_ask" ((spLAsk K)) := by
  obtain ⟨fd, F⟩ := T.d_L_ask
  have sc := sc_L_ask
  have C_L_same := ok_L_same (P := P) (w := w) (base := base) T
  have C_Book_ask := ok_Book_ask (P := P) (w := w) (base := base) T
  refine calD F T.g_L_ask sc (fun vs H Q E h => ?_) (fun _ _ _ _ _ _ us hl => match us, hl with | [_, _, _], _ => rfl) (fun cdv A outer s H vs Q E hr h => ?_)
  · obtain ⟨a, d, rfl, _⟩ := h; rfl
  · obtain ⟨a, d, rfl, S, h1, h2, h3, h4, k⟩ := h
    refine ⟨_, (pss_cons (ps_dput (hu_of hr) (pe_dget (hu_of hr) (pe_dget (hu_of hr) (pe_dget (hu_of hr) (pv 1) pe_str (fun _ _ => rfl)) (pv 2) (fun _ _ => rfl)) pe_str (fun _ _ => rfl)) (pe_dget (hu_of hr) (pv 1) pe_str (fun _ _ => rfl)) (pe_dget (hu_of hr) (pv 1) pe_str (fun _ _ => rfl)) rfl)
      (pss_cons (ps_dput (hu_of hr) (pv 1) pe_str (pe_op op_add (pe_dget (hu_of hr) (pv 1) pe_str (fun _ _ => rfl)) pe_int) rfl)
      (pss_one (ps_ret (pc (C_L_same 0) hr (by decide) (pa_cons (pm C_Book_ask hr (by decide) (pv 0) (pa_cons (pv 2) pa_nil)) (pa_cons (pe_op op_sub (pe_dget (hu_of hr) (pv 1) pe_str (fun _ _ => rfl)) pe_int) pa_nil))))))), ?_⟩
    have hvk : valV [((Sum.inr d.name : Key), V.ref a.own)] (.inr d.name) = some (.ref a.own) := valV_pos rfl
    obtain ⟨lv, eO, hL⟩ := S.ownat
    have wn0 := S.wn0
    try dsimp only [cxOf]
    walk_at "go"
    
    refine r_dgetv (k := .inr "ticks") S.wat w_ticks ?_
    walk_at "go"
    refine r_dgetv (k := .inr "known") S.wat w_known ?_
    walk_at "go"
    refine r_dgetv (k := .inr d.name) S.kdat hvk ?_
    walk_at "go"
    refine r_dgetv (k := .inr "asked") eO own_asked ?_
    walk_at "go"
    refine r_dgetv (k := .inr "next") S.wat w_next ?_
    refine r_dputv (k := .inl d.wn) S.oakat (by rw [h1]; decide) ?_
    have S1 := S.setOak (kvs := putK d.oask (.inl d.wn) (.int 0)) (putK_len (by rw [h1]; decide))
    have k1 : Kp a.L H (upd H a.oak (.dK (putK d.oask (.inl d.wn) (.int 0)))) := Kp.put (Kp.refl _) (List.mem_of_getElem? (show a.L[5]? = some a.oak from rfl))
    generalize hh : upd H a.oak _ = H1 at S1 k1
    clear hh
    walk_at "go"
    refine r_dgetv (k := .inr "next") S1.wat w_next ?_
    walk_at "go"
    refine r_dputv (k := .inr "next") S1.wat (by show 5 < 90000; decide) ?_
    have S2 := S1.setWn (n := d.wn + 1) (by omega) (by omega)
    have k2 : Kp a.L H1 (upd H1 a.w (.dK (wK a (d.wn + 1)))) := Kp.put (Kp.refl _) (List.mem_of_getElem? (show a.L[7]? = some a.w from rfl))
    rw [show putK (wK a ({ d with oask := putK d.oask (.inl d.wn) (.int 0) } : Da).wn) (.inr "next") (.int (d.wn + 1)) = wK a (d.wn + 1) by kernel_rfl]
    generalize hh : upd H1 a.w _ = H2 at S2 k2
    clear hh
    obtain ⟨dx2, fs2, eB2, F2⟩ := S2.book
    walk_at "go"
    refine ⟨a.b, dx2, fs2, rfl, eB2, F2.n4, ?_⟩
    walk_at "go"
    refine ⟨a, { d with oask := putK d.oask (.inl d.wn) (.int 0), wn := d.wn + 1 }, rfl, S2, by show d.eask.length < 1000; rw [h2]; decide, by show d.bn < 10000; omega, fun H3 S3 k3 => ?_⟩
    walk_at "go"
    refine r_dgetv (k := .inr "next") S3.wat w_next ?_
    walk_at "go"
    refine ⟨.int d.bn, .int (d.wn + 1 - 1), rfl, .inl ⟨d.bn, rfl, by rw [h3]; congr 1; omega⟩, fun H4 s4 => ?_⟩
    refine k H4 ?_ (k1.trans (k2.trans (k3.trans (Same.kp s4))))
    have S4 := S3.same s4
    have e1 : putK d.oask (.inl d.wn) (.int 0) = askK [d.wn] := by rw [h1]; rfl
    have e2 : putK d.eask (.inl d.bn) (.int 0) = askK [d.wn] := by rw [h2, h3]; rfl
    have e3 : ({ d with oask := putK d.oask (.inl d.wn) (.int 0), wn := d.wn + 1, eask := putK d.eask (.inl d.bn) (.int 0), bn := d.bn + 1 } : Da) = { d with oask := askK [d.wn], wn := d.wn + 1, eask := askK [d.wn], bn := d.wn + 1 } := by rw [e1, e2, h3]
    exact e3 ▸ S4
def spPairs (K : PySem.W.Frag) : Sp := fun vs H Q _ => ∃ (a : Ad) (d : Da) (l : Addr) (ps : List Addr) (rows : List Rw), vs = [.ref a.own, .ref l] ∧ StAt K H a d ∧ H l = some (.lst (ps.map V.ref)) ∧ RowsAt H ps rows ∧ (∀ r ∈ rows, RowOk r) ∧ rows.length ≤ 1000 ∧ ∀ p ts H', Same H H' → H p = none → H' p = some (.lst (ts.map V.ref)) → PairsAt H' ts (shown d.hw rows d.m) → Q (.ref p) H' 
abbrev N_L_pairs_of : List Str := ["_law_own", "_law_rows", "_law_row_here"]
theorem sc_L_pairs_of : FnScope N_L_pairs_of ["_law_own", "_law_rows"] (defScope Hd.sL_pairs_of) := ⟨rfl, rfl, rfl, by decide +kernel, rfl, by decide +kernel, by decide +kernel⟩
theorem ok_L_pairs_of (T : Hd.Tx K mg) : Cal P w K mg base 5 "_law_pairs_of" ((spPairs K)) := by
  obtain ⟨fd, F⟩ := T.d_L_pairs_of
  have sc := sc_L_pairs_of
  have C_L_replay := ok_L_replay (P := P) (w := w) (base := base) T
  refine calD F T.g_L_pairs_of sc (fun vs H Q E h => ?_) (fun _ _ _ _ _ _ us hl => match us, hl with | [_, _], _ => rfl) (fun cdv A outer s H vs Q E hr h => ?_)
  · obtain ⟨a, d, l, ps, rows, rfl, _⟩ := h; rfl
  · obtain ⟨a, d, l, ps, rows, rfl, S, hl, hR, ok, hz, k⟩ := h
    refine ⟨_, (pss_one (ps_ret (pe_listEnum (by rfl) (pc C_L_replay hr (by decide) (pa_cons (pe_dget (hu_of hr) (pv 0) pe_str (fun _ _ => rfl)) (pa_cons (pe_lc (own := [("_law_row_here", 2)]) (g := (gName 2)) rfl sc.nd (pi_list (pv 1)) (blkOk_by (own := [("_law_row_here", 2)]) (N := N_L_pairs_of) (sc := defScope Hd.sL_pairs_of) (by decide +kernel)) (fun _ _ _ _ _ => (gn 2 sc.nd)) (fun _ _ _ _ _ => (pts_one (pt_cmpR op_lt (pe_ix (ixT K) (pv 2) pe_int (fun _ _ => rfl)) (pe_dget (hu_of hr) (pv 0) pe_str (fun _ _ => rfl)) (nomark _)))) (fun _ _ _ _ _ => (pv 2))) (pa_cons (pe_dget (hu_of hr) (pv 0) pe_str (fun _ _ => rfl)) pa_nil)))) (by rfl) T.f_list (by decide +kernel) (by rfl) T.f_enumerate))), ?_⟩
    obtain ⟨lv, eO, hL⟩ := S.ownat
    have m1 := S.m1
    have m8 := S.m8
    try dsimp only [cxOf]
    walk_at "go"
    
    show tCall spLReplay [] E0 _ _ H _
    walk_at "go"
    refine r_dgetv (k := .inr "how") eO own_how ?_
    walk_at "go"
    refine ⟨l, rfl, ⟨_, .of hl⟩, fun D hD => ?_⟩
    refine lc_it (walk_list (xs := ps.map V.ref)) (fun i H2 => Same H H2 ∧ ∃ qs, H2 D = some (.lst (qs.map V.ref)) ∧ RowsAt H2 qs ((rows.take i).filter fun r => decide (r.b < d.m))) ⟨Same.new hD, [], upd_same, ⟨rfl, fun i p r h => by simp at h⟩⟩ (fun i H2 _ p => .of (p.1 _ _ hl)) (fun i x H2 H3 hi p y => ?_) (fun H2 p => ?_)
    · obtain ⟨s2, qs, e2, R2⟩ := p
      obtain ⟨rfl, hx⟩ := y
      obtain ⟨p, hpi, rfl⟩ := map_ref hx
      obtain ⟨r, hri, hrm, hlt, hpp⟩ := hR.row hpi
      have hp2 : H3 p = some (.tup [.int r.b, .str r.w, .str r.nm, .int r.nt]) := s2 _ _ hpp
      have et : rows.take (i + 1) = rows.take i ++ [r] := by rw [List.take_add_one, hri]; rfl
      refine ⟨rfl, ?_⟩
      walk_at "go"
      refine r_dgetv (k := .inr "size") (s2 _ _ eO) own_size ?_
      walk_at "go"
      have lq : qs.length ≤ 1000 := by
        rw [R2.1]
        refine Nat.le_trans (List.length_filter_le _ _) ?_
        rw [List.length_take]
        omega
      by_cases hb : r.b < d.m
      · rw [decide_eq_true hb]
        walk_at "go"
        refine ⟨_, e2, size_lt (by rw [List.length_map]; omega), Same.own s2 hD, qs ++ [p], by rw [upd_same, List.map_append]; rfl, ?_⟩
        rw [et, List.filter_append, List.filter_cons, if_pos (decide_eq_true hb)]
        exact (R2.push hp2).tk (tkp_put e2)
      · rw [decide_eq_false hb]
        walk_at "go"
        refine ⟨s2, qs, e2, ?_⟩
        rw [et, List.filter_append, List.filter_cons, if_neg (by rw [decide_eq_false hb]; decide)]
        simpa using R2
    obtain ⟨s2, qs, e2, R2⟩ := p
    rw [List.length_map, hR.1, List.take_length] at R2
    walk_at "go"
    refine r_dgetv (k := .inr "size") (s2 _ _ eO) own_size ?_
    walk_at "go"
    refine ⟨a.hp, d.hw, D, qs, _, d.m, rfl, s2 _ _ S.hpat, S.hok, e2, R2, fun r hr => ok r (List.mem_filter.mp hr).1, fun r hr => of_decide_eq_true (List.mem_filter.mp hr).2, by omega, m8, fun q H3 s3 nq e3 => ?_⟩
    refine ⟨q, _, rfl, .of e3, fun H4 p ts s4 np hts _ ep hp => ?_⟩
    have s04 : Same H H4 := Same.trans s2 (Same.trans s3 s4)
    refine k p ts H4 s04 (Same.free (Same.trans s2 s3) np) ep ⟨by rw [hts, List.length_map]; rfl, fun i t v h1 h2 => ?_⟩
    refine hp i t (.int v) h1 ?_
    rw [List.getElem?_map]
    show ((shown d.hw rows d.m)[i]?).map V.int = _
    rw [h2]
    rfl
end
end Fx

/-! B8: defs and their promises -/
namespace Fx
open PySem PySem.Spec PyProof.Rows L2 Sv Mr
section
variable {P : Program} {w : World} {K : PySem.W.Frag} {mg : Str → Option Value} {base : Heap}
local macro_rules | `(tactic| walk_at "go") => `(tactic| repeat (first
  | with_reducible refine r_seq ?_ | with_reducible refine r_asg ?_ | with_reducible refine r_gn ?_ | with_reducible refine r_ret ?_ | with_reducible refine r_ifS ?_
  | ((with_reducible refine' r_var ?kv ?_); (case kv => exact rfl)) | with_reducible refine r_c ?_ | with_reducible refine r_op ?_ | with_reducible refine r_I0 ?_ | with_reducible refine r_cons ?_ | with_reducible refine r_nil ?_
  | with_reducible refine r_cb ?_ | with_reducible refine r_call ?_ | with_reducible refine r_test ?_ | with_reducible refine r_tB ?_ | with_reducible refine r_k ?_ | with_reducible refine r_or ?_ | with_reducible refine r_and ?_ | with_reducible refine r_not ?_
  | with_reducible refine r_andV ?_ | with_reducible refine r_orV ?_ | with_reducible refine r_notV ?_ | with_reducible refine r_if ?_ | with_reducible refine r_T ?_ | with_reducible refine r_F ?_ | with_reducible refine r_Tn ?_ | with_reducible refine r_Fn ?_
  | with_reducible refine r_isiS ?_ | with_reducible refine r_isiI ?_ | with_reducible refine r_isiIB ?_ | with_reducible refine r_chain ?_ | with_reducible refine r_un ?_ | with_reducible refine r_drop ?_ | with_reducible refine r_tup ?_ | with_reducible refine r_lst ?_
  | ((with_reducible refine' r_eq ?kv ?_); (case kv => exact rfl)) | ((with_reducible refine' r_ne ?kv ?_); (case kv => exact rfl)) | with_reducible refine r_nx ?_ | with_reducible refine r_retN ?_ | with_reducible refine r_yes ?_ | ((with_reducible refine' r_I ?kd ?_); (case kd => first | exact Or.inr ⟨by decide, by decide⟩ | exact ⟨by decide, by decide⟩ | exact ⟨by decide, by decide, by decide⟩ | (show (0 : Int) < _; first | decide | omega)))
  | with_reducible refine r_dget ?_ | with_reducible refine r_din ?_ | with_reducible refine r_ndin ?_ | with_reducible refine r_dput ?_ | with_reducible refine r_mk ?_ | with_reducible refine r_dpop ?_ | with_reducible refine r_mkN ?_ | with_reducible refine r_disp ?_ | with_reducible refine r_dnew ?_ | with_reducible refine r_pcons ?_ | with_reducible refine r_pnil ?_ | with_reducible refine r_gCons ?_ | with_reducible refine r_gNil ?_ | with_reducible refine r_tPar ?_ | with_reducible refine r_par ?_ | with_reducible refine r_tPar3 ?_ | with_reducible refine r_par3 ?_ | with_reducible refine r_sl ?_ | with_reducible refine r_part ?_ | with_reducible refine r_parti ?_ | with_reducible refine r_nopart ?_ | with_reducible refine r_gSub ?_ | with_reducible refine r_rU ?_ | with_reducible refine r_bm ?_ | ((with_reducible refine' r_tyL ?kd ?_); (case kd => assumption)) | with_reducible refine r_nn ?_ | with_reducible refine r_meth ?_ | with_reducible refine r_methN ?_ | with_reducible refine r_callN ?_ | with_reducible refine r_fld ?_ | with_reducible refine r_lc ?_ | with_reducible refine r_for ?_ | with_reducible refine r_iList ?_ | with_reducible refine r_iTup ?_ | with_reducible refine r_iStr ?_ | with_reducible refine r_iRng1 ?_ | with_reducible refine r_iEnum ?_ | with_reducible refine r_iZip ?_ | with_reducible refine r_iZipA ?_
  | ((with_reducible refine' r_sz ?kz ?_); (case kz => first | decide | (simp only [List.length_cons, List.length_nil]; omega)))
  | ((with_reducible refine' r_isiT ?kd ?_); (case kd => assumption)) | ((with_reducible refine' r_isiL ?kd ?_); (case kd => assumption)) | ((with_reducible refine' r_isiTL ?kd ?_); (case kd => assumption)) | ((with_reducible refine' r_isiLT ?kd ?_); (case kd => assumption))
  | ((with_reducible refine' r_lenT ?kd ?_); (case kd => exact SqT.of (by assumption))) | ((with_reducible refine' r_lenL ?kd ?_); (case kd => exact SqL.of (by assumption)))
  | ((with_reducible refine' r_ixT ?ka ?kb ?_); (case ka => exact SqT.of (by assumption)); (case kb => exact rfl)) | ((with_reducible refine' r_gTup ?ka ?kb ?_); (case ka => exact SqT.of (by assumption)); (case kb => exact rfl))
  | ((with_reducible refine' r_dT ?kd ?_); (case kd => walk_at "pos")) | ((with_reducible refine' r_dF ?kd ?_); (case kd => walk_at "neg")) | ((with_reducible refine' r_ndT ?kd ?_); (case kd => walk_at "neg")) | ((with_reducible refine' r_ndF ?kd ?_); (case kd => walk_at "pos"))
  | ((with_reducible refine' r_pos ?kd ?_); (case kd => with_reducible exact rfl)) | ((with_reducible refine' r_neg ?kd ?_); (case kd => with_reducible exact rfl)) | ((with_reducible refine' r_pos ?kd ?_); (case kd => (with_reducible show _ = true); decide)) | ((with_reducible refine' r_neg ?kd ?_); (case kd => (with_reducible show _ = false); decide))))
local macro_rules | `(tactic| walk_at "pos") => `(tactic| first | assumption | omega | rfl | exact congrArg V.int (by omega) | exact congrArg V.str (by assumption))
local macro_rules | `(tactic| walk_at "neg") => `(tactic| first | assumption | omega | (intro hne; injection hne with hne; first | omega | contradiction | exact absurd hne (by decide +kernel)) | (intro hne; cases hne))

theorem decOpt (o : Option Nat) : decide (optV o = V.non) = o.isNone := by
  cases o with
  | none => exact decide_eq_true rfl
  | some i => exact decide_eq_false (by show ¬ V.int (i : Nat) = V.non; simp)
theorem shown_all {hw : How} {rows : List Rw} {m fx : Int} (h : fault rows m fx = none) : Mr.shown hw rows m = replayB hw rows m.toNat := by
  unfold Mr.shown
  rw [List.filter_eq_self.mpr fun r hr => decide_eq_true (fault_lt h r hr)]
def spLate (K : PySem.W.Frag) : Sp := fun vs H Q _ => ∃ (a : Ad) (d : Da) (st : Int) (t : Addr) (ps : List Addr) (l : Addr) (qs : List Addr) (rows : List Rw), vs = [.ref a.own, .int st, .ref t, .ref l] ∧ StAt K H a d ∧ H t = some (.tup (ps.map V.ref)) ∧ PairsAt H ps (shown d.hw rows d.m) ∧ H l = some (.lst (qs.map V.ref)) ∧ RowsAt H qs rows ∧ (∀ r ∈ rows, RowOk r) ∧ rows.length ≤ 1000 ∧ ∀ H', Same H H' → Q (.str (wordB d.olast d.m d.fx st rows)) H' 
abbrev N_L_late_word : List Str := ["_law_own", "_law_start", "_law_pairs", "_law_rows", "_law_last", "_law_size", "_law_board", "_law_value", "_law_mine", "_law_its"]
theorem sc_L_late_word : FnScope N_L_late_word ["_law_own", "_law_start", "_law_pairs", "_law_rows"] (defScope Hd.sL_late_word) := ⟨rfl, rfl, rfl, by decide +kernel, rfl, by decide +kernel, by decide +kernel⟩
theorem ok_L_late_word (T : Hd.Tx K mg) : Cal P w K mg base 5 "_law_late_word" ((spLate K)) := by
  obtain ⟨fd, F⟩ := T.d_L_late_word
  have sc := sc_L_late_word
  have C_L_verdict := ok_L_verdict (P := P) (w := w) (base := base) T
  have C_L_replay := ok_L_replay (P := P) (w := w) (base := base) T
  have C_L_fault := ok_L_fault (P := P) (w := w) (base := base) T
  refine calD F T.g_L_late_word sc (fun vs H Q E h => ?_) (fun _ _ _ _ _ _ us hl => match us, hl with | [_, _, _, _], _ => rfl) (fun cdv A outer s H vs Q E hr h => ?_)
  · obtain ⟨a, d, st, t, ps, l, qs, rows, rfl, _⟩ := h; rfl
  · obtain ⟨a, d, st, t, ps, l, qs, rows, rfl, S, ht, hP, hl, hR, ok, hz, k⟩ := h
    refine ⟨_, (pss_cons (ps_par (i := 4) (j := 5) rfl sc.nd rfl rfl (by decide) rfl rfl (pa_cons (pe_dget (hu_of hr) (pv 0) pe_str (fun _ _ => rfl)) (pa_cons (pe_dget (hu_of hr) (pv 0) pe_str (fun _ _ => rfl)) pa_nil)) (by rfl))
      (pss_cons (ps_if (PW.pt (pw_and (pt_cmpR op_notN (pv 4) pe_non (nomark _)) (pw_and1 (pt_cmpR op_lt (pv 1) (pe_ix (ixT K) (pv 4) pe_int (fun _ _ => rfl)) (nomark _))))) (pss_one (ps_ret pe_str)) pss_nil)
      (pss_cons (ps_if (pt_cmpR (op_neD hr.units) (pe_lc (own := [("_law_board", 6), ("_law_value", 7)]) (g := (gTup K 2 (gCons (gName 6) (gCons (gName 7) gNil)))) (tt := tYes) rfl sc.nd (pi_tup (pv 2)) (blkOk_by (own := [("_law_board", 6), ("_law_value", 7)]) (N := N_L_late_word) (sc := defScope Hd.sL_late_word) (by decide +kernel)) (fun _ _ _ _ _ => (pg_tup (by rfl) (pgs_cons (gn 6 sc.nd) (pgs_cons (gn 7 sc.nd) pgs_nil)))) (fun _ _ _ _ _ => pts_nil) (fun _ _ _ _ _ => (pv 6))) (pe_listRg (by rfl) (by rfl) T.f_list (prg_1 (by rfl) T.f_range (pv 5))) (nomark _)) (pss_one (ps_ret pe_str)) pss_nil)
      (pss_cons (ps_if (pt_cmpR op_notN (pc C_L_fault hr (by decide) (pa_cons (pv 3) (pa_cons (pv 5) (pa_cons (pe_dget (hu_of hr) (pv 0) pe_str (fun _ _ => rfl)) pa_nil)))) pe_non (nomark _)) (pss_one (ps_ret pe_str)) pss_nil)
      (pss_cons (ps_if (pt_cmpR (op_neD hr.units) (pc C_L_replay hr (by decide) (pa_cons (pe_dget (hu_of hr) (pv 0) pe_str (fun _ _ => rfl)) (pa_cons (pv 3) (pa_cons (pv 5) pa_nil)))) (pe_lc (own := [("_law_board", 6), ("_law_value", 7)]) (g := (gTup K 2 (gCons (gName 6) (gCons (gName 7) gNil)))) (tt := tYes) rfl sc.nd (pi_tup (pv 2)) (blkOk_by (own := [("_law_board", 6), ("_law_value", 7)]) (N := N_L_late_word) (sc := defScope Hd.sL_late_word) (by decide +kernel)) (fun _ _ _ _ _ => (pg_tup (by rfl) (pgs_cons (gn 6 sc.nd) (pgs_cons (gn 7 sc.nd) pgs_nil)))) (fun _ _ _ _ _ => pts_nil) (fun _ _ _ _ _ => (pv 7))) (nomark _)) (pss_one (ps_ret pe_str)) pss_nil)
      (pss_cons (ps_if (PW.pt (pw_and (pt_cmpR op_notN (pv 4) pe_non (nomark _)) (pw_and (pt_cmpR op_eq (pv 1) (pe_ix (ixT K) (pv 4) pe_int (fun _ _ => rfl)) (nomark _)) (pw_and1 (pt_cmpR (op_neD hr.units) (pe_slice sl_list (pv 3) po_none (po_some (pe_callB call_len (by rfl) T.f_len (by decide +kernel) (pa_cons (pe_ix (ixT K) (pv 4) pe_int (fun _ _ => rfl)) pa_nil)))) (pe_ix (ixT K) (pv 4) pe_int (fun _ _ => rfl)) (nomark _)))))) (pss_one (ps_ret pe_str)) pss_nil)
      (pss_cons (ps_if (pt_not (pt_val (pe_callB (cr_all rfl) (by rfl) T.f_all (by decide +kernel) (pa_cons (pe_lc (own := [("_law_mine", 8), ("_law_its", 9)]) (g := (gTup K 2 (gCons (gName 8) (gCons (gName 9) gNil)))) (tt := tYes) rfl sc.nd (pi_zip (by rfl) T.f_zip (pa_cons (pe_dget (hu_of hr) (pv 0) pe_str (fun _ _ => rfl)) (pa_cons (pv 3) pa_nil))) (blkOk_by (own := [("_law_mine", 8), ("_law_its", 9)]) (N := N_L_late_word) (sc := defScope Hd.sL_late_word) (by decide +kernel)) (fun _ _ _ _ _ => (pg_tup (by rfl) (pgs_cons (gn 8 sc.nd) (pgs_cons (gn 9 sc.nd) pgs_nil)))) (fun _ _ _ _ _ => pts_nil) (fun _ _ _ _ _ => pe_nev)) pa_nil)))) (pss_one (ps_ret pe_str)) pss_nil)
      (pss_one (ps_ret (pe_ifExp (pt_cmpR op_eq (pe_ix (ixT K) (pc C_L_verdict hr (by decide) (pa_cons (pe_dget (hu_of hr) (pv 0) pe_str (fun _ _ => rfl)) (pa_cons (pv 3) pa_nil))) pe_int (fun _ _ => rfl)) pe_str (nomark _)) pe_str pe_str)))))))))), ?_⟩
    obtain ⟨lv, eO, hL⟩ := S.ownat
    have lok := S.ol
    have m1 := S.m1
    have m8 := S.m8
    have lsh := shown_length d.hw rows d.m
    unfold wordB at k
    try dsimp only [cxOf]
    walk_at "go"
    refine r_dgetv (k := .inr "last") eO own_last ?_
    walk_at "go"
    refine r_dgetv (k := .inr "size") eO own_size ?_
    walk_at "go"
    have lastc : (d.olast = none ∧ lv = .non) ∨ ∃ s0 rs p tt us, d.olast = some (s0, rs) ∧ lv = .ref p ∧ H p = some (.tup [.int s0, .ref tt]) ∧ H tt = some (.lst (us.map V.ref)) ∧ RowsAt H us rs ∧ (∀ r ∈ rs, RowOk r) := by
      cases hE : d.olast with
      | none => rw [hE] at hL; exact .inl ⟨rfl, hL⟩
      | some x =>
        obtain ⟨s0, rs⟩ := x
        rw [hE] at hL lok
        obtain ⟨p, tt, us, e1, e2, e3, e4, e5⟩ := hL
        exact .inr ⟨s0, rs, p, tt, us, rfl, e1, e2, e3, e4, lok.2.1⟩
    rcases lastc with ⟨hE, rfl⟩ | ⟨s0, rs, p, tt, us, hE, rfl, ep, et, hU, oku⟩
    · rw [hE] at k
      rw [show backB none st = false from rfl, if_neg (by decide)] at k
      rw [decNN]
      walk_at "go"
      refine ⟨t, rfl, ⟨_, .of ht⟩, fun D hD => ?_⟩
      refine lc_pure (walk_tup (xs := ps.map V.ref)) ((List.range (shown d.hw rows d.m).length).map fun i => V.int (0 + (i : Nat))) (by rw [List.length_map, List.length_range, List.length_map, hP.1]) hD (fun H2 s2 => .of (s2 _ _ ht)) (fun i x H2 H3 hi s2 e2 y => ?_) (fun H2 s2 e2 => ?_)
      · obtain ⟨rfl, hx⟩ := y
        obtain ⟨p9, hpi, rfl⟩ := map_ref hx
        obtain ⟨v, hvi, hvm, hlt, hpp⟩ := hP.val hpi
        have hp2 := s2 _ _ hpp
        walk_at "go"
        refine ⟨rfl, ?_⟩
        walk_at "go"
        refine lc_pend hD (by rw [List.length_map, List.length_range]; omega) (by rw [List.getElem?_map, List.getElem?_range hlt]; simp) e2 s2
      dsimp only [tLstRg, tRg1]
      walk_at "go"
      refine ⟨⟨by decide, by decide, by omega, by omega, by omega⟩, ?_⟩
      refine fun q nq => ?_
      generalize hh : upd H2 q _ = H3
      have s3 : Same H2 H3 := hh ▸ Same.new nq
      have e3 : H3 q = some _ := hh ▸ upd_same
      clear hh
      walk_at "go"
      refine ⟨_, _, dI_at (ns := (List.range (shown d.hw rows d.m).length).map fun i => (0 + (i : Nat) : Int)) (.of (by rw [List.map_map]; exact s3 _ _ e2)), dI_at (ns := (List.range (d.m - 0).toNat).map fun i => (0 + (i : Nat) : Int)) (.of (by rw [List.map_map]; exact e3)), dI_shaped _, dI_shaped _, ?_⟩
      rw [dI_eqv, lsh, show (d.m - 0).toNat = d.m.toNat by rw [Int.sub_zero], decide_eq_true rfl]
      have s03 := Same.trans s2 s3
      walk_at "go"
      refine r_dgetv (k := .inr "kept") (s03 _ _ eO) own_kept ?_
      walk_at "go"
      refine ⟨l, qs, rows, d.m, d.fx, rfl, s03 _ _ hl, hR.same s03, ok, fun H4 s4 => ?_⟩
      have s04 := Same.trans s03 s4
      walk_at "go"
      rw [decOpt]
      cases hf : fault rows d.m d.fx with
      | some j =>
        rw [hf, if_pos (by simp)] at k
        dsimp only [Option.isNone]
        walk_at "go"
        exact k _ s04
      | none =>
        rw [hf, if_neg (by simp)] at k
        dsimp only [Option.isNone]
        walk_at "go"
        refine r_dgetv (k := .inr "how") (s04 _ _ eO) own_how ?_
        walk_at "go"
        refine ⟨a.hp, d.hw, l, qs, rows, d.m, rfl, s04 _ _ S.hpat, S.hok, s04 _ _ hl, hR.same s04, ok, fault_lt hf, by omega, m8, fun q5 H5 s5 nq5 e5 => ?_⟩
        have s05 := Same.trans s04 s5
        walk_at "go"
        refine ⟨t, rfl, ⟨_, .of (s05 _ _ ht)⟩, fun D6 hD6 => ?_⟩
        refine lc_pure (walk_tup (xs := ps.map V.ref)) ((shown d.hw rows d.m).map V.int) (by rw [List.length_map, List.length_map, hP.1]) hD6 (fun H6 s6 => .of (s6 _ _ (s05 _ _ ht))) (fun i x H6 H7 hi s6 e6 y => ?_) (fun H6 s6 e6 => ?_)
        · obtain ⟨rfl, hx⟩ := y
          obtain ⟨p9, hpi, rfl⟩ := map_ref hx
          obtain ⟨v, hvi, hvm, hlt, hpp⟩ := hP.val hpi
          have hp2 := s6 _ _ (s05 _ _ hpp)
          walk_at "go"
          refine ⟨rfl, ?_⟩
          walk_at "go"
          refine lc_pend hD6 (by rw [List.length_map]; omega) (by rw [List.getElem?_map, hvi]; rfl) e6 s6
        have sB := Same.trans s05 s6
        walk_at "go"
        refine ⟨_, _, dI_at (.of (s6 _ _ e5)), dI_at (.of e6), dI_shaped _, dI_shaped _, ?_⟩
        rw [dI_eqv, show replayB d.hw rows d.m.toNat = shown d.hw rows d.m from (shown_all hf).symm, decide_eq_true rfl]
        walk_at "go"
        rw [show cutB none st rows = false from rfl, if_neg (by decide)] at k
        have sE : Same H H6 := sB
        walk_at "go"
        refine r_dgetv (k := .inr "plan") (sE _ _ eO) own_plan ?_
        walk_at "go"
        refine ⟨a.opn, l, [], _, rfl, .of (sE _ _ S.opnat), .of (sE _ _ hl), fun D9 hD9 => ?_⟩
        refine ⟨fun i m H9 => i = 0 ∧ Same _ H9 ∧ H9 D9 = some (.lst []), ⟨0, rfl, Same.new hD9, upd_same⟩, fun i m H9 p9 => ?_⟩
        obtain ⟨rfl, s9, e9⟩ := p9
        refine .inl ⟨⟨[], _, .of (s9 _ _ (sE _ _ S.opnat)), .of (s9 _ _ (sE _ _ hl)), .inl (Nat.zero_le _)⟩, ?_⟩
        have s09 := Same.trans sE s9
        walk_at "go"
        refine r_all (n := 0) (.of e9) ?_
        walk_at "go"
        refine r_dgetv (k := .inr "rules") (s09 _ _ eO) own_rules ?_
        walk_at "go"
        refine ⟨a.orl, _, rfl, .of (s09 _ _ S.orlat), fun p9 H10 np9 eH10 => ?_⟩
        have s10 : Same H9 H10 := eH10 ▸ Same.new np9
        have e10 : H10 p9 = some (.tup [.str "fits"]) := eH10 ▸ upd_same
        clear eH10
        walk_at "go"
        exact k _ (Same.trans s09 s10)
    
    · rw [hE] at k
      rw [decN]
      walk_at "go"
      rw [show backB (some (s0, rs)) st = decide (st < s0) from rfl] at k
      by_cases hbk : st < s0
      · rw [decide_eq_true hbk, if_pos rfl] at k
        rw [decide_eq_true hbk]
        walk_at "go"
        exact k _ (Same.refl _)
      · rw [decide_eq_false hbk, if_neg (by decide)] at k
        rw [decide_eq_false hbk]
        walk_at "go"
        refine ⟨t, rfl, ⟨_, .of ht⟩, fun D hD => ?_⟩
        refine lc_pure (walk_tup (xs := ps.map V.ref)) ((List.range (shown d.hw rows d.m).length).map fun i => V.int (0 + (i : Nat))) (by rw [List.length_map, List.length_range, List.length_map, hP.1]) hD (fun H2 s2 => .of (s2 _ _ ht)) (fun i x H2 H3 hi s2 e2 y => ?_) (fun H2 s2 e2 => ?_)
        · obtain ⟨rfl, hx⟩ := y
          obtain ⟨p9, hpi, rfl⟩ := map_ref hx
          obtain ⟨v, hvi, hvm, hlt, hpp⟩ := hP.val hpi
          have hp2 := s2 _ _ hpp
          walk_at "go"
          refine ⟨rfl, ?_⟩
          walk_at "go"
          refine lc_pend hD (by rw [List.length_map, List.length_range]; omega) (by rw [List.getElem?_map, List.getElem?_range hlt]; simp) e2 s2
        dsimp only [tLstRg, tRg1]
        walk_at "go"
        refine ⟨⟨by decide, by decide, by omega, by omega, by omega⟩, ?_⟩
        refine fun q nq => ?_
        generalize hh : upd H2 q _ = H3
        have s3 : Same H2 H3 := hh ▸ Same.new nq
        have e3 : H3 q = some _ := hh ▸ upd_same
        clear hh
        walk_at "go"
        refine ⟨_, _, dI_at (ns := (List.range (shown d.hw rows d.m).length).map fun i => (0 + (i : Nat) : Int)) (.of (by rw [List.map_map]; exact s3 _ _ e2)), dI_at (ns := (List.range (d.m - 0).toNat).map fun i => (0 + (i : Nat) : Int)) (.of (by rw [List.map_map]; exact e3)), dI_shaped _, dI_shaped _, ?_⟩
        rw [dI_eqv, lsh, show (d.m - 0).toNat = d.m.toNat by rw [Int.sub_zero], decide_eq_true rfl]
        have s03 := Same.trans s2 s3
        walk_at "go"
        refine r_dgetv (k := .inr "kept") (s03 _ _ eO) own_kept ?_
        walk_at "go"
        refine ⟨l, qs, rows, d.m, d.fx, rfl, s03 _ _ hl, hR.same s03, ok, fun H4 s4 => ?_⟩
        have s04 := Same.trans s03 s4
        walk_at "go"
        rw [decOpt]
        cases hf : fault rows d.m d.fx with
        | some j =>
          rw [hf, if_pos (by simp)] at k
          dsimp only [Option.isNone]
          walk_at "go"
          exact k _ s04
        | none =>
          rw [hf, if_neg (by simp)] at k
          dsimp only [Option.isNone]
          walk_at "go"
          refine r_dgetv (k := .inr "how") (s04 _ _ eO) own_how ?_
          walk_at "go"
          refine ⟨a.hp, d.hw, l, qs, rows, d.m, rfl, s04 _ _ S.hpat, S.hok, s04 _ _ hl, hR.same s04, ok, fault_lt hf, by omega, m8, fun q5 H5 s5 nq5 e5 => ?_⟩
          have s05 := Same.trans s04 s5
          walk_at "go"
          refine ⟨t, rfl, ⟨_, .of (s05 _ _ ht)⟩, fun D6 hD6 => ?_⟩
          refine lc_pure (walk_tup (xs := ps.map V.ref)) ((shown d.hw rows d.m).map V.int) (by rw [List.length_map, List.length_map, hP.1]) hD6 (fun H6 s6 => .of (s6 _ _ (s05 _ _ ht))) (fun i x H6 H7 hi s6 e6 y => ?_) (fun H6 s6 e6 => ?_)
          · obtain ⟨rfl, hx⟩ := y
            obtain ⟨p9, hpi, rfl⟩ := map_ref hx
            obtain ⟨v, hvi, hvm, hlt, hpp⟩ := hP.val hpi
            have hp2 := s6 _ _ (s05 _ _ hpp)
            walk_at "go"
            refine ⟨rfl, ?_⟩
            walk_at "go"
            refine lc_pend hD6 (by rw [List.length_map]; omega) (by rw [List.getElem?_map, hvi]; rfl) e6 s6
          have sB := Same.trans s05 s6
          walk_at "go"
          refine ⟨_, _, dI_at (.of (s6 _ _ e5)), dI_at (.of e6), dI_shaped _, dI_shaped _, ?_⟩
          rw [dI_eqv, show replayB d.hw rows d.m.toNat = shown d.hw rows d.m from (shown_all hf).symm, decide_eq_true rfl]
          walk_at "go"
          have epB := sB _ _ ep
          have etB := sB _ _ et
          generalize H6 = HB at *
          walk_at "go"
          by_cases hst : st = s0
          · rw [show decide (V.int st = V.int s0) = true from decide_eq_true (by rw [hst])]
            walk_at "go"
            refine ⟨l, _, rfl, .of (sB _ _ hl), fun q7 nq7 => ?_⟩
            generalize hh : upd HB q7 _ = H7
            have s7 : Same HB H7 := hh ▸ Same.new nq7
            have e7 : H7 q7 = some _ := (congrFun hh q7).symm.trans upd_same
            clear hh
            have ep7 := s7 _ _ epB
            have et7 := s7 _ _ etB
            have R1 : RowsAt H7 (qs.take rs.length) (rows.take rs.length) := ((hR.same sB).same s7).take _
            have R2 : RowsAt H7 us rs := (hU.same sB).same s7
            have q2 : H7 q7 = some (.lst ((qs.take rs.length).map V.ref)) := by
              rw [e7, cutV_to, List.length_map, List.length_map, hU.1, List.map_take]
              congr 2
              by_cases c : rs.length ≤ qs.length
              · rw [Nat.min_eq_left c]
              · rw [Nat.min_eq_right (by omega), List.take_of_length_le (by rw [List.length_map]; exact Nat.le_refl _), List.take_of_length_le (by rw [List.length_map]; omega)]
            walk_at "go"
            have ok1 : ∀ r ∈ rows.take rs.length, RowOk r := fun r m => ok r (List.mem_of_mem_take m)
            refine ⟨_, _, dRs_at q2 R1, dRs_at et7 R2, dRs_shaped ok1, dRs_shaped oku, ?_⟩
            rw [dRs_eqv]
            have cb : cutB (some (s0, rs)) st rows = !decide (rows.take rs.length = rs) := by show (decide (st = s0) && _) = _; rw [decide_eq_true hst]; rfl
            rw [cb] at k
            by_cases hc : rows.take rs.length = rs
            · rw [decide_eq_true hc] at k ⊢
              have sE : Same H H7 := Same.trans sB s7
              rw [if_neg (by decide)] at k
              walk_at "go"
              refine r_dgetv (k := .inr "plan") (sE _ _ eO) own_plan ?_
              walk_at "go"
              refine ⟨a.opn, l, [], _, rfl, .of (sE _ _ S.opnat), .of (sE _ _ hl), fun D9 hD9 => ?_⟩
              refine ⟨fun i m H9 => i = 0 ∧ Same _ H9 ∧ H9 D9 = some (.lst []), ⟨0, rfl, Same.new hD9, upd_same⟩, fun i m H9 p9 => ?_⟩
              obtain ⟨rfl, s9, e9⟩ := p9
              refine .inl ⟨⟨[], _, .of (s9 _ _ (sE _ _ S.opnat)), .of (s9 _ _ (sE _ _ hl)), .inl (Nat.zero_le _)⟩, ?_⟩
              have s09 := Same.trans sE s9
              walk_at "go"
              refine r_all (n := 0) (.of e9) ?_
              walk_at "go"
              refine r_dgetv (k := .inr "rules") (s09 _ _ eO) own_rules ?_
              walk_at "go"
              refine ⟨a.orl, _, rfl, .of (s09 _ _ S.orlat), fun p9 H10 np9 eH10 => ?_⟩
              have s10 : Same H9 H10 := eH10 ▸ Same.new np9
              have e10 : H10 p9 = some (.tup [.str "fits"]) := eH10 ▸ upd_same
              clear eH10
              walk_at "go"
              exact k _ (Same.trans s09 s10)
    
            · rw [decide_eq_false hc] at k ⊢
              rw [if_pos (by decide)] at k
              walk_at "go"
              exact k _ (Same.trans sB s7)
          · rw [show decide (V.int st = V.int s0) = false from decide_eq_false fun z => hst (V.int.inj z)]
            have cb : cutB (some (s0, rs)) st rows = false := by show (decide (st = s0) && _) = false; rw [decide_eq_false hst]; rfl
            rw [cb, if_neg (by decide)] at k
            have sE : Same H HB := sB
            walk_at "go"
            refine r_dgetv (k := .inr "plan") (sE _ _ eO) own_plan ?_
            walk_at "go"
            refine ⟨a.opn, l, [], _, rfl, .of (sE _ _ S.opnat), .of (sE _ _ hl), fun D9 hD9 => ?_⟩
            refine ⟨fun i m H9 => i = 0 ∧ Same _ H9 ∧ H9 D9 = some (.lst []), ⟨0, rfl, Same.new hD9, upd_same⟩, fun i m H9 p9 => ?_⟩
            obtain ⟨rfl, s9, e9⟩ := p9
            refine .inl ⟨⟨[], _, .of (s9 _ _ (sE _ _ S.opnat)), .of (s9 _ _ (sE _ _ hl)), .inl (Nat.zero_le _)⟩, ?_⟩
            have s09 := Same.trans sE s9
            walk_at "go"
            refine r_all (n := 0) (.of e9) ?_
            walk_at "go"
            refine r_dgetv (k := .inr "rules") (s09 _ _ eO) own_rules ?_
            walk_at "go"
            refine ⟨a.orl, _, rfl, .of (s09 _ _ S.orlat), fun p9 H10 np9 eH10 => ?_⟩
            have s10 : Same H9 H10 := eH10 ▸ Same.new np9
            have e10 : H10 p9 = some (.tup [.str "fits"]) := eH10 ▸ upd_same
            clear eH10
            walk_at "go"
            exact k _ (Same.trans s09 s10)
end
end Fx

/-! B9: defs and their promises -/
namespace Fx
open PySem PySem.Spec PyProof.Rows L2 Sv Mr
section
variable {P : Program} {w : World} {K : PySem.W.Frag} {mg : Str → Option Value} {base : Heap}
local macro_rules | `(tactic| walk_at "go") => `(tactic| repeat (first
  | with_reducible refine r_seq ?_ | with_reducible refine r_asg ?_ | with_reducible refine r_gn ?_ | with_reducible refine r_ret ?_ | with_reducible refine r_ifS ?_
  | ((with_reducible refine' r_var ?kv ?_); (case kv => exact rfl)) | with_reducible refine r_c ?_ | with_reducible refine r_op ?_ | with_reducible refine r_I0 ?_ | with_reducible refine r_cons ?_ | with_reducible refine r_nil ?_
  | with_reducible refine r_cb ?_ | with_reducible refine r_call ?_ | with_reducible refine r_test ?_ | with_reducible refine r_tB ?_ | with_reducible refine r_k ?_ | with_reducible refine r_or ?_ | with_reducible refine r_and ?_ | with_reducible refine r_not ?_
  | with_reducible refine r_andV ?_ | with_reducible refine r_orV ?_ | with_reducible refine r_notV ?_ | with_reducible refine r_if ?_ | with_reducible refine r_T ?_ | with_reducible refine r_F ?_ | with_reducible refine r_Tn ?_ | with_reducible refine r_Fn ?_
  | with_reducible refine r_isiS ?_ | with_reducible refine r_isiI ?_ | with_reducible refine r_isiIB ?_ | with_reducible refine r_chain ?_ | with_reducible refine r_un ?_ | with_reducible refine r_drop ?_ | with_reducible refine r_tup ?_ | with_reducible refine r_lst ?_
  | ((with_reducible refine' r_eq ?kv ?_); (case kv => exact rfl)) | ((with_reducible refine' r_ne ?kv ?_); (case kv => exact rfl)) | with_reducible refine r_nx ?_ | with_reducible refine r_retN ?_ | with_reducible refine r_yes ?_ | ((with_reducible refine' r_I ?kd ?_); (case kd => first | exact Or.inr ⟨by decide, by decide⟩ | exact ⟨by decide, by decide⟩ | exact ⟨by decide, by decide, by decide⟩ | (show (0 : Int) < _; first | decide | omega)))
  | with_reducible refine r_dget ?_ | with_reducible refine r_din ?_ | with_reducible refine r_ndin ?_ | with_reducible refine r_dput ?_ | with_reducible refine r_mk ?_ | with_reducible refine r_dpop ?_ | with_reducible refine r_mkN ?_ | with_reducible refine r_disp ?_ | with_reducible refine r_dnew ?_ | with_reducible refine r_pcons ?_ | with_reducible refine r_pnil ?_ | with_reducible refine r_gCons ?_ | with_reducible refine r_gNil ?_ | with_reducible refine r_tPar ?_ | with_reducible refine r_par ?_ | with_reducible refine r_tPar3 ?_ | with_reducible refine r_par3 ?_ | with_reducible refine r_sl ?_ | with_reducible refine r_part ?_ | with_reducible refine r_parti ?_ | with_reducible refine r_nopart ?_ | with_reducible refine r_gSub ?_ | with_reducible refine r_rU ?_ | with_reducible refine r_bm ?_ | ((with_reducible refine' r_tyL ?kd ?_); (case kd => assumption)) | with_reducible refine r_nn ?_ | with_reducible refine r_meth ?_ | with_reducible refine r_methN ?_ | with_reducible refine r_callN ?_ | with_reducible refine r_fld ?_ | with_reducible refine r_lc ?_ | with_reducible refine r_for ?_ | with_reducible refine r_iList ?_ | with_reducible refine r_iTup ?_ | with_reducible refine r_iStr ?_ | with_reducible refine r_iRng1 ?_ | with_reducible refine r_iEnum ?_ | with_reducible refine r_iZip ?_ | with_reducible refine r_iZipA ?_
  | ((with_reducible refine' r_sz ?kz ?_); (case kz => first | decide | (simp only [List.length_cons, List.length_nil]; omega)))
  | ((with_reducible refine' r_isiT ?kd ?_); (case kd => assumption)) | ((with_reducible refine' r_isiL ?kd ?_); (case kd => assumption)) | ((with_reducible refine' r_isiTL ?kd ?_); (case kd => assumption)) | ((with_reducible refine' r_isiLT ?kd ?_); (case kd => assumption))
  | ((with_reducible refine' r_lenT ?kd ?_); (case kd => exact SqT.of (by assumption))) | ((with_reducible refine' r_lenL ?kd ?_); (case kd => exact SqL.of (by assumption)))
  | ((with_reducible refine' r_ixT ?ka ?kb ?_); (case ka => exact SqT.of (by assumption)); (case kb => exact rfl)) | ((with_reducible refine' r_gTup ?ka ?kb ?_); (case ka => exact SqT.of (by assumption)); (case kb => exact rfl))
  | ((with_reducible refine' r_dT ?kd ?_); (case kd => walk_at "pos")) | ((with_reducible refine' r_dF ?kd ?_); (case kd => walk_at "neg")) | ((with_reducible refine' r_ndT ?kd ?_); (case kd => walk_at "neg")) | ((with_reducible refine' r_ndF ?kd ?_); (case kd => walk_at "pos"))
  | ((with_reducible refine' r_pos ?kd ?_); (case kd => with_reducible exact rfl)) | ((with_reducible refine' r_neg ?kd ?_); (case kd => with_reducible exact rfl)) | ((with_reducible refine' r_pos ?kd ?_); (case kd => (with_reducible show _ = true); decide)) | ((with_reducible refine' r_neg ?kd ?_); (case kd => (with_reducible show _ = false); decide))))
local macro_rules | `(tactic| walk_at "pos") => `(tactic| first | assumption | omega | rfl | exact congrArg V.int (by omega) | exact congrArg V.str (by assumption))
local macro_rules | `(tactic| walk_at "neg") => `(tactic| first | assumption | omega | (intro hne; injection hne with hne; first | omega | contradiction | exact absurd hne (by decide +kernel)) | (intro hne; cases hne))

theorem drop1 (n : Int) : dropK (askK [n]) (.inl n) = [] := by
  unfold dropK askK
  simp
def spLWord (K : PySem.W.Frag) : Sp := fun vs H Q _ => ∃ (a : Ad) (d : Da) (q : Addr) (st num : Int) (l : Addr) (qs : List Addr) (rows : List Rw), vs = [.ref a.w, .ref q, .ref l] ∧ StAt K H a d ∧ QuoteAt H q d.name st num (shown d.hw rows d.m) (signOf d.key d.name st num (shown d.hw rows d.m)) ∧ d.oask = askK [num] ∧ H l = some (.lst (qs.map V.ref)) ∧ RowsAt H qs rows ∧ (∀ r ∈ rows, RowOk r) ∧ rows.length ≤ 1000 ∧ 0 ≤ st ∧ d.ohist.length < 1000 ∧ l ∉ a.L ∧
  ∀ H', StAt K H' a { d with oask := [], ohist := d.ohist ++ [(num, wordB d.olast d.m d.fx st rows)], olast := if wordB d.olast d.m d.fx st rows = "good" then some (st, rows) else d.olast } → Kp a.L H H' → Q (.str (wordB d.olast d.m d.fx st rows)) H' 
abbrev N_L_word : List Str := ["_law_w", "_law_quote_here", "_law_rows", "_law_name", "_law_start", "_law_number", "_law_pairs", "_law_sign", "_law_own", "_law_word_here"]
theorem sc_L_word : FnScope N_L_word ["_law_w", "_law_quote_here", "_law_rows"] (defScope Hd.sL_word) := ⟨rfl, rfl, rfl, by decide +kernel, rfl, by decide +kernel, by decide +kernel⟩
theorem ok_L_word (T : Hd.Tx K mg) : Cal P w K mg base 6 "_law_word" ((spLWord K)) := by
  obtain ⟨fd, F⟩ := T.d_L_word
  have sc := sc_L_word
  have C_L_late_word := ok_L_late_word (P := P) (w := w) (base := base) T
  have C_L_asked_now := ok_L_asked_now (P := P) (w := w) (base := base) T
  have C_L_quote := ok_L_quote (P := P) (w := w) (base := base) T
  refine calD F T.g_L_word sc (fun vs H Q E h => ?_) (fun _ _ _ _ _ _ us hl => match us, hl with | [_, _, _], _ => rfl) (fun cdv A outer s H vs Q E hr h => ?_)
  · obtain ⟨a, d, q, st, num, l, qs, rows, rfl, _⟩ := h; rfl
  · obtain ⟨a, d, q, st, num, l, qs, rows, rfl, S, hq, hk, hl, hR, ok, hz, s0, hh, hlL, k⟩ := h
    refine ⟨_, (pss_cons (ps_asg (pv 1) (pg_tup (by rfl) (pgs_cons (gn 3 sc.nd) (pgs_cons (gn 4 sc.nd) (pgs_cons (gn 5 sc.nd) (pgs_cons (gn 6 sc.nd) (pgs_cons (gn 7 sc.nd) pgs_nil)))))))
      (pss_cons (ps_if (pt_cmp (pc_dnotin (hu_of hr) (pv 3) (pe_dget (hu_of hr) (pv 0) pe_str (fun _ _ => rfl)))) (pss_one (ps_ret pe_str)) pss_nil)
      (pss_cons (sn 8 sc.nd (pe_dget (hu_of hr) (pe_dget (hu_of hr) (pv 0) pe_str (fun _ _ => rfl)) (pv 3) (fun _ _ => rfl)))
      (pss_cons (ps_if (pt_cmpR op_ne (pv 7) (pe_ix (ixT K) (pc C_L_quote hr (by decide) (pa_cons (pe_dget (hu_of hr) (pv 8) pe_str (fun _ _ => rfl)) (pa_cons (pv 3) (pa_cons (pv 4) (pa_cons (pv 5) (pa_cons (pv 6) pa_nil)))))) pe_int (fun _ _ => rfl)) (nomark _)) (pss_one (ps_ret pe_str)) pss_nil)
      (pss_cons (ps_if (pt_cmpR op_notIn_seq (pv 5) (pc C_L_asked_now hr (by decide) (pa_cons (pv 0) (pa_cons (pv 3) pa_nil))) (by rfl)) (pss_one (ps_ret pe_str)) pss_nil)
      (pss_cons (sn 9 sc.nd (pc C_L_late_word hr (by decide) (pa_cons (pv 8) (pa_cons (pv 4) (pa_cons (pv 6) (pa_cons (pv 2) pa_nil))))))
      (pss_cons (ps_expr (pe_dpop1 (pe_dget (hu_of hr) (pv 8) pe_str (fun _ _ => rfl)) (pv 5) ⟨rfl, rfl, rfl, rfl⟩))
      (pss_cons (ps_expr (pe_bm PySem.F.plainAttrs_list PySem.F.slot_list_append PySem.F.type_list_append mt_append (pe_dget (hu_of hr) (pv 8) pe_str (fun _ _ => rfl)) (pa_cons (pe_tup (pa_cons (pv 5) (pa_cons (pv 9) pa_nil))) pa_nil)))
      (pss_cons (ps_if (pt_cmpR op_eq (pv 9) pe_str (nomark _)) (pss_one (ps_dput (hu_of hr) (pv 8) pe_str (pe_tup (pa_cons (pv 4) (pa_cons (pe_callTy call_list_of (by rfl) T.f_list (by decide +kernel) (pa_cons (pv 2) pa_nil)) pa_nil))) rfl)) pss_nil)
      (pss_one (ps_ret (pv 9)))))))))))), ?_⟩
    have hvk : valV [((Sum.inr d.name : Key), V.ref a.own)] (.inr d.name) = some (.ref a.own) := valV_pos rfl
    obtain ⟨lv, eO, hL⟩ := S.ownat
    obtain ⟨tv, ps, q1, q2, P⟩ := hq.ex
    have m1 := S.m1
    have m8 := S.m8
    have lsh := shown_length d.hw rows d.m
    try dsimp only [cxOf]
    walk_at "go"
    
    refine r_dgetv (k := .inr "known") S.wat w_known ?_
    refine r_dinv (k := .inr d.name) S.kdat ?_
    rw [hvk]
    dsimp only [Option.isSome]
    walk_at "go"
    refine r_dgetv (k := .inr "known") S.wat w_known ?_
    walk_at "go"
    refine r_dgetv (k := .inr d.name) S.kdat hvk ?_
    walk_at "go"
    refine r_dgetv (k := .inr "key") eO own_key ?_
    walk_at "go"
    refine ⟨d.key, d.name, st, num, tv, ps, _, rfl, S.nm, .inr q2, P, by omega, fun q5 H1 s1 nq5 hq5 => ?_⟩
    obtain ⟨tv5, ps5, q51, q52, P5⟩ := hq5.ex
    walk_at "go"
    have S1 := S.same s1
    refine ⟨a, d, [num], rfl, S1, hk, Nat.le_refl 1, fun p2 H2 s2 np2 e2 => ?_⟩
    walk_at "go"
    refine r_ninL (xs := [.int num]) (.of e2) rfl rfl ?_
    rw [show inV (.int num) [.int num] = true by show (num == num || false) = true; simp]
    have s02 := Same.trans s1 s2
    walk_at "go"
    refine ⟨a, d, st, tv, ps, l, qs, rows, rfl, S.same s02, s02 _ _ q2, P.same s02, s02 _ _ hl, hR.same s02, ok, hz, fun H3 s3 => ?_⟩
    have s03 := Same.trans s02 s3
    have S3 := S.same s03
    generalize hw : wordB d.olast d.m d.fx st rows = wd at k
    walk_at "go"
    refine r_dgetv (k := .inr "asked") (s03 _ _ eO) own_asked ?_
    have eA := S3.oakat
    rw [hk] at eA
    refine ⟨_, rfl, .inl ⟨_, .inl eA⟩, ?_⟩
    walk_at "go"
    refine ⟨_, .inl num, .int 0, eA, rfl, askK_val (List.mem_singleton.mpr rfl), ?_⟩
    have S4 := S3.setOak (kvs := dropK (askK [num]) (.inl num)) (by rw [show dropK (askK [num]) (.inl num) = [] from drop1 num]; decide)
    have k4 : Kp a.L H3 (upd H3 a.oak (.dK (dropK (askK [num]) (.inl num)))) := Kp.put (Kp.refl _) (List.mem_of_getElem? (show a.L[5]? = some a.oak from rfl))
    generalize hh9 : upd H3 a.oak _ = H4 at S4 k4
    clear hh9
    obtain ⟨lv4, eO4, hL4⟩ := S4.ownat
    dsimp only
    walk_at "go"
    refine r_dgetv (k := .inr "history") eO4 own_history ?_
    obtain ⟨hs, eh, fh⟩ := S4.ohiat
    refine r_tyL eh ?_
    walk_at "go"
    refine fun tp nt => ?_
    generalize hh : upd H4 tp _ = H5
    have s5 : Same H4 H5 := hh ▸ Same.new nt
    have e5 : H5 tp = some _ := hh ▸ upd_same
    clear hh
    walk_at "go"
    have S5 := S4.same s5
    have eh5 := s5 _ _ eh
    refine r_append eh5 (by rw [List.length_map, fh.1]; have := S4.oh; omega) ?_
    have S6 := S5.pushOhi eh5 e5 hh
    have k6 : Kp a.L H5 (upd H5 a.ohi (.lst (hs.map V.ref ++ [.ref tp]))) := Kp.put (Kp.refl _) (List.mem_of_getElem? (show a.L[6]? = some a.ohi from rfl))
    generalize hh9 : upd H5 a.ohi _ = H6 at S6 k6
    clear hh9
    have kk : Kp a.L H H6 := (Same.kp s03).trans (k4.trans ((Same.kp s5).trans k6))
    walk_at "go"
    rw [show decide (V.str wd = V.str "good") = decide (wd = "good") from decS _ _]
    by_cases hg : wd = "good"
    · rw [decide_eq_true hg]
      walk_at "go"
      have hl6 := kk _ _ hl hlL
      have hR6 : RowsAt H6 qs rows := hR.tk (S.tk kk)
      refine ⟨l, _, rfl, .inl (.of hl6), ?_⟩
      refine fun lt nlt => ?_
      generalize hh : upd H6 lt _ = H7
      have s7 : Same H6 H7 := hh ▸ Same.new nlt
      have e7 : H7 lt = some _ := hh ▸ upd_same
      clear hh
      walk_at "go"
      refine fun lp nlp => ?_
      generalize hh : upd H7 lp _ = H8
      have s8 : Same H7 H8 := hh ▸ Same.new nlp
      have e8 : H8 lp = some _ := hh ▸ upd_same
      clear hh
      have S8 := (S6.same s7).same s8
      obtain ⟨lv8, eO8, hL8⟩ := S8.ownat
      walk_at "go"
      refine r_dputv (k := .inr "last") eO8 (by show 9 < 90000; decide) ?_
      have ltf : lt ∉ a.L := (S6.new_far nlt)
      have S9 := S8.setOlast (v := .ref lp) (l := (st, rows)) ⟨lp, lt, qs, rfl, e8, s8 _ _ e7, (hR6.same s7).same s8, ltf⟩ ⟨s0, ok, hz⟩
      have k9 : Kp a.L H8 (upd H8 a.own (.dK (ownK a d.key d.m d.fx (.ref lp)))) := Kp.put (Kp.refl _) (List.mem_of_getElem? (show a.L[4]? = some a.own from rfl))
      rw [show putK (ownK a d.key d.m d.fx lv8) (.inr "last") (.ref lp) = ownK a d.key d.m d.fx (.ref lp) by kernel_rfl]
      generalize hh9 : upd H8 a.own _ = H9 at S9 k9
      clear hh9
      walk_at "go"
      rw [if_pos hg] at k
      refine k _ ?_ (kk.trans ((Same.kp s7).trans ((Same.kp s8).trans k9)))
      rw [show dropK (askK [num]) (.inl num) = [] from drop1 num] at S9
      exact S9
    · rw [decide_eq_false hg]
      walk_at "go"
      rw [if_neg hg] at k
      refine k _ ?_ kk
      rw [show dropK (askK [num]) (.inl num) = [] from drop1 num] at S6
      exact S6
theorem same_rows {H : Hp} {rows : List Rw} {ps qs : List Addr} (h1 : RowsAt H ps rows) (h2 : RowsAt H qs rows) : ∀ (i : Nat) (x y : V), (ps.map V.ref)[i]? = some x → (qs.map V.ref)[i]? = some y → SameV H 2 x y := fun i x y e1 e2 => by
  obtain ⟨p, hp, rfl⟩ := map_ref e1
  obtain ⟨q, hq, rfl⟩ := map_ref e2
  obtain ⟨r, hr, _, _, a1⟩ := h1.row hp
  obtain ⟨r', hr', _, _, a2⟩ := h2.row hq
  rw [hr] at hr'
  cases hr'
  refine .inr ⟨p, q, r.vs, r.vs, rfl, rfl, .inr ⟨a1, a2⟩, rfl, by show 4 ≤ 10000; decide, fun j x y f1 f2 => ?_⟩
  rw [f1] at f2
  cases f2
  have : Flat x x := by
    match j, f1 with
    | 0, f1 => exact .inl ⟨_, (Option.some.inj f1).symm, (Option.some.inj f1).symm⟩
    | 1, f1 => exact .inr (.inl ⟨_, (Option.some.inj f1).symm, (Option.some.inj f1).symm⟩)
    | 2, f1 => exact .inr (.inl ⟨_, (Option.some.inj f1).symm, (Option.some.inj f1).symm⟩)
    | 3, f1 => exact .inl ⟨_, (Option.some.inj f1).symm, (Option.some.inj f1).symm⟩
  exact .inl this
theorem same_hist {H : Hp} {hist : List (Int × Str)} {ps qs : List Addr} (h1 : HistAt H ps hist) (h2 : HistAt H qs hist) : ∀ (i : Nat) (x y : V), (ps.map V.ref)[i]? = some x → (qs.map V.ref)[i]? = some y → SameV H 2 x y := fun i x y e1 e2 => by
  obtain ⟨p, hp, rfl⟩ := map_ref e1
  obtain ⟨q, hq, rfl⟩ := map_ref e2
  have hi : i < hist.length := h1.1 ▸ (List.getElem?_eq_some_iff.mp hp).1
  have a1 := h1.2 i p _ hp (List.getElem?_eq_getElem hi)
  have a2 := h2.2 i q _ hq (List.getElem?_eq_getElem hi)
  refine .inr ⟨p, q, _, _, rfl, rfl, .inr ⟨a1, a2⟩, rfl, by show 2 ≤ 10000; decide, fun j x y f1 f2 => ?_⟩
  rw [f1] at f2
  cases f2
  have : Flat x x := by
    match j, f1 with
    | 0, f1 => exact .inl ⟨_, (Option.some.inj f1).symm, (Option.some.inj f1).symm⟩
    | 1, f1 => exact .inr (.inl ⟨_, (Option.some.inj f1).symm, (Option.some.inj f1).symm⟩)
  exact .inl this
theorem same_last {H : Hp} {a : Ad} {v u : V} {l : Option (Int × List Rw)} {H0 : Hp} (h1 : LastV H0 H v l) (h2 : LastL a H u l) (ok : LastOk l) : SameV H 4 v u := by
  cases l with
  | none =>
    have e1 : v = .non := h1
    have e2 : u = .non := h2
    exact .inl (.inr (.inr ⟨e1, e2⟩))
  | some x =>
    obtain ⟨st, rows⟩ := x
    obtain ⟨p, t, ps, rfl, a1, a2, R1, _, _⟩ := h1
    obtain ⟨q, s, qs, rfl, b1, b2, R2, _⟩ := h2
    refine .inr ⟨p, q, _, _, rfl, rfl, .inr ⟨a1, b1⟩, rfl, by show 2 ≤ 10000; decide, fun j x y f1 f2 => ?_⟩
    match j, f1, f2 with
    | 0, f1, f2 =>
      cases Option.some.inj f1
      cases Option.some.inj f2
      exact .inl (.inl ⟨st, rfl, rfl⟩)
    | 1, f1, f2 =>
      cases Option.some.inj f1
      cases Option.some.inj f2
      exact .inr ⟨t, s, _, _, rfl, rfl, .inl ⟨a2, b2⟩, by rw [List.length_map, List.length_map, R1.1, R2.1], by rw [List.length_map, R1.1]; exact Nat.le_trans ok.2.2 (by decide), same_rows R1 R2⟩
theorem LastV.same {H0 H H' : Hp} {v : V} {l : Option (Int × List Rw)} (h : LastV H0 H v l) (s : Same H H') : LastV H0 H' v l := by
  cases l with
  | none => exact h
  | some x =>
    obtain ⟨p, t, ps, e, h1, h2, h3, h4⟩ := h
    exact ⟨p, t, ps, e, s _ _ h1, s _ _ h2, h3.same s, h4⟩
theorem LastL.same {a : Ad} {H H' : Hp} {v : V} {l : Option (Int × List Rw)} (h : LastL a H v l) (s : Same H H') : LastL a H' v l := h.tk (fun x ts e => s _ _ e) fun y _ o e => s _ _ e
theorem sameV_up {H : Hp} : ∀ {n : Nat} {x y : V}, SameV H n x y → SameV H (n + 1) x y
  | 0, _, _, h => .inl h
  | n + 1, x, y, h => by
    rcases h with h | ⟨p, q, xs, ys, e1, e2, h1, h2, hz, h3⟩
    · exact .inl h
    · exact .inr ⟨p, q, xs, ys, e1, e2, h1, h2, hz, fun i x y a b => sameV_up (h3 i x y a b)⟩
def spStands (K : PySem.W.Frag) : Sp := fun vs H Q _ => ∃ (a : Ad) (d : Da), vs = [.ref a.b, .ref a.w] ∧ StAt K H a d ∧ d.oask = [] ∧ d.eask = [] ∧ d.elast = d.olast ∧ d.ehist = d.ohist ∧ ∀ H', Same H H' → Q (.bl true) H' 
abbrev N_L_stands : List Str := ["_law_book", "_law_w", "_law_names_here", "_law_found", "_law_due", "_law_name", "_law_own"]
theorem sc_L_stands : FnScope N_L_stands ["_law_book", "_law_w"] (defScope Hd.sL_stands) := ⟨rfl, rfl, rfl, by decide +kernel, rfl, by decide +kernel, by decide +kernel⟩
theorem ok_L_stands (T : Hd.Tx K mg) : Cal P w K mg base 8 "_law_stands" ((spStands K)) := by
  obtain ⟨fd, F⟩ := T.d_L_stands
  have sc := sc_L_stands
  have C_L_asked_now := ok_L_asked_now (P := P) (w := w) (base := base) T
  have C_Book_history := ok_Book_history (P := P) (w := w) (base := base) T
  have C_Book_last := ok_Book_last (P := P) (w := w) (base := base) T
  have C_Book_asked := ok_Book_asked (P := P) (w := w) (base := base) T
  have C_Book_names := ok_Book_names (P := P) (w := w) (base := base) T
  have C_L_same := ok_L_same (P := P) (w := w) (base := base) T
  have C_Book_len := ok_Book_len (P := P) (w := w) (base := base) T
  refine calD F T.g_L_stands sc (fun vs H Q E h => ?_) (fun _ _ _ _ _ _ us hl => match us, hl with | [_, _], _ => rfl) (fun cdv A outer s H vs Q E hr h => ?_)
  · obtain ⟨a, d, rfl, _⟩ := h; rfl
  · obtain ⟨a, d, rfl, S, hk, he, hel, heh, k⟩ := h
    refine ⟨_, (pss_cons (sn 2 sc.nd (pe_callB (call_sortedD (by rfl)) (by rfl) T.f_sorted (by decide +kernel) (pa_cons (pe_dget (hu_of hr) (pv 1) pe_str (fun _ _ => rfl)) pa_nil)))
      (pss_cons (ps_par (i := 3) (j := 4) rfl sc.nd rfl rfl (by decide) rfl rfl (pa_cons (pe_lst (pa_cons (pm0 C_Book_names hr (by decide) (pv 0)) (pa_cons (pe_callB (call_lenI C_Book_len hr (by decide)) (by rfl) T.f_len (by decide +kernel) (pa_cons (pv 0) pa_nil)) pa_nil))) (pa_cons (pe_lst (pa_cons (pv 2) (pa_cons (pe_callB call_len (by rfl) T.f_len (by decide +kernel) (pa_cons (pv 2) pa_nil)) pa_nil))) pa_nil)) (by rfl))
      (pss_cons (ps_for PassesOwn.never rfl (pi_list (pv 2)) (gn 5 sc.nd) (pss_cons (sn 6 sc.nd (pe_dget (hu_of hr) (pe_dget (hu_of hr) (pv 1) pe_str (fun _ _ => rfl)) (pv 5) (fun _ _ => rfl)))
      (pss_cons (sn 3 sc.nd (pe_op op_cat (pv 3) (pe_lst (pa_cons (pm C_Book_asked hr (by decide) (pv 0) (pa_cons (pv 5) pa_nil)) (pa_cons (pm C_Book_last hr (by decide) (pv 0) (pa_cons (pv 5) pa_nil)) (pa_cons (pm C_Book_history hr (by decide) (pv 0) (pa_cons (pv 5) pa_nil)) pa_nil))))))
      (pss_one (sn 4 sc.nd (pe_op op_cat (pv 4) (pe_lst (pa_cons (pc C_L_asked_now hr (by decide) (pa_cons (pv 1) (pa_cons (pv 5) pa_nil))) (pa_cons (pe_dget (hu_of hr) (pv 6) pe_str (fun _ _ => rfl)) (pa_cons (pe_dget (hu_of hr) (pv 6) pe_str (fun _ _ => rfl)) pa_nil))))))))))
      (pss_one (ps_ret (pc (C_L_same 5) hr (by decide) (pa_cons (pv 3) (pa_cons (pv 4) pa_nil)))))))), ?_⟩
    have hvk : valV [((Sum.inr d.name : Key), V.ref a.own)] (.inr d.name) = some (.ref a.own) := valV_pos rfl
    obtain ⟨lv, eO, hL⟩ := S.ownat
    obtain ⟨dx, fs, eB, F⟩ := S.book
    try dsimp only [cxOf]
    walk_at "go"
    
    refine r_dgetv (k := .inr "known") S.wat w_known ?_
    walk_at "go"
    refine ⟨a.kd, _, [d.name], rfl, .inl S.kdat, rfl, by show 1 < 64; decide, fun ys p0 hp _ np0 => ?_⟩
    rw [List.perm_singleton.mp hp]
    generalize hh9 : upd H p0 _ = H1
    have s1 : Same H H1 := hh9 ▸ Same.new np0
    have e1 : H1 p0 = some (.lst [.str d.name]) := (congrFun hh9 p0).symm.trans upd_same
    clear hh9
    have S1 := S.same s1
    walk_at "go"
    refine ⟨a.b, dx, fs, rfl, s1 _ _ eB, F.n6, ?_⟩
    walk_at "go"
    refine ⟨a, d, rfl, S1, fun p1 H2 np1 eH2 => ?_⟩
    have s2 : Same H1 H2 := eH2 ▸ Same.new np1
    have e2 : H2 p1 = some (.lst [.str d.name]) := eH2 ▸ upd_same
    clear eH2
    have S2 := S1.same s2
    walk_at "go"
    refine ⟨a.b, dx, fs, rfl, s2 _ _ (s1 _ _ eB), a, d, rfl, S2, 1, rfl, by decide, by decide, ?_⟩
    walk_at "go"
    refine fun f0 nf0 => ?_
    generalize hh : upd H2 f0 _ = H3
    have s3 : Same H2 H3 := hh ▸ Same.new nf0
    have e3 : H3 f0 = some _ := hh ▸ upd_same
    clear hh
    walk_at "go"
    refine r_lenL (.of (s3 _ _ (s2 _ _ e1))) ?_
    walk_at "go"
    refine fun g0 ng0 => ?_
    generalize hh : upd H3 g0 _ = H4
    have s4 : Same H3 H4 := hh ▸ Same.new ng0
    have e4 : H4 g0 = some _ := hh ▸ upd_same
    clear hh
    have s24 : Same H2 H4 := Same.trans s3 s4
    have s04 : Same H H4 := Same.trans s1 (Same.trans s2 s24)
    have e1' := s24 _ _ (s2 _ _ e1)
    have e2' := s24 _ _ e2
    have e3' := s4 _ _ e3
    have S4 := S.same s04
    walk_at "go"
    refine ⟨p0, rfl, ⟨_, .of e1'⟩, ?_⟩
    refine for_it (walk_list (xs := [.str d.name])) (fun i σ H5 => Same H4 H5 ∧ ∃ u1 u2 fp gp ff gg, σ = [some (.ref a.b), some (.ref a.w), some (.ref p0), some (.ref fp), some (.ref gp), u1, u2] ∧ H5 fp = some (.lst ff) ∧ H5 gp = some (.lst gg) ∧ (i = 0 → ff = [.ref p1, .int 1] ∧ gg = [.ref p0, .int 1]) ∧ (i = 1 → ff.length = gg.length ∧ ff.length ≤ 100 ∧ ∀ (j : Nat) (x y : V), ff[j]? = some x → gg[j]? = some y → SameV H5 4 x y)) ⟨Same.refl _, _, _, f0, g0, _, _, rfl, e3', e4, fun _ => ⟨rfl, rfl⟩, fun z => by cases z⟩ (fun i σ H5 _ p => .of (p.1 _ _ e1')) (fun i x σ H5 H6 hi p y => ?_) (fun σ H5 p => ?_)
    · obtain ⟨s5, u1, u2, fp, gp, ff, gg, rfl, ef, eg, h0, _⟩ := p
      obtain ⟨rfl, hx⟩ := y
      have hi0 : i = 0 := by have : i < 1 := hi; omega
      subst hi0
      obtain ⟨rfl, rfl⟩ := h0 rfl
      obtain rfl := Option.some.inj hx
      have S5 := S4.same s5
      have s05 := Same.trans s04 s5
      walk_at "go"
      refine r_dgetv (k := .inr "known") S5.wat w_known ?_
      walk_at "go"
      refine r_dgetv (k := .inr d.name) S5.kdat hvk ?_
      walk_at "go"
      refine ⟨a.b, dx, fs, rfl, s05 _ _ eB, F.n7, ?_⟩
      walk_at "go"
      refine ⟨a, d, rfl, S5, he, fun p7 H7 np7 eH7 => ?_⟩
      have s7 : Same H6 H7 := eH7 ▸ Same.new np7
      have e7 : H7 p7 = some (.lst []) := eH7 ▸ upd_same
      clear eH7
      have S7 := S5.same s7
      have s07 := Same.trans s05 s7
      walk_at "go"
      refine ⟨a.b, dx, fs, rfl, s07 _ _ eB, F.n8, ?_⟩
      walk_at "go"
      refine ⟨a, d, rfl, S7, fun v8 H8 s8 hv8 => ?_⟩
      have S8 := S7.same s8
      have s08 := Same.trans s07 s8
      walk_at "go"
      refine ⟨a.b, dx, fs, rfl, s08 _ _ eB, F.n9, ?_⟩
      walk_at "go"
      refine ⟨a, d, rfl, S8, fun p9 hs9 H9 s9 e9 hist9 => ?_⟩
      have S9 := S8.same s9
      have s09 := Same.trans s08 s9
      walk_at "go"
      refine fun t9 nt9 => ?_
      generalize hh : upd H9 t9 _ = H10
      have s10 : Same H9 H10 := hh ▸ Same.new nt9
      have e10 : H10 t9 = some _ := hh ▸ upd_same
      clear hh
      walk_at "go"
      have sf10 : Same H6 H10 := Same.trans s7 (Same.trans s8 (Same.trans s9 s10))
      refine ⟨fp, t9, _, _, rfl, rfl, sf10 _ _ ef, e10, size_le (by show 2 + 3 ≤ 100000; decide), ?_⟩
      refine fun fq nfq => ?_
      generalize hh : upd H10 fq _ = H11
      have s11 : Same H10 H11 := hh ▸ Same.new nfq
      have e11 : H11 fq = some _ := hh ▸ upd_same
      clear hh
      walk_at "go"
      have s011 : Same H H11 := Same.trans s09 (Same.trans s10 s11)
      have S11 := S.same s011
      refine ⟨a, d, [], rfl, S11, hk, Nat.zero_le _, fun p12 H12 s12 np12 e12 => ?_⟩
      have s012 := Same.trans s011 s12
      walk_at "go"
      refine r_dgetv (k := .inr "last") (s012 _ _ eO) own_last ?_
      walk_at "go"
      refine r_dgetv (k := .inr "history") (s012 _ _ eO) own_history ?_
      walk_at "go"
      refine fun t13 nt13 => ?_
      generalize hh : upd H12 t13 _ = H13
      have s13 : Same H12 H13 := hh ▸ Same.new nt13
      have e13 : H13 t13 = some _ := hh ▸ upd_same
      clear hh
      walk_at "go"
      have sg13 : Same H6 H13 := Same.trans sf10 (Same.trans s11 (Same.trans s12 s13))
      refine ⟨gp, t13, _, _, rfl, rfl, sg13 _ _ eg, e13, size_le (by show 2 + 3 ≤ 100000; decide), ?_⟩
      refine fun gq ngq => ?_
      generalize hh : upd H13 gq _ = H14
      have s14 : Same H13 H14 := hh ▸ Same.new ngq
      have e14 : H14 gq = some _ := hh ▸ upd_same
      clear hh
      walk_at "go"
      have s1114 : Same H11 H14 := Same.trans s12 (Same.trans s13 s14)
      have s1014 := Same.trans s11 s1114
      have s914 := Same.trans s10 s1014
      have s614 : Same H6 H14 := Same.trans sf10 s1014
      have s014 : Same H H14 := Same.trans s05 s614
      have S14 := S.same s014
      refine ⟨Same.trans s5 s614, _, _, fq, gq, _, _, rfl, s1114 _ _ e11, e14, (fun z => nomatch z), fun _ => ⟨rfl, (by show 5 ≤ 100; decide), fun j x y f1 f2 => ?_⟩⟩
      have oe1 := (Same.trans s5 s614) _ _ e1'
      have oe2 := (Same.trans s5 s614) _ _ e2'
      obtain ⟨hs, eohi, fohi⟩ := S14.ohiat
      have e914 := s914 _ _ e9
      have hi14 : HistAt H14 hs9 d.ehist := hist9.tk fun x ts e => s914 _ _ e
      match j, f1, f2 with
      | 0, f1, f2 =>
        cases Option.some.inj f1
        cases Option.some.inj f2
        refine .inr ⟨p1, p0, _, _, rfl, rfl, .inl ⟨oe2, oe1⟩, rfl, by show 1 ≤ 10000; decide, fun i x y g1 g2 => ?_⟩
        rw [g1] at g2
        cases g2
        match i, g1 with
        | 0, g1 => exact .inl (.inr (.inl ⟨d.name, (Option.some.inj g1).symm, (Option.some.inj g1).symm⟩))
      | 1, f1, f2 =>
        cases Option.some.inj f1
        cases Option.some.inj f2
        exact .inl (.inl ⟨1, rfl, rfl⟩)
      | 2, f1, f2 =>
        cases Option.some.inj f1
        cases Option.some.inj f2
        exact .inr ⟨p7, p12, _, _, rfl, rfl, .inl ⟨(Same.trans s8 (Same.trans s9 s914)) _ _ e7, (Same.trans s13 s14) _ _ e12⟩, rfl, Nat.zero_le _, fun i x y g1 g2 => by simp at g1⟩
      | 3, f1, f2 =>
        cases Option.some.inj f1
        cases Option.some.inj f2
        exact same_last (a := a) (LastV.same hv8 (Same.trans s9 s914)) (by rw [hel]; exact LastL.same (a := a) hL s014) S.el
      | 4, f1, f2 =>
        cases Option.some.inj f1
        cases Option.some.inj f2
        refine .inr ⟨p9, a.ohi, _, _, rfl, rfl, .inl ⟨e914, eohi⟩, ?_, ?_, fun i x y g1 g2 => ?_⟩
        · rw [List.length_map, List.length_map, hi14.1, fohi.1, heh]
        · rw [List.length_map, hi14.1]; exact Nat.le_trans S.eh (by decide)
        · exact sameV_up (same_hist (heh ▸ hi14) fohi i x y g1 g2)
    · obtain ⟨s5, u1, u2, fp, gp, ff, gg, rfl, ef, eg, _, h1⟩ := p
      obtain ⟨g1, g2, g3⟩ := h1 rfl
      walk_at "go"
      refine ⟨.ref fp, .ref gp, rfl, .inr ⟨fp, gp, ff, gg, rfl, rfl, .inl ⟨ef, eg⟩, g1, Nat.le_trans g2 (by decide), g3⟩, fun H6 s6 => ?_⟩
      walk_at "go"
      exact k _ (Same.trans s04 (Same.trans s5 s6))
end
end Fx

/-! B10: defs and their promises -/
namespace Fx
open PySem PySem.Spec PyProof.Rows L2 Sv Mr
section
variable {P : Program} {w : World} {K : PySem.W.Frag} {mg : Str → Option Value} {base : Heap}
local macro_rules | `(tactic| walk_at "go") => `(tactic| repeat (first
  | with_reducible refine r_seq ?_ | with_reducible refine r_asg ?_ | with_reducible refine r_gn ?_ | with_reducible refine r_ret ?_ | with_reducible refine r_ifS ?_
  | ((with_reducible refine' r_var ?kv ?_); (case kv => exact rfl)) | with_reducible refine r_c ?_ | with_reducible refine r_op ?_ | with_reducible refine r_I0 ?_ | with_reducible refine r_cons ?_ | with_reducible refine r_nil ?_
  | with_reducible refine r_cb ?_ | with_reducible refine r_call ?_ | with_reducible refine r_test ?_ | with_reducible refine r_tB ?_ | with_reducible refine r_k ?_ | with_reducible refine r_or ?_ | with_reducible refine r_and ?_ | with_reducible refine r_not ?_
  | with_reducible refine r_andV ?_ | with_reducible refine r_orV ?_ | with_reducible refine r_notV ?_ | with_reducible refine r_if ?_ | with_reducible refine r_T ?_ | with_reducible refine r_F ?_ | with_reducible refine r_Tn ?_ | with_reducible refine r_Fn ?_
  | with_reducible refine r_isiS ?_ | with_reducible refine r_isiI ?_ | with_reducible refine r_isiIB ?_ | with_reducible refine r_chain ?_ | with_reducible refine r_un ?_ | with_reducible refine r_drop ?_ | with_reducible refine r_tup ?_ | with_reducible refine r_lst ?_
  | ((with_reducible refine' r_eq ?kv ?_); (case kv => exact rfl)) | ((with_reducible refine' r_ne ?kv ?_); (case kv => exact rfl)) | with_reducible refine r_nx ?_ | with_reducible refine r_retN ?_ | with_reducible refine r_yes ?_ | ((with_reducible refine' r_I ?kd ?_); (case kd => first | exact Or.inr ⟨by decide, by decide⟩ | exact ⟨by decide, by decide⟩ | exact ⟨by decide, by decide, by decide⟩ | (show (0 : Int) < _; first | decide | omega)))
  | with_reducible refine r_dget ?_ | with_reducible refine r_din ?_ | with_reducible refine r_ndin ?_ | with_reducible refine r_dput ?_ | with_reducible refine r_mk ?_ | with_reducible refine r_dpop ?_ | with_reducible refine r_mkN ?_ | with_reducible refine r_disp ?_ | with_reducible refine r_dnew ?_ | with_reducible refine r_pcons ?_ | with_reducible refine r_pnil ?_ | with_reducible refine r_gCons ?_ | with_reducible refine r_gNil ?_ | with_reducible refine r_tPar ?_ | with_reducible refine r_par ?_ | with_reducible refine r_tPar3 ?_ | with_reducible refine r_par3 ?_ | with_reducible refine r_sl ?_ | with_reducible refine r_part ?_ | with_reducible refine r_parti ?_ | with_reducible refine r_nopart ?_ | with_reducible refine r_gSub ?_ | with_reducible refine r_rU ?_ | with_reducible refine r_bm ?_ | ((with_reducible refine' r_tyL ?kd ?_); (case kd => assumption)) | with_reducible refine r_nn ?_ | with_reducible refine r_meth ?_ | with_reducible refine r_methN ?_ | with_reducible refine r_callN ?_ | with_reducible refine r_fld ?_ | with_reducible refine r_lc ?_ | with_reducible refine r_for ?_ | with_reducible refine r_iList ?_ | with_reducible refine r_iTup ?_ | with_reducible refine r_iStr ?_ | with_reducible refine r_iRng1 ?_ | with_reducible refine r_iEnum ?_ | with_reducible refine r_iZip ?_ | with_reducible refine r_iZipA ?_
  | ((with_reducible refine' r_sz ?kz ?_); (case kz => first | decide | (simp only [List.length_cons, List.length_nil]; omega)))
  | ((with_reducible refine' r_isiT ?kd ?_); (case kd => assumption)) | ((with_reducible refine' r_isiL ?kd ?_); (case kd => assumption)) | ((with_reducible refine' r_isiTL ?kd ?_); (case kd => assumption)) | ((with_reducible refine' r_isiLT ?kd ?_); (case kd => assumption))
  | ((with_reducible refine' r_lenT ?kd ?_); (case kd => exact SqT.of (by assumption))) | ((with_reducible refine' r_lenL ?kd ?_); (case kd => exact SqL.of (by assumption)))
  | ((with_reducible refine' r_ixT ?ka ?kb ?_); (case ka => exact SqT.of (by assumption)); (case kb => exact rfl)) | ((with_reducible refine' r_gTup ?ka ?kb ?_); (case ka => exact SqT.of (by assumption)); (case kb => exact rfl))
  | ((with_reducible refine' r_dT ?kd ?_); (case kd => walk_at "pos")) | ((with_reducible refine' r_dF ?kd ?_); (case kd => walk_at "neg")) | ((with_reducible refine' r_ndT ?kd ?_); (case kd => walk_at "neg")) | ((with_reducible refine' r_ndF ?kd ?_); (case kd => walk_at "pos"))
  | ((with_reducible refine' r_pos ?kd ?_); (case kd => with_reducible exact rfl)) | ((with_reducible refine' r_neg ?kd ?_); (case kd => with_reducible exact rfl)) | ((with_reducible refine' r_pos ?kd ?_); (case kd => (with_reducible show _ = true); decide)) | ((with_reducible refine' r_neg ?kd ?_); (case kd => (with_reducible show _ = false); decide))))
local macro_rules | `(tactic| walk_at "pos") => `(tactic| first | assumption | omega | rfl | exact congrArg V.int (by omega) | exact congrArg V.str (by assumption))
local macro_rules | `(tactic| walk_at "neg") => `(tactic| first | assumption | omega | (intro hne; injection hne with hne; first | omega | contradiction | exact absurd hne (by decide +kernel)) | (intro hne; cases hne))

theorem _root_.Mr.QuoteAt.tk {H H' : Hp} {q : Addr} {name : Str} {start num : Int} {vals : List Int} {sign : Int} (h : QuoteAt H q name start num vals sign) (s : TKp H H') : QuoteAt H' q name start num vals sign := by
  obtain ⟨p, ps, a, b, c⟩ := h.ex
  exact ⟨p, ps, s _ _ a, s _ _ b, c.1, fun i x v e1 e2 => s _ _ (c.2 i x v e1 e2)⟩
def Sym (d : Da) : Prop := d.bn = d.wn ∧ d.eask = [] ∧ d.oask = [] ∧ d.elast = d.olast ∧ d.ehist = d.ohist
def spTried (K : PySem.W.Frag) : Sp := fun vs H Q _ => ∃ (v0 : V) (a : Ad) (d : Da) (nl : Addr) (zs : List V) (st : Int) (l : Addr) (qs : List Addr) (rows : List Rw), vs = [v0, .ref a.b, .ref a.w, .ref nl, .int st, .ref l] ∧ StAt K H a d ∧ Sym d ∧ H nl = some (.lst (.str d.name :: zs)) ∧ H l = some (.lst (qs.map V.ref)) ∧ RowsAt H qs rows ∧ (∀ r ∈ rows, RowOk r) ∧ rows.length ≤ 1000 ∧ 0 ≤ st ∧ l ∉ a.L ∧ d.wn < 9000 ∧ d.ehist.length < 900 ∧
  ∀ H' d', StAt K H' a d' → Sym d' → d'.name = d.name → d'.m = d.m → d'.fx = d.fx → d'.wn = d.wn + 1 → d'.ehist.length = d.ehist.length + 1 → d'.olast = (if wordB d.olast d.m d.fx st rows = "good" then some (st, rows) else d.olast) → Kp a.L H H' → Q (.str (wordB d.olast d.m d.fx st rows)) H' 
abbrev N_L_tried : List Str := ["_law_box_here", "_law_book", "_law_w", "_law_names_here", "_law_start", "_law_rows", "_law_name", "_law_own", "_law_quote_here", "_law_due", "_law_found", "_law_told"]
theorem sc_L_tried : FnScope N_L_tried ["_law_box_here", "_law_book", "_law_w", "_law_names_here", "_law_start", "_law_rows"] (defScope Hd.sL_tried) := ⟨rfl, rfl, rfl, by decide +kernel, rfl, by decide +kernel, by decide +kernel⟩
theorem ok_L_tried (T : Hd.Tx K mg) : Cal P w K mg base 14 "_law_tried" ((spTried K)) := by
  obtain ⟨fd, F⟩ := T.d_L_tried
  have sc := sc_L_tried
  have C_L_stands := ok_L_stands (P := P) (w := w) (base := base) T
  have C_Book_last := ok_Book_last (P := P) (w := w) (base := base) T
  have C_Book_take := ok_Book_take (P := P) (w := w) (base := base) T
  have C_L_word := ok_L_word (P := P) (w := w) (base := base) T
  have C_L_quote := ok_L_quote (P := P) (w := w) (base := base) T
  have C_L_pairs_of := ok_L_pairs_of (P := P) (w := w) (base := base) T
  have C_L_ask := ok_L_ask (P := P) (w := w) (base := base) T
  have C_L_same := ok_L_same (P := P) (w := w) (base := base) T
  refine calD F T.g_L_tried sc (fun vs H Q E h => ?_) (fun _ _ _ _ _ _ us hl => match us, hl with | [_, _, _, _, _, _], _ => rfl) (fun cdv A outer s H vs Q E hr h => ?_)
  · obtain ⟨v0, a, d, nl, zs, st, l, qs, rows, rfl, _⟩ := h; rfl
  · obtain ⟨v0, a, d, nl, zs, st, l, qs, rows, rfl, S, Y, hnl, hl, hR, ok, hz, s0, hlL, hwn, heh, k⟩ := h
    refine ⟨_, (pss_cons (sn 6 sc.nd (pe_ix (ixL K) (pv 3) pe_int (fun _ _ => rfl)))
      (pss_cons (sn 7 sc.nd (pe_dget (hu_of hr) (pe_dget (hu_of hr) (pv 2) pe_str (fun _ _ => rfl)) (pv 6) (fun _ _ => rfl)))
      (pss_cons (ps_if (pt_not (pt_val (pc C_L_ask hr (by decide) (pa_cons (pv 1) (pa_cons (pv 2) (pa_cons (pv 6) pa_nil)))))) (pss_one (ps_ret pe_str)) pss_nil)
      (pss_cons (sn 8 sc.nd (pc C_L_quote hr (by decide) (pa_cons (pe_dget (hu_of hr) (pv 7) pe_str (fun _ _ => rfl)) (pa_cons (pv 6) (pa_cons (pv 4) (pa_cons (pe_op op_sub (pe_dget (hu_of hr) (pv 2) pe_str (fun _ _ => rfl)) pe_int) (pa_cons (pc C_L_pairs_of hr (by decide) (pa_cons (pv 7) (pa_cons (pv 5) pa_nil))) pa_nil)))))))
      (pss_cons (sn 9 sc.nd (pc C_L_word hr (by decide) (pa_cons (pv 2) (pa_cons (pv 8) (pa_cons (pv 5) pa_nil)))))
      (pss_cons (sn 10 sc.nd (pm C_Book_take hr (by decide) (pv 1) (pa_cons (pv 8) (pa_cons (pe_callTy call_list_of (by rfl) T.f_list (by decide +kernel) (pa_cons (pv 5) pa_nil)) pa_nil))))
      (pss_cons (sn 11 sc.nd (pm C_Book_last hr (by decide) (pv 1) (pa_cons (pv 6) pa_nil)))
      (pss_cons (ps_if (pt_val (pe_callB call_isi (by rfl) T.f_isinstance (by decide +kernel) (pa_cons (pv 11) (pa_cons (pe_gTy (n := "tuple") T.f_tuple (by decide +kernel)) pa_nil)))) (pss_one (ps_expr (pe_bm PySem.F.plainAttrs_list PySem.F.slot_list_append PySem.F.type_list_append mt_append (pe_ix (ixT K) (pv 11) pe_int (fun _ _ => rfl)) (pa_cons pe_non pa_nil)))) pss_nil)
      (pss_one (ps_ret (pe_ifExp (PW.pt (pw_and (pt_val (pc (C_L_same 0) hr (by decide) (pa_cons (pv 10) (pa_cons (pv 9) pa_nil)))) (pw_and1 (pt_val (pc C_L_stands hr (by decide) (pa_cons (pv 1) (pa_cons (pv 2) pa_nil))))))) (pv 10) pe_str))))))))))), ?_⟩
    have hvk : valV [((Sum.inr d.name : Key), V.ref a.own)] (.inr d.name) = some (.ref a.own) := valV_pos rfl
    obtain ⟨y1, y2, y3, y4, y5⟩ := Y
    have wn0 := S.wn0
    have m8 := S.m8
    have lsh := shown_length d.hw rows d.m
    have hbn : d.bn = d.wn := y1
    try dsimp only [cxOf]
    walk_at "go"
    
    refine r_ixL (.of hnl) (v := .str d.name) (show atI (V.str d.name :: zs) 0 = _ from by unfold atI ixN; simp) ?_
    walk_at "go"
    refine r_dgetv (k := .inr "known") S.wat w_known ?_
    walk_at "go"
    refine r_dgetv (k := .inr d.name) S.kdat hvk ?_
    walk_at "go"
    refine ⟨a, d, rfl, S, y3, y2, hbn, by omega, fun H1 S1 k1 => ?_⟩
    walk_at "go"
    have hl1 := k1 _ _ hl hlL
    have hR1 : RowsAt H1 qs rows := hR.tk (S.tk k1)
    obtain ⟨lv1, eO1, hL1⟩ := S1.ownat
    refine r_dgetv (k := .inr "key") eO1 own_key ?_
    walk_at "go"
    refine r_dgetv (k := .inr "next") S1.wat w_next ?_
    walk_at "go"
    refine ⟨a, _, l, qs, rows, rfl, S1, hl1, hR1, ok, hz, fun p2 ts2 H2 s2 np2 e2 P2 => ?_⟩
    have S2 := S1.same s2
    walk_at "go"
    refine ⟨d.key, d.name, st, d.wn + 1 - 1, p2, ts2, _, rfl, S.nm, .inl e2, P2, by show (Mr.shown d.hw rows d.m).length ≤ 100; omega, fun q3 H3 s3 nq3 hq3 => ?_⟩
    rw [show d.wn + 1 - 1 = d.wn by omega] at hq3
    have S3 := S2.same s3
    have s13 := Same.trans s2 s3
    walk_at "go"
    have hl3 := s13 _ _ hl1
    have hR3 : RowsAt H3 qs rows := hR1.same s13
    refine ⟨a, _, q3, st, d.wn, l, qs, rows, rfl, S3, hq3, rfl, hl3, hR3, ok, hz, s0, by show d.ohist.length < 1000; rw [← y5]; omega, hlL, fun H4 S4 k4 => ?_⟩
    walk_at "go"
    have hq4 : QuoteAt H4 q3 d.name st d.wn (Mr.shown d.hw rows d.m) (signOf d.key d.name st d.wn (Mr.shown d.hw rows d.m)) := hq3.tk (S3.tk k4)
    have hl4 := k4 _ _ hl3 hlL
    have hR4 : RowsAt H4 qs rows := hR3.tk (S3.tk k4)
    obtain ⟨dx4, fs4, eB4, F4⟩ := S4.book
    refine ⟨a.b, dx4, fs4, rfl, eB4, F4.n5, ?_⟩
    walk_at "go"
    refine ⟨l, _, rfl, .inl (.of hl4), ?_⟩
    refine fun l5 nl5 => ?_
    generalize hh : upd H4 l5 _ = H5
    have s5 : Same H4 H5 := hh ▸ Same.new nl5
    have e5 : H5 l5 = some _ := hh ▸ upd_same
    clear hh
    walk_at "go"
    have S5 := S4.same s5
    have evv : (valV (askK [d.wn]) (.inl d.wn)).isSome = true := by rw [askK_val (List.mem_singleton.mpr rfl)]; rfl
    refine ⟨a, _, q3, st, d.wn, l5, qs, rows, rfl, S5, hq4.same s5, wn0, e5, hR4.same s5, ok, hz, s0, evv, by show d.ehist.length < 1000; omega, fun H6 S6 k6 => ?_⟩
    have KK6 : Kp a.L H H6 := k1.trans ((Same.kp s13).trans (k4.trans ((Same.kp s5).trans k6)))
    rw [← y4] at S6
    generalize hwd : wordB d.elast d.m d.fx st rows = wd at S6
    have hwd2 : wordB d.olast d.m d.fx st rows = wd := by rw [← y4]; exact hwd
    walk_at "go"
    have S6' : StAt K H6 a ({ d with bn := d.wn + 1, wn := d.wn + 1, eask := [], oask := [], elast := (if wd = "good" then some (st, rows) else d.elast), olast := (if wd = "good" then some (st, rows) else d.elast), ehist := d.ehist ++ [(d.wn, wd)], ohist := d.ehist ++ [(d.wn, wd)] } : Da) := by
      dsimp only at S6
      rw [drop1, ← y5] at S6
      exact S6
    obtain ⟨dx6, fs6, eB6, F6⟩ := S6'.book
    refine ⟨a.b, dx6, fs6, rfl, eB6, F6.n8, ?_⟩
    walk_at "go"
    refine ⟨a, ({ d with bn := d.wn + 1, wn := d.wn + 1, eask := [], oask := [], elast := (if wd = "good" then some (st, rows) else d.elast), olast := (if wd = "good" then some (st, rows) else d.elast), ehist := d.ehist ++ [(d.wn, wd)], ohist := d.ehist ++ [(d.wn, wd)] } : Da), rfl, S6', fun v7 H7 s7 hv7 => ?_⟩
    walk_at "go"
    have hv7' : LastV H6 H7 v7 (if wd = "good" then some (st, rows) else d.elast) := hv7
    cases hle : (if wd = "good" then some (st, rows) else d.elast) with
    | none =>
      rw [hle] at hv7'
      obtain rfl : v7 = .non := hv7'
      have SX := S6'.same s7
      have sX := s7
      refine r_isi (.ty _) (.base .non) (kit_ty (b := "tuple") (r := false) (by decide +kernel)) ?_
      walk_at "go"
      refine ⟨.str wd, .str _, rfl, .inr (.inl ⟨wd, rfl, congrArg V.str hwd2⟩), fun H9 s9 => ?_⟩
      walk_at "go"
      refine ⟨a, ({ d with bn := d.wn + 1, wn := d.wn + 1, eask := [], oask := [], elast := (if wd = "good" then some (st, rows) else d.elast), olast := (if wd = "good" then some (st, rows) else d.elast), ehist := d.ehist ++ [(d.wn, wd)], ohist := d.ehist ++ [(d.wn, wd)] } : Da), rfl, SX.same s9, rfl, rfl, rfl, rfl, fun H10 s10 => ?_⟩
      walk_at "go"
      rw [hwd2] at k
      exact k _ _ (SX.same (Same.trans s9 s10)) ⟨rfl, rfl, rfl, rfl, rfl⟩ rfl rfl rfl rfl (by show (d.ehist ++ _).length = _; rw [List.length_append]; rfl) (by show (if wd = "good" then some (st, rows) else d.elast) = _; rw [y4]) (KK6.trans (Same.kp (Same.trans sX (Same.trans s9 s10))))
    
    | some x =>
      obtain ⟨x1, x2⟩ := x
      rw [hle] at hv7'
      obtain ⟨p7, t7, qs7, rfl, ep7, et7, R7, _, nt7⟩ := hv7'
      have lk7 : x2.length ≤ 1000 := by
        have h := S6'.el
        rw [show (({ d with bn := d.wn + 1, wn := d.wn + 1, eask := [], oask := [], elast := (if wd = "good" then some (st, rows) else d.elast), olast := (if wd = "good" then some (st, rows) else d.elast), ehist := d.ehist ++ [(d.wn, wd)], ohist := d.ehist ++ [(d.wn, wd)] } : Da)).elast = some (x1, x2) from hle] at h
        exact h.2.2
      walk_at "go"
      refine r_append et7 (by rw [List.length_map, R7.1]; exact Nat.le_trans lk7 (by decide)) ?_
      have sX : Same H6 (upd H7 t7 (.lst (qs7.map V.ref ++ [.non]))) := Same.own s7 nt7
      have SX := S6'.same sX
      generalize upd H7 t7 _ = H8 at sX SX
      walk_at "go"
      refine ⟨.str wd, .str _, rfl, .inr (.inl ⟨wd, rfl, congrArg V.str hwd2⟩), fun H9 s9 => ?_⟩
      walk_at "go"
      refine ⟨a, ({ d with bn := d.wn + 1, wn := d.wn + 1, eask := [], oask := [], elast := (if wd = "good" then some (st, rows) else d.elast), olast := (if wd = "good" then some (st, rows) else d.elast), ehist := d.ehist ++ [(d.wn, wd)], ohist := d.ehist ++ [(d.wn, wd)] } : Da), rfl, SX.same s9, rfl, rfl, rfl, rfl, fun H10 s10 => ?_⟩
      walk_at "go"
      rw [hwd2] at k
      exact k _ _ (SX.same (Same.trans s9 s10)) ⟨rfl, rfl, rfl, rfl, rfl⟩ rfl rfl rfl rfl (by show (d.ehist ++ _).length = _; rw [List.length_append]; rfl) (by show (if wd = "good" then some (st, rows) else d.elast) = _; rw [y4]) (KK6.trans (Same.kp (Same.trans sX (Same.trans s9 s10))))
end
end Fx

/-! B11: defs and their promises -/
namespace Fx
open PySem PySem.Spec PyProof.Rows L2 Sv Mr
section
variable {P : Program} {w : World} {K : PySem.W.Frag} {mg : Str → Option Value} {base : Heap}
local macro_rules | `(tactic| walk_at "go") => `(tactic| repeat (first
  | with_reducible refine r_seq ?_ | with_reducible refine r_asg ?_ | with_reducible refine r_gn ?_ | with_reducible refine r_ret ?_ | with_reducible refine r_ifS ?_
  | ((with_reducible refine' r_var ?kv ?_); (case kv => exact rfl)) | with_reducible refine r_c ?_ | with_reducible refine r_op ?_ | with_reducible refine r_I0 ?_ | with_reducible refine r_cons ?_ | with_reducible refine r_nil ?_
  | with_reducible refine r_cb ?_ | with_reducible refine r_call ?_ | with_reducible refine r_test ?_ | with_reducible refine r_tB ?_ | with_reducible refine r_k ?_ | with_reducible refine r_or ?_ | with_reducible refine r_and ?_ | with_reducible refine r_not ?_
  | with_reducible refine r_andV ?_ | with_reducible refine r_orV ?_ | with_reducible refine r_notV ?_ | with_reducible refine r_if ?_ | with_reducible refine r_T ?_ | with_reducible refine r_F ?_ | with_reducible refine r_Tn ?_ | with_reducible refine r_Fn ?_
  | with_reducible refine r_isiS ?_ | with_reducible refine r_isiI ?_ | with_reducible refine r_isiIB ?_ | with_reducible refine r_chain ?_ | with_reducible refine r_un ?_ | with_reducible refine r_drop ?_ | with_reducible refine r_tup ?_ | with_reducible refine r_lst ?_
  | ((with_reducible refine' r_eq ?kv ?_); (case kv => exact rfl)) | ((with_reducible refine' r_ne ?kv ?_); (case kv => exact rfl)) | with_reducible refine r_nx ?_ | with_reducible refine r_retN ?_ | with_reducible refine r_yes ?_ | ((with_reducible refine' r_I ?kd ?_); (case kd => first | exact Or.inr ⟨by decide, by decide⟩ | exact ⟨by decide, by decide⟩ | exact ⟨by decide, by decide, by decide⟩ | (show (0 : Int) < _; first | decide | omega)))
  | with_reducible refine r_dget ?_ | with_reducible refine r_din ?_ | with_reducible refine r_ndin ?_ | with_reducible refine r_dput ?_ | with_reducible refine r_mk ?_ | with_reducible refine r_dpop ?_ | with_reducible refine r_mkN ?_ | with_reducible refine r_disp ?_ | with_reducible refine r_dnew ?_ | with_reducible refine r_pcons ?_ | with_reducible refine r_pnil ?_ | with_reducible refine r_gCons ?_ | with_reducible refine r_gNil ?_ | with_reducible refine r_tPar ?_ | with_reducible refine r_par ?_ | with_reducible refine r_tPar3 ?_ | with_reducible refine r_par3 ?_ | with_reducible refine r_sl ?_ | with_reducible refine r_part ?_ | with_reducible refine r_parti ?_ | with_reducible refine r_nopart ?_ | with_reducible refine r_gSub ?_ | with_reducible refine r_rU ?_ | with_reducible refine r_bm ?_ | ((with_reducible refine' r_tyL ?kd ?_); (case kd => assumption)) | with_reducible refine r_nn ?_ | with_reducible refine r_meth ?_ | with_reducible refine r_methN ?_ | with_reducible refine r_callN ?_ | with_reducible refine r_fld ?_ | with_reducible refine r_lc ?_ | with_reducible refine r_for ?_ | with_reducible refine r_iList ?_ | with_reducible refine r_iTup ?_ | with_reducible refine r_iStr ?_ | with_reducible refine r_iRng1 ?_ | with_reducible refine r_iEnum ?_ | with_reducible refine r_iZip ?_ | with_reducible refine r_iZipA ?_
  | ((with_reducible refine' r_sz ?kz ?_); (case kz => first | decide | (simp only [List.length_cons, List.length_nil]; omega)))
  | ((with_reducible refine' r_isiT ?kd ?_); (case kd => assumption)) | ((with_reducible refine' r_isiL ?kd ?_); (case kd => assumption)) | ((with_reducible refine' r_isiTL ?kd ?_); (case kd => assumption)) | ((with_reducible refine' r_isiLT ?kd ?_); (case kd => assumption))
  | ((with_reducible refine' r_lenT ?kd ?_); (case kd => exact SqT.of (by assumption))) | ((with_reducible refine' r_lenL ?kd ?_); (case kd => exact SqL.of (by assumption)))
  | ((with_reducible refine' r_ixT ?ka ?kb ?_); (case ka => exact SqT.of (by assumption)); (case kb => exact rfl)) | ((with_reducible refine' r_gTup ?ka ?kb ?_); (case ka => exact SqT.of (by assumption)); (case kb => exact rfl))
  | ((with_reducible refine' r_dT ?kd ?_); (case kd => walk_at "pos")) | ((with_reducible refine' r_dF ?kd ?_); (case kd => walk_at "neg")) | ((with_reducible refine' r_ndT ?kd ?_); (case kd => walk_at "neg")) | ((with_reducible refine' r_ndF ?kd ?_); (case kd => walk_at "pos"))
  | ((with_reducible refine' r_pos ?kd ?_); (case kd => with_reducible exact rfl)) | ((with_reducible refine' r_neg ?kd ?_); (case kd => with_reducible exact rfl)) | ((with_reducible refine' r_pos ?kd ?_); (case kd => (with_reducible show _ = true); decide)) | ((with_reducible refine' r_neg ?kd ?_); (case kd => (with_reducible show _ = false); decide))))
local macro_rules | `(tactic| walk_at "pos") => `(tactic| first | assumption | omega | rfl | exact congrArg V.int (by omega) | exact congrArg V.str (by assumption))
local macro_rules | `(tactic| walk_at "neg") => `(tactic| first | assumption | omega | (intro hne; injection hne with hne; first | omega | contradiction | exact absurd hne (by decide +kernel)) | (intro hne; cases hne))

theorem _root_.Mr.RowsAt.drop {H : Hp} {ps : List Addr} {rows : List Rw} (h : RowsAt H ps rows) (n : Nat) : RowsAt H (ps.drop n) (rows.drop n) := by
  refine ⟨by rw [List.length_drop, List.length_drop, h.1], fun i p r e1 e2 => ?_⟩
  rw [List.getElem?_drop] at e1 e2
  exact h.2 _ p r e1 e2
theorem _root_.Mr.RowsAt.app {H : Hp} {ps qs : List Addr} {rows rows2 : List Rw} (h : RowsAt H ps rows) (h2 : RowsAt H qs rows2) : RowsAt H (ps ++ qs) (rows ++ rows2) := by
  refine ⟨by rw [List.length_append, List.length_append, h.1, h2.1], fun i p r e1 e2 => ?_⟩
  by_cases c : i < ps.length
  · rw [List.getElem?_append_left c] at e1
    rw [List.getElem?_append_left (h.1 ▸ c)] at e2
    exact h.2 i p r e1 e2
  · rw [List.getElem?_append_right (by omega)] at e1
    rw [List.getElem?_append_right (by have := h.1; omega)] at e2
    rw [← h.1] at e2
    exact h2.2 _ p r e1 e2
theorem cut_take {ps : List Addr} {k : Int} (h0 : 0 ≤ k) (h1 : k ≤ ps.length) : cutV (ps.map V.ref) none (some k) = (ps.take k.toNat).map V.ref := by
  obtain ⟨m, rfl⟩ : ∃ m : Nat, k = (m : Int) := ⟨k.toNat, by omega⟩
  rw [cutV_to, List.length_map, Nat.min_eq_left (by omega), List.map_take]
  rfl
theorem cut_drop {ps : List Addr} {k : Int} (h0 : 0 ≤ k) (h1 : k ≤ ps.length) : cutV (ps.map V.ref) (some k) none = (ps.drop k.toNat).map V.ref := by
  obtain ⟨m, rfl⟩ : ∃ m : Nat, k = (m : Int) := ⟨k.toNat, by omega⟩
  rw [cutV_from, List.length_map, Nat.min_eq_left (by omega), List.map_drop]
  rfl
theorem kp1_ne {H H' : Hp} {bx : Addr} {x : Addr} {o : HO} (k : Kp [bx] H H') (e : H x = some o) (n : x ≠ bx) : H' x = some o := k _ _ e (notbx n)
def spOther (K : PySem.W.Frag) : Sp := fun vs H Q _ => ∃ (bx : Addr) (n : Int) (nl : Addr) (xs : List Str) (a : Ad) (d : Da) (l : Addr) (qs : List Addr) (rows : List Rw), vs = [.ref bx, .ref nl, .ref a.own, .ref l] ∧ StAt K H a d ∧ BoxAt H bx n ∧ n < 900000 ∧ H nl = some (.lst (xs.map V.str)) ∧ nl ≠ bx ∧ 1 ≤ xs.length ∧ xs.length ≤ 1000 ∧ (∀ x ∈ xs, NameOk x) ∧ H l = some (.lst (qs.map V.ref)) ∧ l ≠ bx ∧ RowsAt H qs rows ∧ (∀ r ∈ rows, RowOk r) ∧ rows.length ≤ 900 ∧
  ∀ p rows2 H', Kp [bx] H H' → H p = none → (∃ ps, H' p = some (.lst (ps.map V.ref)) ∧ RowsAt H' ps rows2) → (∀ r ∈ rows2, RowOk r) → rows2.length ≤ rows.length + 6 → BoxAt H' bx (n + 400) → Q (.ref p) H' 
abbrev N_L_otherwise : List Str := ["_law_box_here", "_law_names_here", "_law_own", "_law_rows", "_law_way", "_law_size", "_law_at", "_law_row_here", "_law_up", "_law_turn", "_law_more"]
theorem sc_L_otherwise : FnScope N_L_otherwise ["_law_box_here", "_law_names_here", "_law_own", "_law_rows"] (defScope Hd.sL_otherwise) := ⟨rfl, rfl, rfl, by decide +kernel, rfl, by decide +kernel, by decide +kernel⟩
theorem ok_L_otherwise (T : Hd.Tx K mg) : Cal P w K mg base 5 "_law_otherwise" ((spOther K)) := by
  obtain ⟨fd, F⟩ := T.d_L_otherwise
  have sc := sc_L_otherwise
  have C_L_take := ok_L_take (P := P) (w := w) (base := base) T
  have C_L_row := ok_L_row (P := P) (w := w) (base := base) T
  have C_L_log := ok_L_log (P := P) (w := w) (base := base) T
  refine calD F T.g_L_otherwise sc (fun vs H Q E h => ?_) (fun _ _ _ _ _ _ us hl => match us, hl with | [_, _, _, _], _ => rfl) (fun cdv A outer s H vs Q E hr h => ?_)
  · obtain ⟨bx, n, nl, xs, a, d, l, qs, rows, rfl, _⟩ := h; rfl
  · obtain ⟨bx, n, nl, xs, a, d, l, qs, rows, rfl, S, hb, hn0, hn, hnb, z0, z1, hnm, hl, hlb, hR, ok, hz, k⟩ := h
    refine ⟨_, (pss_cons (ps_asg (pe_tup (pa_cons (pc C_L_take hr (by decide) (pa_cons (pv 0) (pa_cons pe_int pa_nil))) (pa_cons (pe_dget (hu_of hr) (pv 2) pe_str (fun _ _ => rfl)) pa_nil))) (pg_tup (by rfl) (pgs_cons (gn 4 sc.nd) (pgs_cons (gn 5 sc.nd) pgs_nil))))
      (pss_cons (ps_if (pt_cmpR op_eq (pv 4) pe_int (nomark _)) (pss_one (ps_ret (pe_slice sl_list (pv 3) po_none (po_some (pc C_L_take hr (by decide) (pa_cons (pv 0) (pa_cons (pe_op op_add (pe_callB call_len (by rfl) T.f_len (by decide +kernel) (pa_cons (pv 3) pa_nil)) pe_int) pa_nil))))))) pss_nil)
      (pss_cons (ps_if (PW.pt (pw_and (pt_cmpR op_eq (pv 4) pe_int (nomark _)) (pw_and1 (pt_cmpR (op_neD hr.units) (pv 3) (pe_lst pa_nil) (nomark _))))) (pss_cons (sn 6 sc.nd (pc C_L_take hr (by decide) (pa_cons (pv 0) (pa_cons (pe_callB call_len (by rfl) T.f_len (by decide +kernel) (pa_cons (pv 3) pa_nil)) pa_nil))))
      (pss_one (ps_ret (pe_op op_cat (pe_op op_cat (pe_slice sl_list (pv 3) po_none (po_some (pv 6))) (pe_lst (pa_cons (pc C_L_row hr (by decide) (pa_cons (pv 0) (pa_cons (pv 1) (pa_cons (pe_ix (ixT K) (pe_ix (ixL K) (pv 3) (pv 6) (fun _ _ => rfl)) pe_int (fun _ _ => rfl)) (pa_cons (pv 5) pa_nil))))) pa_nil))) (pe_slice sl_list (pv 3) (po_some (pe_op op_add (pv 6) pe_int)) po_none))))) pss_nil)
      (pss_cons (ps_if (pt_cmpR op_eq (pv 4) pe_int (nomark _)) (pss_one (ps_ret (pc C_L_log hr (by decide) (pa_cons (pv 0) (pa_cons (pv 1) (pa_cons (pv 5) (pa_cons (pe_dget (hu_of hr) (pv 2) pe_str (fun _ _ => rfl)) (pa_cons pe_int pa_nil)))))))) pss_nil)
      (pss_cons (sn 8 sc.nd (pe_cmpR op_in_seq pe_str (pe_lc (own := [("_law_row_here", 7)]) (g := (gName 7)) (tt := tYes) rfl sc.nd (pi_list (pv 3)) (blkOk_by (own := [("_law_row_here", 7)]) (N := N_L_otherwise) (sc := defScope Hd.sL_otherwise) (by decide +kernel)) (fun _ _ _ _ _ => (gn 7 sc.nd)) (fun _ _ _ _ _ => pts_nil) (fun _ _ _ _ _ => (pe_ix (ixT K) (pv 7) pe_int (fun _ _ => rfl)))) (by rfl)))
      (pss_cons (ps_setLc (i := 10) (own := [("_law_turn", 9)]) (g := (gName 9)) (tt := tYes) rfl sc.nd rfl rfl (sw_true rfl rfl rfl (by decide +kernel)) (pi_range1 (by rfl) T.f_range (pa_cons (pc C_L_take hr (by decide) (pa_cons (pv 0) (pa_cons pe_int pa_nil))) pa_nil)) (blkOk_by (own := [("_law_turn", 9)]) (N := N_L_otherwise) (sc := defScope Hd.sL_otherwise) (by decide +kernel)) (fun _ _ _ _ _ => (gn 9 sc.nd)) (fun _ _ _ _ _ => pts_nil) (fun _ _ _ _ _ => (pc C_L_row hr (by decide) (pa_cons (pv 0) (pa_cons (pv 1) (pa_cons (pe_ifExp (pt_val (pv 8)) pe_str pe_str) (pa_cons (pv 5) pa_nil)))))))
      (pss_one (ps_ret (pe_op op_cat (pv 3) (pv 10)))))))))), ?_⟩
    obtain ⟨lv, eO, hL⟩ := S.ownat
    have m1 := S.m1
    have m8 := S.m8
    have fx0 := S.fx0
    have fxm := S.fxm
    have lm : (qs.map V.ref).length = rows.length := by rw [List.length_map, hR.1]
    try dsimp only [cxOf]
    walk_at "go"
    
    refine ⟨bx, n, _, rfl, hb, by omega, by decide, by decide, fun wy Ha w0 w1 ka ba => ?_⟩
    have obx : ∀ o, H bx = some o → NotBox o → False := fun o e nb => by
      obtain ⟨x, y, z, e2, _⟩ := hb
      rw [e2] at e
      cases Option.some.inj e
      exact nb
    have ownb : a.own ≠ bx := fun z => obx (.dK _) (by rw [← z]; exact eO) True.intro
    have eOa := kp1_ne ka eO ownb
    walk_at "go"
    refine r_dgetv (k := .inr "size") eOa own_size ?_
    walk_at "go"
    refine fun t0 nt0 => ?_
    generalize hh : upd Ha t0 _ = H1
    have sa : Same Ha H1 := hh ▸ Same.new nt0
    have ea : H1 t0 = some _ := hh ▸ upd_same
    clear hh
    have k1 : Kp [bx] H H1 := ka.trans (Same.kp sa)
    have b1 := ba.same sa
    have eO1 := kp1_ne k1 eO ownb
    have hl1 := kp1_ne k1 hl hlb
    have hn1 := kp1_ne k1 hn hnb
    have hR1 : RowsAt H1 qs rows := hR.tk (tkp_box k1 hb)
    walk_at "go"
    rw [decI]
    by_cases c0 : wy = 0
    · rw [decide_eq_true c0]
      walk_at "go"
      refine ⟨bx, n + 1, _, rfl, b1, by omega, by omega, by omega, fun ak H2 a0 a1 k2 b2 => ?_⟩
      have hl2 := kp1_ne k2 hl1 hlb
      have hR2 : RowsAt H2 qs rows := hR1.tk (tkp_box k2 b1)
      walk_at "go"
      refine ⟨l, _, rfl, .of hl2, fun p9 np9 => ?_⟩
      have cut := cut_take (ps := qs) (k := ak) a0 (by rw [hR.1]; omega)
      rw [cut]
      have hs9 : Same H2 (upd H2 p9 (.lst ((qs.take ak.toNat).map V.ref))) := Same.new np9
      exact k p9 (rows.take ak.toNat) _ (k1.trans (k2.trans (Same.kp hs9))) (free_kp (k1.trans k2) b2 np9 hb) ⟨_, upd_same, (hR2.take _).same hs9⟩ (fun r hr => ok r (List.mem_of_mem_take hr)) (by rw [List.length_take]; omega) ((b2.same hs9).mono (by omega))
    · rw [decide_eq_false c0]
      walk_at "go"
      have tail2 : ∀ H2, Same H1 H2 → True := fun _ _ => trivial
      rw [decI]
      by_cases c1 : wy = 1
      · rw [decide_eq_true c1]
        walk_at "go"
        refine fun t2 nt2 => ?_
        generalize hh : upd H1 t2 _ = H2
        have s2 : Same H1 H2 := hh ▸ Same.new nt2
        have e2 : H2 t2 = some _ := hh ▸ upd_same
        clear hh
        have hl2 := s2 _ _ hl1
        have hR2 := hR1.same s2
        have hn2 := s2 _ _ hn1
        have K2 : Kp [bx] H H2 := k1.trans (Same.kp s2)
        have b2 := b1.same s2
        have eO2 := s2 _ _ eO1
        walk_at "go"
        refine ⟨_, _, dRs_at hl2 hR2, dRs_at (ps := []) (rows := []) e2 ⟨rfl, fun i p r h => by simp at h⟩, dRs_shaped ok, dRs_shaped (fun r h => by cases h), ?_⟩
        rw [dRs_eqv]
        by_cases hre : rows = []
        · rw [decide_eq_true hre]
          walk_at "go"
          refine ⟨l, rfl, ⟨_, .of hl2⟩, fun D hD => ?_⟩
          refine lc_it (walk_list (xs := qs.map V.ref)) (fun i H3 => Same H2 H3 ∧ H3 D = some (.lst (((rows.take i).map fun r => r.w).map V.str))) ⟨Same.new hD, by rw [upd_same]; rfl⟩ (fun i H3 _ p => .of (p.1 _ _ hl2)) (fun i x H3 H4 hi p y => ?_) (fun H3 p => ?_)
          · obtain ⟨s3, e3⟩ := p
            obtain ⟨rfl, hx⟩ := y
            obtain ⟨p, hpi, rfl⟩ := map_ref hx
            obtain ⟨r, hri, hrm, hlt, hpp⟩ := hR2.row hpi
            have hp3 : H4 p = some (.tup [.int r.b, .str r.w, .str r.nm, .int r.nt]) := s3 _ _ hpp
            refine ⟨rfl, ?_⟩
            walk_at "go"
            refine ⟨_, e3, size_lt (by rw [List.length_map, List.length_map, List.length_take]; omega), Same.own s3 hD, ?_⟩
            rw [upd_same, List.take_add_one, hri]
            simp
          obtain ⟨s3, e3⟩ := p
          rw [List.length_map, hR.1, List.take_length] at e3
          walk_at "go"
          refine r_inL (.of e3) rfl (by rw [List.all_eq_true]; intro x hx; obtain ⟨z, _, rfl⟩ := List.mem_map.mp hx; rfl) ?_
          generalize inV (.str "end") _ = up
          have hl3 := s3 _ _ hl2
          have hR3 := hR2.same s3
          have hn3 := s3 _ _ hn2
          have K3 := K2.trans (Same.kp s3)
          have b3 := b2.same s3
          walk_at "go"
          refine ⟨bx, _, _, rfl, b3, by omega, by decide, by decide, fun c4 H4 c40 c41 k4 b4 => ?_⟩
          have K4 := K3.trans k4
          walk_at "go"
          refine ⟨c4, rfl, by omega, by omega, fun D5 hD5 => ?_⟩
          have D5b := box_ne b4 hD5
          refine lc_it walk_range (fun i H5 => ∃ ts rows5, H5 D5 = some (.lst (ts.map V.ref)) ∧ RowsAt H5 ts rows5 ∧ (∀ r ∈ rows5, RowOk r) ∧ rows5.length = i ∧ Kp [bx] H4 H5 ∧ BoxAt H5 bx (n + 2 + 10 * i)) ⟨[], [], upd_same, ⟨rfl, fun i p r h => by simp at h⟩, (fun r h => by cases h), rfl, Kp.own (Kp.refl _) hD5, (b4.kp (Kp.own (S := []) (Kp.refl _) hD5) (by simp)).mono (by omega)⟩ (fun _ _ _ _ => trivial) (fun i x H5 H6 hi p y => ?_) (fun H5 p => ?_)
          · obtain ⟨ts, rows5, e5, R5, ok5, len5, k5, b5⟩ := p
            obtain ⟨rfl, rfl⟩ := y
            have hi4 : (i : Int) < 4 := by omega
            refine ⟨rfl, ?_⟩
            have hn5 := kp1_ne k5 (kp1_ne k4 hn3 hnb) hnb
            have Z : ∃ z : Str, z = (if up = true then "late" else "set") ∧ z ∈ wds := by cases up; exact ⟨"set", rfl, by decide +kernel⟩; exact ⟨"late", rfl, by decide +kernel⟩
            have fin : ∀ (p : Addr) (r2 : Rw) (H7 : Hp), RowOk r2 → Kp [bx] H6 H7 → H7 p = some (.tup r2.vs) → BoxAt H7 bx (n + 2 + 10 * i + 5) → ∃ acc, H7 D5 = some (.lst acc) ∧ acc.length < sizeLine ∧ ∃ ts rows5, (upd H7 D5 (.lst (acc ++ [V.ref p]))) D5 = some (.lst (ts.map V.ref)) ∧ RowsAt (upd H7 D5 (.lst (acc ++ [V.ref p]))) ts rows5 ∧ (∀ r ∈ rows5, RowOk r) ∧ rows5.length = i + 1 ∧ Kp [bx] H4 (upd H7 D5 (.lst (acc ++ [V.ref p]))) ∧ BoxAt (upd H7 D5 (.lst (acc ++ [V.ref p]))) bx (n + 2 + 10 * ((i + 1 : Nat) : Int)) := fun p r2 H7 ok2 k7 ep7 b7 => by
              have e7 := kp1_ne k7 e5 D5b
              refine ⟨_, e7, size_lt (by rw [List.length_map, R5.1]; omega), ts ++ [p], rows5 ++ [r2], by rw [upd_same, List.map_append]; rfl, ((R5.tk (tkp_box k7 b5)).push ep7).tk (tkp_put e7), fun r hr => ?_, by rw [List.length_append, len5]; rfl, Kp.own (k5.trans k7) hD5, ?_⟩
              · rcases List.mem_append.mp hr with h | h
                · exact ok5 r h
                · rw [List.mem_singleton.mp h]; exact ok2
              · refine (b7.kp (Kp.put (S := [D5]) (Kp.refl _) (by simp)) (by simp; exact fun z => D5b z.symm)).mono ?_
                omega
            cases up with
            | true =>
              walk_at "go"
              refine ⟨bx, _, nl, xs, "late", d.m, rfl, b5, by omega, hn5, hnb, z0, z1, hnm, by decide +kernel, m1, m8, fun p r2 H7 ok2 lt2 w2 k7 np7 ep7 b7 => ?_⟩
              exact fin p r2 H7 ok2 k7 ep7 b7
            | false =>
              walk_at "go"
              refine ⟨bx, _, nl, xs, "set", d.m, rfl, b5, by omega, hn5, hnb, z0, z1, hnm, by decide +kernel, m1, m8, fun p r2 H7 ok2 lt2 w2 k7 np7 ep7 b7 => ?_⟩
              exact fin p r2 H7 ok2 k7 ep7 b7
          obtain ⟨ts, rows5, e5, R5, ok5, len5, k5, b5⟩ := p
          have hl5 := kp1_ne k5 (kp1_ne k4 hl3 hlb) hlb
          have R5a : RowsAt H5 qs rows := (hR3.tk (tkp_box k4 b3)).tk (tkp_box k5 b4)
          walk_at "go"
          refine ⟨l, D5, _, _, rfl, rfl, hl5, e5, size_le (by rw [List.length_map, List.length_map, R5a.1, R5.1]; omega), fun p9 np9 => ?_⟩
          have K5 := K4.trans k5
          have hs9 : Same H5 (upd H5 p9 (.lst (qs.map V.ref ++ ts.map V.ref))) := Same.new np9
          exact k p9 (rows ++ rows5) _ (K5.trans (Same.kp hs9)) (free_kp K5 b5 np9 hb) ⟨qs ++ ts, by rw [upd_same, List.map_append], (R5a.app R5).same hs9⟩ (fun r hr => (List.mem_append.mp hr).elim (ok r) (ok5 r)) (by rw [List.length_append]; omega) ((b5.same hs9).mono (by omega))
    
        · rw [decide_eq_false hre]
          walk_at "go"
          have hpos : 1 ≤ rows.length := by cases rows with | nil => exact absurd rfl hre | cons _ _ => exact Nat.le_add_left _ _
          refine ⟨bx, _, _, rfl, b2, by omega, by omega, by omega, fun ak H3 a0 a1 k3 b3 => ?_⟩
          have hl3 := kp1_ne k3 hl2 hlb
          have hn3 := kp1_ne k3 hn2 hnb
          have hR3 : RowsAt H3 qs rows := hR2.tk (tkp_box k3 b2)
          have ha : ak.toNat < rows.length := by omega
          walk_at "go"
          refine ⟨l, _, rfl, .of hl3, fun p4 np4 => ?_⟩
          rw [cut_take (ps := qs) (k := ak) a0 (by rw [hR.1]; omega)]
          generalize hh9 : upd H3 p4 _ = H4
          have s4 : Same H3 H4 := hh9 ▸ Same.new np4
          have e4 := (congrFun hh9 p4).symm.trans upd_same
          clear hh9
          have p4b := box_ne b3 np4
          have hl4 := s4 _ _ hl3
          have hn4 := s4 _ _ hn3
          have hR4 := hR3.same s4
          obtain ⟨pa, hqa⟩ : ∃ pa, qs[ak.toNat]? = some pa := ⟨_, List.getElem?_eq_getElem (by rw [hR.1]; exact ha)⟩
          obtain ⟨r9, hr9, hm9, _, hp9⟩ := hR4.row hqa
          have hp9' : H4 pa = some (.tup [.int r9.b, .str r9.w, .str r9.nm, .int r9.nt]) := hp9
          have ok9 := ok r9 hm9
          walk_at "go"
          refine r_ixL (.of hl4) (v := .ref pa) ?_ ?_
          · unfold atI
            rw [ixN_of a0 (by omega)]
            show (qs.map V.ref)[ak.toNat]? = _
            rw [List.getElem?_map, hqa]
            rfl
          walk_at "go"
          refine ⟨bx, _, nl, xs, r9.w, d.m, rfl, b3.same s4, by omega, hn4, hnb, z0, z1, hnm, ok9.w, m1, m8, fun p5 r5 H5 ok5 lt5 w5 k5 np5 ep5 b5 => ?_⟩
          have b4 := b3.same s4
          have hl5 := kp1_ne k5 hl4 hlb
          have e5 := kp1_ne k5 e4 p4b
          have hR5 : RowsAt H5 qs rows := hR4.tk (tkp_box k5 b4)
          walk_at "go"
          refine fun q6 nq6 => ?_
          generalize hh : upd H5 q6 _ = H6
          have s6 : Same H5 H6 := hh ▸ Same.new nq6
          have e6 : H6 q6 = some _ := hh ▸ upd_same
          clear hh
          walk_at "go"
          refine ⟨p4, q6, _, _, rfl, rfl, s6 _ _ e5, e6, size_le (by rw [List.length_map, List.length_take]; show _ + 1 ≤ 100000; have := hR.1; omega), fun p7 np7 => ?_⟩
          generalize hh9 : upd H6 p7 _ = H7
          have s7 : Same H6 H7 := hh9 ▸ Same.new np7
          have e7 := (congrFun hh9 p7).symm.trans upd_same
          clear hh9
          have s57 := Same.trans s6 s7
          walk_at "go"
          refine ⟨l, _, rfl, .of (s57 _ _ hl5), fun p8 np8 => ?_⟩
          rw [cut_drop (ps := qs) (k := ak + 1) (by omega) (by rw [hR.1]; omega)]
          generalize hh9 : upd H7 p8 _ = H8
          have s8 : Same H7 H8 := hh9 ▸ Same.new np8
          have e8 := (congrFun hh9 p8).symm.trans upd_same
          clear hh9
          walk_at "go"
          refine ⟨p7, p8, _, _, rfl, rfl, s8 _ _ e7, e8, size_le (by rw [List.length_append, List.length_map, List.length_map, List.length_take, List.length_drop]; show _ + 1 + _ ≤ 100000; have := hR.1; omega), fun p9 np9 => ?_⟩
          have s58 := Same.trans s57 s8
          have K5 : Kp [bx] H H5 := K2.trans (k3.trans ((Same.kp s4).trans k5))
          have K8 : Kp [bx] H H8 := K5.trans (Same.kp s58)
          have b8 := b5.same s58
          have hR8 := hR5.same s58
          have hs9 : Same H8 (upd H8 p9 (.lst ((qs.take ak.toNat).map V.ref ++ [V.ref p5] ++ (qs.drop (ak + 1).toNat).map V.ref))) := Same.new np9
          exact k p9 (rows.take ak.toNat ++ [r5] ++ rows.drop (ak + 1).toNat) _ (K8.trans (Same.kp hs9)) (free_kp K8 b8 np9 hb) ⟨qs.take ak.toNat ++ [p5] ++ qs.drop (ak + 1).toNat, by rw [upd_same, List.map_append, List.map_append]; rfl, (((hR8.take _).push (s58 _ _ ep5)).app (hR8.drop _)).same hs9⟩ (fun r hr => by
            rcases List.mem_append.mp hr with h | h
            · rcases List.mem_append.mp h with h | h
              · exact ok r (List.mem_of_mem_take h)
              · rw [List.mem_singleton.mp h]; exact ok5
            · exact ok r (List.mem_of_mem_drop h)) (by rw [List.length_append, List.length_append, List.length_take, List.length_drop]; show _ + 1 + _ ≤ _; omega) ((b8.same hs9).mono (by omega))
      · rw [decide_eq_false c1]
        walk_at "go"
        rw [decI]
        by_cases c2 : wy = 2
        · rw [decide_eq_true c2]
          walk_at "go"
          refine r_dgetv (k := .inr "kept") eO1 own_kept ?_
          walk_at "go"
          refine ⟨bx, _, nl, xs, d.m, d.fx, rfl, b1, by omega, hn1, hnb, z0, z1, hnm, m1, m8, fx0, fxm, fun p rows2 H2 k2 np2 LA len2 b2 => ?_⟩
          obtain ⟨up, LA⟩ := LA
          walk_at "go"
          exact k p rows2 H2 (k1.trans k2) (free_kp k1 b1 np2 hb) LA.ex LA.ok (by omega) (b2.mono (by omega))
        · rw [decide_eq_false c2]
          walk_at "go"
          have hl2 := hl1
          have hR2 := hR1
          have hn2 := hn1
          have K2 := k1
          have b2 := b1
          refine ⟨l, rfl, ⟨_, .of hl2⟩, fun D hD => ?_⟩
          refine lc_it (walk_list (xs := qs.map V.ref)) (fun i H3 => Same H1 H3 ∧ H3 D = some (.lst (((rows.take i).map fun r => r.w).map V.str))) ⟨Same.new hD, by rw [upd_same]; rfl⟩ (fun i H3 _ p => .of (p.1 _ _ hl2)) (fun i x H3 H4 hi p y => ?_) (fun H3 p => ?_)
          · obtain ⟨s3, e3⟩ := p
            obtain ⟨rfl, hx⟩ := y
            obtain ⟨p, hpi, rfl⟩ := map_ref hx
            obtain ⟨r, hri, hrm, hlt, hpp⟩ := hR2.row hpi
            have hp3 : H4 p = some (.tup [.int r.b, .str r.w, .str r.nm, .int r.nt]) := s3 _ _ hpp
            refine ⟨rfl, ?_⟩
            walk_at "go"
            refine ⟨_, e3, size_lt (by rw [List.length_map, List.length_map, List.length_take]; omega), Same.own s3 hD, ?_⟩
            rw [upd_same, List.take_add_one, hri]
            simp
          obtain ⟨s3, e3⟩ := p
          rw [List.length_map, hR.1, List.take_length] at e3
          walk_at "go"
          refine r_inL (.of e3) rfl (by rw [List.all_eq_true]; intro x hx; obtain ⟨z, _, rfl⟩ := List.mem_map.mp hx; rfl) ?_
          generalize inV (.str "end") _ = up
          have hl3 := s3 _ _ hl2
          have hR3 := hR2.same s3
          have hn3 := s3 _ _ hn2
          have K3 := K2.trans (Same.kp s3)
          have b3 := b2.same s3
          walk_at "go"
          refine ⟨bx, _, _, rfl, b3, by omega, by decide, by decide, fun c4 H4 c40 c41 k4 b4 => ?_⟩
          have K4 := K3.trans k4
          walk_at "go"
          refine ⟨c4, rfl, by omega, by omega, fun D5 hD5 => ?_⟩
          have D5b := box_ne b4 hD5
          refine lc_it walk_range (fun i H5 => ∃ ts rows5, H5 D5 = some (.lst (ts.map V.ref)) ∧ RowsAt H5 ts rows5 ∧ (∀ r ∈ rows5, RowOk r) ∧ rows5.length = i ∧ Kp [bx] H4 H5 ∧ BoxAt H5 bx (n + 2 + 10 * i)) ⟨[], [], upd_same, ⟨rfl, fun i p r h => by simp at h⟩, (fun r h => by cases h), rfl, Kp.own (Kp.refl _) hD5, (b4.kp (Kp.own (S := []) (Kp.refl _) hD5) (by simp)).mono (by omega)⟩ (fun _ _ _ _ => trivial) (fun i x H5 H6 hi p y => ?_) (fun H5 p => ?_)
          · obtain ⟨ts, rows5, e5, R5, ok5, len5, k5, b5⟩ := p
            obtain ⟨rfl, rfl⟩ := y
            have hi4 : (i : Int) < 4 := by omega
            refine ⟨rfl, ?_⟩
            have hn5 := kp1_ne k5 (kp1_ne k4 hn3 hnb) hnb
            have Z : ∃ z : Str, z = (if up = true then "late" else "set") ∧ z ∈ wds := by cases up; exact ⟨"set", rfl, by decide +kernel⟩; exact ⟨"late", rfl, by decide +kernel⟩
            have fin : ∀ (p : Addr) (r2 : Rw) (H7 : Hp), RowOk r2 → Kp [bx] H6 H7 → H7 p = some (.tup r2.vs) → BoxAt H7 bx (n + 2 + 10 * i + 5) → ∃ acc, H7 D5 = some (.lst acc) ∧ acc.length < sizeLine ∧ ∃ ts rows5, (upd H7 D5 (.lst (acc ++ [V.ref p]))) D5 = some (.lst (ts.map V.ref)) ∧ RowsAt (upd H7 D5 (.lst (acc ++ [V.ref p]))) ts rows5 ∧ (∀ r ∈ rows5, RowOk r) ∧ rows5.length = i + 1 ∧ Kp [bx] H4 (upd H7 D5 (.lst (acc ++ [V.ref p]))) ∧ BoxAt (upd H7 D5 (.lst (acc ++ [V.ref p]))) bx (n + 2 + 10 * ((i + 1 : Nat) : Int)) := fun p r2 H7 ok2 k7 ep7 b7 => by
              have e7 := kp1_ne k7 e5 D5b
              refine ⟨_, e7, size_lt (by rw [List.length_map, R5.1]; omega), ts ++ [p], rows5 ++ [r2], by rw [upd_same, List.map_append]; rfl, ((R5.tk (tkp_box k7 b5)).push ep7).tk (tkp_put e7), fun r hr => ?_, by rw [List.length_append, len5]; rfl, Kp.own (k5.trans k7) hD5, ?_⟩
              · rcases List.mem_append.mp hr with h | h
                · exact ok5 r h
                · rw [List.mem_singleton.mp h]; exact ok2
              · refine (b7.kp (Kp.put (S := [D5]) (Kp.refl _) (by simp)) (by simp; exact fun z => D5b z.symm)).mono ?_
                omega
            cases up with
            | true =>
              walk_at "go"
              refine ⟨bx, _, nl, xs, "late", d.m, rfl, b5, by omega, hn5, hnb, z0, z1, hnm, by decide +kernel, m1, m8, fun p r2 H7 ok2 lt2 w2 k7 np7 ep7 b7 => ?_⟩
              exact fin p r2 H7 ok2 k7 ep7 b7
            | false =>
              walk_at "go"
              refine ⟨bx, _, nl, xs, "set", d.m, rfl, b5, by omega, hn5, hnb, z0, z1, hnm, by decide +kernel, m1, m8, fun p r2 H7 ok2 lt2 w2 k7 np7 ep7 b7 => ?_⟩
              exact fin p r2 H7 ok2 k7 ep7 b7
          obtain ⟨ts, rows5, e5, R5, ok5, len5, k5, b5⟩ := p
          have hl5 := kp1_ne k5 (kp1_ne k4 hl3 hlb) hlb
          have R5a : RowsAt H5 qs rows := (hR3.tk (tkp_box k4 b3)).tk (tkp_box k5 b4)
          walk_at "go"
          refine ⟨l, D5, _, _, rfl, rfl, hl5, e5, size_le (by rw [List.length_map, List.length_map, R5a.1, R5.1]; omega), fun p9 np9 => ?_⟩
          have K5 := K4.trans k5
          have hs9 : Same H5 (upd H5 p9 (.lst (qs.map V.ref ++ ts.map V.ref))) := Same.new np9
          exact k p9 (rows ++ rows5) _ (K5.trans (Same.kp hs9)) (free_kp K5 b5 np9 hb) ⟨qs ++ ts, by rw [upd_same, List.map_append], (R5a.app R5).same hs9⟩ (fun r hr => (List.mem_append.mp hr).elim (ok r) (ok5 r)) (by rw [List.length_append]; omega) ((b5.same hs9).mono (by omega))
end
end Fx

/-! B12: defs and their promises -/
namespace Fx
open PySem PySem.Spec PyProof.Rows L2 Sv Mr
section
variable {P : Program} {w : World} {K : PySem.W.Frag} {mg : Str → Option Value} {base : Heap}
local macro_rules | `(tactic| walk_at "go") => `(tactic| repeat (first
  | with_reducible refine r_seq ?_ | with_reducible refine r_asg ?_ | with_reducible refine r_gn ?_ | with_reducible refine r_ret ?_ | with_reducible refine r_ifS ?_
  | ((with_reducible refine' r_var ?kv ?_); (case kv => exact rfl)) | with_reducible refine r_c ?_ | with_reducible refine r_op ?_ | with_reducible refine r_I0 ?_ | with_reducible refine r_cons ?_ | with_reducible refine r_nil ?_
  | with_reducible refine r_cb ?_ | with_reducible refine r_call ?_ | with_reducible refine r_test ?_ | with_reducible refine r_tB ?_ | with_reducible refine r_k ?_ | with_reducible refine r_or ?_ | with_reducible refine r_and ?_ | with_reducible refine r_not ?_
  | with_reducible refine r_andV ?_ | with_reducible refine r_orV ?_ | with_reducible refine r_notV ?_ | with_reducible refine r_if ?_ | with_reducible refine r_T ?_ | with_reducible refine r_F ?_ | with_reducible refine r_Tn ?_ | with_reducible refine r_Fn ?_
  | with_reducible refine r_isiS ?_ | with_reducible refine r_isiI ?_ | with_reducible refine r_isiIB ?_ | with_reducible refine r_chain ?_ | with_reducible refine r_un ?_ | with_reducible refine r_drop ?_ | with_reducible refine r_tup ?_ | with_reducible refine r_lst ?_
  | ((with_reducible refine' r_eq ?kv ?_); (case kv => exact rfl)) | ((with_reducible refine' r_ne ?kv ?_); (case kv => exact rfl)) | with_reducible refine r_nx ?_ | with_reducible refine r_retN ?_ | with_reducible refine r_yes ?_ | ((with_reducible refine' r_I ?kd ?_); (case kd => first | exact Or.inr ⟨by decide, by decide⟩ | exact ⟨by decide, by decide⟩ | exact ⟨by decide, by decide, by decide⟩ | (show (0 : Int) < _; first | decide | omega)))
  | with_reducible refine r_dget ?_ | with_reducible refine r_din ?_ | with_reducible refine r_ndin ?_ | with_reducible refine r_dput ?_ | with_reducible refine r_mk ?_ | with_reducible refine r_dpop ?_ | with_reducible refine r_mkN ?_ | with_reducible refine r_disp ?_ | with_reducible refine r_dnew ?_ | with_reducible refine r_pcons ?_ | with_reducible refine r_pnil ?_ | with_reducible refine r_gCons ?_ | with_reducible refine r_gNil ?_ | with_reducible refine r_tPar ?_ | with_reducible refine r_par ?_ | with_reducible refine r_tPar3 ?_ | with_reducible refine r_par3 ?_ | with_reducible refine r_sl ?_ | with_reducible refine r_part ?_ | with_reducible refine r_parti ?_ | with_reducible refine r_nopart ?_ | with_reducible refine r_gSub ?_ | with_reducible refine r_rU ?_ | with_reducible refine r_bm ?_ | ((with_reducible refine' r_tyL ?kd ?_); (case kd => assumption)) | with_reducible refine r_nn ?_ | with_reducible refine r_meth ?_ | with_reducible refine r_methN ?_ | with_reducible refine r_callN ?_ | with_reducible refine r_fld ?_ | with_reducible refine r_lc ?_ | with_reducible refine r_for ?_ | with_reducible refine r_iList ?_ | with_reducible refine r_iTup ?_ | with_reducible refine r_iStr ?_ | with_reducible refine r_iRng1 ?_ | with_reducible refine r_iEnum ?_ | with_reducible refine r_iZip ?_ | with_reducible refine r_iZipA ?_
  | ((with_reducible refine' r_sz ?kz ?_); (case kz => first | decide | (simp only [List.length_cons, List.length_nil]; omega)))
  | ((with_reducible refine' r_isiT ?kd ?_); (case kd => assumption)) | ((with_reducible refine' r_isiL ?kd ?_); (case kd => assumption)) | ((with_reducible refine' r_isiTL ?kd ?_); (case kd => assumption)) | ((with_reducible refine' r_isiLT ?kd ?_); (case kd => assumption))
  | ((with_reducible refine' r_lenT ?kd ?_); (case kd => exact SqT.of (by assumption))) | ((with_reducible refine' r_lenL ?kd ?_); (case kd => exact SqL.of (by assumption)))
  | ((with_reducible refine' r_ixT ?ka ?kb ?_); (case ka => exact SqT.of (by assumption)); (case kb => exact rfl)) | ((with_reducible refine' r_gTup ?ka ?kb ?_); (case ka => exact SqT.of (by assumption)); (case kb => exact rfl))
  | ((with_reducible refine' r_dT ?kd ?_); (case kd => walk_at "pos")) | ((with_reducible refine' r_dF ?kd ?_); (case kd => walk_at "neg")) | ((with_reducible refine' r_ndT ?kd ?_); (case kd => walk_at "neg")) | ((with_reducible refine' r_ndF ?kd ?_); (case kd => walk_at "pos"))
  | ((with_reducible refine' r_pos ?kd ?_); (case kd => with_reducible exact rfl)) | ((with_reducible refine' r_neg ?kd ?_); (case kd => with_reducible exact rfl)) | ((with_reducible refine' r_pos ?kd ?_); (case kd => (with_reducible show _ = true); decide)) | ((with_reducible refine' r_neg ?kd ?_); (case kd => (with_reducible show _ = false); decide))))
local macro_rules | `(tactic| walk_at "pos") => `(tactic| first | assumption | omega | rfl | exact congrArg V.int (by omega) | exact congrArg V.str (by assumption))
local macro_rules | `(tactic| walk_at "neg") => `(tactic| first | assumption | omega | (intro hne; injection hne with hne; first | omega | contradiction | exact absurd hne (by decide +kernel)) | (intro hne; cases hne))

theorem ite_ne {c : Bool} {W : V} {σ : L2.St} {H : Hp} {Q : VK} (h : rNe W (.str (if c = true then ("back" : Str) else "good")) H Q) : if c = true then tC (.str "back") σ H (fun y H2 => rNe W y H2 Q) else tC (.str "good") σ H (fun y H2 => rNe W y H2 Q) := by cases c <;> exact h
theorem kpN {H H' : Hp} {bx x : Addr} {n : Int} {o : HO} (k : Kp [bx] H H') (b : BoxAt H bx n) (e : H x = some o) (nb : NotBox o) : H' x = some o := k _ _ e (notbx fun z => by
  obtain ⟨i, j, l, e2, _⟩ := b
  rw [z, e2] at e
  cases Option.some.inj e
  exact nb)
theorem _root_.Mr.StAt.kpB {H H' : Hp} {a : Ad} {d : Da} {bx : Addr} {n : Int} (h : StAt K H a d) (k : Kp [bx] H H') (b : BoxAt H bx n) : StAt K H' a d := h.keep fun x o e nb => kpN k b e nb
theorem BoxAt.st {H H' : Hp} {a : Ad} {d : Da} {bx : Addr} {n : Int} (b : BoxAt H bx n) (h : StAt K H a d) (k : Kp a.L H H') : BoxAt H' bx n := by
  obtain ⟨i, j, l, e, r⟩ := b
  exact ⟨i, j, l, k _ _ e (h.box_far e), r⟩
theorem kp_st {H0 H1 H2 : Hp} {a : Ad} {bx : Addr} (fr : ∀ y ∈ a.L, H0 y = none) (k1 : Kp [bx] H0 H1) (k2 : Kp a.L H1 H2) : Kp [bx] H0 H2 := fun y o e n => k2 y o (k1 y o e n) fun m => by rw [fr y m] at e; cases e
theorem word_first {m fx st : Int} {rows : List Rw} (h : fault rows m fx = none) : wordB none m fx st rows = "good" := by
  unfold wordB
  rw [show backB none st = false from rfl, if_neg (by decide), if_neg (fun z => z h), show cutB none st rows = false from rfl, if_neg (by decide)]
theorem word_back {m fx st s0 : Int} {rs rows : List Rw} (h : st < s0) : wordB (some (s0, rs)) m fx st rows = "back" := by
  unfold wordB
  rw [show backB (some (s0, rs)) st = decide (st < s0) from rfl, decide_eq_true h, if_pos rfl]
theorem word_same {m fx s0 : Int} {rs : List Rw} (h : fault rs m fx = none) : wordB (some (s0, rs)) m fx s0 rs = "good" := by
  unfold wordB
  rw [show backB (some (s0, rs)) s0 = decide (s0 < s0) from rfl, decide_eq_false (by omega), if_neg (by decide), if_neg (fun z => z h), show cutB (some (s0, rs)) s0 rs = (decide (s0 = s0) && !decide (rs.take rs.length = rs)) from rfl, List.take_length, decide_eq_true rfl, decide_eq_true rfl, if_neg (by decide)]
theorem word_other {m fx s0 by_ : Int} {rs rows : List Rw} (h0 : 0 ≤ by_) : (wordB (some (s0, rs)) m fx (s0 + by_) rows = "boards" ∧ ∃ i, fault rows m fx = some i) ∨ (wordB (some (s0, rs)) m fx (s0 + by_) rows = "good" ∧ fault rows m fx = none) ∨ (wordB (some (s0, rs)) m fx (s0 + by_) rows = "cut" ∧ fault rows m fx = none ∧ by_ = 0) := by
  unfold wordB
  rw [show backB (some (s0, rs)) (s0 + by_) = decide (s0 + by_ < s0) from rfl, decide_eq_false (by omega), if_neg (by decide)]
  cases hf : fault rows m fx with
  | some i => exact .inl ⟨by rw [if_pos (by simp)], i, rfl⟩
  | none =>
    rw [if_neg (by simp)]
    cases hc : cutB (some (s0, rs)) (s0 + by_) rows with
    | false => exact .inr (.inl ⟨by rw [if_neg (by decide)], rfl⟩)
    | true =>
      refine .inr (.inr ⟨by rw [if_pos rfl], rfl, ?_⟩)
      have h : (decide (s0 + by_ = s0) && !decide (rows.take rs.length = rs)) = true := hc
      rw [Bool.and_eq_true] at h
      have := of_decide_eq_true h.1
      omega
def spRight (K : PySem.W.Frag) : Sp := fun vs H Q _ => ∃ (bx : Addr), vs = [.ref bx] ∧ BoxAt H bx 0 ∧ ∀ H', Kp [bx] H H' → Q (.bl true) H' 
abbrev N_L_right : List Str := ["_law_box_here", "_law_names_here", "_law_size", "_law_book", "_law_w", "_law_own", "_law_start", "_law_first", "_law_turn", "_law_rows", "_law_less", "_law_other", "_law_by", "_law_word_here", "_law_stood"]
theorem sc_L_right : FnScope N_L_right ["_law_box_here"] (defScope Hd.sL_right) := ⟨rfl, rfl, rfl, by decide +kernel, rfl, by decide +kernel, by decide +kernel⟩
theorem ok_L_right (T : Hd.Tx K mg) : Cal P w K mg base 15 "_law_right" ((spRight K)) := by
  obtain ⟨fd, F⟩ := T.d_L_right
  have sc := sc_L_right
  have C_L_tried := ok_L_tried (P := P) (w := w) (base := base) T
  have C_L_fault := ok_L_fault (P := P) (w := w) (base := base) T
  have C_L_take := ok_L_take (P := P) (w := w) (base := base) T
  have C_L_otherwise := ok_L_otherwise (P := P) (w := w) (base := base) T
  have C_L_log := ok_L_log (P := P) (w := w) (base := base) T
  have C_L_known_as := ok_L_known_as (P := P) (w := w) (base := base) T
  have C_L_stock := ok_L_stock (P := P) (w := w) (base := base) T
  have C_L_begun := ok_L_begun (P := P) (w := w) (base := base) T
  have C_Book := ok_Book (P := P) (w := w) (base := base) T
  have C_L_names := ok_L_names (P := P) (w := w) (base := base) T
  refine calD F T.g_L_right sc (fun vs H Q E h => ?_) (fun _ _ _ _ _ _ us hl => match us, hl with | [_], _ => rfl) (fun cdv A outer s H vs Q E hr h => ?_)
  · obtain ⟨bx, rfl, _⟩ := h; rfl
  · obtain ⟨bx, rfl, hb, k⟩ := h
    refine ⟨_, (pss_cons (ps_par (i := 1) (j := 2) rfl sc.nd rfl rfl (by decide) rfl rfl (pa_cons (pc C_L_names hr (by decide) (pa_cons (pv 0) (pa_cons pe_int pa_nil))) (pa_cons (pe_op op_add pe_int (pc C_L_take hr (by decide) (pa_cons (pv 0) (pa_cons pe_int pa_nil)))) pa_nil)) (by rfl))
      (pss_cons (ps_par3 (i := 3) (j := 4) (l := 5) rfl sc.nd rfl rfl rfl (by decide) (by decide) (by decide) rfl rfl rfl (pa_cons (pmk0 C_Book hr (by decide)) (pa_cons (pc C_L_begun hr (by decide) (pa_cons (pe_gI T.i_LIFE) (pa_cons (pe_gI T.i_MACHINES) pa_nil))) (pa_cons (pc C_L_stock hr (by decide) (pa_cons (pv 0) (pa_cons (pv 2) (pa_cons (pe_op op_mod (pc C_L_take hr (by decide) (pa_cons (pv 0) (pa_cons pe_int pa_nil))) (pv 2)) pa_nil)))) pa_nil))) (by rfl))
      (pss_cons (ps_expr (pc C_L_known_as hr (by decide) (pa_cons (pv 3) (pa_cons (pv 4) (pa_cons (pe_ix (ixL K) (pv 1) pe_int (fun _ _ => rfl)) (pa_cons (pv 5) pa_nil))))))
      (pss_cons (sn 6 sc.nd (pc C_L_take hr (by decide) (pa_cons (pv 0) (pa_cons (pe_op op_pow pe_int pe_int) pa_nil))))
      (pss_cons (sn 7 sc.nd (pc C_L_log hr (by decide) (pa_cons (pv 0) (pa_cons (pv 1) (pa_cons (pv 2) (pa_cons (pe_dget (hu_of hr) (pv 5) pe_str (fun _ _ => rfl)) (pa_cons pe_int pa_nil)))))))
      (pss_cons (ps_if (pt_cmpR op_ne (pc C_L_tried hr (by decide) (pa_cons (pv 0) (pa_cons (pv 3) (pa_cons (pv 4) (pa_cons (pv 1) (pa_cons (pv 6) (pa_cons (pv 7) pa_nil))))))) pe_str (nomark _)) (pss_one (ps_ret pe_bl)) pss_nil)
      (pss_cons (ps_for PassesOwn.never rfl (pi_range1 (by rfl) T.f_range (pa_cons pe_int pa_nil)) (gn 8 sc.nd) (pss_cons (ps_asg (pe_dget (hu_of hr) (pv 5) pe_str (fun _ _ => rfl)) (pg_tup (by rfl) (pgs_cons (gn 6 sc.nd) (pgs_cons (gn 9 sc.nd) pgs_nil))))
      (pss_cons (sn 10 sc.nd (pe_callB (call_max2 rfl) (by rfl) T.f_max (by decide +kernel) (pa_cons pe_int (pa_cons (pe_op op_sub (pe_op op_sub (pv 6) pe_int) (pc C_L_take hr (by decide) (pa_cons (pv 0) (pa_cons pe_int pa_nil)))) pa_nil))))
      (pss_cons (ps_if (pt_cmpR op_ne (pc C_L_tried hr (by decide) (pa_cons (pv 0) (pa_cons (pv 3) (pa_cons (pv 4) (pa_cons (pv 1) (pa_cons (pv 10) (pa_cons (pv 9) pa_nil))))))) (pe_ifExp (pt_cmpR op_lt (pv 10) (pv 6) (nomark _)) pe_str pe_str) (nomark _)) (pss_one (ps_ret pe_bl)) pss_nil)
      (pss_cons (sn 11 sc.nd (pc C_L_otherwise hr (by decide) (pa_cons (pv 0) (pa_cons (pv 1) (pa_cons (pv 5) (pa_cons (pe_callTy call_list_of (by rfl) T.f_list (by decide +kernel) (pa_cons (pv 9) pa_nil)) pa_nil))))))
      (pss_cons (sn 12 sc.nd (pe_ix (ixL K) (pe_lst (pa_cons pe_int (pa_cons pe_int (pa_cons pe_int (pa_cons (pe_op op_add pe_int (pc C_L_take hr (by decide) (pa_cons (pv 0) (pa_cons pe_int pa_nil)))) pa_nil))))) (pc C_L_take hr (by decide) (pa_cons (pv 0) (pa_cons pe_int pa_nil))) (fun _ _ => rfl)))
      (pss_cons (sn 13 sc.nd (pc C_L_tried hr (by decide) (pa_cons (pv 0) (pa_cons (pv 3) (pa_cons (pv 4) (pa_cons (pv 1) (pa_cons (pe_op op_add (pe_ix (ixT K) (pe_dget (hu_of hr) (pv 5) pe_str (fun _ _ => rfl)) pe_int (fun _ _ => rfl)) (pv 12)) (pa_cons (pv 11) pa_nil))))))))
      (pss_cons (sn 14 sc.nd (pe_cmpR op_isN (pc C_L_fault hr (by decide) (pa_cons (pv 11) (pa_cons (pv 2) (pa_cons (pe_dget (hu_of hr) (pv 5) pe_str (fun _ _ => rfl)) pa_nil)))) pe_non (nomark _)))
      (pss_cons (ps_if (PW.pt (pw_or (pt_cmpR op_notIn_seq (pv 13) (pe_slice sl_list (pe_lst (pa_cons pe_str (pa_cons pe_str (pa_cons pe_str pa_nil)))) (po_some (pe_callTy call_int1 (by rfl) T.f_int (by decide +kernel) (pa_cons (pv 14) pa_nil))) po_none) (by rfl)) (pw_or (PW.pt (pw_and (pt_cmpR op_eq (pv 13) pe_str (nomark _)) (pw_and1 (pt_val (pv 14))))) (pw_or1 (PW.pt (pw_and (pt_cmpR op_gt (pv 12) pe_int (nomark _)) (pw_and1 (pt_cmpR op_eq (pv 13) pe_str (nomark _))))))))) (pss_one (ps_ret pe_bl)) pss_nil)
      (pss_one (ps_if (pt_cmpR op_ne (pc C_L_tried hr (by decide) (pa_cons (pv 0) (pa_cons (pv 3) (pa_cons (pv 4) (pa_cons (pv 1) (pa_cons (pe_ix (ixT K) (pe_dget (hu_of hr) (pv 5) pe_str (fun _ _ => rfl)) pe_int (fun _ _ => rfl)) (pa_cons (pe_ix (ixT K) (pe_dget (hu_of hr) (pv 5) pe_str (fun _ _ => rfl)) pe_int (fun _ _ => rfl)) pa_nil))))))) pe_str (nomark _)) (pss_one (ps_ret pe_bl)) pss_nil)))))))))))
      (pss_one (ps_ret pe_bl))))))))), ?_⟩
    try dsimp only [cxOf]
    walk_at "go"
    
    refine ⟨bx, 0, rfl, hb, by decide, fun nl xs H1 len3 hnm k1 np1 e1 b1 => ?_⟩
    walk_at "go"
    refine ⟨bx, _, _, rfl, b1, by decide, by decide, by decide, fun mr H2 mr0 mr1 k2 b2 => ?_⟩
    obtain ⟨n1, n2, n3, rfl⟩ : ∃ n1 n2 n3, xs = [n1, n2, n3] := by
      match xs, len3 with
      | [n1, n2, n3], _ => exact ⟨n1, n2, n3, rfl⟩
    have K2 : Kp [bx] H H2 := k1.trans k2
    have nl2 := kpN k2 b1 e1 True.intro
    walk_at "go"
    intro x dx nx ndx nxx
    generalize hh9 : upd (upd H2 dx _) x _ = H2b
    have s2b : Same H2 H2b := hh9 ▸ same_mk nx ndx
    have e2b := (congrFun hh9 x).symm.trans upd_same
    clear hh9
    refine ⟨x, dx, rfl, e2b, fun H3 a0 fs ea0 F neD e3 eDk k3 => ⟨rfl, ?_⟩⟩
    have s23 : Same H2 H3 := fun y o e => k3 y o (s2b y o e) (by simp; exact ne_of_none e nx)
    have neD2 : H2 a0.eD = none := Same.free s2b neD
    walk_at "go"
    refine ⟨9, 8, rfl, fun wp kd H4 s4 nwp nkd wkd ewp ekd => ?_⟩
    have s24 := Same.trans s23 s4
    have b4 := b2.same s24
    walk_at "go"
    refine ⟨bx, _, _, rfl, b4, by decide, by decide, by decide, fun fr0 H5 fr00 fr01 k5 b5 => ?_⟩
    walk_at "go"
    have md0 : 0 ≤ fr0 % (1 + mr) := Int.emod_nonneg _ (by omega)
    have md1 : fr0 % (1 + mr) < 1 + mr := Int.emod_lt_of_pos _ (by omega)
    refine ⟨bx, _, 1 + mr, fr0 % (1 + mr), rfl, b5, by decide, fun own hp hw key orl opn oak ohi H6 hok key0 key1 k6 nown norl nopn noak nohi nd5 ehp eown eorl eopn eoak eohi b6 => ?_⟩
    have nl4 := s24 _ _ nl2
    have nl6 := kpN k6 b5 (kpN k5 b4 nl4 True.intro) True.intro
    have lift35 : ∀ y o, H3 y = some o → NotBox o → H5 y = some o := fun y o e nb => kpN k5 b4 (s4 _ _ e) nb
    have o_x := lift35 _ _ e3 True.intro
    have o_D := lift35 _ _ eDk True.intro
    have o_w := kpN k5 b4 ewp True.intro
    have o_k := kpN k5 b4 ekd True.intro
    walk_at "go"
    refine r_ixL (.of nl6) (v := .str n1) rfl ?_
    walk_at "go"
    have nd5' := nd5
    simp only [List.nodup_cons, List.mem_cons, List.not_mem_nil, or_false, not_or, not_false_eq_true, List.nodup_nil, and_true] at nd5'
    obtain ⟨⟨m01, m02, m03, m04⟩, ⟨m12, m13, m14⟩, ⟨m23, m24⟩, m34⟩ := nd5'
    refine ⟨⟨x, 0, 0, 0, own, oak, ohi, wp, 0, 0, orl, opn, a0.eD, kd, 0, hp⟩, { name := n1, key := key, hw := hw, m := 1 + mr, fx := fr0 % (1 + mr), bn := 1, wn := 1, eask := [], oask := [], elast := none, olast := none, ehist := [], ohist := [] }, rfl, ⟨hnm n1 (by simp), key0, key1, hok, by show 1 ≤ 1 + mr; omega, by show 1 + mr ≤ 8; omega, md0, md1, rfl, rfl, rfl, rfl, rfl, rfl, rfl, rfl⟩, ⟨⟨dx, fs, kpN k6 b5 o_x True.intro, ⟨F.life, F.most, F.eD, F.ticks, F.next, F.n1, F.n2, F.n3, F.n4, F.n5, F.n6, F.n7, F.n8, F.n9, F.z⟩⟩, kpN k6 b5 o_D True.intro, kpN k6 b5 o_w True.intro, kpN k6 b5 o_k True.intro, eown, ehp, eorl, eopn, eoak, eohi, ?_⟩, fun H7 a' ab aw ao fr7 S7 k7 => ?_⟩
    · show [x, own, oak, ohi, wp, orl, opn, a0.eD, kd].Nodup
      simp only [List.nodup_cons, List.mem_cons, List.not_mem_nil, or_false, not_or, not_false_eq_true, List.nodup_nil, and_true]
      refine ⟨⟨?_, ?_, ?_, ?_, ?_, ?_, ?_, ?_⟩, ⟨?_, ?_, ?_, ?_, ?_, ?_, ?_⟩, ⟨?_, ?_, ?_, ?_, ?_, ?_⟩, ⟨?_, ?_, ?_, ?_, ?_⟩, ⟨?_, ?_, ?_, ?_⟩, ⟨?_, ?_, ?_⟩, ⟨?_, ?_⟩, ?_⟩ <;> first | assumption | exact fun z => (by assumption : ¬ _ = _) z.symm | exact ne_of_none (H := H5) (by assumption) (by assumption) | exact ne_of_none' (H := H5) (by assumption) (by assumption) | exact ne_of_none (H := H3) (by assumption) (by assumption) | exact ne_of_none' (H := H3) (by assumption) (by assumption) | exact ne_of_none (H := H2b) (by assumption) (by assumption) | exact ne_of_none' (H := H2b) (by assumption) (by assumption)
    have ab' : a'.b = x := ab
    have aw' : a'.w = wp := aw
    have ao' : a'.own = own := ao
    clear ab aw ao
    have K5 : Kp [bx] H H5 := K2.trans ((Same.kp s24).trans k5)
    have K6 : Kp [bx] H H6 := K5.trans k6
    have nxH : H x = none := free_kp K2 b2 nx hb
    have nDH : H a0.eD = none := free_kp K2 b2 neD2 hb
    have nwH : H wp = none := free_kp (K2.trans (Same.kp s23)) (b2.same s23) nwp hb
    have nkH : H kd = none := free_kp (K2.trans (Same.kp s23)) (b2.same s23) nkd hb
    have fr : ∀ y ∈ a'.L, H y = none := fun y hy => by
      rcases fr7 y hy with h | h
      · simp only [List.mem_cons, List.not_mem_nil, or_false] at h
        rcases h with rfl | rfl | rfl | rfl | rfl | rfl | rfl | rfl | rfl
        · exact nxH
        · exact free_kp K5 b5 nown hb
        · exact free_kp K5 b5 noak hb
        · exact free_kp K5 b5 nohi hb
        · exact nwH
        · exact free_kp K5 b5 norl hb
        · exact free_kp K5 b5 nopn hb
        · exact nDH
        · exact nkH
      · exact free_kp K6 b6 h hb
    have K7 : Kp [bx] H H7 := fun y o e n => k7 y o (K6 y o e n) (by
      simp only [List.mem_cons, List.not_mem_nil, or_false, not_or]
      exact ⟨(fun z => by rw [z, nDH] at e; cases e), (fun z => by rw [z, nkH] at e; cases e)⟩)
    have b7 : BoxAt H7 bx 100 := by
      obtain ⟨i, j, l, e, r⟩ := b6.mono (m := 100) (by omega)
      exact ⟨i, j, l, k7 _ _ e (by
        simp only [List.mem_cons, List.not_mem_nil, or_false, not_or]
        exact ⟨(fun z => by rw [z, kpN k6 b5 o_D True.intro] at e; cases e), (fun z => by rw [z, kpN k6 b5 o_k True.intro] at e; cases e)⟩), r⟩
    have nl7 := k7 _ _ nl6 (by
      simp only [List.mem_cons, List.not_mem_nil, or_false, not_or]
      exact ⟨(fun z => by rw [z, kpN k6 b5 o_D True.intro] at nl6; cases nl6), (fun z => by rw [z, kpN k6 b5 o_k True.intro] at nl6; cases nl6)⟩)
    rw [← ab', ← aw', ← ao']
    walk_at "go"
    refine ⟨bx, _, _, rfl, b7, by decide, by decide, by decide, fun st H8 st0 st1 k8 b8 => ?_⟩
    have st1' : st < 1000000 := st1
    have S8 := S7.kpB k8 b7
    have nl8 := kpN k8 b7 nl7 True.intro
    have nlb := box_ne hb np1
    obtain ⟨lv8, eO8, hL8⟩ := S8.ownat
    walk_at "go"
    refine r_dgetv (k := .inr "kept") eO8 own_kept ?_
    walk_at "go"
    refine ⟨bx, _, nl, [n1, n2, n3], 1 + mr, fr0 % (1 + mr), rfl, b8, by decide, nl8, nlb, by show 1 ≤ 3; decide, by show 3 ≤ 1000; decide, hnm, by omega, by omega, md0, md1, fun p rows H9 k9 np9 LA len6 b9 => ?_⟩
    obtain ⟨up, LA⟩ := LA
    obtain ⟨ps, ep, R⟩ := LA.ex
    have S9 := S8.kpB k9 b8
    have nl9 := kpN k9 b8 nl8 True.intro
    have K9 : Kp [bx] H H9 := K7.trans (k8.trans k9)
    walk_at "go"
    refine ⟨.ref bx, a', _, nl, [.str n2, .str n3], st, p, ps, rows, rfl, S9, ⟨rfl, rfl, rfl, rfl, rfl⟩, nl9, ep, R, LA.ok, by omega, st0, S8.new_far np9, by show (1 : Int) < 9000; decide, by show 0 < 900; decide, fun H10 d1 S10 Y1 nm1 m1' f1' w1 eh1 ol1 k10 => ?_⟩
    dsimp only at nm1 m1' f1' w1 eh1 ol1 ⊢
    have eh1' : d1.ehist.length = 1 := eh1
    rw [word_first LA.flt] at ol1 ⊢
    rw [if_pos rfl] at ol1
    walk_at "go"
    have nl10 := k10 _ _ nl9 (S9.strs_far nl9)
    have K10 := kp_st fr K9 k10
    have b10 := b9.st S9 k10
    refine ⟨12, rfl, by decide, by decide, for_it walk_range (fun i σ H1 => Kp [bx] H H1 ∧ ∃ u6 u7 u8 u9 u10 u11 u12 u13 u14 d s0 rs, σ = [some (.ref bx), some (.ref nl), some (.int (1 + mr)), some (.ref a'.b), some (.ref a'.w), some (.ref a'.own), u6, u7, u8, u9, u10, u11, u12, u13, u14] ∧ StAt K H1 a' d ∧ Sym d ∧ d.name = n1 ∧ d.m = 1 + mr ∧ d.fx = fr0 % (1 + mr) ∧ d.olast = some (s0, rs) ∧ fault rs (1 + mr) (fr0 % (1 + mr)) = none ∧ rs.length ≤ 6 + 6 * i ∧ 0 ≤ s0 ∧ s0 ≤ 1000000 + 100 * (i : Int) ∧ d.wn ≤ 2 + 3 * (i : Int) ∧ d.ehist.length ≤ 1 + 3 * i ∧ BoxAt H1 bx (1000 + 1000 * (i : Int)) ∧ H1 nl = some (.lst ([n1, n2, n3].map V.str))) ⟨K10, _, _, _, _, _, _, _, _, _, d1, st, rows, rfl, S10, Y1, nm1, m1', f1', ol1, LA.flt, len6, st0, by omega, by omega, by omega, b10.mono (by omega), nl10⟩ (fun _ _ _ _ _ => trivial) (fun i x0 σ H1x H2x hi p y => ?_) (fun σ H1x p => ?_)⟩
    · obtain ⟨KF, u6, u7, u8, u9, u10, u11, u12, u13, u14, d, s0, rs, rfl, S, Y, nm, dm, df, ol, fl, ln, s00, s01, wn, eh, bb, nlx⟩ := p
      obtain ⟨rfl, rfl⟩ := y
      have hi12 : (i : Int) < 12 := by omega
      have LO := S.ol
      rw [ol] at LO
      obtain ⟨_, okr, lnr⟩ := LO
      obtain ⟨lv, eO, hL⟩ := S.ownat
      have hL' : LastL a' H2x lv (some (s0, rs)) := ol ▸ hL
      obtain ⟨p1, t1, ps1, rfl, ep1, et1, R1, ft1⟩ := hL'
      walk_at "go"
      refine r_dgetv (k := .inr "last") eO own_last ?_
      walk_at "go"
      refine ⟨bx, _, _, rfl, bb, by omega, by decide, by decide, fun c9 H3y c90 c91 k3y b3y => ?_⟩
      have S3 := S.kpB k3y bb
      have et3 := kpN k3y bb et1 (notBox_refs _)
      have R3 : RowsAt H3y ps1 rs := R1.tk (tkp_box k3y bb)
      have nl3 := kpN k3y bb nlx True.intro
      walk_at "go"
      refine ⟨_, _, rfl, ?_⟩
      generalize hless : (if s0 - 1 - c9 > 0 then s0 - 1 - c9 else 0) = ls
      have ls0 : 0 ≤ ls := by rw [← hless]; split <;> omega
      have ls1 : ls ≤ s0 := by rw [← hless]; split <;> omega
      walk_at "go"
      refine ⟨.ref bx, a', d, nl, [.str n2, .str n3], ls, t1, ps1, rs, rfl, S3, Y, by rw [nm]; exact nl3, et3, R3, okr, by omega, ls0, ft1, by omega, by omega, fun H4y d1 S4y Y1 nm1 m1' f1' w1 eh1 ol1 k4y => ?_⟩
      have hw1 : wordB d.olast d.m d.fx ls rs = (if decide (ls < s0) = true then ("back" : Str) else "good") := by
        rw [ol, dm, df]
        by_cases hlt : ls < s0
        · rw [decide_eq_true hlt, if_pos rfl]; exact word_back hlt
        · rw [decide_eq_false hlt, if_neg (by decide), show ls = s0 by omega]; exact word_same fl
      have ol1' : d1.olast = some (s0, rs) := by
        rw [ol1, hw1]
        by_cases hlt : ls < s0
        · rw [show (if decide (ls < s0) = true then ("back" : Str) else "good") = "back" by rw [decide_eq_true hlt]; rfl, if_neg (by decide +kernel)]; exact ol
        · rw [show (if decide (ls < s0) = true then ("back" : Str) else "good") = "good" by rw [decide_eq_false hlt]; rfl, if_pos rfl, show ls = s0 by omega]
      walk_at "go"
      rw [hw1]
      refine ite_ne ?_
      refine r_ne rfl ?_
      rw [decide_eq_true rfl]
      have et4 := k4y _ _ et3 ft1
      have R4 : RowsAt H4y ps1 rs := R3.tk (S3.tk k4y)
      have nl4y := k4y _ _ nl3 (S3.strs_far nl3)
      have b4y := b3y.st S3 k4y
      have KK4 := kp_st fr (KF.trans k3y) k4y
      walk_at "go"
      refine ⟨t1, _, rfl, .inl (.of et4), ?_⟩
      refine fun l5 nl5 => ?_
      generalize hh : upd H4y l5 _ = H5y
      have s5 : Same H4y H5y := hh ▸ Same.new nl5
      have e5 : H5y l5 = some _ := hh ▸ upd_same
      clear hh
      walk_at "go"
      have S5 := S4y.same s5
      have b5y := b4y.same s5
      refine ⟨bx, _, nl, [n1, n2, n3], a', d1, l5, ps1, rs, rfl, S5, b5y, by omega, s5 _ _ nl4y, nlb, by show 1 ≤ 3; decide, by show 3 ≤ 1000; decide, hnm, e5, box_ne b4y nl5, R4.same s5, okr, by omega, fun p6 rows2 H6y k6y np6 RR6 ok6 len6y b6y => ?_⟩
      obtain ⟨ps6, ep6, R6⟩ := RR6
      have p6f : p6 ∉ a'.L := S5.new_far np6
      walk_at "go"
      refine ⟨bx, _, _, rfl, b6y, by omega, by decide, by decide, fun c7 H7y c70 c71 k7y b7y => ?_⟩
      walk_at "go"
      refine fun l8 nl8x => ?_
      generalize hh : upd H7y l8 _ = H8y
      have s8 : Same H7y H8y := hh ▸ Same.new nl8x
      have e8 : H8y l8 = some _ := hh ▸ upd_same
      clear hh
      walk_at "go"
      have b8y := b7y.same s8
      refine ⟨bx, _, _, rfl, b8y, by omega, by decide, by decide, fun e9c H9y d90 d91 k9y b9y => ?_⟩
      have e9 : H9y l8 = some (.lst (([0, 0, 0, 1 + c7] : List Int).map V.int)) := kp1_ne k9y e8 (box_ne b7y nl8x)
      walk_at "go"
      refine r_ixL (.of e9) (atI_ints (bs := [0, 0, 0, 1 + c7]) d90 (by simpa using d91)) ?_
      have cs := getD_mem (xs := [0, 0, 0, 1 + c7]) d90 (by simpa using d91)
      generalize ([0, 0, 0, 1 + c7] : List Int).getD e9c.toNat 0 = wy at cs
      have wy2 : 0 ≤ wy ∧ wy ≤ 99 := by simp at cs; omega
      have S9y := (((S5.kpB k6y b5y).kpB k7y b6y).same s8).kpB k9y b8y
      obtain ⟨lv9, eO9, hL9⟩ := S9y.ownat
      walk_at "go"
      refine r_dgetv (k := .inr "last") eO9 own_last ?_
      have hL9' : LastL a' H9y lv9 (some (s0, rs)) := ol1' ▸ hL9
      obtain ⟨p9, t9, ps9, rfl, ep9, et9, R9, ft9⟩ := hL9'
      walk_at "go"
      have ep69 := kpN k9y b8y (s8 _ _ (kpN k7y b6y ep6 (notBox_refs _))) (notBox_refs _)
      have R69 : RowsAt H9y ps6 rows2 := ((R6.tk (tkp_box k7y b6y)).same s8).tk (tkp_box k9y b8y)
      have nl9y := kpN k9y b8y (s8 _ _ (kpN k7y b6y (kpN k6y b5y (s5 _ _ nl4y) True.intro) True.intro)) True.intro
      have KK9 : Kp [bx] H H9y := KK4.trans ((Same.kp s5).trans (k6y.trans (k7y.trans ((Same.kp s8).trans k9y))))
      refine ⟨.ref bx, a', d1, nl, [.str n2, .str n3], s0 + wy, p6, ps6, rows2, rfl, S9y, Y1, by rw [nm1, nm]; exact nl9y, ep69, R69, ok6, by omega, by omega, p6f, by omega, by omega, fun H10y d2 S10 Y2 nm2 m2 f2 w2 eh2 ol2 k10y => ?_⟩
      have wo := word_other (m := 1 + mr) (fx := fr0 % (1 + mr)) (s0 := s0) (by_ := wy) (rs := rs) (rows := rows2) wy2.1
      rw [show wordB d1.olast d1.m d1.fx (s0 + wy) rows2 = wordB (some (s0, rs)) (1 + mr) (fr0 % (1 + mr)) (s0 + wy) rows2 by rw [ol1', m1'.trans dm, f1'.trans df]] at ol2 ⊢
      generalize wordB (some (s0, rs)) (1 + mr) (fr0 % (1 + mr)) (s0 + wy) rows2 = W at wo ol2 ⊢
      have nl10' := k10y _ _ nl9y (S9y.strs_far nl9y)
      have b10' := b9y.st S9y k10y
      have KK10 := kp_st fr KK9 k10y
      have ep10 := k10y _ _ ep69 p6f
      have R10 : RowsAt H10y ps6 rows2 := R69.tk (S9y.tk k10y)
      obtain ⟨lv10, eO10, hL10⟩ := S10.ownat
      walk_at "go"
      refine r_dgetv (k := .inr "kept") eO10 own_kept ?_
      walk_at "go"
      refine ⟨p6, ps6, rows2, 1 + mr, d2.fx, rfl, ep10, R10, ok6, fun H11 s11' => ?_⟩
      rw [f2.trans (f1'.trans df)]
      walk_at "go"
      rw [decOpt]
      rcases wo with ⟨rfl, j9, hj⟩ | ⟨rfl, hj⟩ | ⟨rfl, hj, hz9⟩
      · rw [hj]
        dsimp only [Option.isNone]
        walk_at "go"
        refine fun l13 nl13 => ?_
        generalize hh : upd H11 l13 _ = H13
        have s13 : Same H11 H13 := hh ▸ Same.new nl13
        have e13 : H13 l13 = some _ := hh ▸ upd_same
        clear hh
        walk_at "go"
        refine .inr ⟨_, rfl, ?_⟩
        walk_at "go"
        refine ⟨l13, _, rfl, .of e13, fun q14 nq14 => ?_⟩
        rw [show cutV [V.str "boards", V.str "good", V.str "cut"] (some (if false = true then (1 : Int) else 0)) none = [V.str "boards", V.str "good", V.str "cut"] by rfl]
        generalize hh9 : upd H13 q14 _ = HZ
        have s14 : Same H13 HZ := hh9 ▸ Same.new nq14
        have e14 := (congrFun hh9 q14).symm.trans upd_same
        clear hh9
        walk_at "go"
        refine r_ninL (.of e14) rfl rfl ?_
        rw [show inV (.str "boards") [V.str "boards", V.str "good", V.str "cut"] = true by decide +kernel]
        have sZ : Same H10y HZ := Same.trans s11' (Same.trans s13 s14)
        have SZ := S10.same sZ
        have nlZ := sZ _ _ nl10'
        have bZ := b10'.same sZ
        have KKZ : Kp [bx] H HZ := KK10.trans (Same.kp sZ)
        obtain ⟨s1, rs1, h61, fl1, ln1, s10, s11⟩ : ∃ s1 rs1, d2.olast = some (s1, rs1) ∧ fault rs1 (1 + mr) (fr0 % (1 + mr)) = none ∧ rs1.length ≤ 6 + 6 * (i + 1) ∧ 0 ≤ s1 ∧ s1 ≤ 1000000 + 100 * ((i + 1 : Nat) : Int) := ⟨s0, rs, by rw [ol2, if_neg (by decide +kernel), ol1'], fl, by omega, s00, by omega⟩
        walk_at "go"
        by_cases hwy : 0 < wy
        · rw [decide_eq_true hwy]
          walk_at "go"
          obtain ⟨lvZ, eOZ, hLZ⟩ := SZ.ownat
          have LOZ := SZ.ol
          rw [h61] at LOZ
          obtain ⟨_, okZ, lnZ⟩ := LOZ
          refine r_dgetv (k := .inr "last") eOZ own_last ?_
          have hLZ' : LastL a' HZ lvZ (some (s1, rs1)) := h61 ▸ hLZ
          obtain ⟨pZ, tZ, psZ, rfl, epZ, etZ, RZ9, ftZ⟩ := hLZ'
          walk_at "go"
          refine r_dgetv (k := .inr "last") eOZ own_last ?_
          walk_at "go"
          refine ⟨.ref bx, a', d2, nl, [.str n2, .str n3], s1, tZ, psZ, rs1, rfl, SZ, Y2, by rw [nm2, nm1, nm]; exact nlZ, etZ, RZ9, okZ, by omega, s10, ftZ, by omega, by omega, fun H12 d3 S12 Y3 nm3 m3 f3 w3 eh3 ol3 k12 => ?_⟩
          have wg : wordB d2.olast d2.m d2.fx s1 rs1 = "good" := by rw [h61, m2.trans (m1'.trans dm), f2.trans (f1'.trans df)]; exact word_same fl1
          rw [wg] at ol3 ⊢
          rw [if_pos rfl] at ol3
          walk_at "go"
          exact ⟨kp_st fr KKZ k12, _, _, _, _, _, _, _, _, _, d3, s1, rs1, rfl, S12, Y3, by rw [nm3, nm2, nm1, nm], by rw [m3, m2, m1', dm], by rw [f3, f2, f1', df], ol3, fl1, by omega, s10, by omega, by omega, by omega, (bZ.st SZ k12).mono (by omega), k12 _ _ nlZ (SZ.strs_far nlZ)⟩
    
        · rw [decide_eq_false hwy]
          walk_at "go"
          obtain ⟨lvZ, eOZ, hLZ⟩ := SZ.ownat
          have LOZ := SZ.ol
          rw [h61] at LOZ
          obtain ⟨_, okZ, lnZ⟩ := LOZ
          refine r_dgetv (k := .inr "last") eOZ own_last ?_
          have hLZ' : LastL a' HZ lvZ (some (s1, rs1)) := h61 ▸ hLZ
          obtain ⟨pZ, tZ, psZ, rfl, epZ, etZ, RZ9, ftZ⟩ := hLZ'
          walk_at "go"
          refine r_dgetv (k := .inr "last") eOZ own_last ?_
          walk_at "go"
          refine ⟨.ref bx, a', d2, nl, [.str n2, .str n3], s1, tZ, psZ, rs1, rfl, SZ, Y2, by rw [nm2, nm1, nm]; exact nlZ, etZ, RZ9, okZ, by omega, s10, ftZ, by omega, by omega, fun H12 d3 S12 Y3 nm3 m3 f3 w3 eh3 ol3 k12 => ?_⟩
          have wg : wordB d2.olast d2.m d2.fx s1 rs1 = "good" := by rw [h61, m2.trans (m1'.trans dm), f2.trans (f1'.trans df)]; exact word_same fl1
          rw [wg] at ol3 ⊢
          rw [if_pos rfl] at ol3
          walk_at "go"
          exact ⟨kp_st fr KKZ k12, _, _, _, _, _, _, _, _, _, d3, s1, rs1, rfl, S12, Y3, by rw [nm3, nm2, nm1, nm], by rw [m3, m2, m1', dm], by rw [f3, f2, f1', df], ol3, fl1, by omega, s10, by omega, by omega, by omega, (bZ.st SZ k12).mono (by omega), k12 _ _ nlZ (SZ.strs_far nlZ)⟩
    
      · rw [hj]
        dsimp only [Option.isNone]
        walk_at "go"
        refine fun l13 nl13 => ?_
        generalize hh : upd H11 l13 _ = H13
        have s13 : Same H11 H13 := hh ▸ Same.new nl13
        have e13 : H13 l13 = some _ := hh ▸ upd_same
        clear hh
        walk_at "go"
        refine .inr ⟨_, rfl, ?_⟩
        walk_at "go"
        refine ⟨l13, _, rfl, .of e13, fun q14 nq14 => ?_⟩
        rw [show cutV [V.str "boards", V.str "good", V.str "cut"] (some (if true = true then (1 : Int) else 0)) none = [V.str "good", V.str "cut"] by rfl]
        generalize hh9 : upd H13 q14 _ = HZ
        have s14 : Same H13 HZ := hh9 ▸ Same.new nq14
        have e14 := (congrFun hh9 q14).symm.trans upd_same
        clear hh9
        walk_at "go"
        refine r_ninL (.of e14) rfl rfl ?_
        rw [show inV (.str "good") [V.str "good", V.str "cut"] = true by decide +kernel]
        have sZ : Same H10y HZ := Same.trans s11' (Same.trans s13 s14)
        have SZ := S10.same sZ
        have nlZ := sZ _ _ nl10'
        have bZ := b10'.same sZ
        have KKZ : Kp [bx] H HZ := KK10.trans (Same.kp sZ)
        obtain ⟨s1, rs1, h61, fl1, ln1, s10, s11⟩ : ∃ s1 rs1, d2.olast = some (s1, rs1) ∧ fault rs1 (1 + mr) (fr0 % (1 + mr)) = none ∧ rs1.length ≤ 6 + 6 * (i + 1) ∧ 0 ≤ s1 ∧ s1 ≤ 1000000 + 100 * ((i + 1 : Nat) : Int) := ⟨s0 + wy, rows2, by rw [ol2, if_pos rfl], hj, by omega, by omega, by omega⟩
        walk_at "go"
        by_cases hwy : 0 < wy
        · rw [decide_eq_true hwy]
          walk_at "go"
          obtain ⟨lvZ, eOZ, hLZ⟩ := SZ.ownat
          have LOZ := SZ.ol
          rw [h61] at LOZ
          obtain ⟨_, okZ, lnZ⟩ := LOZ
          refine r_dgetv (k := .inr "last") eOZ own_last ?_
          have hLZ' : LastL a' HZ lvZ (some (s1, rs1)) := h61 ▸ hLZ
          obtain ⟨pZ, tZ, psZ, rfl, epZ, etZ, RZ9, ftZ⟩ := hLZ'
          walk_at "go"
          refine r_dgetv (k := .inr "last") eOZ own_last ?_
          walk_at "go"
          refine ⟨.ref bx, a', d2, nl, [.str n2, .str n3], s1, tZ, psZ, rs1, rfl, SZ, Y2, by rw [nm2, nm1, nm]; exact nlZ, etZ, RZ9, okZ, by omega, s10, ftZ, by omega, by omega, fun H12 d3 S12 Y3 nm3 m3 f3 w3 eh3 ol3 k12 => ?_⟩
          have wg : wordB d2.olast d2.m d2.fx s1 rs1 = "good" := by rw [h61, m2.trans (m1'.trans dm), f2.trans (f1'.trans df)]; exact word_same fl1
          rw [wg] at ol3 ⊢
          rw [if_pos rfl] at ol3
          walk_at "go"
          exact ⟨kp_st fr KKZ k12, _, _, _, _, _, _, _, _, _, d3, s1, rs1, rfl, S12, Y3, by rw [nm3, nm2, nm1, nm], by rw [m3, m2, m1', dm], by rw [f3, f2, f1', df], ol3, fl1, by omega, s10, by omega, by omega, by omega, (bZ.st SZ k12).mono (by omega), k12 _ _ nlZ (SZ.strs_far nlZ)⟩
    
        · rw [decide_eq_false hwy]
          walk_at "go"
          obtain ⟨lvZ, eOZ, hLZ⟩ := SZ.ownat
          have LOZ := SZ.ol
          rw [h61] at LOZ
          obtain ⟨_, okZ, lnZ⟩ := LOZ
          refine r_dgetv (k := .inr "last") eOZ own_last ?_
          have hLZ' : LastL a' HZ lvZ (some (s1, rs1)) := h61 ▸ hLZ
          obtain ⟨pZ, tZ, psZ, rfl, epZ, etZ, RZ9, ftZ⟩ := hLZ'
          walk_at "go"
          refine r_dgetv (k := .inr "last") eOZ own_last ?_
          walk_at "go"
          refine ⟨.ref bx, a', d2, nl, [.str n2, .str n3], s1, tZ, psZ, rs1, rfl, SZ, Y2, by rw [nm2, nm1, nm]; exact nlZ, etZ, RZ9, okZ, by omega, s10, ftZ, by omega, by omega, fun H12 d3 S12 Y3 nm3 m3 f3 w3 eh3 ol3 k12 => ?_⟩
          have wg : wordB d2.olast d2.m d2.fx s1 rs1 = "good" := by rw [h61, m2.trans (m1'.trans dm), f2.trans (f1'.trans df)]; exact word_same fl1
          rw [wg] at ol3 ⊢
          rw [if_pos rfl] at ol3
          walk_at "go"
          exact ⟨kp_st fr KKZ k12, _, _, _, _, _, _, _, _, _, d3, s1, rs1, rfl, S12, Y3, by rw [nm3, nm2, nm1, nm], by rw [m3, m2, m1', dm], by rw [f3, f2, f1', df], ol3, fl1, by omega, s10, by omega, by omega, by omega, (bZ.st SZ k12).mono (by omega), k12 _ _ nlZ (SZ.strs_far nlZ)⟩
      · rw [hj]
        dsimp only [Option.isNone]
        walk_at "go"
        refine fun l13 nl13 => ?_
        generalize hh : upd H11 l13 _ = H13
        have s13 : Same H11 H13 := hh ▸ Same.new nl13
        have e13 : H13 l13 = some _ := hh ▸ upd_same
        clear hh
        walk_at "go"
        refine .inr ⟨_, rfl, ?_⟩
        walk_at "go"
        refine ⟨l13, _, rfl, .of e13, fun q14 nq14 => ?_⟩
        rw [show cutV [V.str "boards", V.str "good", V.str "cut"] (some (if true = true then (1 : Int) else 0)) none = [V.str "good", V.str "cut"] by rfl]
        generalize hh9 : upd H13 q14 _ = HZ
        have s14 : Same H13 HZ := hh9 ▸ Same.new nq14
        have e14 := (congrFun hh9 q14).symm.trans upd_same
        clear hh9
        walk_at "go"
        refine r_ninL (.of e14) rfl rfl ?_
        rw [show inV (.str "cut") [V.str "good", V.str "cut"] = true by decide +kernel]
        have sZ : Same H10y HZ := Same.trans s11' (Same.trans s13 s14)
        have SZ := S10.same sZ
        have nlZ := sZ _ _ nl10'
        have bZ := b10'.same sZ
        have KKZ : Kp [bx] H HZ := KK10.trans (Same.kp sZ)
        obtain ⟨s1, rs1, h61, fl1, ln1, s10, s11⟩ : ∃ s1 rs1, d2.olast = some (s1, rs1) ∧ fault rs1 (1 + mr) (fr0 % (1 + mr)) = none ∧ rs1.length ≤ 6 + 6 * (i + 1) ∧ 0 ≤ s1 ∧ s1 ≤ 1000000 + 100 * ((i + 1 : Nat) : Int) := ⟨s0, rs, by rw [ol2, if_neg (by decide +kernel), ol1'], fl, by omega, s00, by omega⟩
        have hwy : ¬ 0 < wy := by omega
        walk_at "go"
        obtain ⟨lvZ, eOZ, hLZ⟩ := SZ.ownat
        have LOZ := SZ.ol
        rw [h61] at LOZ
        obtain ⟨_, okZ, lnZ⟩ := LOZ
        refine r_dgetv (k := .inr "last") eOZ own_last ?_
        have hLZ' : LastL a' HZ lvZ (some (s1, rs1)) := h61 ▸ hLZ
        obtain ⟨pZ, tZ, psZ, rfl, epZ, etZ, RZ9, ftZ⟩ := hLZ'
        walk_at "go"
        refine r_dgetv (k := .inr "last") eOZ own_last ?_
        walk_at "go"
        refine ⟨.ref bx, a', d2, nl, [.str n2, .str n3], s1, tZ, psZ, rs1, rfl, SZ, Y2, by rw [nm2, nm1, nm]; exact nlZ, etZ, RZ9, okZ, by omega, s10, ftZ, by omega, by omega, fun H12 d3 S12 Y3 nm3 m3 f3 w3 eh3 ol3 k12 => ?_⟩
        have wg : wordB d2.olast d2.m d2.fx s1 rs1 = "good" := by rw [h61, m2.trans (m1'.trans dm), f2.trans (f1'.trans df)]; exact word_same fl1
        rw [wg] at ol3 ⊢
        rw [if_pos rfl] at ol3
        walk_at "go"
        exact ⟨kp_st fr KKZ k12, _, _, _, _, _, _, _, _, _, d3, s1, rs1, rfl, S12, Y3, by rw [nm3, nm2, nm1, nm], by rw [m3, m2, m1', dm], by rw [f3, f2, f1', df], ol3, fl1, by omega, s10, by omega, by omega, by omega, (bZ.st SZ k12).mono (by omega), k12 _ _ nlZ (SZ.strs_far nlZ)⟩
    · obtain ⟨KF, u6, u7, u8, u9, u10, u11, u12, u13, u14, d, s0, rs, rfl, _⟩ := p
      walk_at "go"
      exact k _ KF
theorem sql_same {H H' : Hp} {l : Addr} {xs : List V} (s : Same H H') (h : SqL K H l xs) : SqL K H' l xs := by
  rcases h with (h | ⟨o, h⟩) | h
  · exact .inl (.inl (s _ _ h))
  · exact .inl (.inr ⟨o, s _ _ h⟩)
  · exact .inr h
def spLaw (K : PySem.W.Frag) : Sp := fun vs H Q _ => ∃ (l : Addr) (ns : List Int), vs = [.ref l] ∧ SqL K H l (ns.map V.int) ∧ ns.length ≤ 100000 ∧ ∀ H', Q (.bl true) H' 
abbrev N_law : List Str := ["_law_script", "_law_k"]
theorem sc_law : FnScope N_law ["_law_script"] (defScope Hd.slaw) := ⟨rfl, rfl, rfl, by decide +kernel, rfl, by decide +kernel, by decide +kernel⟩
theorem ok_f_law (T : Hd.Tx K mg) : ∀ fd, FunD K "law" "law" (defArgs Hd.slaw) (defBody Hd.slaw) (defScope Hd.slaw) [] [] (He.ga K "law") fd → FnOk P w K mg base CX0 16 (He.ga K "law") fd ["_law_script"] ((spLaw K)) := by
  intro fd F
  have sc := sc_law
  have C_L_right := ok_L_right (P := P) (w := w) (base := base) T
  have C_L_box := ok_L_box (P := P) (w := w) (base := base) T
  refine fnD F sc (fun vs H Q E h => ?_)  (fun cdv A outer s H vs Q E hr h => ?_)
  · obtain ⟨l, ns, rfl, _⟩ := h; rfl
  · obtain ⟨l, ns, rfl, hl, hz, k⟩ := h
    refine ⟨_, (pss_one (ps_ret (pe_callB (cr_all rfl) (by rfl) T.f_all (by decide +kernel) (pa_cons (pe_lc (own := [("_law_k", 1)]) (g := (gName 1)) (tt := tYes) rfl sc.nd (pi_range1 (by rfl) T.f_range (pa_cons (pe_op op_add pe_int (pe_callB (call_min2 rfl) (by rfl) T.f_min (by decide +kernel) (pa_cons pe_int (pa_cons (pe_callB call_len (by rfl) T.f_len (by decide +kernel) (pa_cons (pv 0) pa_nil)) pa_nil)))) pa_nil)) (blkOk_by (own := [("_law_k", 1)]) (N := N_law) (sc := defScope Hd.slaw) (by decide +kernel)) (fun _ _ _ _ _ => (gn 1 sc.nd)) (fun _ _ _ _ _ => pts_nil) (fun _ _ _ _ _ => (pc C_L_right hr (by decide) (pa_cons (pc C_L_box hr (by decide) (pa_cons (pv 0) (pa_cons (pv 1) pa_nil))) pa_nil)))) pa_nil)))), ?_⟩
    try dsimp only [cxOf]
    walk_at "go"
    
    refine r_lenL hl ?_
    walk_at "go"
    refine ⟨_, _, rfl, ?_⟩
    rw [List.length_map]
    have hmn : 0 ≤ (if ((ns.length : Nat) : Int) < 4 then ((ns.length : Nat) : Int) else 4) ∧ (if ((ns.length : Nat) : Int) < 4 then ((ns.length : Nat) : Int) else 4) ≤ 4 := by split <;> omega
    generalize (if ((ns.length : Nat) : Int) < 4 then ((ns.length : Nat) : Int) else 4) = q at hmn
    walk_at "go"
    refine ⟨1 + q, rfl, by omega, by omega, fun D hD => ?_⟩
    refine lc_pure walk_range (List.replicate (1 + q).toNat (.bl true)) (by simp) hD (fun H1 s1 => trivial) (fun i x H1 H2 hi s1 e1 y => ?_) (fun H1 s1 e1 => ?_)
    · obtain ⟨rfl, rfl⟩ := y
      have hi5 : (i : Int) < 5 := by omega
      refine ⟨rfl, ?_⟩
      walk_at "go"
      refine ⟨l, ns, _, rfl, sql_same s1 hl, hz, by omega, by omega, fun H3 bx s3 nb b3 => ?_⟩
      walk_at "go"
      refine ⟨bx, rfl, b3, fun H4 k4 => ?_⟩
      have s14 : Same H2 H4 := fun y o e => k4 y o (s3 _ _ e) (notbx (ne_of_none e nb))
      exact lc_pend hD (by rw [List.length_replicate]; omega) (by rw [List.getElem?_replicate, if_pos hi]) (s14 _ _ e1) (Same.trans s1 s14)
    walk_at "go"
    refine r_all (.of e1) ?_
    walk_at "go"
    exact k H1
end
end Fx

/-! the end -/
open PySem PySem.W PySem.Calls PyProof.Rows
theorem Fx.facts {P : Program} {w : World} {K : PySem.W.Frag} {h : Heap} {mg : Str → Option Value} {f : Addr} (X : K.In h) (G : h.Ns mainGlobals mg) (hfa : mg ("law" : Str) = some (.ref f)) (c : Hd.Says K) :
    ∃ fd : FuncData, (∀ (s : Shared) (v : Value), BindsTo s fd ⟨[v], []⟩ [("_law_script", v)]) ∧ ∀ base : Heap, K.In base → base.Ns mainGlobals mg → L2.FnOk P w K mg base L2.CX0 20 f fd ["_law_script"] (Fx.spLaw K) := by
  have T := Hd.Tx.of X G c
  obtain ⟨fd, F⟩ := T.d_law
  have e := hfa.symm.trans T.g_law
  cases e
  have b := L2.FunD.bindsA (ps := ["_law_script"]) F fun _ _ _ _ _ _ us hl => match us, hl with | [_], _ => rfl
  exact ⟨fd, fun s v => b s [v] rfl, fun base _ _ => (Fx.ok_f_law T fd F).mono (by decide)⟩
theorem PySem.Challenge.cw_startlog_k64_whole_starts_and_logs_that_holds : PySem.Challenge.rw_startlog_k64_whole_starts_and_logs_that.Holds := by
  w_on; o_law
  refine HandSHeadRun.head_any (r := OpenLaw.row PySem.Challenge.rw_startlog_k64_whole_starts_and_logs_that) (q := Hd.qv) (H := Hd.hk) (ob := Hd.ob) (M := 6000) (loose := Hd.names) (d := HandSHeadRun.topDef (OpenLaw.row PySem.Challenge.rw_startlog_k64_whole_starts_and_logs_that).prog 117) (kwd := []) Hd.ob_eq
    (by kernel_rfl) (fun s => by kernel_rfl) Hd.run (by kernel_rfl) (by kernel_rfl) (by kernel_rfl) (by rfl) (by first | assumption | decide +kernel) (by decide +kernel) ⟨rfl, rfl, rfl, rfl, rfl, by decide +kernel⟩ ?hw ?hc
  case hw => w_witness2
  case hc =>
    refine L2.walk_ofE (l := PySem.Challenge.rw_startlog_k64_whole_starts_and_logs_that) (n := 63) (k := 20) (x := "_law_script") (CX := L2.CX0) rfl (by decide) (by kernel_rfl) ⟨rfl, by decide, by decide⟩ ?F (fun _ _ _ _ z => z)
    intro w mg fa h Y G hmg0
    obtain ⟨K, KX, c⟩ := Y
    have hmg : mg ("law" : PySem.Str) = some (.ref fa) := by
      have e : (HandSHeadRun.topDef (OpenLaw.row PySem.Challenge.rw_startlog_k64_whole_starts_and_logs_that).prog 117).name = ("law" : PySem.Str) := by kernel_rfl
      rw [← e]
      exact hmg0
    obtain ⟨fd, hb, hF⟩ := Fx.facts (P := (PySem.Challenge.rw_startlog_k64_whole_starts_and_logs_that).prog) (w := w) KX G hmg c
    exact ⟨K, fd, Fx.spLaw K, KX, hb, fun H a ns hl _ hS => ⟨a, ns, rfl, hS, Nat.le_trans hl (by decide), fun _ => rfl⟩, hF⟩
