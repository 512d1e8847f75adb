import PyProof.Rows.All
import Wide.All
import OpenK.AllK
import Wide.FinOn
import KE.KStateDown
import HandS.ForMost
import HandS.ForExc
import HandS.Defaults
import HandS.Star
import HandS.Property
import HandS.ClsMeth
import HandS.IsInst
import HandS.TryMany
import HandS.ExcInit
import HandS.ExcField
import HandS.Style
import HandS.NoneIn
import HandS.FStr
import HandS.StrMore
import HandS.RaiseMore
import HandS.Evl
import HandS.Steps
import HandS.Walk
import HandS.DictTup
import HandS.More
import HandS.Wide
import HandS.HeadNt
import HandS.HeadHook3
import HandS.HeadEnd
import HandS.EndBits
import HandS.Head2
import KE.KExcInit
import KE.SortData
import KE.KUnpackStar
import PyProof.RulesMatchSeq
import PySem.Challenge.RW_turnedcards_k57_whole_two_consoles
import KE.GoesMore
import HandS.Conv
import KE.OsSort
import PyProof.DictUpdate
import PySem.Str
import PyProof.ReprRoads
set_option Elab.async false
set_option linter.all false
set_option maxRecDepth 100000
set_option maxHeartbeats 4000000
namespace Tc
open PySem PySem.Spec PyProof.Rows L2 He He5
/-! ### the text by places -/
def top (i : Nat) : Stmt := PySem.Challenge.pw_turnedcards_k57_whole_two_consoles.main.body.getD i (.Pass ⟨0, 0, 0, 0⟩)
abbrev s_InvalidCommand_init : Stmt := inClass (top 8) 0
abbrev s_NothingToUndo_init : Stmt := inClass (top 11) 0
abbrev s_NothingToRedo_init : Stmt := inClass (top 12) 0
abbrev s_is_integer : Stmt := top 15
abbrev s_is_between : Stmt := top 16
abbrev s_common_divisor : Stmt := top 17
abbrev s_common_multiple : Stmt := top 18
abbrev s_is_free_step : Stmt := top 19
abbrev s_stepped : Stmt := top 20
abbrev s_cycle_lists : Stmt := top 24
abbrev s_Arrangement_init : Stmt := inClass (top 26) 0
abbrev s_Arrangement_sorted_row : Stmt := inClass (top 26) 1
abbrev s_Arrangement_is_row : Stmt := inClass (top 26) 2
abbrev s_Arrangement_row : Stmt := inClass (top 26) 3
abbrev s_Arrangement_len : Stmt := inClass (top 26) 8
abbrev s_order : Stmt := top 28
abbrev s_parse_count : Stmt := top 30
abbrev s_parse_integer : Stmt := top 31
abbrev s_format_arrangement : Stmt := top 32
abbrev s_format_step : Stmt := top 33
abbrev s_parse_step : Stmt := top 34
abbrev s_fewest_of : Stmt := top 37
abbrev s_steps_within : Stmt := top 38
abbrev s_best_of : Stmt := top 39
abbrev s_is_name : Stmt := top 44
abbrev s_check_name : Stmt := top 45
abbrev s_Game_init : Stmt := inClass (top 47) 0
abbrev s_Game_row : Stmt := inClass (top 47) 1
abbrev s_Game_remaining : Stmt := inClass (top 47) 3
abbrev s_Game_go_to : Stmt := inClass (top 47) 7
abbrev s_Game_play : Stmt := inClass (top 47) 8
abbrev s_Game_move : Stmt := inClass (top 47) 9
abbrev s_Game_hint : Stmt := inClass (top 47) 11
abbrev s_Game_undo : Stmt := inClass (top 47) 12
abbrev s_Game_redo : Stmt := inClass (top 47) 13
abbrev s_disorders_of : Stmt := top 50
abbrev s_disorders : Stmt := top 51
abbrev s_best_steps : Stmt := top 52
abbrev s_performed : Stmt := top 53
abbrev s_count_from : Stmt := top 54
abbrev s_check_listed : Stmt := top 55
abbrev s_count_words : Stmt := top 56
abbrev s_parse_argument : Stmt := top 59
abbrev s_parse_command : Stmt := top 60
abbrev s_Console_init : Stmt := inClass (top 61) 0
abbrev s_Console_run : Stmt := inClass (top 61) 1
abbrev s_Console_query : Stmt := inClass (top 61) 2
abbrev s_l_pool : Stmt := top 63
abbrev s_l_take : Stmt := top 64
abbrev s_l_cards : Stmt := top 65
abbrev s_l_step : Stmt := top 66
abbrev s_l_done : Stmt := top 67
abbrev s_l_cycles : Stmt := top 68
abbrev s_l_fewest : Stmt := top 69
abbrev s_l_disorders : Stmt := top 70
abbrev s_l_at : Stmt := top 71
abbrev s_l_product : Stmt := top 72
abbrev s_l_new_model : Stmt := top 73
abbrev s_l_now : Stmt := top 74
abbrev s_l_play : Stmt := top 75
abbrev s_l_back : Stmt := top 76
abbrev s_l_again : Stmt := top 77
abbrev s_l_best : Stmt := top 78
abbrev s_l_word : Stmt := top 79
abbrev s_l_run : Stmt := top 80
abbrev s_l_period : Stmt := top 81
abbrev s_l_words : Stmt := top 82
abbrev s_l_check_all : Stmt := top 83
abbrev s_l_fresh : Stmt := top 84
abbrev s_l_action : Stmt := top 85
abbrev s_l_command : Stmt := top 86
abbrev s_l_expected : Stmt := top 87
abbrev s_l_check_same : Stmt := top 88
abbrev s_l_check_turn : Stmt := top 89
abbrev s_law : Stmt := top 90
/-! ### the defs -/
def d_InvalidCommand_init : DefA := ⟨fun K => ma K (ga K "InvalidCommand") "__init__", "__init__", "InvalidCommand.__init__", defArgs s_InvalidCommand_init, defBody s_InvalidCommand_init, defScope s_InvalidCommand_init, [], []⟩
def d_NothingToUndo_init : DefA := ⟨fun K => ma K (ga K "NothingToUndo") "__init__", "__init__", "NothingToUndo.__init__", defArgs s_NothingToUndo_init, defBody s_NothingToUndo_init, defScope s_NothingToUndo_init, [], []⟩
def d_NothingToRedo_init : DefA := ⟨fun K => ma K (ga K "NothingToRedo") "__init__", "__init__", "NothingToRedo.__init__", defArgs s_NothingToRedo_init, defBody s_NothingToRedo_init, defScope s_NothingToRedo_init, [], []⟩
def d_is_integer : DefA := ⟨fun K => ga K "is_integer", "is_integer", "is_integer", defArgs s_is_integer, defBody s_is_integer, defScope s_is_integer, [], []⟩
def d_is_between : DefA := ⟨fun K => ga K "is_between", "is_between", "is_between", defArgs s_is_between, defBody s_is_between, defScope s_is_between, [], []⟩
def d_common_divisor : DefA := ⟨fun K => ga K "common_divisor", "common_divisor", "common_divisor", defArgs s_common_divisor, defBody s_common_divisor, defScope s_common_divisor, [], []⟩
def d_common_multiple : DefA := ⟨fun K => ga K "common_multiple", "common_multiple", "common_multiple", defArgs s_common_multiple, defBody s_common_multiple, defScope s_common_multiple, [], []⟩
def d_is_free_step : DefA := ⟨fun K => ga K "is_free_step", "is_free_step", "is_free_step", defArgs s_is_free_step, defBody s_is_free_step, defScope s_is_free_step, [], []⟩
def d_stepped : DefA := ⟨fun K => ga K "stepped", "stepped", "stepped", defArgs s_stepped, defBody s_stepped, defScope s_stepped, [], []⟩
def d_cycle_lists : DefA := ⟨fun K => ga K "cycle_lists", "cycle_lists", "cycle_lists", defArgs s_cycle_lists, defBody s_cycle_lists, defScope s_cycle_lists, [], []⟩
def d_Arrangement_init : DefA := ⟨fun K => ma K (ga K "Arrangement") "__init__", "__init__", "Arrangement.__init__", defArgs s_Arrangement_init, defBody s_Arrangement_init, defScope s_Arrangement_init, [], []⟩
def d_Arrangement_sorted_row : DefA := ⟨fun K => wf K (ga K "Arrangement") "classmethod" "sorted_row", "sorted_row", "Arrangement.sorted_row", defArgs s_Arrangement_sorted_row, defBody s_Arrangement_sorted_row, defScope s_Arrangement_sorted_row, [], []⟩
def d_Arrangement_is_row : DefA := ⟨fun K => wf K (ga K "Arrangement") "staticmethod" "is_row", "is_row", "Arrangement.is_row", defArgs s_Arrangement_is_row, defBody s_Arrangement_is_row, defScope s_Arrangement_is_row, [], []⟩
def d_Arrangement_row : DefA := ⟨fun K => wf K (ga K "Arrangement") "property" "row", "row", "Arrangement.row", defArgs s_Arrangement_row, defBody s_Arrangement_row, defScope s_Arrangement_row, [], []⟩
def d_Arrangement_len : DefA := ⟨fun K => ma K (ga K "Arrangement") "__len__", "__len__", "Arrangement.__len__", defArgs s_Arrangement_len, defBody s_Arrangement_len, defScope s_Arrangement_len, [], []⟩
def d_order : DefA := ⟨fun K => ga K "order", "order", "order", defArgs s_order, defBody s_order, defScope s_order, [], []⟩
def d_parse_count : DefA := ⟨fun K => ga K "parse_count", "parse_count", "parse_count", defArgs s_parse_count, defBody s_parse_count, defScope s_parse_count, [], []⟩
def d_parse_integer : DefA := ⟨fun K => ga K "parse_integer", "parse_integer", "parse_integer", defArgs s_parse_integer, defBody s_parse_integer, defScope s_parse_integer, [], []⟩
def d_format_arrangement : DefA := ⟨fun K => ga K "format_arrangement", "format_arrangement", "format_arrangement", defArgs s_format_arrangement, defBody s_format_arrangement, defScope s_format_arrangement, [], []⟩
def d_format_step : DefA := ⟨fun K => ga K "format_step", "format_step", "format_step", defArgs s_format_step, defBody s_format_step, defScope s_format_step, [], []⟩
def d_parse_step : DefA := ⟨fun K => ga K "parse_step", "parse_step", "parse_step", defArgs s_parse_step, defBody s_parse_step, defScope s_parse_step, [], []⟩
def d_fewest_of : DefA := ⟨fun K => ga K "fewest_of", "fewest_of", "fewest_of", defArgs s_fewest_of, defBody s_fewest_of, defScope s_fewest_of, [], []⟩
def d_steps_within : DefA := ⟨fun K => ga K "steps_within", "steps_within", "steps_within", defArgs s_steps_within, defBody s_steps_within, defScope s_steps_within, [], []⟩
def d_best_of : DefA := ⟨fun K => ga K "best_of", "best_of", "best_of", defArgs s_best_of, defBody s_best_of, defScope s_best_of, [], []⟩
def d_is_name : DefA := ⟨fun K => ga K "is_name", "is_name", "is_name", defArgs s_is_name, defBody s_is_name, defScope s_is_name, [], []⟩
def d_check_name : DefA := ⟨fun K => ga K "check_name", "check_name", "check_name", defArgs s_check_name, defBody s_check_name, defScope s_check_name, [], []⟩
def d_Game_init : DefA := ⟨fun K => ma K (ga K "Game") "__init__", "__init__", "Game.__init__", defArgs s_Game_init, defBody s_Game_init, defScope s_Game_init, [], []⟩
def d_Game_row : DefA := ⟨fun K => wf K (ga K "Game") "property" "row", "row", "Game.row", defArgs s_Game_row, defBody s_Game_row, defScope s_Game_row, [], []⟩
def d_Game_remaining : DefA := ⟨fun K => wf K (ga K "Game") "property" "remaining", "remaining", "Game.remaining", defArgs s_Game_remaining, defBody s_Game_remaining, defScope s_Game_remaining, [], []⟩
def d_Game_go_to : DefA := ⟨fun K => ma K (ga K "Game") "go_to", "go_to", "Game.go_to", defArgs s_Game_go_to, defBody s_Game_go_to, defScope s_Game_go_to, [], []⟩
def d_Game_play : DefA := ⟨fun K => ma K (ga K "Game") "play", "play", "Game.play", defArgs s_Game_play, defBody s_Game_play, defScope s_Game_play, [], []⟩
def d_Game_move : DefA := ⟨fun K => ma K (ga K "Game") "move", "move", "Game.move", defArgs s_Game_move, defBody s_Game_move, defScope s_Game_move, [], []⟩
def d_Game_hint : DefA := ⟨fun K => ma K (ga K "Game") "hint", "hint", "Game.hint", defArgs s_Game_hint, defBody s_Game_hint, defScope s_Game_hint, [], []⟩
def d_Game_undo : DefA := ⟨fun K => ma K (ga K "Game") "undo", "undo", "Game.undo", defArgs s_Game_undo, defBody s_Game_undo, defScope s_Game_undo, [], []⟩
def d_Game_redo : DefA := ⟨fun K => ma K (ga K "Game") "redo", "redo", "Game.redo", defArgs s_Game_redo, defBody s_Game_redo, defScope s_Game_redo, [], []⟩
def d_disorders_of : DefA := ⟨fun K => ga K "disorders_of", "disorders_of", "disorders_of", defArgs s_disorders_of, defBody s_disorders_of, defScope s_disorders_of, [], []⟩
def d_disorders : DefA := ⟨fun K => ga K "disorders", "disorders", "disorders", defArgs s_disorders, defBody s_disorders, defScope s_disorders, [], []⟩
def d_best_steps : DefA := ⟨fun K => ga K "best_steps", "best_steps", "best_steps", defArgs s_best_steps, defBody s_best_steps, defScope s_best_steps, [], []⟩
def d_performed : DefA := ⟨fun K => ga K "performed", "performed", "performed", defArgs s_performed, defBody s_performed, defScope s_performed, [], []⟩
def d_count_from : DefA := ⟨fun K => ga K "count_from", "count_from", "count_from", defArgs s_count_from, defBody s_count_from, defScope s_count_from, [], []⟩
def d_check_listed : DefA := ⟨fun K => ga K "check_listed", "check_listed", "check_listed", defArgs s_check_listed, defBody s_check_listed, defScope s_check_listed, [], []⟩
def d_count_words : DefA := ⟨fun K => ga K "count_words", "count_words", "count_words", defArgs s_count_words, defBody s_count_words, defScope s_count_words, [], []⟩
def d_parse_argument : DefA := ⟨fun K => ga K "parse_argument", "parse_argument", "parse_argument", defArgs s_parse_argument, defBody s_parse_argument, defScope s_parse_argument, [], []⟩
def d_parse_command : DefA := ⟨fun K => ga K "parse_command", "parse_command", "parse_command", defArgs s_parse_command, defBody s_parse_command, defScope s_parse_command, [], []⟩
def d_Console_init : DefA := ⟨fun K => ma K (ga K "Console") "__init__", "__init__", "Console.__init__", defArgs s_Console_init, defBody s_Console_init, defScope s_Console_init, [], []⟩
def d_Console_run : DefA := ⟨fun K => ma K (ga K "Console") "run", "run", "Console.run", defArgs s_Console_run, defBody s_Console_run, defScope s_Console_run, [], []⟩
def d_Console_query : DefA := ⟨fun K => ma K (ga K "Console") "query", "query", "Console.query", defArgs s_Console_query, defBody s_Console_query, defScope s_Console_query, [], []⟩
def d_l_pool : DefA := ⟨fun K => ga K "_law_pool", "_law_pool", "_law_pool", defArgs s_l_pool, defBody s_l_pool, defScope s_l_pool, [], []⟩
def d_l_take : DefA := ⟨fun K => ga K "_law_take", "_law_take", "_law_take", defArgs s_l_take, defBody s_l_take, defScope s_l_take, [], []⟩
def d_l_cards : DefA := ⟨fun K => ga K "_law_cards", "_law_cards", "_law_cards", defArgs s_l_cards, defBody s_l_cards, defScope s_l_cards, [], []⟩
def d_l_step : DefA := ⟨fun K => ga K "_law_step", "_law_step", "_law_step", defArgs s_l_step, defBody s_l_step, defScope s_l_step, [], []⟩
def d_l_done : DefA := ⟨fun K => ga K "_law_done", "_law_done", "_law_done", defArgs s_l_done, defBody s_l_done, defScope s_l_done, [], []⟩
def d_l_cycles : DefA := ⟨fun K => ga K "_law_cycles", "_law_cycles", "_law_cycles", defArgs s_l_cycles, defBody s_l_cycles, defScope s_l_cycles, [], []⟩
def d_l_fewest : DefA := ⟨fun K => ga K "_law_fewest", "_law_fewest", "_law_fewest", defArgs s_l_fewest, defBody s_l_fewest, defScope s_l_fewest, [], []⟩
def d_l_disorders : DefA := ⟨fun K => ga K "_law_disorders", "_law_disorders", "_law_disorders", defArgs s_l_disorders, defBody s_l_disorders, defScope s_l_disorders, [], []⟩
def d_l_at : DefA := ⟨fun K => ga K "_law_at", "_law_at", "_law_at", defArgs s_l_at, defBody s_l_at, defScope s_l_at, [], []⟩
def d_l_product : DefA := ⟨fun K => ga K "_law_product", "_law_product", "_law_product", defArgs s_l_product, defBody s_l_product, defScope s_l_product, [], []⟩
def d_l_new_model : DefA := ⟨fun K => ga K "_law_new_model", "_law_new_model", "_law_new_model", defArgs s_l_new_model, defBody s_l_new_model, defScope s_l_new_model, [], []⟩
def d_l_now : DefA := ⟨fun K => ga K "_law_now", "_law_now", "_law_now", defArgs s_l_now, defBody s_l_now, defScope s_l_now, [], []⟩
def d_l_play : DefA := ⟨fun K => ga K "_law_play", "_law_play", "_law_play", defArgs s_l_play, defBody s_l_play, defScope s_l_play, [], []⟩
def d_l_back : DefA := ⟨fun K => ga K "_law_back", "_law_back", "_law_back", defArgs s_l_back, defBody s_l_back, defScope s_l_back, [], []⟩
def d_l_again : DefA := ⟨fun K => ga K "_law_again", "_law_again", "_law_again", defArgs s_l_again, defBody s_l_again, defScope s_l_again, [], []⟩
def d_l_best : DefA := ⟨fun K => ga K "_law_best", "_law_best", "_law_best", defArgs s_l_best, defBody s_l_best, defScope s_l_best, [], []⟩
def d_l_word : DefA := ⟨fun K => ga K "_law_word", "_law_word", "_law_word", defArgs s_l_word, defBody s_l_word, defScope s_l_word, [], []⟩
def d_l_run : DefA := ⟨fun K => ga K "_law_run", "_law_run", "_law_run", defArgs s_l_run, defBody s_l_run, defScope s_l_run, [], []⟩
def d_l_period : DefA := ⟨fun K => ga K "_law_period", "_law_period", "_law_period", defArgs s_l_period, defBody s_l_period, defScope s_l_period, [], []⟩
def d_l_words : DefA := ⟨fun K => ga K "_law_words", "_law_words", "_law_words", defArgs s_l_words, defBody s_l_words, defScope s_l_words, [], []⟩
def d_l_check_all : DefA := ⟨fun K => ga K "_law_check_all", "_law_check_all", "_law_check_all", defArgs s_l_check_all, defBody s_l_check_all, defScope s_l_check_all, [], []⟩
def d_l_fresh : DefA := ⟨fun K => ga K "_law_fresh", "_law_fresh", "_law_fresh", defArgs s_l_fresh, defBody s_l_fresh, defScope s_l_fresh, [], []⟩
def d_l_action : DefA := ⟨fun K => ga K "_law_action", "_law_action", "_law_action", defArgs s_l_action, defBody s_l_action, defScope s_l_action, [], []⟩
def d_l_command : DefA := ⟨fun K => ga K "_law_command", "_law_command", "_law_command", defArgs s_l_command, defBody s_l_command, defScope s_l_command, [], []⟩
def d_l_expected : DefA := ⟨fun K => ga K "_law_expected", "_law_expected", "_law_expected", defArgs s_l_expected, defBody s_l_expected, defScope s_l_expected, [], []⟩
def d_l_check_same : DefA := ⟨fun K => ga K "_law_check_same", "_law_check_same", "_law_check_same", defArgs s_l_check_same, defBody s_l_check_same, defScope s_l_check_same, [], []⟩
def d_l_check_turn : DefA := ⟨fun K => ga K "_law_check_turn", "_law_check_turn", "_law_check_turn", defArgs s_l_check_turn, defBody s_l_check_turn, defScope s_l_check_turn, [], []⟩
def d_law : DefA := ⟨fun K => ga K "law", "law", "law", defArgs s_law, defBody s_law, defScope s_law, [], []⟩
def fn0 : List DefA := [d_InvalidCommand_init, d_NothingToUndo_init, d_NothingToRedo_init, d_is_integer, d_is_between, d_common_divisor, d_common_multiple, d_is_free_step, d_stepped, d_cycle_lists, d_Arrangement_init, d_Arrangement_sorted_row, d_Arrangement_is_row, d_Arrangement_row, d_Arrangement_len, d_order, d_parse_count, d_parse_integer, d_format_arrangement, d_format_step]
def fn1 : List DefA := [d_parse_step, d_fewest_of, d_steps_within, d_best_of, d_is_name, d_check_name, d_Game_init, d_Game_row, d_Game_remaining, d_Game_go_to, d_Game_play, d_Game_move, d_Game_hint, d_Game_undo, d_Game_redo, d_disorders_of, d_disorders, d_best_steps, d_performed, d_count_from]
def fn2 : List DefA := [d_check_listed, d_count_words, d_parse_argument, d_parse_command, d_Console_init, d_Console_run, d_Console_query, d_l_pool, d_l_take, d_l_cards, d_l_step, d_l_done, d_l_cycles, d_l_fewest, d_l_disorders, d_l_at, d_l_product, d_l_new_model, d_l_now, d_l_play]
def fn3 : List DefA := [d_l_back, d_l_again, d_l_best, d_l_word, d_l_run, d_l_period, d_l_words, d_l_check_all, d_l_fresh, d_l_action, d_l_command, d_l_expected, d_l_check_same, d_l_check_turn, d_law]
def fn : List DefA := fn0 ++ (fn1 ++ (fn2 ++ (fn3)))
def fa0 : List Fa := [.glo "is_integer", .glo "is_between", .glo "common_divisor", .glo "common_multiple", .glo "is_free_step", .glo "stepped", .glo "cycle_lists", .glo "order", .glo "parse_count", .glo "parse_integer", .glo "format_arrangement", .glo "format_step", .glo "parse_step", .glo "fewest_of", .glo "steps_within", .glo "best_of", .glo "is_name", .glo "check_name", .glo "disorders_of", .glo "disorders"]
def fa1 : List Fa := [.glo "best_steps", .glo "performed", .glo "count_from", .glo "check_listed", .glo "count_words", .glo "parse_argument", .glo "parse_command", .glo "_law_pool", .glo "_law_take", .glo "_law_cards", .glo "_law_step", .glo "_law_done", .glo "_law_cycles", .glo "_law_fewest", .glo "_law_disorders", .glo "_law_at", .glo "_law_product", .glo "_law_new_model", .glo "_law_now", .glo "_law_play"]
def fa2 : List Fa := [.glo "_law_back", .glo "_law_again", .glo "_law_best", .glo "_law_word", .glo "_law_run", .glo "_law_period", .glo "_law_words", .glo "_law_check_all", .glo "_law_fresh", .glo "_law_action", .glo "_law_command", .glo "_law_expected", .glo "_law_check_same", .glo "_law_check_turn", .glo "law", .glo "Arrangement", .glo "Game", .glo "Console", .glo "InvalidCommand", .glo "InvalidStep"]
def fa3 : List Fa := [.glo "NothingToUndo", .glo "NothingToRedo", .glo "LimitExceeded", .glo "CardError", .glo "COMMANDS", .free "LookupError", .free "ValueError", .free "abs", .free "all", .free "any", .free "bool", .free "enumerate", .free "int", .free "isinstance", .free "len", .free "list", .free "max", .free "min", .free "range", .free "repr"]
def fa4 : List Fa := [.free "sorted", .free "str", .free "sum", .free "tuple", .free "zip", .int "MOST_CARDS" 2000, .int "MOST_BEST" 60, .int "MOST_LETTERS" 8, .int "MOST_LISTED_CARDS" 5, .str "LETTERS" "abcdefghijklmnopqrstuvwxyz", .cls "Arrangement", .cls "Game", .cls "Console", .noat "Arrangement" "cards", .noat "Game" "first", .noat "Game" "cards", .noat "Game" "played", .noat "Game" "undone", .noat "Game" "text", .noat "Console" "game"]
def fa5 : List Fa := [.meth "Game" "go_to", .meth "Game" "play", .meth "Game" "move", .meth "Game" "hint", .meth "Game" "undo", .meth "Game" "redo", .meth "Console" "run", .meth "Console" "query", .meth "Arrangement" "__len__", .mkr "Arrangement", .mkr "Game", .mkr "Console", .exm "InvalidCommand" "InvalidCommand" true, .exm "NothingToUndo" "InvalidCommand" false, .exm "NothingToUndo" "InvalidStep" false, .exm "NothingToUndo" "NothingToUndo" true, .exm "NothingToRedo" "InvalidCommand" false, .exm "NothingToRedo" "InvalidStep" false, .exm "NothingToRedo" "NothingToUndo" false, .exm "NothingToRedo" "NothingToRedo" true]
def fa : List Fa := fa0 ++ (fa1 ++ (fa2 ++ (fa3 ++ (fa4 ++ (fa5)))))
/-! ### what the head tells -/
def eqB (a b : Option Bool) : Bool := decide (a = b)
def propB (K : PySem.W.Frag) (C : Addr) (f : Str) : Bool := eqO (PySem.W.findIn K (.ref C) f) (some (some (.ref (ma K C f)))) && (eqO (PySem.W.specialIn K (.ref (ma K C f)) "__get__") (some (some (.builtin "property.__get__"))) &&
  (eqB (PySem.W.takesIn K (.ref (ma K C f))) (some true) && (match PySem.W.recIn K (ma K C f) "property" with
    | some (.ref _ :: _) => true
    | _ => false)))
theorem propB_ok {K : PySem.W.Frag} {C : Addr} {f : Str} (h : propB K C f = true) : PropOf K C f (ma K C f) (wf K C "property" f) := by
  obtain ⟨h1, h⟩ := He.ba h
  obtain ⟨h2, h⟩ := He.ba h
  obtain ⟨h3, h4⟩ := He.ba h
  refine ⟨eqO_ok h1, eqO_ok h2, of_decide_eq_true h3, ?_⟩
  unfold wf
  split at h4
  · rename_i g r e
    exact ⟨r, by rw [e]⟩
  · cases h4
def readB (K : PySem.W.Frag) (C : Addr) : Bool := PySem.W.readsIn K C (.type "type") && eqO (PySem.W.specialIn K (.ref C) "__getattribute__") (some (some (.builtin "type.__getattribute__")))
theorem readB_ok {K : PySem.W.Frag} {C : Addr} (h : readB K C = true) : ClX.CRead K C (.type "type") := ⟨(He.ba h).1, eqO_ok (He.ba h).2⟩
def valB (K : PySem.W.Frag) (C : Addr) (f : Str) (id : String) : Bool := match PySem.W.findCls K (.ref C) (.type "type") f with
  | some (.val (.builtin g)) => decide (g = id)
  | _ => false
theorem valB_ok {K : PySem.W.Frag} {C : Addr} {f : Str} {id : String} (h : valB K C f id = true) : PySem.W.findCls K (.ref C) (.type "type") f = some (.val (.builtin id)) := by
  unfold valB at h
  split at h
  · rename_i g e
    rw [e, of_decide_eq_true h]
  · cases h
/-- what is told of an own exception class at C over the built-in base's mro bmB -/
def exB (K : PySem.W.Frag) (C : Addr) (bmB : List Value) (newId : String) (f : Str) : Bool := PySem.W.excInitIn K C bmB newId && (PySem.W.excOver K C bmB && (eqO (PySem.W.findIn K (.ref C) "__setattr__") (some (some (.builtin "object.__setattr__"))) &&
  (eqO (PySem.W.findIn K (.ref C) "__getattribute__") (some (some (.builtin "BaseException.__getattribute__"))) && (eqO (PySem.W.findIn K (.ref C) "__getattr__") (some none) && (eqO (PySem.W.findIn K (.ref C) f) (some none) &&
  (eqO (PySem.W.findIn K (.ref C) "__init__") (some (some (.ref (ma K C "__init__")))) && (PySem.W.isFn K (.ref (ma K C "__init__")) && (PySem.W.keepIn K (.ref C) && (eqB (PySem.W.subIn K (.ref C) (.type "BaseException")) (some true) &&
  (decide (PySem.W.typeIn K (.ref C) = some (.type "type")) && PySem.W.hasDictIn K C))))))))))
structure ExC (K : PySem.W.Frag) (C : Addr) (bmB : List Value) (newId : String) (f : Str) (fI : Addr) : Prop where
  ini : PySem.W.excInitIn K C bmB newId = true
  over : PySem.W.excOver K C bmB = true
  sa : PySem.W.findIn K (.ref C) "__setattr__" = some (some (.builtin "object.__setattr__"))
  ga : PySem.W.findIn K (.ref C) "__getattribute__" = some (some (.builtin "BaseException.__getattribute__"))
  gg : PySem.W.findIn K (.ref C) "__getattr__" = some none
  no : PySem.W.findIn K (.ref C) f = some none
  iC : PySem.W.findIn K (.ref C) "__init__" = some (some (.ref fI))
  fn : PySem.W.isFn K (.ref fI) = true
  kC : PySem.W.keepIn K (.ref C) = true
  exC : PySem.W.subIn K (.ref C) (.type "BaseException") = some true
  tyC : PySem.W.typeIn K (.ref C) = some (.type "type")
  hd : PySem.W.hasDictIn K C = true
theorem exB_ok {K : PySem.W.Frag} {C : Addr} {bmB : List Value} {newId : String} {f : Str} (h : exB K C bmB newId f = true) : ExC K C bmB newId f (ma K C "__init__") := by
  obtain ⟨h1, h⟩ := He.ba h
  obtain ⟨h2, h⟩ := He.ba h
  obtain ⟨h3, h⟩ := He.ba h
  obtain ⟨h4, h⟩ := He.ba h
  obtain ⟨h5, h⟩ := He.ba h
  obtain ⟨h6, h⟩ := He.ba h
  obtain ⟨h7, h⟩ := He.ba h
  obtain ⟨h8, h⟩ := He.ba h
  obtain ⟨h9, h⟩ := He.ba h
  obtain ⟨h10, h⟩ := He.ba h
  obtain ⟨h11, h12⟩ := He.ba h
  exact ⟨h1, h2, eqO_ok h3, eqO_ok h4, eqO_ok h5, eqO_ok h6, eqO_ok h7, h8, h9, of_decide_eq_true h10, of_decide_eq_true h11, h12⟩
abbrev veM : List Value := [.type "ValueError", .type "Exception", .type "BaseException", .type "object"]
abbrev leM : List Value := [.type "LookupError", .type "Exception", .type "BaseException", .type "object"]
/-- the further facts, one list of truth values -/
def more (K : PySem.W.Frag) : List Bool := [propB K (ga K "Arrangement") "row", propB K (ga K "Game") "row", propB K (ga K "Game") "remaining",
  wrapB K (ga K "Arrangement") "staticmethod" "staticmethod.__get__" "is_row", PySem.W.fnIn K (wf K (ga K "Arrangement") "staticmethod" "is_row"),
  wrapB K (ga K "Arrangement") "classmethod" "classmethod.__get__" "sorted_row", PySem.W.fnIn K (wf K (ga K "Arrangement") "classmethod" "sorted_row"),
  readB K (ga K "Arrangement"), readB K (ga K "CardError"), valB K (ga K "CardError") "__init__" "ValueError.__init__",
  exB K (ga K "InvalidCommand") veM "ValueError.__new__" "value", exB K (ga K "NothingToUndo") leM "LookupError.__new__" "user", exB K (ga K "NothingToRedo") leM "LookupError.__new__" "user"]
/-- the table of commands: each word with the kinds of its arguments -/
def cmdTab : List (Str × Str) := [("new", "a"), ("move", "us"), ("undo", "u"), ("redo", "u"), ("row", ""), ("remaining", ""), ("disorders", ""), ("order", ""), ("hint", ""), ("words", "")]
def cmdB (K : PySem.W.Frag) : Bool := He.valsB K (ga K "COMMANDS") (cmdTab.map fun p => (p.1, Dv.str p.2)) && (match PySem.W.nsIn K (ga K "COMMANDS") "" with
  | some none => true
  | _ => false)
structure Wd (w : World) (K : PySem.W.Frag) (mg : Str → Option Value) : Prop where
  hx : ∃ h, K.In h ∧ h.Ns mainGlobals mg
  c : SaysA fa fn K
  e : ∀ b ∈ more K, b = true
  t : ∃ es n, KDict K w (ga K "COMMANDS") es n
  v : cmdB K = true
abbrev FnDf (K : PySem.W.Frag) (d : DefA) : Prop := ∃ fd, FunD K d.name d.qual d.params d.body d.scope [] [] (d.at_ K) fd
section
variable {w : World} {K : PySem.W.Frag} {mg : Str → Option Value}
theorem Wd.f_InvalidCommand_init (W : Wd w K mg) : FnDf K d_InvalidCommand_init := W.c.def_ 0 (d := d_InvalidCommand_init) rfl
theorem Wd.f_NothingToUndo_init (W : Wd w K mg) : FnDf K d_NothingToUndo_init := W.c.def_ 1 (d := d_NothingToUndo_init) rfl
theorem Wd.f_NothingToRedo_init (W : Wd w K mg) : FnDf K d_NothingToRedo_init := W.c.def_ 2 (d := d_NothingToRedo_init) rfl
theorem Wd.f_is_integer (W : Wd w K mg) : FnDf K d_is_integer := W.c.def_ 3 (d := d_is_integer) rfl
theorem Wd.f_is_between (W : Wd w K mg) : FnDf K d_is_between := W.c.def_ 4 (d := d_is_between) rfl
theorem Wd.f_common_divisor (W : Wd w K mg) : FnDf K d_common_divisor := W.c.def_ 5 (d := d_common_divisor) rfl
theorem Wd.f_common_multiple (W : Wd w K mg) : FnDf K d_common_multiple := W.c.def_ 6 (d := d_common_multiple) rfl
theorem Wd.f_is_free_step (W : Wd w K mg) : FnDf K d_is_free_step := W.c.def_ 7 (d := d_is_free_step) rfl
theorem Wd.f_stepped (W : Wd w K mg) : FnDf K d_stepped := W.c.def_ 8 (d := d_stepped) rfl
theorem Wd.f_cycle_lists (W : Wd w K mg) : FnDf K d_cycle_lists := W.c.def_ 9 (d := d_cycle_lists) rfl
theorem Wd.f_Arrangement_init (W : Wd w K mg) : FnDf K d_Arrangement_init := W.c.def_ 10 (d := d_Arrangement_init) rfl
theorem Wd.f_Arrangement_sorted_row (W : Wd w K mg) : FnDf K d_Arrangement_sorted_row := W.c.def_ 11 (d := d_Arrangement_sorted_row) rfl
theorem Wd.f_Arrangement_is_row (W : Wd w K mg) : FnDf K d_Arrangement_is_row := W.c.def_ 12 (d := d_Arrangement_is_row) rfl
theorem Wd.f_Arrangement_row (W : Wd w K mg) : FnDf K d_Arrangement_row := W.c.def_ 13 (d := d_Arrangement_row) rfl
theorem Wd.f_Arrangement_len (W : Wd w K mg) : FnDf K d_Arrangement_len := W.c.def_ 14 (d := d_Arrangement_len) rfl
theorem Wd.f_order (W : Wd w K mg) : FnDf K d_order := W.c.def_ 15 (d := d_order) rfl
theorem Wd.f_parse_count (W : Wd w K mg) : FnDf K d_parse_count := W.c.def_ 16 (d := d_parse_count) rfl
theorem Wd.f_parse_integer (W : Wd w K mg) : FnDf K d_parse_integer := W.c.def_ 17 (d := d_parse_integer) rfl
theorem Wd.f_format_arrangement (W : Wd w K mg) : FnDf K d_format_arrangement := W.c.def_ 18 (d := d_format_arrangement) rfl
theorem Wd.f_format_step (W : Wd w K mg) : FnDf K d_format_step := W.c.def_ 19 (d := d_format_step) rfl
theorem Wd.f_parse_step (W : Wd w K mg) : FnDf K d_parse_step := W.c.def_ 20 (d := d_parse_step) rfl
theorem Wd.f_fewest_of (W : Wd w K mg) : FnDf K d_fewest_of := W.c.def_ 21 (d := d_fewest_of) rfl
theorem Wd.f_steps_within (W : Wd w K mg) : FnDf K d_steps_within := W.c.def_ 22 (d := d_steps_within) rfl
theorem Wd.f_best_of (W : Wd w K mg) : FnDf K d_best_of := W.c.def_ 23 (d := d_best_of) rfl
theorem Wd.f_is_name (W : Wd w K mg) : FnDf K d_is_name := W.c.def_ 24 (d := d_is_name) rfl
theorem Wd.f_check_name (W : Wd w K mg) : FnDf K d_check_name := W.c.def_ 25 (d := d_check_name) rfl
theorem Wd.f_Game_init (W : Wd w K mg) : FnDf K d_Game_init := W.c.def_ 26 (d := d_Game_init) rfl
theorem Wd.f_Game_row (W : Wd w K mg) : FnDf K d_Game_row := W.c.def_ 27 (d := d_Game_row) rfl
theorem Wd.f_Game_remaining (W : Wd w K mg) : FnDf K d_Game_remaining := W.c.def_ 28 (d := d_Game_remaining) rfl
theorem Wd.f_Game_go_to (W : Wd w K mg) : FnDf K d_Game_go_to := W.c.def_ 29 (d := d_Game_go_to) rfl
theorem Wd.f_Game_play (W : Wd w K mg) : FnDf K d_Game_play := W.c.def_ 30 (d := d_Game_play) rfl
theorem Wd.f_Game_move (W : Wd w K mg) : FnDf K d_Game_move := W.c.def_ 31 (d := d_Game_move) rfl
theorem Wd.f_Game_hint (W : Wd w K mg) : FnDf K d_Game_hint := W.c.def_ 32 (d := d_Game_hint) rfl
theorem Wd.f_Game_undo (W : Wd w K mg) : FnDf K d_Game_undo := W.c.def_ 33 (d := d_Game_undo) rfl
theorem Wd.f_Game_redo (W : Wd w K mg) : FnDf K d_Game_redo := W.c.def_ 34 (d := d_Game_redo) rfl
theorem Wd.f_disorders_of (W : Wd w K mg) : FnDf K d_disorders_of := W.c.def_ 35 (d := d_disorders_of) rfl
theorem Wd.f_disorders (W : Wd w K mg) : FnDf K d_disorders := W.c.def_ 36 (d := d_disorders) rfl
theorem Wd.f_best_steps (W : Wd w K mg) : FnDf K d_best_steps := W.c.def_ 37 (d := d_best_steps) rfl
theorem Wd.f_performed (W : Wd w K mg) : FnDf K d_performed := W.c.def_ 38 (d := d_performed) rfl
theorem Wd.f_count_from (W : Wd w K mg) : FnDf K d_count_from := W.c.def_ 39 (d := d_count_from) rfl
theorem Wd.f_check_listed (W : Wd w K mg) : FnDf K d_check_listed := W.c.def_ 40 (d := d_check_listed) rfl
theorem Wd.f_count_words (W : Wd w K mg) : FnDf K d_count_words := W.c.def_ 41 (d := d_count_words) rfl
theorem Wd.f_parse_argument (W : Wd w K mg) : FnDf K d_parse_argument := W.c.def_ 42 (d := d_parse_argument) rfl
theorem Wd.f_parse_command (W : Wd w K mg) : FnDf K d_parse_command := W.c.def_ 43 (d := d_parse_command) rfl
theorem Wd.f_Console_init (W : Wd w K mg) : FnDf K d_Console_init := W.c.def_ 44 (d := d_Console_init) rfl
theorem Wd.f_Console_run (W : Wd w K mg) : FnDf K d_Console_run := W.c.def_ 45 (d := d_Console_run) rfl
theorem Wd.f_Console_query (W : Wd w K mg) : FnDf K d_Console_query := W.c.def_ 46 (d := d_Console_query) rfl
theorem Wd.f_l_pool (W : Wd w K mg) : FnDf K d_l_pool := W.c.def_ 47 (d := d_l_pool) rfl
theorem Wd.f_l_take (W : Wd w K mg) : FnDf K d_l_take := W.c.def_ 48 (d := d_l_take) rfl
theorem Wd.f_l_cards (W : Wd w K mg) : FnDf K d_l_cards := W.c.def_ 49 (d := d_l_cards) rfl
theorem Wd.f_l_step (W : Wd w K mg) : FnDf K d_l_step := W.c.def_ 50 (d := d_l_step) rfl
theorem Wd.f_l_done (W : Wd w K mg) : FnDf K d_l_done := W.c.def_ 51 (d := d_l_done) rfl
theorem Wd.f_l_cycles (W : Wd w K mg) : FnDf K d_l_cycles := W.c.def_ 52 (d := d_l_cycles) rfl
theorem Wd.f_l_fewest (W : Wd w K mg) : FnDf K d_l_fewest := W.c.def_ 53 (d := d_l_fewest) rfl
theorem Wd.f_l_disorders (W : Wd w K mg) : FnDf K d_l_disorders := W.c.def_ 54 (d := d_l_disorders) rfl
theorem Wd.f_l_at (W : Wd w K mg) : FnDf K d_l_at := W.c.def_ 55 (d := d_l_at) rfl
theorem Wd.f_l_product (W : Wd w K mg) : FnDf K d_l_product := W.c.def_ 56 (d := d_l_product) rfl
theorem Wd.f_l_new_model (W : Wd w K mg) : FnDf K d_l_new_model := W.c.def_ 57 (d := d_l_new_model) rfl
theorem Wd.f_l_now (W : Wd w K mg) : FnDf K d_l_now := W.c.def_ 58 (d := d_l_now) rfl
theorem Wd.f_l_play (W : Wd w K mg) : FnDf K d_l_play := W.c.def_ 59 (d := d_l_play) rfl
theorem Wd.f_l_back (W : Wd w K mg) : FnDf K d_l_back := W.c.def_ 60 (d := d_l_back) rfl
theorem Wd.f_l_again (W : Wd w K mg) : FnDf K d_l_again := W.c.def_ 61 (d := d_l_again) rfl
theorem Wd.f_l_best (W : Wd w K mg) : FnDf K d_l_best := W.c.def_ 62 (d := d_l_best) rfl
theorem Wd.f_l_word (W : Wd w K mg) : FnDf K d_l_word := W.c.def_ 63 (d := d_l_word) rfl
theorem Wd.f_l_run (W : Wd w K mg) : FnDf K d_l_run := W.c.def_ 64 (d := d_l_run) rfl
theorem Wd.f_l_period (W : Wd w K mg) : FnDf K d_l_period := W.c.def_ 65 (d := d_l_period) rfl
theorem Wd.f_l_words (W : Wd w K mg) : FnDf K d_l_words := W.c.def_ 66 (d := d_l_words) rfl
theorem Wd.f_l_check_all (W : Wd w K mg) : FnDf K d_l_check_all := W.c.def_ 67 (d := d_l_check_all) rfl
theorem Wd.f_l_fresh (W : Wd w K mg) : FnDf K d_l_fresh := W.c.def_ 68 (d := d_l_fresh) rfl
theorem Wd.f_l_action (W : Wd w K mg) : FnDf K d_l_action := W.c.def_ 69 (d := d_l_action) rfl
theorem Wd.f_l_command (W : Wd w K mg) : FnDf K d_l_command := W.c.def_ 70 (d := d_l_command) rfl
theorem Wd.f_l_expected (W : Wd w K mg) : FnDf K d_l_expected := W.c.def_ 71 (d := d_l_expected) rfl
theorem Wd.f_l_check_same (W : Wd w K mg) : FnDf K d_l_check_same := W.c.def_ 72 (d := d_l_check_same) rfl
theorem Wd.f_l_check_turn (W : Wd w K mg) : FnDf K d_l_check_turn := W.c.def_ 73 (d := d_l_check_turn) rfl
theorem Wd.f_law (W : Wd w K mg) : FnDf K d_law := W.c.def_ 74 (d := d_law) rfl
theorem Wd.g_is_integer (W : Wd w K mg) : mg "is_integer" = some (.ref (ga K "is_integer")) := let ⟨_, X, G⟩ := W.hx; glo_ok X G (W.c.fact 0 (f := .glo "is_integer") rfl)
theorem Wd.g_is_between (W : Wd w K mg) : mg "is_between" = some (.ref (ga K "is_between")) := let ⟨_, X, G⟩ := W.hx; glo_ok X G (W.c.fact 1 (f := .glo "is_between") rfl)
theorem Wd.g_common_divisor (W : Wd w K mg) : mg "common_divisor" = some (.ref (ga K "common_divisor")) := let ⟨_, X, G⟩ := W.hx; glo_ok X G (W.c.fact 2 (f := .glo "common_divisor") rfl)
theorem Wd.g_common_multiple (W : Wd w K mg) : mg "common_multiple" = some (.ref (ga K "common_multiple")) := let ⟨_, X, G⟩ := W.hx; glo_ok X G (W.c.fact 3 (f := .glo "common_multiple") rfl)
theorem Wd.g_is_free_step (W : Wd w K mg) : mg "is_free_step" = some (.ref (ga K "is_free_step")) := let ⟨_, X, G⟩ := W.hx; glo_ok X G (W.c.fact 4 (f := .glo "is_free_step") rfl)
theorem Wd.g_stepped (W : Wd w K mg) : mg "stepped" = some (.ref (ga K "stepped")) := let ⟨_, X, G⟩ := W.hx; glo_ok X G (W.c.fact 5 (f := .glo "stepped") rfl)
theorem Wd.g_cycle_lists (W : Wd w K mg) : mg "cycle_lists" = some (.ref (ga K "cycle_lists")) := let ⟨_, X, G⟩ := W.hx; glo_ok X G (W.c.fact 6 (f := .glo "cycle_lists") rfl)
theorem Wd.g_order (W : Wd w K mg) : mg "order" = some (.ref (ga K "order")) := let ⟨_, X, G⟩ := W.hx; glo_ok X G (W.c.fact 7 (f := .glo "order") rfl)
theorem Wd.g_parse_count (W : Wd w K mg) : mg "parse_count" = some (.ref (ga K "parse_count")) := let ⟨_, X, G⟩ := W.hx; glo_ok X G (W.c.fact 8 (f := .glo "parse_count") rfl)
theorem Wd.g_parse_integer (W : Wd w K mg) : mg "parse_integer" = some (.ref (ga K "parse_integer")) := let ⟨_, X, G⟩ := W.hx; glo_ok X G (W.c.fact 9 (f := .glo "parse_integer") rfl)
theorem Wd.g_format_arrangement (W : Wd w K mg) : mg "format_arrangement" = some (.ref (ga K "format_arrangement")) := let ⟨_, X, G⟩ := W.hx; glo_ok X G (W.c.fact 10 (f := .glo "format_arrangement") rfl)
theorem Wd.g_format_step (W : Wd w K mg) : mg "format_step" = some (.ref (ga K "format_step")) := let ⟨_, X, G⟩ := W.hx; glo_ok X G (W.c.fact 11 (f := .glo "format_step") rfl)
theorem Wd.g_parse_step (W : Wd w K mg) : mg "parse_step" = some (.ref (ga K "parse_step")) := let ⟨_, X, G⟩ := W.hx; glo_ok X G (W.c.fact 12 (f := .glo "parse_step") rfl)
theorem Wd.g_fewest_of (W : Wd w K mg) : mg "fewest_of" = some (.ref (ga K "fewest_of")) := let ⟨_, X, G⟩ := W.hx; glo_ok X G (W.c.fact 13 (f := .glo "fewest_of") rfl)
theorem Wd.g_steps_within (W : Wd w K mg) : mg "steps_within" = some (.ref (ga K "steps_within")) := let ⟨_, X, G⟩ := W.hx; glo_ok X G (W.c.fact 14 (f := .glo "steps_within") rfl)
theorem Wd.g_best_of (W : Wd w K mg) : mg "best_of" = some (.ref (ga K "best_of")) := let ⟨_, X, G⟩ := W.hx; glo_ok X G (W.c.fact 15 (f := .glo "best_of") rfl)
theorem Wd.g_is_name (W : Wd w K mg) : mg "is_name" = some (.ref (ga K "is_name")) := let ⟨_, X, G⟩ := W.hx; glo_ok X G (W.c.fact 16 (f := .glo "is_name") rfl)
theorem Wd.g_check_name (W : Wd w K mg) : mg "check_name" = some (.ref (ga K "check_name")) := let ⟨_, X, G⟩ := W.hx; glo_ok X G (W.c.fact 17 (f := .glo "check_name") rfl)
theorem Wd.g_disorders_of (W : Wd w K mg) : mg "disorders_of" = some (.ref (ga K "disorders_of")) := let ⟨_, X, G⟩ := W.hx; glo_ok X G (W.c.fact 18 (f := .glo "disorders_of") rfl)
theorem Wd.g_disorders (W : Wd w K mg) : mg "disorders" = some (.ref (ga K "disorders")) := let ⟨_, X, G⟩ := W.hx; glo_ok X G (W.c.fact 19 (f := .glo "disorders") rfl)
theorem Wd.g_best_steps (W : Wd w K mg) : mg "best_steps" = some (.ref (ga K "best_steps")) := let ⟨_, X, G⟩ := W.hx; glo_ok X G (W.c.fact 20 (f := .glo "best_steps") rfl)
theorem Wd.g_performed (W : Wd w K mg) : mg "performed" = some (.ref (ga K "performed")) := let ⟨_, X, G⟩ := W.hx; glo_ok X G (W.c.fact 21 (f := .glo "performed") rfl)
theorem Wd.g_count_from (W : Wd w K mg) : mg "count_from" = some (.ref (ga K "count_from")) := let ⟨_, X, G⟩ := W.hx; glo_ok X G (W.c.fact 22 (f := .glo "count_from") rfl)
theorem Wd.g_check_listed (W : Wd w K mg) : mg "check_listed" = some (.ref (ga K "check_listed")) := let ⟨_, X, G⟩ := W.hx; glo_ok X G (W.c.fact 23 (f := .glo "check_listed") rfl)
theorem Wd.g_count_words (W : Wd w K mg) : mg "count_words" = some (.ref (ga K "count_words")) := let ⟨_, X, G⟩ := W.hx; glo_ok X G (W.c.fact 24 (f := .glo "count_words") rfl)
theorem Wd.g_parse_argument (W : Wd w K mg) : mg "parse_argument" = some (.ref (ga K "parse_argument")) := let ⟨_, X, G⟩ := W.hx; glo_ok X G (W.c.fact 25 (f := .glo "parse_argument") rfl)
theorem Wd.g_parse_command (W : Wd w K mg) : mg "parse_command" = some (.ref (ga K "parse_command")) := let ⟨_, X, G⟩ := W.hx; glo_ok X G (W.c.fact 26 (f := .glo "parse_command") rfl)
theorem Wd.g_l_pool (W : Wd w K mg) : mg "_law_pool" = some (.ref (ga K "_law_pool")) := let ⟨_, X, G⟩ := W.hx; glo_ok X G (W.c.fact 27 (f := .glo "_law_pool") rfl)
theorem Wd.g_l_take (W : Wd w K mg) : mg "_law_take" = some (.ref (ga K "_law_take")) := let ⟨_, X, G⟩ := W.hx; glo_ok X G (W.c.fact 28 (f := .glo "_law_take") rfl)
theorem Wd.g_l_cards (W : Wd w K mg) : mg "_law_cards" = some (.ref (ga K "_law_cards")) := let ⟨_, X, G⟩ := W.hx; glo_ok X G (W.c.fact 29 (f := .glo "_law_cards") rfl)
theorem Wd.g_l_step (W : Wd w K mg) : mg "_law_step" = some (.ref (ga K "_law_step")) := let ⟨_, X, G⟩ := W.hx; glo_ok X G (W.c.fact 30 (f := .glo "_law_step") rfl)
theorem Wd.g_l_done (W : Wd w K mg) : mg "_law_done" = some (.ref (ga K "_law_done")) := let ⟨_, X, G⟩ := W.hx; glo_ok X G (W.c.fact 31 (f := .glo "_law_done") rfl)
theorem Wd.g_l_cycles (W : Wd w K mg) : mg "_law_cycles" = some (.ref (ga K "_law_cycles")) := let ⟨_, X, G⟩ := W.hx; glo_ok X G (W.c.fact 32 (f := .glo "_law_cycles") rfl)
theorem Wd.g_l_fewest (W : Wd w K mg) : mg "_law_fewest" = some (.ref (ga K "_law_fewest")) := let ⟨_, X, G⟩ := W.hx; glo_ok X G (W.c.fact 33 (f := .glo "_law_fewest") rfl)
theorem Wd.g_l_disorders (W : Wd w K mg) : mg "_law_disorders" = some (.ref (ga K "_law_disorders")) := let ⟨_, X, G⟩ := W.hx; glo_ok X G (W.c.fact 34 (f := .glo "_law_disorders") rfl)
theorem Wd.g_l_at (W : Wd w K mg) : mg "_law_at" = some (.ref (ga K "_law_at")) := let ⟨_, X, G⟩ := W.hx; glo_ok X G (W.c.fact 35 (f := .glo "_law_at") rfl)
theorem Wd.g_l_product (W : Wd w K mg) : mg "_law_product" = some (.ref (ga K "_law_product")) := let ⟨_, X, G⟩ := W.hx; glo_ok X G (W.c.fact 36 (f := .glo "_law_product") rfl)
theorem Wd.g_l_new_model (W : Wd w K mg) : mg "_law_new_model" = some (.ref (ga K "_law_new_model")) := let ⟨_, X, G⟩ := W.hx; glo_ok X G (W.c.fact 37 (f := .glo "_law_new_model") rfl)
theorem Wd.g_l_now (W : Wd w K mg) : mg "_law_now" = some (.ref (ga K "_law_now")) := let ⟨_, X, G⟩ := W.hx; glo_ok X G (W.c.fact 38 (f := .glo "_law_now") rfl)
theorem Wd.g_l_play (W : Wd w K mg) : mg "_law_play" = some (.ref (ga K "_law_play")) := let ⟨_, X, G⟩ := W.hx; glo_ok X G (W.c.fact 39 (f := .glo "_law_play") rfl)
theorem Wd.g_l_back (W : Wd w K mg) : mg "_law_back" = some (.ref (ga K "_law_back")) := let ⟨_, X, G⟩ := W.hx; glo_ok X G (W.c.fact 40 (f := .glo "_law_back") rfl)
theorem Wd.g_l_again (W : Wd w K mg) : mg "_law_again" = some (.ref (ga K "_law_again")) := let ⟨_, X, G⟩ := W.hx; glo_ok X G (W.c.fact 41 (f := .glo "_law_again") rfl)
theorem Wd.g_l_best (W : Wd w K mg) : mg "_law_best" = some (.ref (ga K "_law_best")) := let ⟨_, X, G⟩ := W.hx; glo_ok X G (W.c.fact 42 (f := .glo "_law_best") rfl)
theorem Wd.g_l_word (W : Wd w K mg) : mg "_law_word" = some (.ref (ga K "_law_word")) := let ⟨_, X, G⟩ := W.hx; glo_ok X G (W.c.fact 43 (f := .glo "_law_word") rfl)
theorem Wd.g_l_run (W : Wd w K mg) : mg "_law_run" = some (.ref (ga K "_law_run")) := let ⟨_, X, G⟩ := W.hx; glo_ok X G (W.c.fact 44 (f := .glo "_law_run") rfl)
theorem Wd.g_l_period (W : Wd w K mg) : mg "_law_period" = some (.ref (ga K "_law_period")) := let ⟨_, X, G⟩ := W.hx; glo_ok X G (W.c.fact 45 (f := .glo "_law_period") rfl)
theorem Wd.g_l_words (W : Wd w K mg) : mg "_law_words" = some (.ref (ga K "_law_words")) := let ⟨_, X, G⟩ := W.hx; glo_ok X G (W.c.fact 46 (f := .glo "_law_words") rfl)
theorem Wd.g_l_check_all (W : Wd w K mg) : mg "_law_check_all" = some (.ref (ga K "_law_check_all")) := let ⟨_, X, G⟩ := W.hx; glo_ok X G (W.c.fact 47 (f := .glo "_law_check_all") rfl)
theorem Wd.g_l_fresh (W : Wd w K mg) : mg "_law_fresh" = some (.ref (ga K "_law_fresh")) := let ⟨_, X, G⟩ := W.hx; glo_ok X G (W.c.fact 48 (f := .glo "_law_fresh") rfl)
theorem Wd.g_l_action (W : Wd w K mg) : mg "_law_action" = some (.ref (ga K "_law_action")) := let ⟨_, X, G⟩ := W.hx; glo_ok X G (W.c.fact 49 (f := .glo "_law_action") rfl)
theorem Wd.g_l_command (W : Wd w K mg) : mg "_law_command" = some (.ref (ga K "_law_command")) := let ⟨_, X, G⟩ := W.hx; glo_ok X G (W.c.fact 50 (f := .glo "_law_command") rfl)
theorem Wd.g_l_expected (W : Wd w K mg) : mg "_law_expected" = some (.ref (ga K "_law_expected")) := let ⟨_, X, G⟩ := W.hx; glo_ok X G (W.c.fact 51 (f := .glo "_law_expected") rfl)
theorem Wd.g_l_check_same (W : Wd w K mg) : mg "_law_check_same" = some (.ref (ga K "_law_check_same")) := let ⟨_, X, G⟩ := W.hx; glo_ok X G (W.c.fact 52 (f := .glo "_law_check_same") rfl)
theorem Wd.g_l_check_turn (W : Wd w K mg) : mg "_law_check_turn" = some (.ref (ga K "_law_check_turn")) := let ⟨_, X, G⟩ := W.hx; glo_ok X G (W.c.fact 53 (f := .glo "_law_check_turn") rfl)
theorem Wd.g_law (W : Wd w K mg) : mg "law" = some (.ref (ga K "law")) := let ⟨_, X, G⟩ := W.hx; glo_ok X G (W.c.fact 54 (f := .glo "law") rfl)
theorem Wd.g_Arrangement (W : Wd w K mg) : mg "Arrangement" = some (.ref (ga K "Arrangement")) := let ⟨_, X, G⟩ := W.hx; glo_ok X G (W.c.fact 55 (f := .glo "Arrangement") rfl)
theorem Wd.g_Game (W : Wd w K mg) : mg "Game" = some (.ref (ga K "Game")) := let ⟨_, X, G⟩ := W.hx; glo_ok X G (W.c.fact 56 (f := .glo "Game") rfl)
theorem Wd.g_Console (W : Wd w K mg) : mg "Console" = some (.ref (ga K "Console")) := let ⟨_, X, G⟩ := W.hx; glo_ok X G (W.c.fact 57 (f := .glo "Console") rfl)
theorem Wd.g_InvalidCommand (W : Wd w K mg) : mg "InvalidCommand" = some (.ref (ga K "InvalidCommand")) := let ⟨_, X, G⟩ := W.hx; glo_ok X G (W.c.fact 58 (f := .glo "InvalidCommand") rfl)
theorem Wd.g_InvalidStep (W : Wd w K mg) : mg "InvalidStep" = some (.ref (ga K "InvalidStep")) := let ⟨_, X, G⟩ := W.hx; glo_ok X G (W.c.fact 59 (f := .glo "InvalidStep") rfl)
theorem Wd.g_NothingToUndo (W : Wd w K mg) : mg "NothingToUndo" = some (.ref (ga K "NothingToUndo")) := let ⟨_, X, G⟩ := W.hx; glo_ok X G (W.c.fact 60 (f := .glo "NothingToUndo") rfl)
theorem Wd.g_NothingToRedo (W : Wd w K mg) : mg "NothingToRedo" = some (.ref (ga K "NothingToRedo")) := let ⟨_, X, G⟩ := W.hx; glo_ok X G (W.c.fact 61 (f := .glo "NothingToRedo") rfl)
theorem Wd.g_LimitExceeded (W : Wd w K mg) : mg "LimitExceeded" = some (.ref (ga K "LimitExceeded")) := let ⟨_, X, G⟩ := W.hx; glo_ok X G (W.c.fact 62 (f := .glo "LimitExceeded") rfl)
theorem Wd.g_CardError (W : Wd w K mg) : mg "CardError" = some (.ref (ga K "CardError")) := let ⟨_, X, G⟩ := W.hx; glo_ok X G (W.c.fact 63 (f := .glo "CardError") rfl)
theorem Wd.g_COMMANDS (W : Wd w K mg) : mg "COMMANDS" = some (.ref (ga K "COMMANDS")) := let ⟨_, X, G⟩ := W.hx; glo_ok X G (W.c.fact 64 (f := .glo "COMMANDS") rfl)
theorem Wd.z_LookupError (W : Wd w K mg) : mg "LookupError" = none := let ⟨_, X, G⟩ := W.hx; free_ok X G (W.c.fact 65 (f := .free "LookupError") rfl)
theorem Wd.z_ValueError (W : Wd w K mg) : mg "ValueError" = none := let ⟨_, X, G⟩ := W.hx; free_ok X G (W.c.fact 66 (f := .free "ValueError") rfl)
theorem Wd.z_abs (W : Wd w K mg) : mg "abs" = none := let ⟨_, X, G⟩ := W.hx; free_ok X G (W.c.fact 67 (f := .free "abs") rfl)
theorem Wd.z_all (W : Wd w K mg) : mg "all" = none := let ⟨_, X, G⟩ := W.hx; free_ok X G (W.c.fact 68 (f := .free "all") rfl)
theorem Wd.z_any (W : Wd w K mg) : mg "any" = none := let ⟨_, X, G⟩ := W.hx; free_ok X G (W.c.fact 69 (f := .free "any") rfl)
theorem Wd.z_bool (W : Wd w K mg) : mg "bool" = none := let ⟨_, X, G⟩ := W.hx; free_ok X G (W.c.fact 70 (f := .free "bool") rfl)
theorem Wd.z_enumerate (W : Wd w K mg) : mg "enumerate" = none := let ⟨_, X, G⟩ := W.hx; free_ok X G (W.c.fact 71 (f := .free "enumerate") rfl)
theorem Wd.z_int (W : Wd w K mg) : mg "int" = none := let ⟨_, X, G⟩ := W.hx; free_ok X G (W.c.fact 72 (f := .free "int") rfl)
theorem Wd.z_isinstance (W : Wd w K mg) : mg "isinstance" = none := let ⟨_, X, G⟩ := W.hx; free_ok X G (W.c.fact 73 (f := .free "isinstance") rfl)
theorem Wd.z_len (W : Wd w K mg) : mg "len" = none := let ⟨_, X, G⟩ := W.hx; free_ok X G (W.c.fact 74 (f := .free "len") rfl)
theorem Wd.z_list (W : Wd w K mg) : mg "list" = none := let ⟨_, X, G⟩ := W.hx; free_ok X G (W.c.fact 75 (f := .free "list") rfl)
theorem Wd.z_max (W : Wd w K mg) : mg "max" = none := let ⟨_, X, G⟩ := W.hx; free_ok X G (W.c.fact 76 (f := .free "max") rfl)
theorem Wd.z_min (W : Wd w K mg) : mg "min" = none := let ⟨_, X, G⟩ := W.hx; free_ok X G (W.c.fact 77 (f := .free "min") rfl)
theorem Wd.z_range (W : Wd w K mg) : mg "range" = none := let ⟨_, X, G⟩ := W.hx; free_ok X G (W.c.fact 78 (f := .free "range") rfl)
theorem Wd.z_repr (W : Wd w K mg) : mg "repr" = none := let ⟨_, X, G⟩ := W.hx; free_ok X G (W.c.fact 79 (f := .free "repr") rfl)
theorem Wd.z_sorted (W : Wd w K mg) : mg "sorted" = none := let ⟨_, X, G⟩ := W.hx; free_ok X G (W.c.fact 80 (f := .free "sorted") rfl)
theorem Wd.z_str (W : Wd w K mg) : mg "str" = none := let ⟨_, X, G⟩ := W.hx; free_ok X G (W.c.fact 81 (f := .free "str") rfl)
theorem Wd.z_sum (W : Wd w K mg) : mg "sum" = none := let ⟨_, X, G⟩ := W.hx; free_ok X G (W.c.fact 82 (f := .free "sum") rfl)
theorem Wd.z_tuple (W : Wd w K mg) : mg "tuple" = none := let ⟨_, X, G⟩ := W.hx; free_ok X G (W.c.fact 83 (f := .free "tuple") rfl)
theorem Wd.z_zip (W : Wd w K mg) : mg "zip" = none := let ⟨_, X, G⟩ := W.hx; free_ok X G (W.c.fact 84 (f := .free "zip") rfl)
theorem Wd.i_MOST_CARDS (W : Wd w K mg) : ∃ t, mg "MOST_CARDS" = some (.int 2000 t) := let ⟨_, X, G⟩ := W.hx; int_ok X G (W.c.fact 85 (f := .int "MOST_CARDS" 2000) rfl)
theorem Wd.i_MOST_BEST (W : Wd w K mg) : ∃ t, mg "MOST_BEST" = some (.int 60 t) := let ⟨_, X, G⟩ := W.hx; int_ok X G (W.c.fact 86 (f := .int "MOST_BEST" 60) rfl)
theorem Wd.i_MOST_LETTERS (W : Wd w K mg) : ∃ t, mg "MOST_LETTERS" = some (.int 8 t) := let ⟨_, X, G⟩ := W.hx; int_ok X G (W.c.fact 87 (f := .int "MOST_LETTERS" 8) rfl)
theorem Wd.i_MOST_LISTED_CARDS (W : Wd w K mg) : ∃ t, mg "MOST_LISTED_CARDS" = some (.int 5 t) := let ⟨_, X, G⟩ := W.hx; int_ok X G (W.c.fact 88 (f := .int "MOST_LISTED_CARDS" 5) rfl)
theorem Wd.i_LETTERS (W : Wd w K mg) : ∃ t, mg "LETTERS" = some (.str "abcdefghijklmnopqrstuvwxyz" t) := let ⟨_, X, G⟩ := W.hx; str_ok X G (W.c.fact 89 (f := .str "LETTERS" "abcdefghijklmnopqrstuvwxyz") rfl)
theorem Wd.c_Arrangement (W : Wd w K mg) : Cls K (ga K "Arrangement") := cls_ok (W.c.fact 90 (f := .cls "Arrangement") rfl)
theorem Wd.c_Game (W : Wd w K mg) : Cls K (ga K "Game") := cls_ok (W.c.fact 91 (f := .cls "Game") rfl)
theorem Wd.c_Console (W : Wd w K mg) : Cls K (ga K "Console") := cls_ok (W.c.fact 92 (f := .cls "Console") rfl)
theorem Wd.n_Arrangement_cards (W : Wd w K mg) : NoAttr K (ga K "Arrangement") "cards" := noat_ok (W.c.fact 93 (f := .noat "Arrangement" "cards") rfl)
theorem Wd.n_Game_first (W : Wd w K mg) : NoAttr K (ga K "Game") "first" := noat_ok (W.c.fact 94 (f := .noat "Game" "first") rfl)
theorem Wd.n_Game_cards (W : Wd w K mg) : NoAttr K (ga K "Game") "cards" := noat_ok (W.c.fact 95 (f := .noat "Game" "cards") rfl)
theorem Wd.n_Game_played (W : Wd w K mg) : NoAttr K (ga K "Game") "played" := noat_ok (W.c.fact 96 (f := .noat "Game" "played") rfl)
theorem Wd.n_Game_undone (W : Wd w K mg) : NoAttr K (ga K "Game") "undone" := noat_ok (W.c.fact 97 (f := .noat "Game" "undone") rfl)
theorem Wd.n_Game_text (W : Wd w K mg) : NoAttr K (ga K "Game") "text" := noat_ok (W.c.fact 98 (f := .noat "Game" "text") rfl)
theorem Wd.n_Console_game (W : Wd w K mg) : NoAttr K (ga K "Console") "game" := noat_ok (W.c.fact 99 (f := .noat "Console" "game") rfl)
theorem Wd.m_Game_go_to (W : Wd w K mg) : Meth K (ga K "Game") "go_to" (ma K (ga K "Game") "go_to") := meth_ok (W.c.fact 100 (f := .meth "Game" "go_to") rfl)
theorem Wd.m_Game_play (W : Wd w K mg) : Meth K (ga K "Game") "play" (ma K (ga K "Game") "play") := meth_ok (W.c.fact 101 (f := .meth "Game" "play") rfl)
theorem Wd.m_Game_move (W : Wd w K mg) : Meth K (ga K "Game") "move" (ma K (ga K "Game") "move") := meth_ok (W.c.fact 102 (f := .meth "Game" "move") rfl)
theorem Wd.m_Game_hint (W : Wd w K mg) : Meth K (ga K "Game") "hint" (ma K (ga K "Game") "hint") := meth_ok (W.c.fact 103 (f := .meth "Game" "hint") rfl)
theorem Wd.m_Game_undo (W : Wd w K mg) : Meth K (ga K "Game") "undo" (ma K (ga K "Game") "undo") := meth_ok (W.c.fact 104 (f := .meth "Game" "undo") rfl)
theorem Wd.m_Game_redo (W : Wd w K mg) : Meth K (ga K "Game") "redo" (ma K (ga K "Game") "redo") := meth_ok (W.c.fact 105 (f := .meth "Game" "redo") rfl)
theorem Wd.m_Console_run (W : Wd w K mg) : Meth K (ga K "Console") "run" (ma K (ga K "Console") "run") := meth_ok (W.c.fact 106 (f := .meth "Console" "run") rfl)
theorem Wd.m_Console_query (W : Wd w K mg) : Meth K (ga K "Console") "query" (ma K (ga K "Console") "query") := meth_ok (W.c.fact 107 (f := .meth "Console" "query") rfl)
theorem Wd.m_Arrangement_len (W : Wd w K mg) : Meth K (ga K "Arrangement") "__len__" (ma K (ga K "Arrangement") "__len__") := meth_ok (W.c.fact 108 (f := .meth "Arrangement" "__len__") rfl)
theorem Wd.k_Arrangement (W : Wd w K mg) : Mk K (ga K "Arrangement") (ma K (ga K "Arrangement") "__init__") := mkr_ok (W.c.fact 109 (f := .mkr "Arrangement") rfl)
theorem Wd.k_Game (W : Wd w K mg) : Mk K (ga K "Game") (ma K (ga K "Game") "__init__") := mkr_ok (W.c.fact 110 (f := .mkr "Game") rfl)
theorem Wd.k_Console (W : Wd w K mg) : Mk K (ga K "Console") (ma K (ga K "Console") "__init__") := mkr_ok (W.c.fact 111 (f := .mkr "Console") rfl)
theorem Wd.x_InvalidCommand_InvalidCommand (W : Wd w K mg) : PySem.W.exmOne K (.ref (ga K "InvalidCommand")) (.ref (ga K "InvalidCommand")) = some true := exm_ok (W.c.fact 112 (f := .exm "InvalidCommand" "InvalidCommand" true) rfl)
theorem Wd.x_NothingToUndo_InvalidCommand (W : Wd w K mg) : PySem.W.exmOne K (.ref (ga K "NothingToUndo")) (.ref (ga K "InvalidCommand")) = some false := exm_ok (W.c.fact 113 (f := .exm "NothingToUndo" "InvalidCommand" false) rfl)
theorem Wd.x_NothingToUndo_InvalidStep (W : Wd w K mg) : PySem.W.exmOne K (.ref (ga K "NothingToUndo")) (.ref (ga K "InvalidStep")) = some false := exm_ok (W.c.fact 114 (f := .exm "NothingToUndo" "InvalidStep" false) rfl)
theorem Wd.x_NothingToUndo_NothingToUndo (W : Wd w K mg) : PySem.W.exmOne K (.ref (ga K "NothingToUndo")) (.ref (ga K "NothingToUndo")) = some true := exm_ok (W.c.fact 115 (f := .exm "NothingToUndo" "NothingToUndo" true) rfl)
theorem Wd.x_NothingToRedo_InvalidCommand (W : Wd w K mg) : PySem.W.exmOne K (.ref (ga K "NothingToRedo")) (.ref (ga K "InvalidCommand")) = some false := exm_ok (W.c.fact 116 (f := .exm "NothingToRedo" "InvalidCommand" false) rfl)
theorem Wd.x_NothingToRedo_InvalidStep (W : Wd w K mg) : PySem.W.exmOne K (.ref (ga K "NothingToRedo")) (.ref (ga K "InvalidStep")) = some false := exm_ok (W.c.fact 117 (f := .exm "NothingToRedo" "InvalidStep" false) rfl)
theorem Wd.x_NothingToRedo_NothingToUndo (W : Wd w K mg) : PySem.W.exmOne K (.ref (ga K "NothingToRedo")) (.ref (ga K "NothingToUndo")) = some false := exm_ok (W.c.fact 118 (f := .exm "NothingToRedo" "NothingToUndo" false) rfl)
theorem Wd.x_NothingToRedo_NothingToRedo (W : Wd w K mg) : PySem.W.exmOne K (.ref (ga K "NothingToRedo")) (.ref (ga K "NothingToRedo")) = some true := exm_ok (W.c.fact 119 (f := .exm "NothingToRedo" "NothingToRedo" true) rfl)
end
def names0 : List PySem.Str := ["_wall", "CardError", "InvalidRow", "InvalidPlace", "InvalidNumber", "InvalidStep", "InvalidName", "InvalidCommand", "SizeMismatch", "LimitExceeded", "NothingToUndo", "NothingToRedo", "MOST_CARDS", "is_integer", "is_between", "common_divisor", "common_multiple", "is_free_step", "stepped", "entry"]
def names1 : List PySem.Str := ["composed", "inverted", "cycle_lists", "raised", "Arrangement", "order", "parse_count", "parse_integer", "format_arrangement", "format_step", "parse_step", "MOST_BEST", "fewest_of", "steps_within", "best_of", "LETTERS", "MOST_LETTERS", "MOST_SIGNS", "is_name", "check_name"]
def names2 : List PySem.Str := ["is_caption", "Game", "MOST_LISTED_CARDS", "disorders_of", "disorders", "best_steps", "performed", "count_from", "check_listed", "count_words", "COMMANDS", "parse_argument", "parse_command", "Console", "_law_pool", "_law_take", "_law_cards", "_law_step", "_law_done", "_law_cycles"]
def names3 : List PySem.Str := ["_law_fewest", "_law_disorders", "_law_at", "_law_product", "_law_new_model", "_law_now", "_law_play", "_law_back", "_law_again", "_law_best", "_law_word", "_law_run", "_law_period", "_law_words", "_law_check_all", "_law_fresh", "_law_action", "_law_command", "_law_expected", "_law_check_same"]
def names4 : List PySem.Str := ["_law_check_turn"]
def names : List PySem.Str := names0 ++ (names1 ++ (names2 ++ (names3 ++ (names4))))
end Tc
set_option maxHeartbeats 0
namespace Tc
open PySem PySem.Spec PyProof.Rows L2 He He5
/-! ### the looked-at part of the heap, computed once -/
def frV {α : Type} (v : Value) (k : Value → α) : α := match v with
  | .ref a => HandSHeadRun.frNat a fun a => k (.ref a)
  | .type n => k (.type n)
  | .builtin n => k (.builtin n)
  | .str x t => k (.str x t)
  | .int i t => k (.int i t)
  | .none => k .none
  | v => k v
theorem frV_eq {α : Type} (v : Value) (k : Value → α) : frV v k = k v := by
  cases v with
  | ref a => exact HandSHeadRun.frNat_eq a fun a => k (.ref a)
  | _ => rfl
def frE {α : Type} (e : DictEntry) (k : DictEntry → α) : α := match e with
  | ⟨h, x, v⟩ => frV x fun x => frV v fun v => k ⟨h, x, v⟩
theorem frE_eq {α : Type} (e : DictEntry) (k : DictEntry → α) : frE e k = k e := by
  obtain ⟨h, x, v⟩ := e
  show (frV x fun x => frV v fun v => k ⟨h, x, v⟩) = _
  rw [frV_eq, frV_eq]
def frLV {α : Type} : List Value → (List Value → α) → α
  | [], k => k []
  | v :: r, k => frV v fun v => frLV r fun r => k (v :: r)
theorem frLV_eq {α : Type} : ∀ (l : List Value) (k : List Value → α), frLV l k = k l
  | [], _ => rfl
  | v :: r, k => by
    show (frV v fun v => frLV r fun r => k (v :: r)) = _
    rw [frV_eq, frLV_eq r]
def frLE {α : Type} : List DictEntry → (List DictEntry → α) → α
  | [], k => k []
  | e :: r, k => frE e fun e => frLE r fun r => k (e :: r)
theorem frLE_eq {α : Type} : ∀ (l : List DictEntry) (k : List DictEntry → α), frLE l k = k l
  | [], _ => rfl
  | e :: r, k => by
    show (frE e fun e => frLE r fun r => k (e :: r)) = _
    rw [frE_eq, frLE_eq r]
def frD {α : Type} (d : Data) (k : Data → α) : α := match d with
  | .dict es n => frLE es.toList fun l => k (.dict ⟨l⟩ n)
  | .fields vs => frLV vs.toList fun l => k (.fields ⟨l⟩)
  | .seq vs n => frLV vs.toList fun l => k (.seq ⟨l⟩ n)
  | .func f => (match f with
    | ⟨a, b, c, d, e, f, g, h, i, j, l, m, n, o, p⟩ => frV n fun n => k (.func ⟨a, b, c, d, e, f, g, h, i, j, l, m, n, o, p⟩))
  | .cls c => (match c with
    | ⟨a, b, c, d, e, f, g, h, i, j, l⟩ => HandSHeadRun.frNat d fun d => frLV c fun c => k (.cls ⟨a, b, c, d, e, f, g, h, i, j, l⟩))
  | d => k d
theorem frD_eq {α : Type} (d : Data) (k : Data → α) : frD d k = k d := by
  cases d with
  | dict es n =>
    show (frLE es.toList fun l => k (.dict ⟨l⟩ n)) = _
    rw [frLE_eq]
  | fields vs =>
    show (frLV vs.toList fun l => k (.fields ⟨l⟩)) = _
    rw [frLV_eq]
  | seq vs n =>
    show (frLV vs.toList fun l => k (.seq ⟨l⟩ n)) = _
    rw [frLV_eq]
  | func f =>
    obtain ⟨a, b, c, d, e, f, g, h, i, j, l, m, n, o, p⟩ := f
    exact frV_eq n fun n => k (.func ⟨a, b, c, d, e, f, g, h, i, j, l, m, n, o, p⟩)
  | cls c =>
    obtain ⟨a, b, c, d, e, f, g, h, i, j, l⟩ := c
    show (HandSHeadRun.frNat d fun d => frLV c fun c => k (.cls ⟨a, b, c, d, e, f, g, h, i, j, l⟩)) = _
    rw [HandSHeadRun.frNat_eq, frLV_eq]
  | _ => rfl
def frO {α : Type} (o : Obj) (k : Obj → α) : α := match o with
  | ⟨c, d, dt, sl⟩ => frV c fun c => frD dt fun dt => k ⟨c, d, dt, sl⟩
theorem frO_eq {α : Type} (o : Obj) (k : Obj → α) : frO o k = k o := by
  obtain ⟨c, d, dt, sl⟩ := o
  show (frV c fun c => frD dt fun dt => k ⟨c, d, dt, sl⟩) = _
  rw [frV_eq, frD_eq]
def frK {α : Type} (g : Addr → Option Obj) : List Addr → (PySem.W.Frag → α) → α
  | [], k => k []
  | a :: r, k => match g a with
    | some o => frO o fun o => frK g r fun l => k ((a, o) :: l)
    | none => frK g r k
theorem frK_eq {α : Type} (g : Addr → Option Obj) : ∀ (as : List Addr) (k : PySem.W.Frag → α), frK g as k = k (frG g as)
  | [], _ => rfl
  | a :: r, k => by
    cases e : g a with
    | some o =>
      have h1 : frK g (a :: r) k = frO o fun o => frK g r fun l => k ((a, o) :: l) := by
        show (match g a with
          | some o => frO o fun o => frK g r fun l => k ((a, o) :: l)
          | none => frK g r k) = _
        rw [e]
      have h2 : frG g (a :: r) = (a, o) :: frG g r := by
        unfold frG
        rw [List.filterMap_cons, e]
        rfl
      rw [h1, h2, frO_eq, frK_eq g r]
    | none =>
      have h1 : frK g (a :: r) k = frK g r k := by
        show (match g a with
          | some o => frO o fun o => frK g r fun l => k ((a, o) :: l)
          | none => frK g r k) = _
        rw [e]
      have h2 : frG g (a :: r) = frG g r := by
        unfold frG
        rw [List.filterMap_cons, e]
        rfl
      rw [h1, h2, frK_eq g r]
abbrev AlW : Type := He.AlD × (List Bool × (Option (List (Option (Str × Int))) × Bool))
def obsW (K : PySem.W.Frag) : AlW := (obsA fa fn K, (more K, (dicW K (ga K "COMMANDS"), cmdB K)))
def valW (w : World) : AlW := (valA fn, ([true, true, true, true, true, true, true, true, true, true, true, true, true], (some (keysIn w.params (cmdTab.map (·.1))), true)))
def as0 : List Addr := [3, 31, 108, 146, 204, 224, 424, 615, 702, 30, 145, 203, 223, 423, 614, 701, 2, 663, 234, 241, 248, 255, 260, 267, 289]
def as1 : List Addr := [435, 440, 447, 452, 459, 464, 469, 474, 479, 484, 491, 624, 631, 636, 643, 648, 655, 662, 668, 673, 713, 720, 727, 734, 741]
def as2 : List Addr := [748, 753, 758, 765, 770, 777, 784, 791, 796, 803, 808, 815, 822, 829, 836, 841, 846, 853, 860, 867, 874, 881, 888, 233, 240]
def as3 : List Addr := [247, 254, 259, 266, 288, 434, 439, 446, 451, 458, 463, 468, 473, 478, 483, 490, 623, 630, 635, 642, 647, 654, 661, 667, 672]
def as4 : List Addr := [712, 719, 726, 733, 740, 747, 752, 757, 764, 769, 776, 783, 790, 795, 802, 807, 814, 821, 828, 835, 840, 845, 852, 859, 866]
def as5 : List Addr := [873, 880, 887, 143, 201, 221, 308, 317, 325, 334, 369, 510, 518, 534, 565, 572, 579, 593, 598, 605, 687, 692, 699, 142, 200]
def as6 : List Addr := [220, 307, 315, 323, 333, 368, 509, 517, 533, 564, 571, 578, 592, 597, 604, 686, 691, 698, 314, 322, 332, 516, 532]
/-- where the objects stand that the facts look at -/
def asW : List Addr := as0 ++ (as1 ++ (as2 ++ (as3 ++ (as4 ++ (as5 ++ (as6))))))
def obsWG (g : Addr → Option Obj) : AlW := obsW (frG g asW)
def obsWF (g : Addr → Option Obj) : AlW := frK g asW obsW
def SaysW (w : World) (K : PySem.W.Frag) : Prop := obsW K = valW w
def hookW : PySem.W.Hook where
  α := AlW
  obs := fun s => obsWG s.heap.get?
  val := fun w => valW w
  says := fun w h => ∃ K : PySem.W.Frag, K.In h ∧ SaysW w K
  of := fun _ _ e => ⟨_, frG_in, e⟩
  keeps := fun _ _ _ ⟨K, hK, c⟩ k => ⟨K, PySem.W.Frag.In.keeps hK k, c⟩
theorem obsWF_eq {g : Addr → Option Obj} {s : Shared} (h : ∀ a, g a = s.heap.get? a) : obsWF g = hookW.obs s := by
  have e : g = s.heap.get? := funext h
  unfold obsWF
  rw [frK_eq, e] <;> rfl
theorem wd_of {w : World} {K : PySem.W.Frag} {h : Heap} {mg : Str → Option Value} (X : K.In h) (G : h.Ns mainGlobals mg) (c : SaysW w K) : Wd w K mg := by
  have c1 : obsA fa fn K = valA fn := congrArg (fun z : AlW => z.1) c
  have c2 : more K = [true, true, true, true, true, true, true, true, true, true, true, true, true] := congrArg (fun z : AlW => z.2.1) c
  have c3 : dicW K (ga K "COMMANDS") = some (keysIn w.params (cmdTab.map (·.1))) := congrArg (fun z : AlW => z.2.2.1) c
  have c4 : cmdB K = true := congrArg (fun z : AlW => z.2.2.2) c
  refine ⟨⟨h, X, G⟩, c1, fun b hb => ?_, dicW_ok c3, c4⟩
  rw [c2] at hb
  simpa using hb
abbrev R : PySem.W.OpenRow := PySem.W.OpenLaw.row PySem.Challenge.rw_turnedcards_k57_whole_two_consoles
abbrev qv : Program := PySem.W.view R.prog [90]
def ob (s : PySem.W.SharedT) : AlW := obsWF (HandSHeadRun.getT s)
theorem ob_eq (s : PySem.W.SharedT) : ob s = hookW.obs s.abs := obsWF_eq (HandSHeadRun.getT_eq s)
theorem run_f (w : World) : HandSHeadRun.RunEq R qv hookW ob 7400 names (w.withFollow "special-get-raises" false) := by
  intro os
  kernel_rfl
theorem run_t (w : World) : HandSHeadRun.RunEq R qv hookW ob 7400 names (w.withFollow "special-get-raises" true) := by
  intro os
  kernel_rfl
theorem run (w : World) : HandSHeadRun.RunEq R qv hookW ob 7400 names w := PySem.W.byRow2 "special-get-raises" (P := fun w => HandSHeadRun.RunEq R qv hookW ob 7400 names w) run_f run_t w
end Tc
set_option maxHeartbeats 4000000
/-! ### promises by position; short rules for calls -/
namespace Tc
open PySem PySem.Spec PyProof.Rows L2 He He5
section
variable {P : Program} {w : World} {K : PySem.W.Frag} {mg : Str → Option Value} {base : Heap}
theorem FnDf.kp {d : DefA} (F : FnDf K d) : PySem.W.keepIn K (.ref (d.at_ K)) = true := let ⟨_, F⟩ := F; F.kp
theorem fnr {CX : CXT} {d : DefA} {N ps : List Str} {k : Nat} {sp : Sp} (F : FnDf K d) (S : FnScope N ps d.scope) (len : ∀ vs H Q E, sp vs H Q E → vs.length = ps.length)
    (bnd : ∀ (kV doc pm : Value) (an : Option Addr) (cdv ct : Value) (us : List Value), us.length = ps.length → bindArgs (PySem.W.fnOf d.name d.qual d.params d.body d.scope .none kV doc pm an cdv ct) ⟨us, []⟩ = pure (ps.zip us))
    (body : ∀ (cdv : Value) (A : Around) (outer : List Env) (s : Shared) (H : Hp) (vs : List V) (Q : VK) (E : XK), Room k (A.deeper (envOfC d.qual d.scope s.heap.objs.size (d.at_ K) cdv)) → sp vs H Q E →
      ∃ t, PSs (cxOf CX P w K mg base N d.qual d.scope (d.at_ K) cdv A outer s H E) d.body t ∧ t { nx := fun _ H' => Q .non H', rt := Q } (start N vs) H) : FnR P w K mg base CX (k + 1) (d.at_ K) sp := by
  obtain ⟨fd, F⟩ := F
  have G := F.ok (P := P) (w := w) (mg := mg) (base := base) (CX := CX) (k := k) (sp := sp) S len body
  exact (G.raw (F.bindsN bnd) .nil).imp fun vs H Q E h => by
    rw [List.append_nil]
    exact h
theorem fnr0 {d : DefA} {N ps : List Str} {k : Nat} {sp : Sp} (F : FnDf K d) (S : FnScope N ps d.scope) (len : ∀ vs H Q E, sp vs H Q E → vs.length = ps.length)
    (bnd : ∀ (kV doc pm : Value) (an : Option Addr) (cdv ct : Value) (us : List Value), us.length = ps.length → bindArgs (PySem.W.fnOf d.name d.qual d.params d.body d.scope .none kV doc pm an cdv ct) ⟨us, []⟩ = pure (ps.zip us))
    (body : ∀ (cdv : Value) (A : Around) (outer : List Env) (s : Shared) (H : Hp) (vs : List V) (Q : VK) (E : XK), Room k (A.deeper (envOfC d.qual d.scope s.heap.objs.size (d.at_ K) cdv)) → sp vs H Q E →
      ∃ t, PSs (cxOf CX0 P w K mg base N d.qual d.scope (d.at_ K) cdv A outer s H E).nox d.body t ∧ t { nx := fun _ H' => Q .non H', rt := Q } (start N vs) H) : FnR P w K mg base CX0 (k + 1) (d.at_ K) sp :=
  fnr F S len bnd fun cdv A outer s H vs Q E hr h => let ⟨t, h1, h2⟩ := body cdv A outer s H vs Q E hr h; ⟨t, h1.nox, h2⟩
/-- a def of the module as its callers see it -/
structure Cal (P : Program) (w : World) (K : PySem.W.Frag) (mg : Str → Option Value) (base : Heap) (CX : CXT) (k : Nat) (x : Str) (f : Addr) (sp : Sp) : Prop where
  F : FnR P w K mg base CX k f sp
  g : mg x = some (.ref f)
  kp : PySem.W.keepIn K (.ref f) = true
end
def tCR (sp : Sp) (E : XK) (t : TA) : TE := fun σ H Q => t σ H fun vs H1 => sp vs H1 Q E
def tCRS (sp : Sp) (E : L2.St → XK) (t : TA) : TE := fun σ H Q => t σ H fun vs H1 => sp vs H1 Q (E σ)
section
variable {X : Cx} {CX : CXT} {k : Nat} {f C g : Addr} {sp : Sp} {E : XK} {x : Str} {e : Expr} {es : List Expr} {t : TA} {p pos : Pos}
theorem pe_c (c : Cal X.prog X.w X.K X.mg X.base CX k x f sp) (hr : Room k X.A) (hx : Passes CX X E) (ha : PA X (e :: es) t) (hg : Gl X x := by rfl) (hdb : (x == ("__debug__" : Str)) = false := by decide)
    (he : starEach (e :: es) X.env = (false, eval e X.env) :: starEach es X.env := by rfl) (hpl : (backTo pos (starEach es X.env)).any (·.1) = false := by rfl) : PE X (.Call (.Name x p) (e :: es) [] pos) (tCR sp E t) := by
  refine ⟨fun pins s σ H Q I h => ?_⟩
  refine wpAny_Call_Name_kw (ld_glob I hg c.g ?_ hdb)
  refine PySem.W.callWith_K (h₀ := X.base) I.ok.mod.kin c.kp (thn (ha.run pos pins s σ H _ I h) fun us s1 ⟨vs, H1, I1, r, q⟩ => ⟨I1.kIn, ?_⟩) he hpl
  exact wpAny_call (run_fnR c.F hr hx I1 r q)
/-- what a call may let out, at the slots σ (in a try's body) -/
theorem run_fnRS {pins : List (Addr × Obj)} {σ : L2.St} {H : Hp} {s : Shared} {Q : VK} {us : List Value} {vs : List V} {E : XK} (F : FnR X.prog X.w X.K X.mg X.base CX k f sp) (hr : Room k X.A) (hx : PassesAt CX X σ E) (I : Inv X pins σ H s) (r : Vals vs us) (h : sp vs H Q E) :
    codeAny (model X.prog X.w) X.A (.call (.ref f) ⟨us, []⟩) (fun r s' => match r with | .ok (.ret v) => EP X pins σ Q v s' | .ok _ => False | .error e => X.xe e s') s := by
  refine codeAny_mono (F X.A X.stack s H us vs Q E hr I.env0 r h) fun r s' hq => ?_
  cases r with
  | error e => exact hx pins H s e s' I hq
  | ok fl =>
    cases fl with
    | ret u => exact I.after hq
    | next => exact False.elim hq
    | brk => exact False.elim hq
    | cont => exact False.elim hq
/-- o.m(..) by a positional promise, at the slots -/
def tMRS (C : Addr) (m : Str) (sp : Sp) (E : L2.St → XK) (ta : TE) (t : TA) : TE := fun σ H Q => ta σ H fun x H1 => ∃ a dx fs, x = .ref a ∧ H1 a = some (.ins C dx fs) ∧ fs.lookup m = none ∧ t σ H1 fun vs H2 => sp (x :: vs) H2 Q (E σ)
theorem pe_methRS {m : Str} {o : Expr} {ta : TE} {E : L2.St → XK} {apos : Pos} {pl : Sem Bool} (he : PE X o ta) (c : Cls X.K C) (hm : Meth X.K C m f)
    (F : FnR X.prog X.w X.K X.mg X.base CX k f sp) (hr : Room k X.A) (hx : ∀ σ, PassesAt CX X σ (E σ)) (ha : PA X (e :: es) t)
    (hst : starEach (e :: es) X.env = (false, eval e X.env) :: starEach es X.env := by rfl) (hpl : (backTo pos (starEach es X.env)).any (·.1) = false := by rfl)
    (ht : eval (.Call (.Attribute o m apos) (e :: es) [] pos) X.env = (do
      let ov ← eval o X.env
      standAt apos.atName
      let (f, first) ← holding [ov] (getMethod ov m pl)
      callWith pos f first (backTo pos (starEach (e :: es) X.env)) (backToKw pos (keywordEach [] X.env))) := by rfl) :
    PE X (.Call (.Attribute o m apos) (e :: es) [] pos) (tMRS C m sp E ta t) := by
  refine ⟨fun pins s σ H Q I h => ?_⟩
  refine PySem.W.methodCall_KW (pl := pl) (thn (he.run pins s σ H _ I h) fun u s1 ⟨x, H1, I1, rx, a, dx, fs, ex, ea, l, q⟩ => ?_) ht
  subst ex
  obtain rfl : u = Value.ref a := rx
  refine getmeth_ok I1 ea c hm l ?_
  refine PySem.W.callWith_K (first := [.ref a]) (h₀ := X.base) I.ok.mod.kin hm.kp (thn (ha.run pos pins s1 σ H1 _ I1 q) fun us s2 ⟨vs, H2, I2, r, q2⟩ => ⟨I2.kIn, ?_⟩) hst hpl
  exact wpAny_call (run_fnRS (us := .ref a :: us) (vs := .ref a :: vs) F hr (hx σ) I2 (.cons rfl r) q2)
/-- o.m() by a positional promise -/
def tMR0 (C : Addr) (m : Str) (sp : Sp) (E : XK) (ta : TE) : TE := fun σ H Q => ta σ H fun x H1 => ∃ a dx fs, x = .ref a ∧ H1 a = some (.ins C dx fs) ∧ fs.lookup m = none ∧ sp [x] H1 Q E
theorem pe_methR0 {m : Str} {o : Expr} {ta : TE} {apos : Pos} {pl : Sem Bool} (he : PE X o ta) (c : Cls X.K C) (hm : Meth X.K C m f) (F : FnR X.prog X.w X.K X.mg X.base CX k f sp) (hr : Room k X.A) (hx : Passes CX X E)
    (ht : eval (.Call (.Attribute o m apos) [] [] pos) X.env = (do
      let ov ← eval o X.env
      standAt apos.atName
      let (f, first) ← holding [ov] (getMethod ov m pl)
      callWith pos f first (backTo pos (starEach [] X.env)) (backToKw pos (keywordEach [] X.env))) := by rfl) :
    PE X (.Call (.Attribute o m apos) [] [] pos) (tMR0 C m sp E ta) := by
  refine ⟨fun pins s σ H Q I h => ?_⟩
  refine PySem.W.methodCall_KW (pl := pl) (thn (he.run pins s σ H _ I h) fun u s1 ⟨x, H1, I1, rx, a, dx, fs, ex, ea, l, q⟩ => ?_) ht
  subst ex
  obtain rfl : u = Value.ref a := rx
  refine getmeth_ok I1 ea c hm l ?_
  exact PySem.W.callWith_K0 (first := [.ref a]) I1.kIn hm.kp (wpAny_call (run_fnR (us := [.ref a]) (vs := [.ref a]) F hr hx I1 (.cons rfl .nil) q))
/-- e.f, a property, by a positional promise of its getter -/
def tPropR (C : Addr) (sp : Sp) (ta : TE) : TE := fun σ H Q => ta σ H fun x H1 => ∃ a dx fs, x = .ref a ∧ H1 a = some (.ins C dx fs) ∧ sp [.ref a] H1 Q E0
theorem pe_propR {pp : Addr} {m : Str} {o : Expr} {ta : TE} (he : PE X o ta) (c : Cls X.K C) (hp : PropOf X.K C m pp g) (F : FnR X.prog X.w X.K X.mg X.base CX0 k g sp) (hr : Room (k + 1) X.A)
    (hab : attributeBase o m X.env (eval o X.env) = eval o X.env := by rfl) : PE X (.Attribute o m pos) (tPropR C sp ta) := by
  refine ⟨fun pins s σ H Q I h => ?_⟩
  refine attr_of hab (thn (he.run pins s σ H _ I h) fun u s1 ⟨x, H1, I1, rx, a, dx, fs, ex, ea, q⟩ => ?_)
  subst ex
  obtain rfl : u = Value.ref a := rx
  obtain ⟨mA, O, _, _, _, _⟩ := ins_get I1.hok ea
  obtain ⟨od, J, _⟩ := O.look
  obtain ⟨rest, hrec⟩ := hp.rec_
  have I2 := I1.tok (s1.toks + 1)
  have hc : (PySem.W.clsIn X.K C).isSome = true := by
    obtain ⟨cd, hc, _⟩ := PySem.W.any_some c.hd
    rw [hc]
    rfl
  refine PySem.W.get_bind I1.kIn J (PySem.W.plainGet_of (c.get m)).1 (PySem.W.findObj_data hc hp.at_ hp.get hp.tak) (PySem.W.plainGet_of (c.get m)).2 (wpAny_call (PySem.W.prop_get (s := { s1 with toks := s1.toks + 1 }) I1.kIn hrec ?_))
  refine codeAny_mono (F X.A.in1 X.stack { s1 with toks := s1.toks + 1 } H1 [.ref a] [.ref a] Q E0 hr.in1 I2.env0.in1 (.cons rfl .nil) q) fun r s' hq => ?_
  cases r with
  | error er => exact False.elim hq
  | ok fl =>
    cases fl with
    | ret u =>
      obtain ⟨v, H', I3, rv, q3⟩ := I2.after hq
      show wpAny _ _ (handedOut u) _ _ _
      rw [PySem.W.handedOut_of (handed_of rv)]
      exact wpAny_pure ⟨v, H', I3, rv, q3⟩
    | next => exact False.elim hq
    | brk => exact False.elim hq
    | cont => exact False.elim hq
/-- C.m(..), m a staticmethod of the class C (a name of the module) -/
structure SMet (K : PySem.W.Frag) (C : Addr) (m : Str) (p g : Addr) : Prop where
  at_ : PySem.W.findCls K (.ref C) (.type "type") m = some (.get (.builtin "staticmethod.__get__") (.ref p) .none (.ref C))
  rc : ∃ rest, PySem.W.recIn K p "staticmethod" = some (.ref g :: rest)
  kp : PySem.W.keepIn K (.ref g) = true
end
end Tc
/-! ### own exceptions over any base of the interpreter: the base's __init__ is called, then one field is stored -/
namespace Tc
open PySem PySem.Spec PyProof.Rows L2 He He5
theorem mro_of_over {K : PySem.W.Frag} {C : Addr} {bmB : List Value} {cd : ClassData} (hp : PySem.W.excOver K C bmB = true) (hc : PySem.W.clsIn K C = some cd) : ∃ bm, cd.mro = .ref C :: bm ∧ PySem.W.excTail bmB bm = true := by
  obtain ⟨cd', hc', ho⟩ := PySem.W.any_some hp
  rw [hc] at hc'
  cases hc'
  split at ho
  · rename_i C' bm hm
    rw [Bool.and_eq_true, beq_iff_eq] at ho
    obtain ⟨rfl, ho⟩ := ho
    exact ⟨bm, hm, ho⟩
  · cases ho
section
open PySem.Calls PySem.W
open Builtin Builtin.ObjectAttr
variable {prog : Program} {w : World} {A : Around} {E : Value → Shared → Prop} {R : Result → Shared → Prop} {hp : Heap} {g : Array GenState} {d : Drawn} {t : Nat} {os : OsState}
/-- the first store on an exception without a dict -/
theorem osa_any {K : PySem.W.Frag} {bmB : List Value} {B : String} {name : Str} {tk : Tok} {v : Value} {x C : Addr} {fv : Array Value} {cd : ClassData} (SF : StoreFacts B bmB "object.__setattr__" "object")
    (X : K.In hp) (hx : hp.get? x = some { cls := .ref C, data := .fields fv }) (hcd : PySem.W.clsIn K C = some cd) (hov : PySem.W.excOver K C bmB = true) (hh : cd.hasDict = true) (ha : PySem.W.findIn K (.ref C) name = some none)
    (hq : ∀ h' tk' dx, (∀ b o, b ≠ x → hp.get? b = some o → h'.get? b = some o) → hp.objs.size ≤ dx → dx ≠ x → h'.get? x = some { cls := .ref C, dict := some dx, data := .fields fv } →
      h'.Ns1 dx (fun y => if y = name then some v else none) → R (.ok (.ret .none)) ⟨h', g, d, tk', os⟩) :
    codeAny (model prog w) A (.call (.builtin "object.__setattr__") ⟨[.ref x, .str name tk, v], []⟩) R ⟨hp, g, d, t, os⟩ := by
  have I : PySem.W.InstAt hp x { cls := .ref C, data := .fields fv } C none := ⟨hx, rfl, rfl, trivial⟩
  have hxs : x ≠ hp.objs.size := Nat.ne_of_lt (Heap.lt_size hx)
  refine osa_openX (s := ⟨hp, g, d, t, os⟩) SF X I hov (NoAttr.taker ha) fun b => ?_
  have hcls : PySem.W.Looks (model prog w) hp (classData C) cd := PySem.W.looks_clsIn X hcd
  show wpAny _ _ (storeInOwnDict (.ref x) (.ref C) (.str name tk) name v b) _ _ _
  obtain ⟨nm, bs, mro, ns, qn, hd, sn, sb, ab, col, del⟩ := cd
  dsimp only at hh
  subst hh
  unfold storeInOwnDict ownDictForStores
  repeat (first | with_reducible refine PySem.PX.store_in_new ?_ ?_ | with_reducible refine wpAny_loadPart_at hx ?_ | with_reducible refine hcls.at ?_ | wp_step)
  · exact ⟨_, #[], _, (Heap.get?_update_ne _ _ _ _ hxs.symm).trans (Heap.get?_push_at rfl rfl), rfl, fun e he => absurd he (by simp), fun _ => rfl⟩
  · intro h' tk' hn' hs
    have hx1 : (hp.push { cls := .type "dict", data := .dict #[] }).get? x = some { cls := .ref C, data := .fields fv } := Heap.get?_push_of_some _ hx
    refine hq h' tk' hp.objs.size (fun b o hb ho => ?_) (Nat.le_refl _) hxs.symm ?_ hn'
    · exact (hs.2 b (Nat.ne_of_lt (Heap.lt_size ho))).trans ((Heap.get?_update_ne _ _ _ _ hb).trans (Heap.get?_push_of_some _ ho))
    · exact (hs.2 x hxs).trans (Heap.get?_update_self _ hx1 rfl)
end
theorem clsIn_of {K : PySem.W.Frag} {C : Addr} {bmB : List Value} {newId : String} (q : PySem.W.excInitIn K C bmB newId = true) (hd : PySem.W.hasDictIn K C = true) : ∃ cd, PySem.W.clsIn K C = some cd ∧ cd.hasDict = true := by
  obtain ⟨cd, hc, h⟩ := PySem.W.any_some hd
  exact ⟨cd, hc, h⟩
section
variable {X : Cx} {pins : List (Addr × Obj)} {σ : L2.St} {H : Hp} {s : Shared} {a C dx fI : Addr} {f : Str} {y : V} {u : Value} {A : Around} {E : Value → Shared → Prop} {bmB : List Value} {newId initId B : String}
/-- self.f = y, the first one -/
theorem ost_any {Q : Unit → Shared → Prop} (SF : StoreFacts B bmB "object.__setattr__" "object") (T : ExC X.K C bmB newId f fI) (I : Inv X pins σ H s) (e : H a = some (exo a C none)) (ry : RelV y u)
    (h : ∀ dx s', H dx = none → dx ≠ a → Inv X pins σ (upd (upd H dx (exd dx [(f, y)])) a (exo a C (some dx))) s' → Q () s') : wpAny (model X.prog X.w) A (setAttr (.ref a) f u) Q E s := by
  obtain ⟨cd, hcl, hhd⟩ := clsIn_of T.ini T.hd
  obtain ⟨t1, ho⟩ := exo_at I.hok e
  obtain ⟨hp, g, d, t, os⟩ := s
  refine PySem.W.set_plain I.kIn (ox := { cls := .ref C, dict := none, data := .fields #[.ref t1, .none, .none, .none, .bool false, .none] }) (od := none) ⟨ho, rfl, rfl, trivial⟩ T.sa ?_
  refine osa_any SF I.kIn ho hcl T.over hhd T.no (fun h' tk' dx k dn dne hx hn => ?_)
  have hnd : H dx = none := I.hok.fresh dn
  have nd : ∀ {b : Addr} {o : Obj}, hp.get? b = some o → b ≠ dx := fun {b o} q => Nat.ne_of_lt (Nat.lt_of_lt_of_le (Heap.lt_size q) dn)
  have na : ∀ {b : Addr}, H b = none → b ≠ a := fun {b} n z => by
    rw [z, e] at n
    cases n
  have Un1 : Un X.fs [] H (upd (upd H dx (exd dx [(f, y)])) a (exo a C (some dx))) hp h' := {
    keep := fun b o q n _ _ => k b o (na n) q
    slot := fun b o q n _ _ => ⟨o.slots, k b o (na n) q⟩
    free := fun b o q n _ => by rw [upd_ne (na n), upd_ne (nd q)]; exact n
    there := fun b o q _ => by
      by_cases hb : b = a
      · exact ⟨_, by rw [hb]; exact hx⟩
      · exact ⟨o, k b o hb q⟩
    tups := fun b xs q => by rw [upd_ne (at_ne e q exo_tup), upd_ne (ne_of_none q hnd)]; exact q
    frzs := fun b o v q => by rw [upd_ne (at_ne e q exo_frz), upd_ne (ne_of_none q hnd)]; exact q
    tbls := fun b ps q => ⟨#[], by rw [upd_ne (at_ne e q exo_tbl), upd_ne (ne_of_none q hnd), q]; simp⟩ }
  refine h dx _ hnd dne (I.un (t' := tk') Un1 fun b o q => ?_)
  by_cases hb : b = a
  · subst hb
    rw [upd_same] at q
    cases q
    exact exo_ok hx
  · rw [upd_ne hb] at q
    by_cases hd : b = dx
    · subst hd
      rw [upd_same] at q
      cases q
      exact exd_ok hn (relO_put (fs := []) ry fun g => True.intro)
    · rw [upd_ne hd] at q
      exact (I.hok b o q).stay (fun c v hc z => k c v (by
          rcases hc with hc | hc
          · rw [hc]
            exact hb
          · exact at_ne e hc exo_own) z)
        (fun c hc => by rw [upd_ne (at_ne e hc exo_own), upd_ne (ne_of_none hc hnd)]; exact hc) (fun c xs hc => by rw [upd_ne (at_ne e hc exo_tup), upd_ne (ne_of_none hc hnd)]; exact hc)
/-- the base's __init__: nothing of it is told -/
theorem oinit_any {us : List Value} {Q : Value → Shared → Prop} (F : ExcBaseFacts B newId initId bmB) (T : ExC X.K C bmB newId f fI) (I : Inv X pins σ H s) (e : H a = some (exo a C none)) (hl : us.length ≤ sizeLine) (h : ∀ s', Inv X pins σ H s' → Q .none s') :
    wpAny (model X.prog X.w) A (call (.builtin initId) (.ref a :: us)) Q E s := by
  obtain ⟨nm, N, qn, bs, bm, hdct, sn, sub, ab, col, dd, k0, k1, k2, k3, k5, hC, hT⟩ := PySem.W.excInit_of I.kIn T.ini
  obtain ⟨t1, ho⟩ := exo_at I.hok e
  obtain ⟨hp, g, d, t, os⟩ := s
  refine wpAny_call (PySem.HandSPX.init_base F hT hC ho hl fun h' t2 k hx => ?_)
  have J := I.write (t' := t) (x := a) (e := a) (o := exo a C none) (by rw [e]; exact True.intro) (.inl rfl) k ⟨_, hx⟩ (exo_ok hx)
  have eu : upd H a (exo a C none) = H := by
    funext b
    by_cases hb : b = a
    · rw [hb, upd_same, e]
    · rw [upd_ne hb]
  rw [eu] at J
  exact h _ J
end
/-! ### readings and rules -/
/-- base.__init__(self, ..) -/
def tBin (a C : Addr) (ta : TA) : TE := fun σ H Q => ta σ H fun vs H1 => ∃ ws : List V, vs = .ref a :: ws ∧ ws.length ≤ 1000 ∧ H1 a = some (exo a C none) ∧ Q .non H1
/-- self.f = e -/
def tOs1 (a C : Addr) (f : Str) (to te : TE) : TS := fun D σ H => te σ H fun y H1 => to σ H1 fun x H2 => x = .ref a ∧ H2 a = some (exo a C none) ∧ ∀ dx, H2 dx = none → dx ≠ a → D.nx σ (upd (upd H2 dx (exd dx [(f, y)])) a (exo a C (some dx)))
section
variable {X : Cx} {o e : Expr} {es : List Expr} {to te : TE} {ta : TA} {f : Str} {p p' p1 p2 pos : Pos} {bmB : List Value} {newId initId B : String} {a C fI : Addr}
theorem pe_binitT {bx : Str} {pl : Sem Bool} (F : ExcBaseFacts B newId initId bmB) (T : ExC X.K C bmB newId f fI) (hg : Gl X bx) (hm : X.mg bx = none) (hb : bootBuiltins bx = some (.type B)) (ht : typeOf (.type B) = pure (.type "type")) (vV : PySem.W.findCls X.K (.type B) (.type "type") "__init__" = some (.val (.builtin initId)))
    (ha : PA X (e :: es) ta) (h0 : bx ≠ "__name__") (h0' : (bx == ("__debug__" : Str)) = false)
    (h1 : (Manifest.isStub B) = false) (h2 : PySem.W.handedIn (.builtin initId) = true)
    (hc : eval (.Call (.Attribute (.Name bx p1) "__init__" p2) (e :: es) [] pos) X.env = (do
      let ov ← eval (.Name bx p1) X.env
      standAt p2.atName
      let (f, first) ← holding [ov] (getMethod ov "__init__" pl)
      callWith pos f first (backTo pos (starEach (e :: es) X.env)) (backToKw pos (keywordEach [] X.env))) := by rfl)
    (he : starEach (e :: es) X.env = (false, eval e X.env) :: starEach es X.env := by rfl) (hpl : (backTo pos (starEach es X.env)).any (·.1) = false := by rfl) :
    PE X (.Call (.Attribute (.Name bx p1) "__init__" p2) (e :: es) [] pos) (tBin a C ta) := by
  refine ⟨fun pins s σ H Q I h => ?_⟩
  refine PySem.W.methodCall_KW (ld_blt I hg hm hb ?_ h0 h0') hc
  obtain ⟨m, fr⟩ := I.fr
  refine PySem.W.method_type fr I.ok.mod.kin ht h1 vV h2 ?_
  show wpAny _ _ (callWith pos (Value.builtin initId) [] (backTo pos (starEach (e :: es) X.env)) []) _ _ _
  refine PyProof.Rows.callWith_method1 (thn (ha.run pos pins _ σ H _ (I.tok _) h) fun us s1 ⟨vs, H1, I1, r1, ws, ev, hl, ea, q⟩ => ?_) he hpl
  subst ev
  cases r1 with
  | @cons _ u0 _ ur ra rw' =>
    obtain rfl : u0 = Value.ref a := ra
    have hlen : ur.length ≤ sizeLine := by
      rw [← Paired.length rw', sizeLine_eq]
      omega
    exact oinit_any F T I1 ea hlen fun s' J => ⟨.non, H1, J, rfl, q⟩
theorem pe_binitC {bx : Str} {D : Addr} {pl : Sem Bool} (F : ExcBaseFacts B newId initId bmB) (T : ExC X.K C bmB newId f fI) (hg : Gl X bx) (hm : X.mg bx = some (.ref D)) (rd : ClX.CRead X.K D (.type "type")) (vV : PySem.W.findCls X.K (.ref D) (.type "type") "__init__" = some (.val (.builtin initId)))
    (hh : PySem.W.handedIn (.builtin initId) = true) (ha : PA X (e :: es) ta) (h0' : (bx == ("__debug__" : Str)) = false)
    (hc : eval (.Call (.Attribute (.Name bx p1) "__init__" p2) (e :: es) [] pos) X.env = (do
      let ov ← eval (.Name bx p1) X.env
      standAt p2.atName
      let (f, first) ← holding [ov] (getMethod ov "__init__" pl)
      callWith pos f first (backTo pos (starEach (e :: es) X.env)) (backToKw pos (keywordEach [] X.env))) := by rfl)
    (he : starEach (e :: es) X.env = (false, eval e X.env) :: starEach es X.env := by rfl) (hpl : (backTo pos (starEach es X.env)).any (·.1) = false := by rfl) :
    PE X (.Call (.Attribute (.Name bx p1) "__init__" p2) (e :: es) [] pos) (tBin a C ta) := by
  refine ⟨fun pins s σ H Q I h => ?_⟩
  refine PySem.W.methodCall_KW (ld_glob I hg hm ?_ h0') hc
  refine PySem.W.method_cls I.kIn rd.ga (PySem.W.cls_value I.kIn rd.rd vV hh ?_)
  show wpAny _ _ (callWith pos (Value.builtin initId) [] (backTo pos (starEach (e :: es) X.env)) []) _ _ _
  refine PyProof.Rows.callWith_method1 (thn (ha.run pos pins _ σ H _ (I.tok _) h) fun us s1 ⟨vs, H1, I1, r1, ws, ev, hl, ea, q⟩ => ?_) he hpl
  subst ev
  cases r1 with
  | @cons _ u0 _ ur ra rw' =>
    obtain rfl : u0 = Value.ref a := ra
    have hlen : ur.length ≤ sizeLine := by
      rw [← Paired.length rw', sizeLine_eq]
      omega
    exact oinit_any F T I1 ea hlen fun s' J => ⟨.non, H1, J, rfl, q⟩
theorem ps_os1 (SF : StoreFacts B bmB "object.__setattr__" "object") (T : ExC X.K C bmB newId f fI) (ho : PE X o to) (he : PE X e te) (hs : swapsWith e (some (.Attribute o f p')) pos.line X.env = pure false := by rfl) : PS X (.Assign [.Attribute o f p'] e pos) (tOs1 a C f to te) := by
  refine ⟨fun pins s σ H D I h => ?_⟩
  refine plainObj_wpAny_Assign_Attribute (thn (he.run pins s σ H _ I h) fun v s1 ⟨y, H1, I1, r1, q1⟩ => thn (ho.run pins s1 σ H1 _ I1 q1) fun u s2 ⟨x, H2, I2, r2, ex, ea, q⟩ => ?_) hs
  subst ex
  obtain rfl : u = Value.ref a := r2
  exact ost_any SF T I2 ea r1 fun dx s' n ne J => ⟨σ, _, J, q dx n ne⟩
end
/-- the promise of such an __init__ -/
def spXI (C : Addr) (f : Str) : Sp := fun vs H Q _ => ∃ (a : Addr) (v : V), vs = [.ref a, v] ∧ H a = some (exo a C none) ∧ ∀ dx, H dx = none → dx ≠ a → Q .non (upd (upd H dx (exd dx [(f, v)])) a (exo a C (some dx)))
/-- C(e) that is to be raised -/
def tMkX (C : Addr) (f : Str) (ta : TA) : L2.St → Hp → XK → Prop := fun σ H Q => ta σ H fun vs H1 => ∃ v, vs = [v] ∧ ∀ d, H1 d = none → Q (.ref C) (some d) (upd H1 d (.xd [(f, v)]))
section
variable {X : Cx} {e : Expr} {es : List Expr} {ta : TA} {f x : Str} {p pos : Pos} {bmB : List Value} {newId initId B : String} {C fI : Addr} {k : Nat}
theorem pmk_x (F : ExcBaseFacts B newId initId bmB) (T : ExC X.K C bmB newId f fI) (G : FnR X.prog X.w X.K X.mg X.base CX0 k fI (spXI C f)) (hr : Room (k + 1) X.A) (hm : X.mg x = some (.ref C)) (ha : PA X (e :: es) ta) (hg : Gl X x := by rfl)
    (hdb : (x == ("__debug__" : Str)) = false := by decide) (he : starEach (e :: es) X.env = (false, eval e X.env) :: starEach es X.env := by rfl) (hpl : (backTo pos (starEach es X.env)).any (·.1) = false := by rfl) :
    PMk X (.Call (.Name x p) (e :: es) [] pos) (tMkX C f ta) := by
  intro pins s σ H Q I h
  refine wpAny_Call_Name_kw (ld_glob I hg hm ?_ hdb)
  refine PySem.W.callWith_K (h₀ := X.base) I.ok.mod.kin T.kC (thn (ha.run pos pins s σ H _ I h) fun us s1 ⟨vs, H1, I1, r1, v, ev, q1⟩ => ⟨I1.kIn, ?_⟩) he hpl
  subst ev
  obtain ⟨u, rfl, rv⟩ := vals1 r1
  show wpAny _ _ (call (.ref C) [u]) _ _ _
  obtain ⟨nm, N, qn, bs, bm, hdct, sn, sub, ab, col, dd, k0, k1, k2, k3, k5, hC, hT⟩ := PySem.W.excInit_of I1.kIn T.ini
  obtain ⟨hp, g, dr, tk, os⟩ := s1
  have hsz : hp.objs.size ≤ hp.objs.size + 1 := Nat.le_succ _
  have hn : H1 (hp.objs.size + 1) = none := I1.hok.fresh hsz
  have kk : ∀ b o, hp.get? b = some o → ((hp.push (PySem.W.kdv_tup [u])).push (PySem.HandSPX.excO C hp.objs.size)).get? b = some o := fun b o e => Heap.get?_push_of_some _ (Heap.get?_push_of_some _ e)
  have hget : ((hp.push (PySem.W.kdv_tup [u])).push (PySem.HandSPX.excO C hp.objs.size)).get? (hp.objs.size + 1) = some (PySem.HandSPX.excO C hp.objs.size) := by heap_get
  have I2 : Inv X pins σ (upd H1 (hp.objs.size + 1) (exo (hp.objs.size + 1) C none)) ⟨(hp.push (PySem.W.kdv_tup [u])).push (PySem.HandSPX.excO C hp.objs.size), g, dr, tk, os⟩ :=
    I1.laid (t' := tk) (a := hp.objs.size + 1) (o := exo (hp.objs.size + 1) C none) (h' := (hp.push (PySem.W.kdv_tup [u])).push (PySem.HandSPX.excO C hp.objs.size)) kk hsz (exo_ok hget)
  have r2 : Vals [V.ref (hp.objs.size + 1), v] [Value.ref (hp.objs.size + 1), u] := .cons rfl (.cons rv .nil)
  have hone : [u].length ≤ sizeLine := by
    rw [sizeLine_eq]
    exact (by decide : 1 ≤ 16777216)
  have hq : spXI C f [V.ref (hp.objs.size + 1), v] (upd H1 (hp.objs.size + 1) (exo (hp.objs.size + 1) C none)) (fun v' H2 => v' = .non ∧ ∃ d, H1 d = none ∧ d ≠ hp.objs.size + 1 ∧
      H2 = upd (upd (upd H1 (hp.objs.size + 1) (exo (hp.objs.size + 1) C none)) d (exd d [(f, v)])) (hp.objs.size + 1) (exo (hp.objs.size + 1) C (some d))) E0 :=
    ⟨_, v, rfl, upd_same, fun dx hdx hne => ⟨rfl, dx, by rw [upd_ne hne] at hdx; exact hdx, hne, rfl⟩⟩
  refine wpAny_call (PySem.HandSPX.call_own F hT hC (PySem.W.looks_findIn I1.kIn T.iC) (fun self => PySem.W.bind_fn I1.kIn self (beq_iff_eq.mp T.fn)) hone
    (codeAny_mono (G _ X.stack _ _ [Value.ref (hp.objs.size + 1), u] _ _ E0 (hr.make C [u] []) (I2.env0.make C [u] []) r2 hq) fun r s' hq' => ?_))
  cases r with
  | error er => exact False.elim hq'
  | ok fl =>
    cases fl with
    | ret u' =>
      obtain ⟨v', H2, os2, bare2, un2, hok2, rv', ev, d, hd1, hne, eH⟩ := hq'
      subst ev
      subst eH
      obtain ⟨h2, g2, d2, t2, os'⟩ := s'
      have ea : (upd (upd (upd H1 (hp.objs.size + 1) (exo (hp.objs.size + 1) C none)) d (exd d [(f, v)])) (hp.objs.size + 1) (exo (hp.objs.size + 1) C (some d))) (hp.objs.size + 1) = some (exo (hp.objs.size + 1) C (some d)) := upd_same
      have ed : (upd (upd (upd H1 (hp.objs.size + 1) (exo (hp.objs.size + 1) C none)) d (exd d [(f, v)])) (hp.objs.size + 1) (exo (hp.objs.size + 1) C (some d))) d = some (exd d [(f, v)]) := by
        rw [upd_ne hne, upd_same]
      refine ⟨rv', mk_end (raises_own T.exC T.tyC) I1 hsz kk un2 hok2 os2 bare2 ea ed hd1 ?_⟩
      have eu : upd (del (upd (upd (upd H1 (hp.objs.size + 1) (exo (hp.objs.size + 1) C none)) d (exd d [(f, v)])) (hp.objs.size + 1) (exo (hp.objs.size + 1) C (some d))) (hp.objs.size + 1)) d (.xd [(f, v)]) = upd H1 d (.xd [(f, v)]) := by
        funext b
        by_cases hb : b = d
        · rw [hb, upd_same, upd_same]
        · rw [upd_ne hb, upd_ne hb]
          by_cases hb2 : b = hp.objs.size + 1
          · rw [hb2, del_same, hn]
          · rw [del_ne hb2, upd_ne hb2, upd_ne hb, upd_ne hb2]
      rw [eu]
      exact q1 d hd1
    | next => exact False.elim hq'
    | brk => exact False.elim hq'
    | cont => exact False.elim hq'
/-- raise C(e) -/
def tRaiseX (C : Addr) (f : Str) (W : WX) (ta : TA) : TS := fun _ σ H => tMkX C f ta σ H fun cls d H' => W cls d σ H'
theorem ps_raiseX {pos2 : Pos} {W : WX} (hc : X.calm = true) (F : ExcBaseFacts B newId initId bmB) (T : ExC X.K C bmB newId f fI) (G : FnR X.prog X.w X.K X.mg X.base CX0 k fI (spXI C f)) (hr : Room (k + 1) X.A) (hm : X.mg x = some (.ref C)) (tk : Takes X W) (ha : PA X (e :: es) ta) (hg : Gl X x := by rfl)
    (hdb : (x == ("__debug__" : Str)) = false := by decide) (he : starEach (e :: es) X.env = (false, eval e X.env) :: starEach es X.env := by rfl) (hpl : (backTo pos (starEach es X.env)).any (·.1) = false := by rfl) :
    PS X (.Raise (some (.Call (.Name x p) (e :: es) [] pos)) none pos2) (tRaiseX C f W ta) := ps_raise hc tk (pmk_x F T G hr hm ha hg hdb he hpl)
end
end Tc
namespace Tc
open PySem PySem.Spec PyProof.Rows L2 He He5
section
variable {P : Program} {w : World} {K : PySem.W.Frag} {mg : Str → Option Value} {base : Heap}
theorem Wd.moreAt (W : Wd w K mg) (i : Nat) {b : Bool} (h : (more K)[i]? = some b) : b = true := W.e b (List.mem_of_getElem? h)
theorem Wd.p_Arr_row (W : Wd w K mg) : PropOf K (ga K "Arrangement") "row" (ma K (ga K "Arrangement") "row") (d_Arrangement_row.at_ K) := propB_ok (W.moreAt 0 rfl)
theorem Wd.p_Game_row (W : Wd w K mg) : PropOf K (ga K "Game") "row" (ma K (ga K "Game") "row") (d_Game_row.at_ K) := propB_ok (W.moreAt 1 rfl)
theorem Wd.p_Game_rem (W : Wd w K mg) : PropOf K (ga K "Game") "remaining" (ma K (ga K "Game") "remaining") (d_Game_remaining.at_ K) := propB_ok (W.moreAt 2 rfl)
theorem Wd.rd_Arr (W : Wd w K mg) : ClX.CRead K (ga K "Arrangement") (.type "type") := readB_ok (W.moreAt 7 rfl)
theorem Wd.rd_CE (W : Wd w K mg) : ClX.CRead K (ga K "CardError") (.type "type") := readB_ok (W.moreAt 8 rfl)
theorem Wd.in_CE (W : Wd w K mg) : PySem.W.findCls K (.ref (ga K "CardError")) (.type "type") "__init__" = some (.val (.builtin "ValueError.__init__")) := valB_ok (W.moreAt 9 rfl)
theorem Wd.sm_is_row (W : Wd w K mg) : SMet K (ga K "Arrangement") "is_row" (ma K (ga K "Arrangement") "is_row") (d_Arrangement_is_row.at_ K) := by
  obtain ⟨h1, h2⟩ := wrapB_ok (W.moreAt 3 rfl)
  exact ⟨h1, h2, W.f_Arrangement_is_row.kp⟩
theorem Wd.cm_sorted (W : Wd w K mg) : ClX.CMet K (ga K "Arrangement") (.type "type") "sorted_row" (ma K (ga K "Arrangement") "sorted_row") (d_Arrangement_sorted_row.at_ K) := cmet_of (W.moreAt 5 rfl) (W.moreAt 6 rfl)
theorem Wd.x_IC (W : Wd w K mg) : ExC K (ga K "InvalidCommand") veM "ValueError.__new__" "value" (d_InvalidCommand_init.at_ K) := exB_ok (W.moreAt 10 rfl)
theorem Wd.x_NU (W : Wd w K mg) : ExC K (ga K "NothingToUndo") leM "LookupError.__new__" "user" (d_NothingToUndo_init.at_ K) := exB_ok (W.moreAt 11 rfl)
theorem Wd.x_NR (W : Wd w K mg) : ExC K (ga K "NothingToRedo") leM "LookupError.__new__" "user" (d_NothingToRedo_init.at_ K) := exB_ok (W.moreAt 12 rfl)
theorem sc_IC : FnScope ["self", "value"] ["self", "value"] d_InvalidCommand_init.scope := ⟨rfl, rfl, rfl, by decide +kernel, rfl, by decide +kernel, by decide +kernel⟩
theorem sc_NU : FnScope ["self", "user"] ["self", "user"] d_NothingToUndo_init.scope := ⟨rfl, rfl, rfl, by decide +kernel, rfl, by decide +kernel, by decide +kernel⟩
theorem sc_NR : FnScope ["self", "user"] ["self", "user"] d_NothingToRedo_init.scope := ⟨rfl, rfl, rfl, by decide +kernel, rfl, by decide +kernel, by decide +kernel⟩
theorem typ_LE : typeOf (.type "LookupError") = pure (.type "type") := by kernel_rfl
theorem cls_LE (K : PySem.W.Frag) : PySem.W.findCls K (.type "LookupError") (.type "type") "__init__" = some (.val (.builtin "LookupError.__init__")) := by kernel_rfl
theorem boot_LE : bootBuiltins "LookupError" = some (.type "LookupError") := by decide +kernel
theorem ok_IC_init (W : Wd w K mg) : FnR P w K mg base CX0 1 (d_InvalidCommand_init.at_ K) (spXI (ga K "InvalidCommand") "value") := by
  refine fnr0 W.f_InvalidCommand_init sc_IC (fun vs H Q E h => ?_) (fun _ _ _ _ _ _ us hl => match us, hl with | [_, _], _ => rfl) (fun cdv A outer s H vs Q E hr h => ?_)
  · obtain ⟨a, v, rfl, _⟩ := h
    rfl
  · obtain ⟨a, v, rfl, ea, k⟩ := h
    refine ⟨_, pss_cons (ps_expr (pe_binitC (a := a) F.excBase_ValueError W.x_IC rfl W.g_CardError W.rd_CE W.in_CE rfl (pa_cons (pv 0) (pa_cons pe_str pa_nil)) (by decide)))
      (pss_one (ps_os1 (a := a) F.store_ValueError W.x_IC (pv 0) (pv 1))), ?_⟩
    exact ⟨_, rfl, _, rfl, by decide, ea, _, rfl, _, rfl, rfl, ea, k⟩
theorem ok_NU_init (W : Wd w K mg) : FnR P w K mg base CX0 1 (d_NothingToUndo_init.at_ K) (spXI (ga K "NothingToUndo") "user") := by
  refine fnr0 W.f_NothingToUndo_init sc_NU (fun vs H Q E h => ?_) (fun _ _ _ _ _ _ us hl => match us, hl with | [_, _], _ => rfl) (fun cdv A outer s H vs Q E hr h => ?_)
  · obtain ⟨a, v, rfl, _⟩ := h
    rfl
  · obtain ⟨a, v, rfl, ea, k⟩ := h
    refine ⟨_, pss_cons (ps_expr (pe_binitT (a := a) F.excBase_LookupError W.x_NU rfl W.z_LookupError boot_LE typ_LE (cls_LE K) (pa_cons (pv 0) (pa_cons pe_str pa_nil)) (by decide) (by decide) (by decide +kernel) rfl))
      (pss_one (ps_os1 (a := a) F.store_LookupError W.x_NU (pv 0) (pv 1))), ?_⟩
    exact ⟨_, rfl, _, rfl, by decide, ea, _, rfl, _, rfl, rfl, ea, k⟩
theorem ok_NR_init (W : Wd w K mg) : FnR P w K mg base CX0 1 (d_NothingToRedo_init.at_ K) (spXI (ga K "NothingToRedo") "user") := by
  refine fnr0 W.f_NothingToRedo_init sc_NR (fun vs H Q E h => ?_) (fun _ _ _ _ _ _ us hl => match us, hl with | [_, _], _ => rfl) (fun cdv A outer s H vs Q E hr h => ?_)
  · obtain ⟨a, v, rfl, _⟩ := h
    rfl
  · obtain ⟨a, v, rfl, ea, k⟩ := h
    refine ⟨_, pss_cons (ps_expr (pe_binitT (a := a) F.excBase_LookupError W.x_NR rfl W.z_LookupError boot_LE typ_LE (cls_LE K) (pa_cons (pv 0) (pa_cons pe_str pa_nil)) (by decide) (by decide) (by decide +kernel) rfl))
      (pss_one (ps_os1 (a := a) F.store_LookupError W.x_NR (pv 0) (pv 1))), ?_⟩
    exact ⟨_, rfl, _, rfl, by decide, ea, _, rfl, _, rfl, rfl, ea, k⟩
end
end Tc
/-! ### the mirror: what the program and the law compute, in plain Lean -/
namespace Mi
abbrev Row := List Int
inductive Stp where
  | turn (i : Nat) | exch (i j : Nat) | cross (i j : Nat)
  deriving DecidableEq
/-- the row after a step -/
def stp (r : Row) : Stp → Row
  | .turn i => r.set (i - 1) (-(r.getD (i - 1) 0))
  | .exch i j => (r.set (i - 1) (r.getD (j - 1) 0)).set (j - 1) (r.getD (i - 1) 0)
  | .cross i j => (r.set (i - 1) (-(r.getD (j - 1) 0))).set (j - 1) (-(r.getD (i - 1) 0))
/-- is it a step for n cards -/
def Stp.ok (n : Nat) : Stp → Bool
  | .turn i => decide (1 ≤ i) && decide (i ≤ n)
  | .exch i j => decide (1 ≤ i) && decide (i ≤ n) && decide (1 ≤ j) && decide (j ≤ n) && decide (i ≠ j)
  | .cross i j => decide (1 ≤ i) && decide (i ≤ n) && decide (1 ≤ j) && decide (j ≤ n) && decide (i ≠ j)
/-! #### cycles, as the program finds them -/
def cyw (r : Row) : Nat → List Bool → Nat → List Nat → List Bool × List Nat
  | 0, seen, _, acc => (seen, acc)
  | f + 1, seen, p, acc => if seen.getD (p - 1) true = true then (seen, acc) else cyw r f (seen.set (p - 1) true) ((r.getD (p - 1) 0).natAbs) (acc ++ [p])
def negs (r : Row) (ps : List Nat) : Nat := (ps.filter fun p => decide (r.getD (p - 1) 0 < 0)).length
def cyStep (r : Row) (st : List Bool × List (List Nat × Nat)) (start : Nat) : List Bool × List (List Nat × Nat) :=
  if st.1.getD (start - 1) true = true then st else ((cyw r r.length st.1 start []).1, st.2 ++ [((cyw r r.length st.1 start []).2, negs r (cyw r r.length st.1 start []).2)])
def cyRun (r : Row) (k : Nat) : List Bool × List (List Nat × Nat) := ((List.range k).map (· + 1)).foldl (cyStep r) (r.map fun _ => false, [])
def cycs (r : Row) : List (List Nat × Nat) := (cyRun r r.length).2
def fewest (r : Row) : Int := (r.length : Int) - ((cycs r).filter fun c => decide (c.2 % 2 = 0)).length
/-! #### cycles, as the law finds them -/
def lcw (r : Row) : Nat → List Nat → Nat → List Nat → Nat → List Nat × List Nat × Nat
  | 0, seen, _, acc, t => (seen, acc, t)
  | f + 1, seen, p, acc, t => if p ∈ seen then (seen, acc, t) else lcw r f (seen ++ [p]) ((r.getD (p - 1) 0).natAbs) (acc ++ [p]) (t + if r.getD (p - 1) 0 < 0 then 1 else 0)
def lcStep (r : Row) (st : List Nat × List (Nat × List Nat)) (start : Nat) : List Nat × List (Nat × List Nat) :=
  let w := lcw r r.length st.1 start [] 0
  (w.1, if w.2.1 = [] then st.2 else st.2 ++ [(w.2.2 % 2, w.2.1)])
def lcRun (r : Row) (k : Nat) : List Nat × List (Nat × List Nat) := ((List.range k).map (· + 1)).foldl (lcStep r) ([], [])
def lcycs (r : Row) : List (Nat × List Nat) := (lcRun r r.length).2
def lfewest (r : Row) : Int := (r.length : Int) - ((lcycs r).filter fun c => decide (c.1 = 0)).length
/-! #### disorders -/
def disAt (r : Row) (i : Nat) (c : Int) : Int := (((r.take i).filter fun e => decide (c < e)).length : Int) + (((r.take i).filter fun e => decide (e + c < 0)).length : Int)
def disRun (r : Row) (k : Nat) : Int := (List.range k).foldl (fun a i => a + disAt r i (r.getD i 0)) ((r.filter fun c => decide (c < 0)).length : Int)
def dis (r : Row) : Int := disRun r r.length
/-! #### words -/
def bests (r : Row) : List Nat := (if r.getD 0 0 < 0 then [0] else []) ++ ((List.range (r.length - 1)).map (· + 1)).filter fun p => decide (r.getD p 0 < r.getD (p - 1) 0)
def perf (r : Row) (s : Nat) : Row := if s = 0 then (-(r.getD 0 0)) :: r.drop 1 else r.take (s - 1) ++ [r.getD s 0, r.getD (s - 1) 0] ++ r.drop (s + 1)
def cnt : Nat → Row → Int
  | 0, _ => 1
  | f + 1, r => if bests r = [] then 1 else ((bests r).map fun s => cnt f (perf r s)).sum
def words (r : Row) : Int := cnt 17 r
/-- the law's steps -/
def nst (s : Nat) : Stp := if s = 0 then .turn 1 else .exch s (s + 1)
/-! #### products, periods -/
def at_ (r : Row) (p : Int) : Int := if 0 < p then r.getD (p - 1).toNat 0 else -(r.getD (-p - 1).toNat 0)
def prod (a b : Row) : Row := a.map (at_ b)
def ident (n : Nat) : Row := (List.range n).map fun i : Nat => (i : Int) + 1
def perd (r : Row) : Nat → Int → Row → Int
  | 0, k, _ => k
  | f + 1, k, c => if c = ident r.length then k else perd r f (k + 1) (prod c r)
def period (r : Row) : Int := perd r 8 1 r
def gcdI : Nat → Int → Int → Int
  | 0, a, _ => a
  | f + 1, a, b => if 0 < b then gcdI f b (a % b) else a
def lcmI (a b : Int) : Int := a / gcdI (b.toNat + 1) a b * b
def ord (r : Row) : Int := (cycs r).foldl (fun a c => lcmI a ((c.1.length : Int) * (1 + (c.2 : Int) % 2))) 1
/-! #### best steps -/
def sortN (l : List Nat) : List Nat := l.foldr (fun x acc => acc.filter (fun y => decide (y < x)) ++ [x] ++ acc.filter fun y => decide (x ≤ y)) []
def within (r : Row) (ps : List Nat) (turned : Nat) : List Stp :=
  (sortN ps).flatMap fun a => (if turned % 2 = 1 then [Stp.turn a] else []) ++ (sortN ps).flatMap fun b =>
    if a < b then (if turned % 2 = 1 then [Stp.exch a b, Stp.cross a b] else
      let i := ps.idxOf a
      let j := ps.idxOf b
      [if negs r ((ps.take (max i j)).drop (min i j)) % 2 = 0 then Stp.exch a b else Stp.cross a b]) else []
def across (l : List (List Nat)) : List Stp := (List.range l.length).flatMap fun i => (l.drop (i + 1)).flatMap fun others => (l.getD i []).flatMap fun a => others.flatMap fun b => [Stp.exch (min a b) (max a b), Stp.cross (min a b) (max a b)]
def bestL (r : Row) : List Stp := (cycs r).flatMap (fun c => within r c.1 c.2) ++ across (((cycs r).filter fun c => decide (c.2 % 2 = 1)).map (·.1))
def allSt (n : Nat) : List Stp := ((List.range (n - 1)).flatMap fun b => (List.range (b + 1)).flatMap fun a => [Stp.exch (a + 1) (b + 2), Stp.cross (a + 1) (b + 2)]) ++ (List.range n).map fun i => Stp.turn (i + 1)
def lbestL (r : Row) : List Stp := (allSt r.length).filter fun s => decide (lfewest (stp r s) < lfewest r)
/-- the order of steps: "cross" < "exchange" < "turn" -/
def Stp.key : Stp → Nat
  | .cross i j => i * 100 + j
  | .exch i j => 10000 + i * 100 + j
  | .turn i => 20000 + i * 100
def least : List Stp → Option Stp
  | [] => none
  | s :: l => match least l with
    | none => some s
    | some t => some (if s.key ≤ t.key then s else t)
/-- the hint -/
def hint (r : Row) : Option Stp := least (lbestL r)
/-! #### all rows of one to four cards -/
def ins (x : Int) : Row → List Row
  | [] => [[x]]
  | y :: l => (x :: y :: l) :: (ins x l).map (y :: ·)
def rowsOf : Nat → List Row
  | 0 => [[]]
  | n + 1 => (rowsOf n).flatMap fun r => ins ((n : Int) + 1) r ++ ins (-((n : Int) + 1)) r
def allRows : List Row := rowsOf 1 ++ rowsOf 2 ++ rowsOf 3 ++ rowsOf 4
end Mi
namespace Tc
open PySem PySem.Spec PyProof.Rows L2 He He5 Mi
theorem same_new {H : Hp} {p : Addr} {o : HO} (h : H p = none) : Same H (upd H p o) := fun b ob hb => by
  rw [upd_ne (ne_of_none hb h)]
  exact hb
theorem same_mut {H H1 : Hp} {p : Addr} {o : HO} (e : Same H H1) (h : H p = none) : Same H (upd H1 p o) := fun b ob hb => by
  rw [upd_ne (ne_of_none hb h)]
  exact e _ _ hb
theorem same_sqL {K : PySem.W.Frag} {H H' : Hp} {a : Addr} {xs : List V} (e : Same H H') (h : SqL K H a xs) : SqL K H' a xs := Same.seq e h
theorem same_sqT {K : PySem.W.Frag} {H H' : Hp} {a : Addr} {xs : List V} (e : Same H H') (h : SqT K H a xs) : SqT K H' a xs := by
  rcases h with (h | ⟨o, h⟩) | h
  · exact .inl (.inl (e _ _ h))
  · exact .inl (.inr ⟨o, e _ _ h⟩)
  · exact .inr h
/-- a list or a tuple of ints -/
def SeqI (K : PySem.W.Frag) (H : Hp) (v : V) (r : Mi.Row) : Prop := ∃ a, v = .ref a ∧ (SqL K H a (r.map V.int) ∨ SqT K H a (r.map V.int))
theorem SeqI.mono {K : PySem.W.Frag} {H H' : Hp} {v : V} {r : Mi.Row} (h : SeqI K H v r) (e : Same H H') : SeqI K H' v r := by
  obtain ⟨a, h1, h2 | h2⟩ := h
  · exact ⟨a, h1, .inl (same_sqL e h2)⟩
  · exact ⟨a, h1, .inr (same_sqT e h2)⟩
theorem atI_int {r : Mi.Row} {i : Int} (h0 : 0 ≤ i) (h1 : i < r.length) : atI (r.map V.int) i = some (.int (r.getD i.toNat 0)) := by
  have h2 : i.toNat < r.length := by omega
  have e : i = ((i.toNat : Nat) : Int) := by omega
  have h3 : (r.map V.int)[i.toNat]? = some (.int (r.getD i.toNat 0)) := by
    rw [List.getElem?_map, List.getElem?_eq_getElem h2, List.getD_eq_getElem?_getD, List.getElem?_eq_getElem h2]
    rfl
  rw [e, atI_nat h3]
  rfl
/-- a row of one to four cards -/
structure Vr (r : Mi.Row) : Prop where
  pos : 1 ≤ r.length
  most : r.length ≤ 4
  each : ∀ x ∈ r, 1 ≤ x.natAbs ∧ x.natAbs ≤ r.length
def Stp.vs : Stp → List V
  | .turn i => [.str "turn", .int (i : Int)]
  | .exch i j => [.str "exchange", .int (i : Int), .int (j : Int)]
  | .cross i j => [.str "cross", .int (i : Int), .int (j : Int)]
def TupV (H : Hp) (v : V) (xs : List V) : Prop := ∃ a, v = .ref a ∧ H a = some (.tup xs)
theorem TupV.mono {H H' : Hp} {v : V} {xs : List V} (h : TupV H v xs) (e : Same H H') : TupV H' v xs := let ⟨a, h1, h2⟩ := h; ⟨a, h1, e _ _ h2⟩
def StpAt (H : Hp) (v : V) (s : Stp) : Prop := TupV H v (Stp.vs s)
end Tc
namespace Tc
open PySem PySem.Spec PyProof.Rows L2 He He5 Mi
theorem iteP {c A B : Prop} [Decidable c] (h : c) (a : A) : if c then A else B := by
  rw [if_pos h]
  exact a
theorem iteN {c A B : Prop} [Decidable c] (h : ¬ c) (b : B) : if c then A else B := by
  rw [if_neg h]
  exact b
theorem ixN_ok {n : Nat} {i : Int} (h0 : 0 ≤ i) (h1 : i < n) : ixN n i = some i.toNat := by
  unfold ixN
  rw [if_pos h0, if_pos h1]
theorem len_map {r : Mi.Row} : (r.map V.int).length = r.length := List.length_map _
theorem getD_bound {r : Mi.Row} (h : Vr r) (k : Nat) : (r.getD k 0).natAbs ≤ 4 := by
  rw [List.getD_eq_getElem?_getD]
  cases e : r[k]? with
  | none => exact Nat.zero_le _
  | some x =>
    have h1 := h.each x (List.mem_of_getElem? e)
    have h2 := h.most
    show x.natAbs ≤ 4
    omega
theorem set_map {r : Mi.Row} {k : Nat} {x : Int} : (r.map V.int).set k (.int x) = (r.set k x).map V.int := by rw [List.map_set]
theorem ixSeq {K : PySem.W.Frag} {H : Hp} {v : V} {r : Mi.Row} {i : Int} {Q : VK} (h : SeqI K H v r) (h0 : 0 ≤ i) (h1 : i < r.length) (q : Q (.int (r.getD i.toNat 0)) H) : rIx K v (.int i) H Q := by
  obtain ⟨a, rfl, h | h⟩ := h
  · exact .inl ⟨a, _, i, _, rfl, rfl, h, atI_int h0 h1, q⟩
  · exact .inr (.inl ⟨a, _, i, _, rfl, rfl, h, atI_int h0 h1, q⟩)
theorem setI {H : Hp} {p : Addr} {r : Mi.Row} {i x : Int} {Q : Hp → Prop} (h : H p = some (.lst (r.map V.int))) (h0 : 0 ≤ i) (h1 : i < r.length) (q : Q (upd H p (.lst ((r.set i.toNat x).map V.int)))) : rSetL (.ref p) (.int i) (.int x) H Q := by
  refine ⟨p, _, i, i.toNat, rfl, rfl, h, ?_, ?_⟩
  · rw [len_map]
    exact ixN_ok h0 h1
  · rw [set_map]
    exact q
theorem upd_upd {H : Hp} {p : Addr} {o o2 : HO} : upd (upd H p o) p o2 = upd H p o2 := by
  funext b
  by_cases e : b = p
  · rw [e, upd_same, upd_same]
  · rw [upd_ne e, upd_ne e, upd_ne e]
section
variable {P : Program} {w : World} {K : PySem.W.Frag} {mg : Str → Option Value} {base : Heap}
def sp_is_integer : Sp := fun vs H Q _ => ∃ i : Int, vs = [.int i] ∧ Q (.bl true) H
abbrev N_is_integer : List Str := ["value"]
theorem sc_is_integer : FnScope N_is_integer ["value"] d_is_integer.scope := ⟨rfl, rfl, rfl, by decide +kernel, rfl, by decide +kernel, by decide +kernel⟩
theorem ok_is_integer (W : Wd w K mg) : FnR P w K mg base CX0 1 (d_is_integer.at_ K) sp_is_integer := by
  refine fnr0 W.f_is_integer sc_is_integer (fun vs H Q E h => ?_) (fun _ _ _ _ _ _ us hl => match us, hl with | [_], _ => rfl) (fun cdv A outer s H vs Q E hr h => ?_)
  · obtain ⟨i, rfl, q⟩ := h
    rfl
  · obtain ⟨i, rfl, q⟩ := h
    refine ⟨_, (pss_one (ps_ret (pe_and (pe_callB call_isi (by rfl) W.z_isinstance boot_isinstance (pa_cons (pv 0) (pa_cons (pe_bltn (v := .ty "int") (u := .type "int") (by rfl) W.z_int (by decide +kernel) rfl) pa_nil))) (pe_one (pe_not (pe_callB call_isi (by rfl) W.z_isinstance boot_isinstance (pa_cons (pv 0) (pa_cons (pe_bltn (v := .ty "bool") (u := .type "bool") (by rfl) W.z_bool (by decide +kernel) rfl) pa_nil)))))))), ?_⟩
    refine ⟨.int i, rfl, .int i, .ty "int", .type "int", .type "int", true, rfl, .ty _, .base (.int i), kit_ty (by decide +kernel), true, rfl, ?_⟩
    exact ⟨.int i, rfl, .int i, .ty "bool", .type "int", .type "bool", false, rfl, .ty _, .base (.int i), kit_ty (by decide +kernel), false, rfl, q⟩
theorem c_is_integer (W : Wd w K mg) : Cal P w K mg base CX0 1 "is_integer" (d_is_integer.at_ K) sp_is_integer := ⟨ok_is_integer W, W.g_is_integer, W.f_is_integer.kp⟩
def sp_is_between : Sp := fun vs H Q _ => ∃ i a b : Int, vs = [.int i, .int a, .int b] ∧ Q (.bl (decide (a ≤ i) && decide (i ≤ b))) H
abbrev N_is_between : List Str := ["value", "low", "high"]
theorem sc_is_between : FnScope N_is_between ["value", "low", "high"] d_is_between.scope := ⟨rfl, rfl, rfl, by decide +kernel, rfl, by decide +kernel, by decide +kernel⟩
theorem ok_is_between (W : Wd w K mg) : FnR P w K mg base CX0 2 (d_is_between.at_ K) sp_is_between := by
  refine fnr0 W.f_is_between sc_is_between (fun vs H Q E h => ?_) (fun _ _ _ _ _ _ us hl => match us, hl with | [_, _, _], _ => rfl) (fun cdv A outer s H vs Q E hr h => ?_)
  · obtain ⟨i, a, b, rfl, q⟩ := h
    rfl
  · obtain ⟨i, a, b, rfl, q⟩ := h
    refine ⟨_, (pss_one (ps_ret (pe_and (pe_c (c_is_integer W) (hr.mono (by omega)) pass0 (pa_cons (pv 0) pa_nil)) (pe_one (pe_chain op_le op_le (pv 1) (pv 0) (pv 2)))))), ?_⟩
    refine ⟨.int i, rfl, i, rfl, true, rfl, ?_⟩
    refine iteT ⟨.int a, rfl, .int i, rfl, a, i, rfl, rfl, _, rfl, ite2 (fun h => ?_) fun h => ?_⟩
    · refine ⟨.int b, rfl, i, b, rfl, rfl, ?_⟩
      rw [h, Bool.true_and] at q
      exact q
    · rw [Bool.not_eq_true] at h
      rw [h, Bool.false_and] at q
      exact q
theorem c_is_between (W : Wd w K mg) : Cal P w K mg base CX0 2 "is_between" (d_is_between.at_ K) sp_is_between := ⟨ok_is_between W, W.g_is_between, W.f_is_between.kp⟩
def sp_common_divisor : Sp := fun vs H Q _ => ∃ a b : Int, vs = [.int a, .int b] ∧ 0 < a ∧ 0 < b ∧ Q (.int (gcdI (b.toNat + 1) a b)) H
abbrev N_common_divisor : List Str := ["first", "second"]
theorem sc_common_divisor : FnScope N_common_divisor ["first", "second"] d_common_divisor.scope := ⟨rfl, rfl, rfl, by decide +kernel, rfl, by decide +kernel, by decide +kernel⟩
theorem ok_common_divisor (W : Wd w K mg) : FnR P w K mg base CX0 1 (d_common_divisor.at_ K) sp_common_divisor := by
  refine fnr0 W.f_common_divisor sc_common_divisor (fun vs H Q E h => ?_) (fun _ _ _ _ _ _ us hl => match us, hl with | [_, _], _ => rfl) (fun cdv A outer s H vs Q E hr h => ?_)
  · obtain ⟨a, b, rfl, ha, hb, q⟩ := h
    rfl
  · obtain ⟨a, b, rfl, ha, hb, q⟩ := h
    refine ⟨_, (pss_cons (ps_while PassesOwn.never (pt_cmpR op_gt (pv 1) pe_int (nomark _)) (pss_one (ps_par (i := 0) (j := 1) (by rfl) sc_common_divisor.nd rfl rfl (by decide) rfl rfl (pa_cons (pv 1) (pa_cons (pe_op op_mod (pv 0) (pv 1)) pa_nil)) (by rfl))))
      (pss_one (ps_ret (pv 0)))), ?_⟩
    refine ⟨fun m σ H' => ∃ x y : Int, ∃ n : Nat, σ = [some (.int x), some (.int y)] ∧ H' = H ∧ y.toNat = m ∧ m < n ∧ gcdI n x y = gcdI (b.toNat + 1) a b, ⟨_, a, b, _, rfl, rfl, rfl, Nat.lt_succ_self _, rfl⟩, fun m σ H' hI => ?_⟩
    obtain ⟨x, y, n, rfl, rfl, rfl, hn, hg⟩ := hI
    obtain ⟨n, rfl⟩ : ∃ n', n = n' + 1 := ⟨n - 1, by omega⟩
    refine ⟨.int y, rfl, y, 0, rfl, rfl, _, rfl, ite2 (fun h => ?_) fun h => ?_⟩
    · have h := of_decide_eq_true h
      refine ⟨fun σ' H2 => σ' = [some (.int y), some (.int (x % y))] ∧ H2 = H', fun σ' H2 ⟨e1, e2⟩ => ?_, ?_⟩
      · have h1 : (x % y).toNat < y.toNat := by
          have := Int.emod_lt_of_pos x h
          have := Int.emod_nonneg x (Int.ne_of_gt h)
          omega
        refine ⟨_, h1, y, x % y, n, e1, e2, rfl, by omega, ?_⟩
        rw [← hg]
        show _ = if 0 < y then _ else _
        rw [if_pos h]
      · exact ⟨.int y, rfl, .int x, rfl, .int y, rfl, x, y, rfl, rfl, h, _, _, rfl, rfl, rfl⟩
    · have h : ¬ 0 < y := fun z => h (decide_eq_true z)
      refine ⟨.int x, rfl, ?_⟩
      rw [← hg] at q
      rw [show gcdI (n + 1) x y = x from if_neg h] at q
      exact q
theorem c_common_divisor (W : Wd w K mg) : Cal P w K mg base CX0 1 "common_divisor" (d_common_divisor.at_ K) sp_common_divisor := ⟨ok_common_divisor W, W.g_common_divisor, W.f_common_divisor.kp⟩
def sp_common_multiple : Sp := fun vs H Q _ => ∃ a b : Int, vs = [.int a, .int b] ∧ 0 < a ∧ a < 1000000 ∧ 0 < b ∧ b < 1000000 ∧ Q (.int (lcmI a b)) H
theorem gcd_pos : ∀ (n : Nat) (a b : Int), 0 < a → 0 < gcdI n a b
  | 0, a, b, h => h
  | n + 1, a, b, h => by
    unfold gcdI
    by_cases hb : 0 < b
    · rw [if_pos hb]
      exact gcd_pos n b _ hb
    · rw [if_neg hb]
      exact h
theorem gcd_le : ∀ (n : Nat) (a b : Int), 0 < a → gcdI n a b ≤ max a b
  | 0, a, b, h => by
    show a ≤ max a b
    omega
  | n + 1, a, b, h => by
    unfold gcdI
    by_cases hb : 0 < b
    · rw [if_pos hb]
      have := gcd_le n b (a % b) hb
      have := Int.emod_lt_of_pos a hb
      omega
    · rw [if_neg hb]
      omega
abbrev N_common_multiple : List Str := ["first", "second"]
theorem sc_common_multiple : FnScope N_common_multiple ["first", "second"] d_common_multiple.scope := ⟨rfl, rfl, rfl, by decide +kernel, rfl, by decide +kernel, by decide +kernel⟩
theorem ok_common_multiple (W : Wd w K mg) : FnR P w K mg base CX0 2 (d_common_multiple.at_ K) sp_common_multiple := by
  refine fnr0 W.f_common_multiple sc_common_multiple (fun vs H Q E h => ?_) (fun _ _ _ _ _ _ us hl => match us, hl with | [_, _], _ => rfl) (fun cdv A outer s H vs Q E hr h => ?_)
  · obtain ⟨a, b, rfl, ha, ha2, hb, hb2, q⟩ := h
    rfl
  · obtain ⟨a, b, rfl, ha, ha2, hb, hb2, q⟩ := h
    refine ⟨_, (pss_one (ps_ret (pe_op op_mul (pe_op op_fdiv (pv 0) (pe_c (c_common_divisor W) (hr.mono (by omega)) pass0 (pa_cons (pv 0) (pa_cons (pv 1) pa_nil)))) (pv 1)))), ?_⟩
    have h1 := gcd_pos (b.toNat + 1) a b ha
    have h2 := gcd_le (b.toNat + 1) a b ha
    refine ⟨.int a, rfl, .int a, rfl, .int b, rfl, a, b, rfl, ha, hb, a, _, rfl, rfl, ⟨h1, by omega⟩, .int b, rfl, _, b, rfl, rfl, .inr ⟨by omega, by omega⟩, q⟩
theorem c_common_multiple (W : Wd w K mg) : Cal P w K mg base CX0 2 "common_multiple" (d_common_multiple.at_ K) sp_common_multiple := ⟨ok_common_multiple W, W.g_common_multiple, W.f_common_multiple.kp⟩
def sp_stepped (K : PySem.W.Frag) : Sp := fun vs H Q _ => ∃ v u r s, vs = [v, u] ∧ SeqI K H v r ∧ Vr r ∧ StpAt H u s ∧ s.ok r.length = true ∧ ∀ H' p, Same H H' → H p = none → H' p = some (.lst ((stp r s).map V.int)) → Q (.ref p) H'
abbrev N_stepped : List Str := ["row", "step", "result", "first", "second", "sign"]
theorem sc_stepped : FnScope N_stepped ["row", "step"] d_stepped.scope := ⟨rfl, rfl, rfl, by decide +kernel, rfl, by decide +kernel, by decide +kernel⟩
theorem ok_stepped (W : Wd w K mg) : FnR P w K mg base CX0 1 (d_stepped.at_ K) (sp_stepped K) := by
  refine fnr0 W.f_stepped sc_stepped (fun vs H Q E h => ?_) (fun _ _ _ _ _ _ us hl => match us, hl with | [_, _], _ => rfl) (fun cdv A outer s H vs Q E hr h => ?_)
  · obtain ⟨v, u, r, s, rfl, hr_, hV, hs, hok, q⟩ := h
    rfl
  · obtain ⟨v, u, r, s, rfl, hr_, hV, hs, hok, q⟩ := h
    refine ⟨_, (pss_cons (ps_set (i := 2) sc_stepped.nd rfl (by first | exact Or.inl rfl | exact Or.inr rfl) (pe_callTy call_list_of (by rfl) W.z_list boot_list (pa_cons (pv 0) pa_nil)))
      (pss_cons (ps_if (pt_cmpR op_eq (pe_ix (show IxR _ (rIxT K) from ix_tup) (pv 1) pe_int (fun _ _ => rfl)) pe_str (nomark _)) (pss_cons (ps_asg (pe_un un_neg (pe_ix (show IxR _ (rIx K) from ix_seq) (pv 0) (pe_op op_sub (pe_ix (show IxR _ (rIxT K) from ix_tup) (pv 1) pe_int (fun _ _ => rfl)) pe_int) (fun _ _ => rfl))) (pg_sub (pv 2) (pe_op op_sub (pe_ix (show IxR _ (rIxT K) from ix_tup) (pv 1) pe_int (fun _ _ => rfl)) pe_int) set_list))
      (pss_one (ps_ret (pv 2)))) pss_nil)
      (pss_cons (ps_par (i := 3) (j := 4) (by rfl) sc_stepped.nd rfl rfl (by decide) rfl rfl (pa_cons (pe_op op_sub (pe_ix (show IxR _ (rIxT K) from ix_tup) (pv 1) pe_int (fun _ _ => rfl)) pe_int) (pa_cons (pe_op op_sub (pe_ix (show IxR _ (rIxT K) from ix_tup) (pv 1) pe_int (fun _ _ => rfl)) pe_int) pa_nil)) (by rfl))
      (pss_cons (ps_set (i := 5) sc_stepped.nd rfl (by first | exact Or.inl rfl | exact Or.inr rfl) (pe_ifExp (pt_cmpR op_eq (pe_ix (show IxR _ (rIxT K) from ix_tup) (pv 1) pe_int (fun _ _ => rfl)) pe_str (nomark _)) pe_int (pe_un un_neg pe_int)))
      (pss_cons (ps_asg (pe_tup (pa_cons (pe_op op_mul (pv 5) (pe_ix (show IxR _ (rIx K) from ix_seq) (pv 0) (pv 4) (fun _ _ => rfl))) (pa_cons (pe_op op_mul (pv 5) (pe_ix (show IxR _ (rIx K) from ix_seq) (pv 0) (pv 3) (fun _ _ => rfl))) pa_nil))) (pg_tup rfl (pgs_cons (pg_sub (pv 2) (pv 3) set_list) (pgs_cons (pg_sub (pv 2) (pv 4) set_list) pgs_nil))))
      (pss_one (ps_ret (pv 2)))))))), ?_⟩
    obtain ⟨a, rfl, ha⟩ := hr_
    obtain ⟨b, rfl, hb⟩ := hs
    refine ⟨.ref a, rfl, a, _, rfl, ha, fun l hl => ?_⟩
    have e1 : Same H (upd H l (.lst (r.map V.int))) := same_new hl
    have hb1 := e1 _ _ hb
    cases s with
    | turn i =>
      simp only [Stp.ok, Bool.and_eq_true, decide_eq_true_eq] at hok
      have hS : SeqI K (upd H l (.lst (r.map V.int))) (.ref a) r := SeqI.mono ⟨a, rfl, ha⟩ e1
      have h0 : (0 : Int) ≤ (i : Int) - 1 := by omega
      have h1 : (i : Int) - 1 < r.length := by omega
      refine ⟨.ref b, rfl, b, _, 0, _, rfl, rfl, SqT.of hb1, rfl, rfl, _, rfl, iteP (by decide +kernel) ?_⟩
      refine ⟨.ref a, rfl, .ref b, rfl, b, _, 1, _, rfl, rfl, SqT.of hb1, rfl, _, _, rfl, rfl, ixSeq hS h0 h1 ⟨_, rfl, .ref l, rfl, .ref b, rfl, b, _, 1, _, rfl, rfl, SqT.of hb1, rfl, _, _, rfl, rfl, setI upd_same h0 h1 ⟨.ref l, rfl, ?_⟩⟩⟩
      rw [upd_upd]
      refine q _ l (same_new hl) hl ?_
      rw [upd_same, show ((i : Int) - 1).toNat = i - 1 by omega]
      rfl
    | exch i j =>
      simp only [Stp.ok, Bool.and_eq_true, decide_eq_true_eq] at hok
      have hS : SeqI K (upd H l (.lst (r.map V.int))) (.ref a) r := SeqI.mono ⟨a, rfl, ha⟩ e1
      have h0 : (0 : Int) ≤ (i : Int) - 1 := by omega
      have h1 : (i : Int) - 1 < r.length := by omega
      have k0 : (0 : Int) ≤ (j : Int) - 1 := by omega
      have k1 : (j : Int) - 1 < r.length := by omega
      refine ⟨.ref b, rfl, b, _, 0, _, rfl, rfl, SqT.of hb1, rfl, rfl, _, rfl, iteN (by decide +kernel) ?_⟩
      refine ⟨.ref b, rfl, b, _, 1, _, rfl, rfl, SqT.of hb1, rfl, _, _, rfl, rfl, .ref b, rfl, b, _, 2, _, rfl, rfl, SqT.of hb1, rfl, _, _, rfl, rfl, _, _, rfl, ?_⟩
      refine ⟨.ref b, rfl, b, _, 0, _, rfl, rfl, SqT.of hb1, rfl, rfl, _, rfl, iteP (by decide +kernel) ?_⟩
      refine ⟨.int 1, rfl, .ref a, rfl, _, rfl, ixSeq hS k0 k1 ⟨_, _, rfl, rfl, .inl ⟨by decide, by decide⟩, .int 1, rfl, .ref a, rfl, _, rfl, ixSeq hS h0 h1 ⟨_, _, rfl, rfl, .inl ⟨by decide, by decide⟩, by show 2 ≤ sizeLine; decide, fun t ht => ?_⟩⟩⟩
      have htl : l ≠ t := fun e => by
        rw [← e, upd_same] at ht
        cases ht
      refine ⟨t, _, rfl, SqT.of upd_same, rfl, _, _, rfl, ⟨.ref l, rfl, _, rfl, setI ((upd_ne htl).trans upd_same) h0 h1 ⟨_, _, rfl, ⟨.ref l, rfl, _, rfl, setI upd_same k0 (by rw [List.length_set]; exact k1) ⟨rfl, .ref l, rfl, ?_⟩⟩⟩⟩⟩
      rw [upd_upd]
      refine q _ l ?_ hl ?_
      · exact same_mut (e1.trans (same_new ht)) hl
      rw [upd_same, show ((i : Int) - 1).toNat = i - 1 by omega, show ((j : Int) - 1).toNat = j - 1 by omega, Int.one_mul, Int.one_mul]
      rfl
    | cross i j =>
      simp only [Stp.ok, Bool.and_eq_true, decide_eq_true_eq] at hok
      have hS : SeqI K (upd H l (.lst (r.map V.int))) (.ref a) r := SeqI.mono ⟨a, rfl, ha⟩ e1
      have h0 : (0 : Int) ≤ (i : Int) - 1 := by omega
      have h1 : (i : Int) - 1 < r.length := by omega
      have k0 : (0 : Int) ≤ (j : Int) - 1 := by omega
      have k1 : (j : Int) - 1 < r.length := by omega
      refine ⟨.ref b, rfl, b, _, 0, _, rfl, rfl, SqT.of hb1, rfl, rfl, _, rfl, iteN (by decide +kernel) ?_⟩
      refine ⟨.ref b, rfl, b, _, 1, _, rfl, rfl, SqT.of hb1, rfl, _, _, rfl, rfl, .ref b, rfl, b, _, 2, _, rfl, rfl, SqT.of hb1, rfl, _, _, rfl, rfl, _, _, rfl, ?_⟩
      refine ⟨.ref b, rfl, b, _, 0, _, rfl, rfl, SqT.of hb1, rfl, rfl, _, rfl, iteN (by decide +kernel) ⟨1, rfl, ?_⟩⟩
      refine ⟨.int (-1), rfl, .ref a, rfl, _, rfl, ixSeq hS k0 k1 ⟨_, _, rfl, rfl, .inl ⟨by decide, by decide⟩, .int (-1), rfl, .ref a, rfl, _, rfl, ixSeq hS h0 h1 ⟨_, _, rfl, rfl, .inl ⟨by decide, by decide⟩, by show 2 ≤ sizeLine; decide, fun t ht => ?_⟩⟩⟩
      have htl : l ≠ t := fun e => by
        rw [← e, upd_same] at ht
        cases ht
      refine ⟨t, _, rfl, SqT.of upd_same, rfl, _, _, rfl, ⟨.ref l, rfl, _, rfl, setI ((upd_ne htl).trans upd_same) h0 h1 ⟨_, _, rfl, ⟨.ref l, rfl, _, rfl, setI upd_same k0 (by rw [List.length_set]; exact k1) ⟨rfl, .ref l, rfl, ?_⟩⟩⟩⟩⟩
      rw [upd_upd]
      refine q _ l ?_ hl ?_
      · exact same_mut (e1.trans (same_new ht)) hl
      rw [upd_same, show ((i : Int) - 1).toNat = i - 1 by omega, show ((j : Int) - 1).toNat = j - 1 by omega, Int.neg_mul, Int.neg_mul, Int.one_mul, Int.one_mul]
      rfl
theorem c_stepped (W : Wd w K mg) : Cal P w K mg base CX0 1 "stepped" (d_stepped.at_ K) (sp_stepped K) := ⟨ok_stepped W, W.g_stepped, W.f_stepped.kp⟩
end
end Tc
namespace Tc
open PySem PySem.Spec PyProof.Rows L2 He He5
open Sem (wp)
/-! ### enumerate over whatever begins; over a tuple -/
theorem meets_enumB1 {v : Value} {o : Obj} {H : Heap → Prop} (B : Begins v o H) :
    Meets (Builtin.«enumerate.__new__» ⟨[.type "enumerate", v], []⟩) (fun _ R s => H s.heap ∧
      R (.ok (.ret (.ref (s.heap.push o).objs.size))) { s with heap := (s.heap.push o).push { cls := .type "enumerate", data := .fields #[.none, .bool false, .ref s.heap.objs.size, rawInt 0, .none, .none] } }) :=
  .of_wp fun prog w A R s h => by
    obtain ⟨hp, g, d, tk, os⟩ := s; obtain ⟨h1, h⟩ := h
    have hsub := sub_enumerate
    have q1 : ∀ {A' : Around} {E : Value → Shared → Prop} {Q : Value → Shared → Prop}, Q (.ref hp.objs.size) ⟨hp.push o, g, d, tk, os⟩ → wpAny (model prog w) A' (pyIter v) Q E ⟨hp, g, d, tk, os⟩ :=
      fun q => B.iter prog w _ _ ⟨hp, g, d, tk, os⟩ _ h1 q
    wp_walk using q1
    refine wpAny_stack_any fun st => wpAny_pure ?_
    split
    · rename_i c _ _ _ _ _
      cases (c == Value.type "enumerate")
      · wp_walk using q1
        exact ⟨_, rfl, h⟩
      · wp_walk using q1
        exact ⟨_, rfl, h⟩
    · wp_walk using q1
      exact ⟨_, rfl, h⟩
theorem enum_begins1 {prog : Program} {w : World} {A : Around} {E : Value → Shared → Prop} {s : Shared} {v : Value} {o : Obj} {H : Heap → Prop} {Q : Value → Shared → Prop} (B : Begins v o H) (h1 : H s.heap)
    (h : ∀ h', IsEnum h' (s.heap.objs.size + 1) s.heap.objs.size 0 .none → h'.get? s.heap.objs.size = some o → h'.objs.size = s.heap.objs.size + 2 →
      (∀ b o, s.heap.get? b = some o → h'.get? b = some o) → Q (.ref (s.heap.objs.size + 1)) { s with heap := h' }) :
    wpAny (model prog w) A (call (.type "enumerate") [v]) Q E s := by
  refine callType_new F.called_enumerate (by decide) (F.typeCall_enumerate_1 _) (F.newCall_enumerate_1 _) (fun obj => F.args_object_init_2 obj _) F.entry_enumerate_new
    (meets_enumB1 B) ⟨h1, ?_⟩
  have hz : (s.heap.push o).objs.size = s.heap.objs.size + 1 := Heap.size_push ..
  show _ ∧ _
  rw [hz]
  have he : IsEnum ((s.heap.push o).push { cls := .type "enumerate", data := .fields #[.none, .bool false, .ref s.heap.objs.size, rawInt 0, .none, .none] }) (s.heap.objs.size + 1) s.heap.objs.size 0 .none := by
    have := Heap.get?_push_size (s.heap.push o) (o := { cls := .type "enumerate", data := .fields #[.none, .bool false, .ref s.heap.objs.size, rawInt 0, .none, .none] }) rfl
    rw [hz] at this; exact this
  refine ⟨⟨_, he, rfl⟩, h _ he (Heap.get?_push_of_some _ (Heap.get?_push_size _ B.free)) (by rw [Heap.size_push, hz]) fun b o x => Heap.get?_push_of_some _ (Heap.get?_push_of_some _ x)⟩
/-- the tuple at a as it stands, each item in a new pair -/
def IteT (K : PySem.W.Frag) (a : Addr) : It :=
  ⟨fun i H => ∃ (xs : List V) (x : V), SqT K H a xs ∧ xs[i]? = some x, fun i H v H' => ∃ T x, v = .ref T ∧ H T = none ∧ H' = upd H T (.tup [.int (i : Nat), x]) ∧ ∀ xs, SqT K H a xs → xs[i]? = some x, fun i H => ∃ xs : List V, SqT K H a xs ∧ xs.length ≤ i⟩
theorem turn_enumT {P : Program} {w : World} {K : PySem.W.Frag} {elts : List Expr} {kk : Nat} {tpos : Pos} (a e it : Addr) :
    Turn P w K (.Tuple elts kk tpos) (IteT K a) [e, it] e (fun i h => (∃ old, IsEnum h e it ((i : Nat) : Int) old) ∧ h.IsTupleIter it a i ∧ e ≠ it) where
  mem := by simp
  obj := fun i h st b hb => by
    obtain ⟨⟨old, he⟩, ⟨o, ho, hc, hd⟩, _⟩ := st
    have e' : b = e ∨ b = it := by simpa using hb
    rcases e' with z | z
    · rw [z]; exact ⟨_, he, fun v q => nomatch q⟩
    · rw [z]; exact ⟨o, ho, fun v q => by rw [hd] at q; cases q⟩
  keep := fun i h h' st k => let ⟨⟨old, he⟩, hi, hne⟩ := st; ⟨⟨old, k e (by simp) _ he⟩, hi.at fun o q => k it (by simp) o q, hne⟩
  item := by
    intro X hP hw hK hc i pins s σ H E I hf st hg
    subst hP hw hK
    obtain ⟨⟨old, he⟩, hit, hne⟩ := st
    obtain ⟨xs, x, hq, hx⟩ := hg
    obtain ⟨its, rv, p, hz⟩ := I.tuple hq
    obtain ⟨u, hu, ru⟩ := rv.get hx
    have hel : e < s.heap.objs.size := Heap.lt_size he
    have hil : it < s.heap.objs.size := by obtain ⟨_, q, _⟩ := hit; exact Heap.lt_size q
    have hae : a ≠ e := fun z => by
      obtain ⟨o, e1, e2, _⟩ := p
      rw [z] at e1
      have := e1.symm.trans he
      cases this
      exact absurd (Value.type.inj e2) (by decide)
    have hai : a ≠ it := fun z => by
      obtain ⟨o, e1, e2, _⟩ := p
      obtain ⟨o2, f1, f2, _⟩ := hit
      rw [z] at e1
      have := e1.symm.trans f1
      cases this
      rw [e2] at f2
      exact absurd (Value.type.inj f2) (by decide)
    have hi : i < its.toArray.size := by
      have h1 := (List.getElem?_eq_some_iff.mp hu).1
      simpa using h1
    have hh := I.ok.hd hc
    refine wpAny_pyNext_enum_itemD (Draws.tuple (prog := X.prog) (w := X.w) (A := X.A.in1) hh it a hai its.toArray) he ⟨hit, p⟩ hi hne ?_ fun y h' tk hP ho hst' hT hsz hk => ?_
    · intro hm
      rcases List.mem_cons.mp hm with z | z
      · exact hne z
      · exact hae (List.mem_singleton.mp z).symm
    have ey : y = u := by
      have h1 : its.toArray[i]? = some u := by simpa using hu
      exact Option.some.inj (hP.symm.trans h1)
    subst ey
    refine ⟨_, rfl, wpAny_letOwnedTupleGo_enum (s := { s with heap := h', toks := tk + 1 }) ho fun h'' he' sb => ?_⟩
    have hT2 : h''.get? s.heap.objs.size = some { cls := .type "tuple", data := .seq #[.int i tk, y] } := (sb.2 _ (Nat.ne_of_gt hel)).trans hT
    have new : ObjOk X.prog X.w (upd H s.heap.objs.size (.tup [.int (i : Nat), x])) h'' s.heap.objs.size (.tup [.int (i : Nat), x]) :=
      ⟨by show 2 ≤ sizeLine; decide, [.int i tk, y], .cons ⟨_, rfl⟩ (.cons ru .nil), ⟨_, hT2, rfl, _, rfl⟩⟩
    have I1 : Inv X pins σ (upd H s.heap.objs.size (.tup [.int (i : Nat), x])) { s with heap := h'', toks := tk + 1 } :=
      I.turnedNew (ch := [e, it]) (fun b ob hb q => (sb.2 b (fun z => hb (by simp [z]))).trans (hk b ob (fun z => hb (by simp [z])) (fun z => hb (by simp [z])) q)) hf (Nat.le_refl _) new
    refine ⟨.ref s.heap.objs.size, _, I1, rfl, ⟨_, x, rfl, I.hok.fresh (Nat.le_refl _), rfl, fun ys hy => by rw [I.tuple_inj hy hq]; exact hx⟩, ⟨⟨y, ?_⟩, hst'.1.at fun o q => (sb.2 it (Ne.symm hne)).trans q, hne⟩, fun b hb => ?_⟩
    · have e1 : ((i + 1 : Nat) : Int) = (i : Int) + 1 := by omega
      rw [e1]; exact he'
    · have hb' : b < s.heap.objs.size := by
        have e' : b = e ∨ b = it := by simpa using hb
        rcases e' with z | z
        · rw [z]; exact hel
        · rw [z]; exact hil
      rw [upd_ne (Nat.ne_of_lt hb')]
      exact (hf b hb).1
  done := by
    intro X hP hw hK hc i pins s σ H E I hf st hg
    subst hP hw hK
    obtain ⟨⟨old, he⟩, hit, hne⟩ := st
    obtain ⟨xs, hq, hx⟩ := hg
    obtain ⟨its, rv, p, hz⟩ := I.tuple hq
    obtain ⟨f0, f1, f2, f3, f4, f5⟩ := hf it (by simp)
    have hl := rv.length
    have hh := I.ok.hd hc
    have hT : s.TypeIs (.ref e) "enumerate" := ⟨_, he, rfl⟩
    unfold pyNext
    refine wpAny_bind (wpAny_attempt (wpAny_callSpecial?_slot (name := Str.ofString "__next__") hT F.slot_enumerate_next
      (wpAny_call_entry F.slot_enumerate_next hT F.entry_enumerate_next ?_ (F.args_enumerate_next_1 _))))
    show wpAny _ _ (field (.ref e) 2 >>= _) _ _ _
    refine wpAny_bind (wpAny_field he rfl (x := .ref it) rfl ?_)
    refine wpAny_bind (wpAny_nextOf_tuple_end (A := X.A.in1) hh hit p (by simp; omega) fun h' x he' hx' => ?_)
    obtain ⟨o, ho, hc'⟩ := hx'
    refine wpAny_bind (wpAny_isInstance (T := "StopIteration") (b := true) ⟨o, ho, hc'⟩ isSubtype_stop ?_)
    exact wpAny_pure ⟨rfl, I.turned (t' := s.toks) (fun b o hb q => he' b o hb q) f0 f1 f3 f4 f5⟩
  self := fun A i s Q E st h => let ⟨⟨_, he⟩, _⟩ := st; wpAny_pyIter_enum he h
def iEnumT (K : PySem.W.Frag) (ta : TA) : TI := fun σ H R => ta σ H fun vs H1 => ∃ a xs, vs = [.ref a] ∧ SqT K H1 a xs ∧ R (IteT K a) H1
theorem pi_enumT {X : Cx} {e : Expr} {ta : TA} {p pos tpos : Pos} {elts : List Expr} {kk : Nat} (hg : Gl X "enumerate") (hm : X.mg "enumerate" = none) (ha : PA X [e] ta) (hs : starEach [e] X.env = [(false, eval e X.env)] := by rfl) :
    PI X (.Tuple elts kk tpos) (.Call (.Name "enumerate" p) [e] [] pos) (iEnumT X.K ta) := by
  refine ⟨fun pins s σ H R I h => ?_⟩
  refine Call_ (ld_blt I hg hm boot_enumerate (PyProof.Rows.callWith_type1 (thn (ha.run pos pins s σ H _ I h) fun us s1 ⟨vs, H1, I1, r1, q1⟩ => ?_) hs rfl))
  obtain ⟨a, xs, ex, hq, q⟩ := q1
  subst ex
  cases r1 with
  | cons r rr =>
    cases rr
    cases r
    obtain ⟨its, rv, p', hz⟩ := I1.tuple hq
    refine enum_begins1 (begins_tuple a its.toArray) p' fun h' he hit hsz hk => wpAny_pyIter_enum he ?_
    have I2 : Inv X pins σ H1 { s1 with heap := h' } := I1.kept (t' := s1.toks) hk
    refine ⟨s1.heap.objs.size + 1, [s1.heap.objs.size + 1, s1.heap.objs.size], _, _, H1, rfl, I2, turn_enumT a (s1.heap.objs.size + 1) s1.heap.objs.size, ⟨⟨.none, he⟩, ⟨_, hit, rfl, rfl⟩, Nat.succ_ne_self _⟩, fun b hb => ?_, q⟩
    have e' : b = s1.heap.objs.size + 1 ∨ b = s1.heap.objs.size := by simpa using hb
    have hle : s1.heap.objs.size ≤ b := by
      rcases e' with z | z
      · rw [z]; exact Nat.le_add_right _ _
      · rw [z]; exact Nat.le_refl _
    exact I1.fpOk hle (I1.hok.fresh hle)
theorem walk_enumT {K : PySem.W.Frag} {a : Addr} {xs : List V} : Walk (IteT K a) xs.length (fun H => SqT K H a xs) (fun i H v H' => ∃ T x, v = .ref T ∧ H T = none ∧ H' = upd H T (.tup [.int (i : Nat), x]) ∧ xs[i]? = some x) :=
  ⟨fun i _ hi q => ⟨xs, xs[i], q, by simp [hi]⟩, fun _ q => ⟨xs, q, Nat.le_refl _⟩, fun _ _ _ _ _ q y => let ⟨T, x, e1, e2, e3, e4⟩ := y; ⟨T, x, e1, e2, e3, e4 xs q⟩⟩
end Tc
namespace Tc
open PySem PySem.Spec PyProof.Rows L2 He He5 Mi
theorem small1k {n : Nat} (h : n ≤ 1000) : n < sizeLine := Nat.lt_of_le_of_lt h (by decide)
theorem Same.at_ {H H' : Hp} {a : Addr} {o : HO} (e : Same H H') (h : H a = some o) : H' a = some o := e _ _ h
/-- a comprehension whose items are told by α, tests by p, results by f -/
theorem lc_enc {J : It} {n : Nat} {G : Hp → Prop} {Y : Nat → Hp → V → Hp → Prop} (w : Walk J n G Y) {α : Type} {xs : List α} {Ex : α → V → Hp → Prop} {g : TG} {tt : TT} {te : TE} {vs : List Nat} {σ : L2.St} {H1 : Hp} {D : Addr} {Qd : Hp → Prop}
    (p : α → Bool) (f : α → V) (hn : n = xs.length) (hY : ∀ i H x H', Y i H x H' → i < n → Same H H' ∧ ∃ y, xs[i]? = some y ∧ Ex y x H') (hG : ∀ H', Same H1 H' → G H') (hsz : xs.length ≤ 1000) (hD : H1 D = none)
    (hs : ∀ y x H2 (Yc : V → Hp → Prop) (Nn : Hp → Prop), y ∈ xs → Same H1 H2 → Ex y x H2 → (∀ H3, Same H2 H3 → p y = true → Yc (f y) H3) → (∀ H3, Same H2 H3 → p y = false → Nn H3) →
      g x (wipe σ vs) H2 fun σ2 H2 => wipe σ2 vs = wipe σ vs ∧ tt σ2 H2 fun b H3 => if b = true then te σ2 H3 Yc else Nn H3)
    (hd : ∀ H', Same H1 H' → H' D = some (.lst ((xs.filter p).map f)) → Qd H') :
    ∃ W : Nat → Nat → Hp → Prop, (∃ m, W 0 m (upd H1 D (.lst []))) ∧ ∀ i m H, W i m H →
      (J.stop i H ∧ Qd H) ∨ (J.go i H ∧ ∃ Nx : Hp → Prop, (∀ H', Nx H' → ∃ m', m' < m ∧ W (i + 1) m' H') ∧ ∀ x H', J.yld i H x H' → g x (wipe σ vs) H' fun σ2 H2 => wipe σ2 vs = wipe σ vs ∧ tt σ2 H2 fun b H3 =>
        if b = true then te σ2 H3 fun y H4 => ∃ acc, H4 D = some (.lst acc) ∧ acc.length < sizeLine ∧ Nx (upd H4 D (.lst (acc ++ [y]))) else Nx H3) := by
  have hlen : ∀ i, ((xs.take i).filter p).length ≤ 1000 := fun i => Nat.le_trans (List.length_filter_le _ _) (Nat.le_trans (by rw [List.length_take]; exact Nat.min_le_right _ _) hsz)
  refine lc_it w (fun i H => Same H1 H ∧ H D = some (.lst (((xs.take i).filter p).map f))) ⟨same_new hD, upd_same⟩ (fun i H _ h => hG H h.1) (fun i x H H' hi hP hy => ?_) (fun H h => hd H h.1 ?_)
  · obtain ⟨hS, y, hy1, hE⟩ := hY i H x H' hy hi
    obtain ⟨h1, h2⟩ := hP
    have hm : y ∈ xs := List.mem_of_getElem? hy1
    have ht : xs.take (i + 1) = xs.take i ++ [y] := by rw [List.take_add_one, hy1]; rfl
    refine hs y x H' _ _ hm (h1.trans hS) hE (fun H3 e3 hp => ?_) (fun H3 e3 hp => ?_)
    · refine ⟨_, e3 _ _ (hS _ _ h2), ?_, ?_, ?_⟩
      · rw [List.length_map]
        exact small1k (hlen i)
      · exact same_mut ((h1.trans hS).trans e3) hD
      · rw [upd_same, ht, List.filter_append, List.map_append, List.filter_cons, if_pos hp, List.filter_nil]
        rfl
    · refine ⟨(h1.trans hS).trans e3, ?_⟩
      rw [ht, List.filter_append, List.filter_cons, if_neg (by rw [hp]; decide), List.filter_nil, List.append_nil]
      exact e3 _ _ (hS _ _ h2)
  · have h2 := h.2
    rw [hn, List.take_length] at h2
    exact h2
section
variable {K : PySem.W.Frag} {a : Addr} {α : Type} {xs : List α} {enc : α → V}
theorem wl : Walk (Itl K a) xs.length (fun H => SqL K H a (xs.map enc)) (YAt (xs.map enc)) := by
  have w := walk_list (K := K) (a := a) (xs := xs.map enc)
  rw [List.length_map] at w
  exact w
theorem wt : Walk (Itt K a) xs.length (fun H => SqT K H a (xs.map enc)) (YAt (xs.map enc)) := by
  have w := walk_tup (K := K) (a := a) (xs := xs.map enc)
  rw [List.length_map] at w
  exact w
theorem yat {n : Nat} : ∀ i H x H', YAt (xs.map enc) i H x H' → i < n → Same H H' ∧ ∃ y, xs[i]? = some y ∧ x = enc y := by
  rintro i H x H' ⟨rfl, h⟩ _
  refine ⟨Same.refl _, ?_⟩
  rw [List.getElem?_map] at h
  cases e : xs[i]? with
  | none => rw [e] at h; cases h
  | some y => rw [e] at h; exact ⟨y, rfl, (Option.some.inj h).symm⟩
theorem wenT : Walk (IteT K a) xs.zipIdx.length (fun H => SqT K H a (xs.map enc)) (fun i H v H' => ∃ T x, v = .ref T ∧ H T = none ∧ H' = upd H T (.tup [.int (i : Nat), x]) ∧ (xs.map enc)[i]? = some x) := by
  have w := walk_enumT (K := K) (a := a) (xs := xs.map enc)
  rw [List.length_map] at w
  rw [List.length_zipIdx]
  exact w
end
section
variable {K : PySem.W.Frag} {a : Addr} {xs : List V}
theorem wen : Walk (Ite K a) xs.length (fun H => SqL K H a xs) (fun i H v H' => ∃ T x, v = .ref T ∧ H T = none ∧ H' = upd H T (.tup [.int (i : Nat), x]) ∧ xs[i]? = some x) :=
  ⟨fun i _ hi q => ⟨xs, xs[i], q, by simp [hi]⟩, fun _ q => ⟨xs, q, Nat.le_refl _⟩, fun _ _ _ _ _ q y => let ⟨T, x, e1, e2, e3, e4⟩ := y; ⟨T, x, e1, e2, e3, e4 xs q⟩⟩
end
end Tc
namespace Tc
open PySem PySem.Spec PyProof.Rows L2 He He5 Mi
section
variable {P : Program} {w : World} {K : PySem.W.Frag} {mg : Str → Option Value} {base : Heap}
theorem cut_take {xs : List V} {i : Nat} (h : i ≤ xs.length) : cutV xs none (some (i : Int)) = xs.take i := by
  unfold cutV
  rw [HT.sIx_none, HT.sIx_nat, Nat.min_eq_left h]
  rfl
theorem vr_len {r : Mi.Row} (h : Vr r) : r.length ≤ 1000 := by
  have := h.most
  omega
theorem wen0 {K : PySem.W.Frag} {a : Addr} {xs : List V} : Walk (IteT K a) xs.length (fun H => SqT K H a xs) (fun i H v H' => ∃ T x, v = .ref T ∧ H T = none ∧ H' = upd H T (.tup [.int (i : Nat), x]) ∧ xs[i]? = some x) := walk_enumT
def sp_disorders (K : PySem.W.Frag) : Sp := fun vs H Q _ => ∃ a r, vs = [.ref a] ∧ H a = some (.tup (r.map V.int)) ∧ Vr r ∧ ∀ H', Same H H' → Q (.int (dis r)) H'
abbrev N_disorders_of : List Str := ["row", "result", "index", "card", "earlier"]
theorem sc_disorders_of : FnScope N_disorders_of ["row"] d_disorders_of.scope := ⟨rfl, rfl, rfl, by decide +kernel, rfl, by decide +kernel, by decide +kernel⟩
theorem ok_disorders_of (W : Wd w K mg) : FnR P w K mg base CX0 1 (d_disorders_of.at_ K) (sp_disorders K) := by
  refine fnr0 W.f_disorders_of sc_disorders_of (fun vs H Q E h => ?_) (fun _ _ _ _ _ _ us hl => match us, hl with | [_], _ => rfl) (fun cdv A outer s H vs Q E hr h => ?_)
  · obtain ⟨a, r, rfl, ha, hV, q⟩ := h
    rfl
  · obtain ⟨a, r, rfl, ha, hV, q⟩ := h
    refine ⟨_, (pss_cons (ps_set (i := 1) sc_disorders_of.nd rfl (by first | exact Or.inl rfl | exact Or.inr rfl) (pe_callB call_len_seq (by rfl) W.z_len PySem.boot_len (pa_cons (pe_lc (own := [("card", 3)]) (g := gName 3) rfl sc_disorders_of.nd (pi_tup (pv 0)) (blkOk_by (own := [("card", 3)]) (N := N_disorders_of) (sc := d_disorders_of.scope) (by decide +kernel)) (fun _ _ _ _ _ => (pg_name (i := 3) sc_disorders_of.nd rfl (by first | exact Or.inl rfl | exact Or.inr rfl))) (fun _ _ _ _ _ => (pts_one (pt_cmpR op_lt (pv 3) pe_int (nomark _)))) (fun _ _ _ _ _ => (pv 3))) pa_nil)))
      (pss_cons (ps_for PassesOwn.never rfl (pi_enumT (by rfl) W.z_enumerate (pa_cons (pv 0) pa_nil)) (pg_tup rfl (pgs_cons (pg_name (i := 2) sc_disorders_of.nd rfl (by first | exact Or.inl rfl | exact Or.inr rfl)) (pgs_cons (pg_name (i := 3) sc_disorders_of.nd rfl (by first | exact Or.inl rfl | exact Or.inr rfl)) pgs_nil))) (pss_cons (ps_aug (i := 1) sc_disorders_of.nd rfl (by first | exact Or.inl rfl | exact Or.inr rfl) (pe_callB call_len_seq (by rfl) W.z_len PySem.boot_len (pa_cons (pe_lc (own := [("earlier", 4)]) (g := gName 4) rfl sc_disorders_of.nd (pi_tup (pe_slice sl_tup (pv 0) po_none (po_some (pv 2)))) (blkOk_by (own := [("earlier", 4)]) (N := N_disorders_of) (sc := d_disorders_of.scope) (by decide +kernel)) (fun _ _ _ _ _ => (pg_name (i := 4) sc_disorders_of.nd rfl (by first | exact Or.inl rfl | exact Or.inr rfl))) (fun _ _ _ _ _ => (pts_one (pt_cmpR op_gt (pv 4) (pv 3) (nomark _)))) (fun _ _ _ _ _ => (pv 4))) pa_nil)) ip_add)
      (pss_one (ps_aug (i := 1) sc_disorders_of.nd rfl (by first | exact Or.inl rfl | exact Or.inr rfl) (pe_callB call_len_seq (by rfl) W.z_len PySem.boot_len (pa_cons (pe_lc (own := [("earlier", 4)]) (g := gName 4) rfl sc_disorders_of.nd (pi_tup (pe_slice sl_tup (pv 0) po_none (po_some (pv 2)))) (blkOk_by (own := [("earlier", 4)]) (N := N_disorders_of) (sc := d_disorders_of.scope) (by decide +kernel)) (fun _ _ _ _ _ => (pg_name (i := 4) sc_disorders_of.nd rfl (by first | exact Or.inl rfl | exact Or.inr rfl))) (fun _ _ _ _ _ => (pts_one (pt_cmpR op_lt (pe_op op_add (pv 4) (pv 3)) pe_int (nomark _)))) (fun _ _ _ _ _ => (pv 4))) pa_nil)) ip_add))))
      (pss_one (ps_ret (pv 1))))), ?_⟩
    refine ⟨.ref a, rfl, a, rfl, ⟨_, SqT.of ha⟩, fun D hD => lc_enc (wt (xs := r)) (Ex := fun c x _ => x = V.int c) (fun c => decide (c < 0)) V.int rfl yat (fun H' e => SqT.of (e _ _ ha)) (vr_len hV) hD (fun y x H2 Yc Nn hy hS hE h1 h2 => ?_) fun H1 e1 hD1 => ?_⟩
    · subst hE
      refine ⟨rfl, .int y, rfl, y, 0, rfl, rfl, _, rfl, ite2 (fun h => ?_) fun h => ?_⟩
      · exact ⟨.int y, rfl, h1 _ (Same.refl _) h⟩
      · exact h2 _ (Same.refl _) (Bool.eq_false_iff.mpr h)
    refine ⟨D, _, rfl, .inl (SqL.of hD1), .ref a, rfl, a, _, rfl, SqT.of (e1 _ _ ha), for_it (wen0 (xs := r.map V.int)) (fun i σ H3 => ∃ z y2 y3 y4, σ = [some (.ref a), some (.int z), y2, y3, y4] ∧ z = disRun r i ∧ Same H H3) ⟨_, _, _, _, rfl, ?_, e1⟩ (fun i σ H3 _ h => ?_) (fun i x σ H3 H4 hi hI hy => ?_) (fun σ H3 hI => ?_)⟩
    · rw [List.length_map]
      rfl
    · obtain ⟨_, _, _, _, _, _, h⟩ := h
      exact SqT.of (h _ _ ha)
    · obtain ⟨z, y2, y3, y4, rfl, hz, e3⟩ := hI
      obtain ⟨T, x, rfl, hT, rfl, hx⟩ := hy
      rw [len_map] at hi
      have ex : x = .int (r.getD i 0) := by
        rw [List.getElem?_map, List.getElem?_eq_getElem hi] at hx
        rw [List.getD_eq_getElem?_getD, List.getElem?_eq_getElem hi]
        exact (Option.some.inj hx).symm
      subst ex
      have e4 : Same H (upd H3 T (.tup [.int (i : Nat), .int (r.getD i 0)])) := e3.trans (same_new hT)
      have ha4 := e4 _ _ ha
      refine ⟨T, _, rfl, SqT.of upd_same, rfl, _, _, rfl, _, _, rfl, rfl, ?_⟩
      have hcut : ∀ H : Hp, ∀ p, H p = some (.tup (cutV (r.map V.int) none (some (i : Int)))) → SqT K H p ((r.take i).map V.int) := fun H p h => by
        rw [cut_take (by rw [len_map]; omega)] at h
        rw [List.map_take]
        exact SqT.of h
      have hlt : (r.take i).length ≤ 1000 := Nat.le_trans (by rw [List.length_take]; exact Nat.min_le_right _ _) (vr_len hV)
      have hnot : ∀ xs : List V, xs.length = r.length → ¬ (HT.sIx xs.length 0 none = 0 ∧ HT.sIx xs.length xs.length (some (i : Int)) = xs.length) := fun xs e z => by
        have := z.2
        rw [e, HT.sIx_nat] at this
        omega
      refine ⟨.int z, rfl, .ref a, rfl, .int i, rfl, i, rfl, a, _, rfl, SqT.of ha4, hnot _ len_map, fun p hp => ⟨p, rfl, ⟨_, hcut _ _ upd_same⟩, fun D2 hD2 => lc_enc (wt (xs := r.take i)) (Ex := fun c x _ => x = V.int c) (fun e => decide (r.getD i 0 < e)) V.int rfl yat (fun H' e => same_sqT e (hcut _ _ upd_same)) hlt hD2 (fun y x H5 Yc Nn hy hS hE h1 h2 => ?_) fun H5 e5 hD5 => ?_⟩⟩
      · subst hE
        refine ⟨rfl, .int y, rfl, .int (r.getD i 0), rfl, y, r.getD i 0, rfl, rfl, _, rfl, ite2 (fun h => ?_) fun h => ?_⟩
        · exact ⟨.int y, rfl, h1 _ (Same.refl _) h⟩
        · exact h2 _ (Same.refl _) (Bool.eq_false_iff.mpr h)
      have e6 := (same_new hp).trans e5
      have ha5 := e6 _ _ ha4
      refine ⟨D2, _, rfl, .inl (SqL.of hD5), z, _, rfl, rfl, ?_⟩
      refine ⟨.int _, rfl, .ref a, rfl, .int i, rfl, i, rfl, a, _, rfl, SqT.of ha5, hnot _ len_map, fun p hp => ⟨p, rfl, ⟨_, hcut _ _ upd_same⟩, fun D2 hD2 => lc_enc (wt (xs := r.take i)) (Ex := fun c x _ => x = V.int c) (fun e => decide (e + r.getD i 0 < 0)) V.int rfl yat (fun H' e => same_sqT e (hcut _ _ upd_same)) hlt hD2 (fun y x H5 Yc Nn hy hS hE h1 h2 => ?_) fun H7 e7 hD7 => ?_⟩⟩
      · subst hE
        refine ⟨rfl, .int y, rfl, .int (r.getD i 0), rfl, y, r.getD i 0, rfl, rfl, _, 0, rfl, rfl, _, rfl, ite2 (fun h => ?_) fun h => ?_⟩
        · exact ⟨.int y, rfl, h1 _ (Same.refl _) h⟩
        · exact h2 _ (Same.refl _) (Bool.eq_false_iff.mpr h)
      refine ⟨D2, _, rfl, .inl (SqL.of hD7), _, _, rfl, rfl, ?_⟩
      refine ⟨_, _, _, _, rfl, ?_, e4.trans (e6.trans ((same_new hp).trans e7))⟩
      rw [hz, List.length_map, List.length_map]
      unfold disRun
      rw [List.range_succ, List.foldl_append]
      exact Int.add_assoc _ _ _
    · obtain ⟨z, y2, y3, y4, rfl, rfl, e3⟩ := hI
      refine ⟨.int _, rfl, ?_⟩
      rw [len_map]
      exact q _ e3
theorem c_disorders_of (W : Wd w K mg) : Cal P w K mg base CX0 1 "disorders_of" (d_disorders_of.at_ K) (sp_disorders K) := ⟨ok_disorders_of W, W.g_disorders_of, W.f_disorders_of.kp⟩
abbrev N_l_disorders : List Str := ["_law_cards_here", "_law_result", "_law_place", "_law_card", "_law_other"]
theorem sc_l_disorders : FnScope N_l_disorders ["_law_cards_here"] d_l_disorders.scope := ⟨rfl, rfl, rfl, by decide +kernel, rfl, by decide +kernel, by decide +kernel⟩
theorem ok_l_disorders (W : Wd w K mg) : FnR P w K mg base CX0 1 (d_l_disorders.at_ K) (sp_disorders K) := by
  refine fnr0 W.f_l_disorders sc_l_disorders (fun vs H Q E h => ?_) (fun _ _ _ _ _ _ us hl => match us, hl with | [_], _ => rfl) (fun cdv A outer s H vs Q E hr h => ?_)
  · obtain ⟨a, r, rfl, ha, hV, q⟩ := h
    rfl
  · obtain ⟨a, r, rfl, ha, hV, q⟩ := h
    refine ⟨_, (pss_cons (ps_set (i := 1) sc_l_disorders.nd rfl (by first | exact Or.inl rfl | exact Or.inr rfl) (pe_callB call_len_seq (by rfl) W.z_len PySem.boot_len (pa_cons (pe_lc (own := [("_law_card", 3)]) (g := gName 3) rfl sc_l_disorders.nd (pi_tup (pv 0)) (blkOk_by (own := [("_law_card", 3)]) (N := N_l_disorders) (sc := d_l_disorders.scope) (by decide +kernel)) (fun _ _ _ _ _ => (pg_name (i := 3) sc_l_disorders.nd rfl (by first | exact Or.inl rfl | exact Or.inr rfl))) (fun _ _ _ _ _ => (pts_one (pt_cmpR op_lt (pv 3) pe_int (nomark _)))) (fun _ _ _ _ _ => (pv 3))) pa_nil)))
      (pss_cons (ps_for PassesOwn.never rfl (pi_enumT (by rfl) W.z_enumerate (pa_cons (pv 0) pa_nil)) (pg_tup rfl (pgs_cons (pg_name (i := 2) sc_l_disorders.nd rfl (by first | exact Or.inl rfl | exact Or.inr rfl)) (pgs_cons (pg_name (i := 3) sc_l_disorders.nd rfl (by first | exact Or.inl rfl | exact Or.inr rfl)) pgs_nil))) (pss_cons (ps_set (i := 1) sc_l_disorders.nd rfl (by first | exact Or.inl rfl | exact Or.inr rfl) (pe_op op_add (pv 1) (pe_callB call_len_seq (by rfl) W.z_len PySem.boot_len (pa_cons (pe_lc (own := [("_law_other", 4)]) (g := gName 4) rfl sc_l_disorders.nd (pi_tup (pe_slice sl_tup (pv 0) po_none (po_some (pv 2)))) (blkOk_by (own := [("_law_other", 4)]) (N := N_l_disorders) (sc := d_l_disorders.scope) (by decide +kernel)) (fun _ _ _ _ _ => (pg_name (i := 4) sc_l_disorders.nd rfl (by first | exact Or.inl rfl | exact Or.inr rfl))) (fun _ _ _ _ _ => (pts_one (pt_cmpR op_gt (pv 4) (pv 3) (nomark _)))) (fun _ _ _ _ _ => (pv 4))) pa_nil))))
      (pss_one (ps_set (i := 1) sc_l_disorders.nd rfl (by first | exact Or.inl rfl | exact Or.inr rfl) (pe_op op_add (pv 1) (pe_callB call_len_seq (by rfl) W.z_len PySem.boot_len (pa_cons (pe_lc (own := [("_law_other", 4)]) (g := gName 4) rfl sc_l_disorders.nd (pi_tup (pe_slice sl_tup (pv 0) po_none (po_some (pv 2)))) (blkOk_by (own := [("_law_other", 4)]) (N := N_l_disorders) (sc := d_l_disorders.scope) (by decide +kernel)) (fun _ _ _ _ _ => (pg_name (i := 4) sc_l_disorders.nd rfl (by first | exact Or.inl rfl | exact Or.inr rfl))) (fun _ _ _ _ _ => (pts_one (pt_cmpR op_lt (pe_op op_add (pv 4) (pv 3)) pe_int (nomark _)))) (fun _ _ _ _ _ => (pv 4))) pa_nil)))))))
      (pss_one (ps_ret (pv 1))))), ?_⟩
    refine ⟨.ref a, rfl, a, rfl, ⟨_, SqT.of ha⟩, fun D hD => lc_enc (wt (xs := r)) (Ex := fun c x _ => x = V.int c) (fun c => decide (c < 0)) V.int rfl yat (fun H' e => SqT.of (e _ _ ha)) (vr_len hV) hD (fun y x H2 Yc Nn hy hS hE h1 h2 => ?_) fun H1 e1 hD1 => ?_⟩
    · subst hE
      refine ⟨rfl, .int y, rfl, y, 0, rfl, rfl, _, rfl, ite2 (fun h => ?_) fun h => ?_⟩
      · exact ⟨.int y, rfl, h1 _ (Same.refl _) h⟩
      · exact h2 _ (Same.refl _) (Bool.eq_false_iff.mpr h)
    refine ⟨D, _, rfl, .inl (SqL.of hD1), .ref a, rfl, a, _, rfl, SqT.of (e1 _ _ ha), for_it (wen0 (xs := r.map V.int)) (fun i σ H3 => ∃ z y2 y3 y4, σ = [some (.ref a), some (.int z), y2, y3, y4] ∧ z = disRun r i ∧ Same H H3) ⟨_, _, _, _, rfl, ?_, e1⟩ (fun i σ H3 _ h => ?_) (fun i x σ H3 H4 hi hI hy => ?_) (fun σ H3 hI => ?_)⟩
    · rw [List.length_map]
      rfl
    · obtain ⟨_, _, _, _, _, _, h⟩ := h
      exact SqT.of (h _ _ ha)
    · obtain ⟨z, y2, y3, y4, rfl, hz, e3⟩ := hI
      obtain ⟨T, x, rfl, hT, rfl, hx⟩ := hy
      rw [len_map] at hi
      have ex : x = .int (r.getD i 0) := by
        rw [List.getElem?_map, List.getElem?_eq_getElem hi] at hx
        rw [List.getD_eq_getElem?_getD, List.getElem?_eq_getElem hi]
        exact (Option.some.inj hx).symm
      subst ex
      have e4 : Same H (upd H3 T (.tup [.int (i : Nat), .int (r.getD i 0)])) := e3.trans (same_new hT)
      have ha4 := e4 _ _ ha
      refine ⟨T, _, rfl, SqT.of upd_same, rfl, _, _, rfl, _, _, rfl, rfl, ?_⟩
      have hcut : ∀ H : Hp, ∀ p, H p = some (.tup (cutV (r.map V.int) none (some (i : Int)))) → SqT K H p ((r.take i).map V.int) := fun H p h => by
        rw [cut_take (by rw [len_map]; omega)] at h
        rw [List.map_take]
        exact SqT.of h
      have hlt : (r.take i).length ≤ 1000 := Nat.le_trans (by rw [List.length_take]; exact Nat.min_le_right _ _) (vr_len hV)
      have hnot : ∀ xs : List V, xs.length = r.length → ¬ (HT.sIx xs.length 0 none = 0 ∧ HT.sIx xs.length xs.length (some (i : Int)) = xs.length) := fun xs e z => by
        have := z.2
        rw [e, HT.sIx_nat] at this
        omega
      refine ⟨.int z, rfl, .ref a, rfl, .int i, rfl, i, rfl, a, _, rfl, SqT.of ha4, hnot _ len_map, fun p hp => ⟨p, rfl, ⟨_, hcut _ _ upd_same⟩, fun D2 hD2 => lc_enc (wt (xs := r.take i)) (Ex := fun c x _ => x = V.int c) (fun e => decide (r.getD i 0 < e)) V.int rfl yat (fun H' e => same_sqT e (hcut _ _ upd_same)) hlt hD2 (fun y x H5 Yc Nn hy hS hE h1 h2 => ?_) fun H5 e5 hD5 => ?_⟩⟩
      · subst hE
        refine ⟨rfl, .int y, rfl, .int (r.getD i 0), rfl, y, r.getD i 0, rfl, rfl, _, rfl, ite2 (fun h => ?_) fun h => ?_⟩
        · exact ⟨.int y, rfl, h1 _ (Same.refl _) h⟩
        · exact h2 _ (Same.refl _) (Bool.eq_false_iff.mpr h)
      have e6 := (same_new hp).trans e5
      have ha5 := e6 _ _ ha4
      refine ⟨D2, _, rfl, .inl (SqL.of hD5), z, _, rfl, rfl, ?_⟩
      refine ⟨.int _, rfl, .ref a, rfl, .int i, rfl, i, rfl, a, _, rfl, SqT.of ha5, hnot _ len_map, fun p hp => ⟨p, rfl, ⟨_, hcut _ _ upd_same⟩, fun D2 hD2 => lc_enc (wt (xs := r.take i)) (Ex := fun c x _ => x = V.int c) (fun e => decide (e + r.getD i 0 < 0)) V.int rfl yat (fun H' e => same_sqT e (hcut _ _ upd_same)) hlt hD2 (fun y x H5 Yc Nn hy hS hE h1 h2 => ?_) fun H7 e7 hD7 => ?_⟩⟩
      · subst hE
        refine ⟨rfl, .int y, rfl, .int (r.getD i 0), rfl, y, r.getD i 0, rfl, rfl, _, 0, rfl, rfl, _, rfl, ite2 (fun h => ?_) fun h => ?_⟩
        · exact ⟨.int y, rfl, h1 _ (Same.refl _) h⟩
        · exact h2 _ (Same.refl _) (Bool.eq_false_iff.mpr h)
      refine ⟨D2, _, rfl, .inl (SqL.of hD7), _, _, rfl, rfl, ?_⟩
      refine ⟨_, _, _, _, rfl, ?_, e4.trans (e6.trans ((same_new hp).trans e7))⟩
      rw [hz, List.length_map, List.length_map]
      unfold disRun
      rw [List.range_succ, List.foldl_append]
      exact Int.add_assoc _ _ _
    · obtain ⟨z, y2, y3, y4, rfl, rfl, e3⟩ := hI
      refine ⟨.int _, rfl, ?_⟩
      rw [len_map]
      exact q _ e3
theorem c_l_disorders (W : Wd w K mg) : Cal P w K mg base CX0 1 "_law_disorders" (d_l_disorders.at_ K) (sp_disorders K) := ⟨ok_l_disorders W, W.g_l_disorders, W.f_l_disorders.kp⟩
end
end Tc
namespace Tc
open PySem PySem.Spec PyProof.Rows L2 He He5 Mi
section
variable {P : Program} {w : World} {K : PySem.W.Frag} {mg : Str → Option Value} {base : Heap}
def sp_l_done (K : PySem.W.Frag) : Sp := fun vs H Q _ => ∃ a u r s, vs = [.ref a, u] ∧ H a = some (.tup (r.map V.int)) ∧ Vr r ∧ StpAt H u s ∧ s.ok r.length = true ∧ ∀ H' p, Same H H' → H p = none → H' p = some (.tup ((stp r s).map V.int)) → Q (.ref p) H'
abbrev N_l_done : List Str := ["_law_cards_here", "_law_step_here", "_law_result", "_law_sign", "_law_first", "_law_second"]
theorem sc_l_done : FnScope N_l_done ["_law_cards_here", "_law_step_here"] d_l_done.scope := ⟨rfl, rfl, rfl, by decide +kernel, rfl, by decide +kernel, by decide +kernel⟩
theorem ok_l_done (W : Wd w K mg) : FnR P w K mg base CX0 1 (d_l_done.at_ K) (sp_l_done K) := by
  refine fnr0 W.f_l_done sc_l_done (fun vs H Q E h => ?_) (fun _ _ _ _ _ _ us hl => match us, hl with | [_, _], _ => rfl) (fun cdv A outer s H vs Q E hr h => ?_)
  · obtain ⟨a, u, r, s, rfl, ha, hV, hs, hok, q⟩ := h
    rfl
  · obtain ⟨a, u, r, s, rfl, ha, hV, hs, hok, q⟩ := h
    refine ⟨_, (pss_cons (ps_set (i := 2) sc_l_done.nd rfl (by first | exact Or.inl rfl | exact Or.inr rfl) (pe_callTy call_list_of (by rfl) W.z_list boot_list (pa_cons (pv 0) pa_nil)))
      (pss_cons (ps_if (pt_cmpR op_eq (pe_ix (show IxR _ (rIxT K) from ix_tup) (pv 1) pe_int (fun _ _ => rfl)) pe_str (nomark _)) (pss_cons (ps_asg (pe_op op_sub pe_int (pe_ix (show IxR _ (rIxT K) from ix_tup) (pv 0) (pe_op op_sub (pe_ix (show IxR _ (rIxT K) from ix_tup) (pv 1) pe_int (fun _ _ => rfl)) pe_int) (fun _ _ => rfl))) (pg_sub (pv 2) (pe_op op_sub (pe_ix (show IxR _ (rIxT K) from ix_tup) (pv 1) pe_int (fun _ _ => rfl)) pe_int) set_list))
      (pss_one (ps_ret (pe_callTy call_tuple_of (by rfl) W.z_tuple boot_tuple (pa_cons (pv 2) pa_nil))))) pss_nil)
      (pss_cons (ps_set (i := 3) sc_l_done.nd rfl (by first | exact Or.inl rfl | exact Or.inr rfl) (pe_ifExp (pt_cmpR op_eq (pe_ix (show IxR _ (rIxT K) from ix_tup) (pv 1) pe_int (fun _ _ => rfl)) pe_str (nomark _)) pe_int (pe_un un_neg pe_int)))
      (pss_cons (ps_par (i := 4) (j := 5) (by rfl) sc_l_done.nd rfl rfl (by decide) rfl rfl (pa_cons (pe_op op_sub (pe_ix (show IxR _ (rIxT K) from ix_tup) (pv 1) pe_int (fun _ _ => rfl)) pe_int) (pa_cons (pe_op op_sub (pe_ix (show IxR _ (rIxT K) from ix_tup) (pv 1) pe_int (fun _ _ => rfl)) pe_int) pa_nil)) (by rfl))
      (pss_cons (ps_asg (pe_op op_mul (pv 3) (pe_ix (show IxR _ (rIxT K) from ix_tup) (pv 0) (pv 5) (fun _ _ => rfl))) (pg_sub (pv 2) (pv 4) set_list))
      (pss_cons (ps_asg (pe_op op_mul (pv 3) (pe_ix (show IxR _ (rIxT K) from ix_tup) (pv 0) (pv 4) (fun _ _ => rfl))) (pg_sub (pv 2) (pv 5) set_list))
      (pss_one (ps_ret (pe_callTy call_tuple_of (by rfl) W.z_tuple boot_tuple (pa_cons (pv 2) pa_nil)))))))))), ?_⟩
    obtain ⟨b, rfl, hb⟩ := hs
    refine ⟨.ref a, rfl, a, _, rfl, .inr (SqT.of ha), fun l hl => ?_⟩
    have e1 : Same H (upd H l (.lst (r.map V.int))) := same_new hl
    have hb1 := e1 _ _ hb
    have ha1 := e1 _ _ ha
    cases s with
    | turn i =>
      simp only [Stp.ok, Bool.and_eq_true, decide_eq_true_eq] at hok
      have h0 : (0 : Int) ≤ (i : Int) - 1 := by omega
      have h1 : (i : Int) - 1 < r.length := by omega
      refine ⟨.ref b, rfl, b, _, 0, _, rfl, rfl, SqT.of hb1, rfl, rfl, _, rfl, iteP (by decide +kernel) ?_⟩
      refine ⟨.ref a, rfl, .ref b, rfl, b, _, 1, _, rfl, rfl, SqT.of hb1, rfl, _, _, rfl, rfl, a, _, _, _, rfl, rfl, SqT.of ha1, atI_int h0 h1, 0, _, rfl, rfl, .ref l, rfl, .ref b, rfl, b, _, 1, _, rfl, rfl, SqT.of hb1, rfl, _, _, rfl, rfl, setI upd_same h0 h1 ?_⟩
      rw [upd_upd]
      refine ⟨.ref l, rfl, l, _, rfl, .inl ⟨SqL.of upd_same, fun p hp => q _ p ?_ ?_ ?_⟩⟩
      · exact (same_new hl).trans (same_new hp)
      · exact (same_new hl).free hp
      · rw [upd_same, show ((i : Int) - 1).toNat = i - 1 by omega, Int.zero_sub]
        rfl
    | exch i j =>
      simp only [Stp.ok, Bool.and_eq_true, decide_eq_true_eq] at hok
      have h0 : (0 : Int) ≤ (i : Int) - 1 := by omega
      have h1 : (i : Int) - 1 < r.length := by omega
      have k0 : (0 : Int) ≤ (j : Int) - 1 := by omega
      have k1 : (j : Int) - 1 < r.length := by omega
      refine ⟨.ref b, rfl, b, _, 0, _, rfl, rfl, SqT.of hb1, rfl, rfl, _, rfl, iteN (by decide +kernel) ?_⟩
      refine ⟨.ref b, rfl, b, _, 0, _, rfl, rfl, SqT.of hb1, rfl, rfl, _, rfl, iteP (by decide +kernel) ?_⟩
      refine ⟨.ref b, rfl, b, _, 1, _, rfl, rfl, SqT.of hb1, rfl, _, _, rfl, rfl, .ref b, rfl, b, _, 2, _, rfl, rfl, SqT.of hb1, rfl, _, _, rfl, rfl, _, _, rfl, ?_⟩
      refine ⟨.int 1, rfl, .ref a, rfl, _, rfl, a, _, _, _, rfl, rfl, SqT.of ha1, atI_int k0 k1, _, _, rfl, rfl, .inl ⟨by decide, by decide⟩, .ref l, rfl, _, rfl, setI upd_same h0 h1 ?_⟩
      rw [upd_upd]
      refine ⟨.int 1, rfl, .ref a, rfl, _, rfl, a, _, _, _, rfl, rfl, SqT.of (same_new hl _ _ ha), atI_int h0 h1, _, _, rfl, rfl, .inl ⟨by decide, by decide⟩, .ref l, rfl, _, rfl, setI upd_same k0 (by rw [List.length_set]; exact k1) ?_⟩
      rw [upd_upd]
      refine ⟨.ref l, rfl, l, _, rfl, .inl ⟨SqL.of upd_same, fun p hp => q _ p ?_ ?_ ?_⟩⟩
      · exact (same_new hl).trans (same_new hp)
      · exact (same_new hl).free hp
      · rw [upd_same, show ((i : Int) - 1).toNat = i - 1 by omega, show ((j : Int) - 1).toNat = j - 1 by omega, Int.one_mul, Int.one_mul]
        rfl
    | cross i j =>
      simp only [Stp.ok, Bool.and_eq_true, decide_eq_true_eq] at hok
      have h0 : (0 : Int) ≤ (i : Int) - 1 := by omega
      have h1 : (i : Int) - 1 < r.length := by omega
      have k0 : (0 : Int) ≤ (j : Int) - 1 := by omega
      have k1 : (j : Int) - 1 < r.length := by omega
      refine ⟨.ref b, rfl, b, _, 0, _, rfl, rfl, SqT.of hb1, rfl, rfl, _, rfl, iteN (by decide +kernel) ?_⟩
      refine ⟨.ref b, rfl, b, _, 0, _, rfl, rfl, SqT.of hb1, rfl, rfl, _, rfl, iteN (by decide +kernel) ⟨1, rfl, ?_⟩⟩
      refine ⟨.ref b, rfl, b, _, 1, _, rfl, rfl, SqT.of hb1, rfl, _, _, rfl, rfl, .ref b, rfl, b, _, 2, _, rfl, rfl, SqT.of hb1, rfl, _, _, rfl, rfl, _, _, rfl, ?_⟩
      refine ⟨.int (-1), rfl, .ref a, rfl, _, rfl, a, _, _, _, rfl, rfl, SqT.of ha1, atI_int k0 k1, _, _, rfl, rfl, .inl ⟨by decide, by decide⟩, .ref l, rfl, _, rfl, setI upd_same h0 h1 ?_⟩
      rw [upd_upd]
      refine ⟨.int (-1), rfl, .ref a, rfl, _, rfl, a, _, _, _, rfl, rfl, SqT.of (same_new hl _ _ ha), atI_int h0 h1, _, _, rfl, rfl, .inl ⟨by decide, by decide⟩, .ref l, rfl, _, rfl, setI upd_same k0 (by rw [List.length_set]; exact k1) ?_⟩
      rw [upd_upd]
      refine ⟨.ref l, rfl, l, _, rfl, .inl ⟨SqL.of upd_same, fun p hp => q _ p ?_ ?_ ?_⟩⟩
      · exact (same_new hl).trans (same_new hp)
      · exact (same_new hl).free hp
      · rw [upd_same, show ((i : Int) - 1).toNat = i - 1 by omega, show ((j : Int) - 1).toNat = j - 1 by omega, Int.neg_mul, Int.neg_mul, Int.one_mul, Int.one_mul]
        rfl
theorem c_l_done (W : Wd w K mg) : Cal P w K mg base CX0 1 "_law_done" (d_l_done.at_ K) (sp_l_done K) := ⟨ok_l_done W, W.g_l_done, W.f_l_done.kp⟩
def Stp.places : Stp → List Int
  | .turn i => [(i : Int)]
  | .exch i j => [(i : Int), (j : Int)]
  | .cross i j => [(i : Int), (j : Int)]
def inR (n : Nat) (x : Int) : Bool := decide (1 ≤ x) && decide (x ≤ (n : Int))
def sp_is_free_step : Sp := fun vs H Q _ => ∃ (n : Nat) (u : V) (s : Stp), vs = [.int n, u] ∧ StpAt H u s ∧ ∀ H', Same H H' → Q (.bl (s.ok n)) H'
abbrev N_is_free_step : List Str := ["size", "value", "place"]
theorem sc_is_free_step : FnScope N_is_free_step ["size", "value"] d_is_free_step.scope := ⟨rfl, rfl, rfl, by decide +kernel, rfl, by decide +kernel, by decide +kernel⟩
theorem ok_is_free_step (W : Wd w K mg) : FnR P w K mg base CX0 3 (d_is_free_step.at_ K) sp_is_free_step := by
  refine fnr0 W.f_is_free_step sc_is_free_step (fun vs H Q E h => ?_) (fun _ _ _ _ _ _ us hl => match us, hl with | [_, _], _ => rfl) (fun cdv A outer s H vs Q E hr h => ?_)
  · obtain ⟨n, u, s, rfl, hs, q⟩ := h
    rfl
  · obtain ⟨n, u, s, rfl, hs, q⟩ := h
    refine ⟨_, (pss_cons (ps_if (PW.pt (pw_or (pt_not (pt_val (pe_callB call_isi (by rfl) W.z_isinstance boot_isinstance (pa_cons (pv 1) (pa_cons (pe_bltn (v := .ty "tuple") (u := .type "tuple") (by rfl) W.z_tuple (by decide +kernel) rfl) pa_nil))))) (pw_or (pt_not (pt_chain op_le op_le pe_int (pe_callB call_len_seq (by rfl) W.z_len PySem.boot_len (pa_cons (pv 1) pa_nil)) pe_int)) (pw_or1 (pt_not (pt_val (pe_callB call_isi (by rfl) W.z_isinstance boot_isinstance (pa_cons (pe_ix (show IxR _ (rIxT K) from ix_tup) (pv 1) pe_int (fun _ _ => rfl)) (pa_cons (pe_bltn (v := .ty "str") (u := .type "str") (by rfl) W.z_str (by decide +kernel) rfl) pa_nil))))))))) (pss_one (ps_ret pe_bl)) pss_nil)
      (pss_cons (ps_if (pt_not (pt_val (pe_callB (cr_all rfl) (by rfl) W.z_all (by decide +kernel) (pa_cons (pe_lc (own := [("place", 2)]) (g := gName 2) rfl sc_is_free_step.nd (pi_tup (pe_slice sl_tup (pv 1) (po_some pe_int) po_none)) (blkOk_by (own := [("place", 2)]) (N := N_is_free_step) (sc := d_is_free_step.scope) (by decide +kernel)) (fun _ _ _ _ _ => (pg_name (i := 2) sc_is_free_step.nd rfl (by first | exact Or.inl rfl | exact Or.inr rfl))) (fun _ _ _ _ _ => pts_nil) (fun _ _ _ _ _ => (pe_c (c_is_between W) (hr.mono (by omega)) pass0 (pa_cons (pv 2) (pa_cons pe_int (pa_cons (pv 0) pa_nil)))))) pa_nil)))) (pss_one (ps_ret pe_bl)) pss_nil)
      (pss_cons (ps_if (pt_cmpR op_eq (pe_callB call_len_seq (by rfl) W.z_len PySem.boot_len (pa_cons (pv 1) pa_nil)) pe_int (nomark _)) (pss_one (ps_ret (pe_cmpR op_eq (pe_ix (show IxR _ (rIxT K) from ix_tup) (pv 1) pe_int (fun _ _ => rfl)) pe_str (nomark _)))) pss_nil)
      (pss_one (ps_ret (pe_and (pe_cmpR op_in_seq (pe_ix (show IxR _ (rIxT K) from ix_tup) (pv 1) pe_int (fun _ _ => rfl)) (pe_tup (pa_cons pe_str (pa_cons pe_str pa_nil))) rfl) (pe_one (pe_cmpR op_ne (pe_ix (show IxR _ (rIxT K) from ix_tup) (pv 1) pe_int (fun _ _ => rfl)) (pe_ix (show IxR _ (rIxT K) from ix_tup) (pv 1) pe_int (fun _ _ => rfl)) (nomark _))))))))), ?_⟩
    obtain ⟨b, rfl, hb⟩ := hs
    have hcut : cutV (Stp.vs s) (some 1) none = (Stp.places s).map V.int := by cases s <;> rfl
    have hnot : ¬ (HT.sIx (Stp.vs s).length 0 (some 1) = 0 ∧ HT.sIx (Stp.vs s).length (Stp.vs s).length none = (Stp.vs s).length) := by
      intro z
      have z1 := z.1
      rw [show (1 : Int) = ((1 : Nat) : Int) from rfl, HT.sIx_nat] at z1
      have : 2 ≤ (Stp.vs s).length := by cases s <;> simp [Stp.vs]
      omega
    have hat : ∃ z, atI (Stp.vs s) 0 = some (V.str z) := by cases s <;> exact ⟨_, rfl⟩
    obtain ⟨z0, hat⟩ := hat
    have hl2 : 2 ≤ (Stp.vs s).length ∧ (Stp.vs s).length ≤ 3 := by cases s <;> simp [Stp.vs]
    refine ⟨.ref b, rfl, .ref b, .ty "tuple", .type "tuple", .type "tuple", true, rfl, .ty _, .base (.tup hb), kit_ty (by decide +kernel), true, rfl, iteN (by decide) ?_⟩
    refine ⟨.ref b, rfl, b, _, rfl, .inr (SqT.of hb), 2, _, rfl, rfl, _, rfl, iteP (by rw [decide_eq_true_eq]; omega) ?_⟩
    refine ⟨_, 3, rfl, rfl, _, rfl, iteN (by rw [decide_eq_true (by omega)]; decide) ?_⟩
    refine ⟨.ref b, rfl, b, _, 0, _, rfl, rfl, SqT.of hb, hat, .str z0, .ty "str", .type "str", .type "str", true, rfl, .ty _, .base (.str z0), kit_ty (by decide +kernel), true, rfl, iteN (by decide) ?_⟩
    refine ⟨.ref b, rfl, 1, rfl, b, _, rfl, SqT.of hb, hnot, fun p hp => ⟨p, rfl, ⟨_, SqT.of upd_same⟩, fun D hD => ?_⟩⟩
    rw [hcut] at hD ⊢
    have hb1 := same_new (o := .tup ((Stp.places s).map V.int)) hp _ _ hb
    refine lc_enc (wt (xs := Stp.places s)) (Ex := fun c x _ => x = V.int c) (fun _ => true) (fun x => .bl (inR n x)) rfl yat (fun H' e => SqT.of (e _ _ upd_same)) (by cases s <;> simp [Stp.places]) hD (fun y x H2 Yc Nn hy hS hE h1 h2 => ?_) fun H1 e1 hD1 => ?_
    · subst hE
      exact ⟨rfl, .int y, rfl, .int n, rfl, y, 1, n, rfl, h1 _ (Same.refl _) rfl⟩
    have hb2 := e1 _ _ hb1
    have eS := (same_new hp).trans e1
    have hbs : ((Stp.places s).filter (fun _ => true)).map (fun x => V.bl (inR n x)) = ((Stp.places s).map (inR n)).map V.bl := by
      rw [List.filter_eq_self.mpr (fun _ _ => rfl), List.map_map]
      rfl
    rw [hbs] at hD1
    refine ⟨D, _, rfl, SqL.of hD1, _, rfl, ite2 (fun h => ?_) fun h => ?_⟩
    · have e : s.ok n = false := by
        cases s <;> simp [Stp.places, Stp.ok, inR] at h ⊢ <;> omega
      rw [e] at q
      exact q _ eS
    · cases s with
      | turn i =>
        have e : Stp.ok n (.turn i) = true := by
          simp [Stp.places, Stp.ok, inR] at h ⊢
          omega
        rw [e] at q
        refine ⟨.ref b, rfl, b, _, rfl, .inr (SqT.of hb2), rfl, _, rfl, iteP (decide_eq_true rfl) ?_⟩
        exact ⟨.ref b, rfl, b, _, 0, _, rfl, rfl, SqT.of hb2, rfl, rfl, q _ eS⟩
      | exch i j =>
        refine ⟨.ref b, rfl, b, _, rfl, .inr (SqT.of hb2), rfl, _, rfl, iteN (fun h => absurd (V.int.inj (of_decide_eq_true h)) (by show ¬ ((3 : Nat) : Int) = 2; decide)) ?_⟩
        refine ⟨.ref b, rfl, b, _, 0, _, rfl, rfl, SqT.of hb2, rfl, by show 2 ≤ sizeLine; decide, fun t ht => ?_⟩
        have hb3 := same_new (o := .tup [.str "exchange", .str "cross"]) ht _ _ hb2
        refine ⟨t, _, rfl, .inr (SqT.of upd_same), rfl, rfl, true, rfl, iteT ?_⟩
        refine ⟨.ref b, rfl, b, _, 1, _, rfl, rfl, SqT.of hb3, rfl, .ref b, rfl, b, _, 2, _, rfl, rfl, SqT.of hb3, rfl, rfl, ?_⟩
        have e : Stp.ok n (.exch i j) = !decide (V.int (i : Int) = V.int (j : Int)) := by
          rw [Bool.eq_iff_iff]
          simp [Stp.places, Stp.ok, inR] at h ⊢
          omega
        rw [e] at q
        exact q _ (eS.trans (same_new ht))
      | cross i j =>
        refine ⟨.ref b, rfl, b, _, rfl, .inr (SqT.of hb2), rfl, _, rfl, iteN (fun h => absurd (V.int.inj (of_decide_eq_true h)) (by show ¬ ((3 : Nat) : Int) = 2; decide)) ?_⟩
        refine ⟨.ref b, rfl, b, _, 0, _, rfl, rfl, SqT.of hb2, rfl, by show 2 ≤ sizeLine; decide, fun t ht => ?_⟩
        have hb3 := same_new (o := .tup [.str "exchange", .str "cross"]) ht _ _ hb2
        refine ⟨t, _, rfl, .inr (SqT.of upd_same), rfl, rfl, true, rfl, iteT ?_⟩
        refine ⟨.ref b, rfl, b, _, 1, _, rfl, rfl, SqT.of hb3, rfl, .ref b, rfl, b, _, 2, _, rfl, rfl, SqT.of hb3, rfl, rfl, ?_⟩
        have e : Stp.ok n (.cross i j) = !decide (V.int (i : Int) = V.int (j : Int)) := by
          rw [Bool.eq_iff_iff]
          simp [Stp.places, Stp.ok, inR] at h ⊢
          omega
        rw [e] at q
        exact q _ (eS.trans (same_new ht))
theorem c_is_free_step (W : Wd w K mg) : Cal P w K mg base CX0 3 "is_free_step" (d_is_free_step.at_ K) sp_is_free_step := ⟨ok_is_free_step W, W.g_is_free_step, W.f_is_free_step.kp⟩
end
end Tc
namespace Tc
open PySem PySem.Spec PyProof.Rows L2 He He5 Mi
def nV (n : Nat) : V := .int (n : Int)
/-- two lists, item by item -/
def Al {α β : Type} (R : α → β → Prop) (vs : List α) (cs : List β) : Prop := vs.length = cs.length ∧ ∀ (i : Nat) (v : α) (c : β), vs[i]? = some v → cs[i]? = some c → R v c
theorem Al.nil {α β : Type} {R : α → β → Prop} : Al R [] [] := ⟨rfl, fun i v c h => by simp at h⟩
theorem Al.mono {α β : Type} {R R' : α → β → Prop} {vs : List α} {cs : List β} (h : Al R vs cs) (k : ∀ v c, R v c → R' v c) : Al R' vs cs := ⟨h.1, fun i v c e1 e2 => k v c (h.2 i v c e1 e2)⟩
theorem Al.snoc {α β : Type} {R : α → β → Prop} {vs : List α} {cs : List β} {v : α} {c : β} (h : Al R vs cs) (k : R v c) : Al R (vs ++ [v]) (cs ++ [c]) := by
  refine ⟨by rw [List.length_append, List.length_append, h.1]; rfl, fun i v' c' e1 e2 => ?_⟩
  by_cases hi : i < vs.length
  · rw [List.getElem?_append_left hi] at e1
    rw [List.getElem?_append_left (by rw [← h.1]; exact hi)] at e2
    exact h.2 i v' c' e1 e2
  · rw [List.getElem?_append_right (by omega)] at e1
    rw [List.getElem?_append_right (by rw [← h.1]; omega), ← h.1] at e2
    have : i - vs.length = 0 := by
      by_cases z : i - vs.length = 0
      · exact z
      · rw [List.getElem?_eq_none (by show 1 ≤ _; omega)] at e1
        cases e1
    rw [this] at e1 e2
    have h1 : v = v' := Option.some.inj e1
    have h2 : c = c' := Option.some.inj e2
    rw [← h1, ← h2]
    exact k
/-- a cycle: a tuple of a list of places and a number; the list is none of Z -/
def CycAt (Z : List Addr) (H : Hp) (v : V) (c : List Nat × Nat) : Prop := ∃ t l, v = .ref t ∧ H t = some (.tup [.ref l, .int (c.2 : Int)]) ∧ H l = some (.lst (c.1.map nV)) ∧ l ∉ Z
theorem CycAt.same {Z : List Addr} {H H' : Hp} (e : Same H H') {v : V} {c : List Nat × Nat} (h : CycAt Z H v c) : CycAt Z H' v c := let ⟨t, l, h1, h2, h3, h4⟩ := h; ⟨t, l, h1, e _ _ h2, e _ _ h3, h4⟩
theorem CycAt.mut {Z : List Addr} {H : Hp} {a : Addr} {xs ys : List V} (ha : a ∈ Z) (h0 : H a = some (.lst xs)) {v : V} {c : List Nat × Nat} (h : CycAt Z H v c) : CycAt Z (upd H a (.lst ys)) v c := by
  obtain ⟨t, l, h1, h2, h3, h4⟩ := h
  refine ⟨t, l, h1, ?_, ?_, h4⟩
  · rw [upd_ne (fun e => by rw [e, h0] at h2; cases h2)]
    exact h2
  · rw [upd_ne (fun e => h4 (by rw [e]; exact ha))]
    exact h3
theorem CycAt.more {Z : List Addr} {H : Hp} {p : Addr} (hp : H p = none) {v : V} {c : List Nat × Nat} (h : CycAt Z H v c) : CycAt (p :: Z) H v c := by
  obtain ⟨t, l, h1, h2, h3, h4⟩ := h
  refine ⟨t, l, h1, h2, h3, fun hm => ?_⟩
  rcases List.mem_cons.mp hm with e | e
  · rw [e, hp] at h3
    cases h3
  · exact h4 e
theorem CycAt.less {Z : List Addr} {H : Hp} {p : Addr} {v : V} {c : List Nat × Nat} (h : CycAt (p :: Z) H v c) : CycAt Z H v c := let ⟨t, l, h1, h2, h3, h4⟩ := h; ⟨t, l, h1, h2, h3, fun hm => h4 (List.mem_cons_of_mem _ hm)⟩
/-! falses -/
def fls (l : List Bool) : Nat := l.count false
theorem fls_set : ∀ (l : List Bool) (i : Nat), l[i]? = some false → fls (l.set i true) + 1 = fls l
  | [], i, h => by simp at h
  | b :: l, 0, h => by
    have e : b = false := Option.some.inj h
    subst e
    show List.count false (true :: l) + 1 = List.count false (false :: l)
    rw [List.count_cons, List.count_cons]
    rfl
  | b :: l, i + 1, h => by
    have ih := fls_set l i h
    show List.count false (b :: l.set i true) + 1 = List.count false (b :: l)
    rw [List.count_cons, List.count_cons]
    unfold fls at ih
    omega
theorem fls_pos {l : List Bool} {i : Nat} (h : l[i]? = some false) : 0 < fls l := by
  have := fls_set l i h
  omega
theorem fls_le (l : List Bool) : fls l ≤ l.length := List.count_le_length
theorem cyw_len (r : Mi.Row) : ∀ (f : Nat) (seen : List Bool) (p : Nat) (acc : List Nat), (cyw r f seen p acc).1.length = seen.length
  | 0, _, _, _ => rfl
  | f + 1, seen, p, acc => by
    unfold cyw
    by_cases h : seen.getD (p - 1) true = true
    · rw [if_pos h]
    · rw [if_neg h, cyw_len r f]
      exact List.length_set
theorem cyStep_len (r : Mi.Row) (st : List Bool × List (List Nat × Nat)) (s : Nat) : (cyStep r st s).1.length = st.1.length := by
  unfold cyStep
  by_cases h : st.1.getD (s - 1) true = true
  · rw [if_pos h]
  · rw [if_neg h]
    exact cyw_len ..
theorem cyRun_succ (r : Mi.Row) (k : Nat) : cyRun r (k + 1) = cyStep r (cyRun r k) (k + 1) := by
  unfold cyRun
  rw [List.range_succ, List.map_append, List.foldl_append]
  rfl
theorem cyRun_len (r : Mi.Row) : ∀ k, (cyRun r k).1.length = r.length
  | 0 => List.length_map _
  | k + 1 => by rw [cyRun_succ, cyStep_len, cyRun_len r k]
theorem cyStep_res (r : Mi.Row) (st : List Bool × List (List Nat × Nat)) (s : Nat) : (cyStep r st s).2.length ≤ st.2.length + 1 := by
  unfold cyStep
  by_cases h : st.1.getD (s - 1) true = true
  · rw [if_pos h]
    omega
  · rw [if_neg h, List.length_append]
    exact Nat.le_refl _
theorem cyRun_res (r : Mi.Row) : ∀ k, (cyRun r k).2.length ≤ k
  | 0 => Nat.le_refl 0
  | k + 1 => by
    rw [cyRun_succ]
    have := cyStep_res r (cyRun r k) (k + 1)
    have := cyRun_res r k
    omega
theorem cyw_acc (r : Mi.Row) : ∀ (f : Nat) (seen : List Bool) (p : Nat) (acc : List Nat), (cyw r f seen p acc).2.length ≤ acc.length + f
  | 0, _, _, _ => Nat.le_refl _
  | f + 1, seen, p, acc => by
    unfold cyw
    by_cases h : seen.getD (p - 1) true = true
    · rw [if_pos h]
      exact Nat.le_add_right _ _
    · rw [if_neg h]
      have := cyw_acc r f (seen.set (p - 1) true) ((r.getD (p - 1) 0).natAbs) (acc ++ [p])
      rw [List.length_append] at this
      show _ ≤ _
      have e : [p].length = 1 := rfl
      omega
/-- places stay in the row -/
theorem cyw_in (r : Mi.Row) (hV : Vr r) : ∀ (f : Nat) (seen : List Bool) (p : Nat) (acc : List Nat), 1 ≤ p → p ≤ r.length → (∀ x ∈ acc, 1 ≤ x ∧ x ≤ r.length) → ∀ x ∈ (cyw r f seen p acc).2, 1 ≤ x ∧ x ≤ r.length
  | 0, _, _, _, _, _, h => h
  | f + 1, seen, p, acc, h1, h2, h => by
    unfold cyw
    by_cases hh : seen.getD (p - 1) true = true
    · rw [if_pos hh]
      exact h
    · rw [if_neg hh]
      have hm : r.getD (p - 1) 0 ∈ r := by
        have hlt : p - 1 < r.length := by omega
        rw [List.getD_eq_getElem?_getD, List.getElem?_eq_getElem hlt]
        exact List.getElem_mem hlt
      have hx := hV.each _ hm
      refine cyw_in r hV f _ _ _ hx.1 hx.2 fun x hx2 => ?_
      rcases List.mem_append.mp hx2 with z | z
      · exact h x z
      · rw [List.mem_singleton.mp z]
        exact ⟨h1, h2⟩
theorem vr_next {r : Mi.Row} (hV : Vr r) {p : Nat} (h1 : 1 ≤ p) (h2 : p ≤ r.length) : 1 ≤ (r.getD (p - 1) 0).natAbs ∧ (r.getD (p - 1) 0).natAbs ≤ r.length := by
  have hlt : p - 1 < r.length := by omega
  refine hV.each _ ?_
  rw [List.getD_eq_getElem?_getD, List.getElem?_eq_getElem hlt]
  exact List.getElem_mem hlt
theorem getD_bl {l : List Bool} {i : Nat} (h : i < l.length) : (l.map V.bl)[i]? = some (.bl (l.getD i true)) := by
  rw [List.getElem?_map, List.getElem?_eq_getElem h, List.getD_eq_getElem?_getD, List.getElem?_eq_getElem h]
  rfl
theorem atI_gen {xs : List V} {i : Int} {j : Nat} {v : V} (e : i = (j : Int)) (h : xs[j]? = some v) : atI xs i = some v := by
  rw [e]
  exact atI_nat h
theorem absI (x : Int) : (if x < 0 then -x else x) = (x.natAbs : Int) := by
  split <;> omega
section
variable {P : Program} {w : World} {K : PySem.W.Frag} {mg : Str → Option Value} {base : Heap}
def sp_cycle_lists (K : PySem.W.Frag) : Sp := fun vs H Q _ => ∃ a r, vs = [.ref a] ∧ H a = some (.tup (r.map V.int)) ∧ Vr r ∧ ∀ H' p cs, Same H H' → H p = none → H' p = some (.lst cs) → Al (CycAt [] H') cs (cycs r) → Q (.ref p) H'
abbrev N_cycle_lists : List Str := ["row", "seen", "result", "start", "places", "place", "card"]
theorem sc_cycle_lists : FnScope N_cycle_lists ["row"] d_cycle_lists.scope := ⟨rfl, rfl, rfl, by decide +kernel, rfl, by decide +kernel, by decide +kernel⟩
theorem ok_cycle_lists (W : Wd w K mg) : FnR P w K mg base CX0 1 (d_cycle_lists.at_ K) (sp_cycle_lists K) := by
  refine fnr0 W.f_cycle_lists sc_cycle_lists (fun vs H Q E h => ?_) (fun _ _ _ _ _ _ us hl => match us, hl with | [_], _ => rfl) (fun cdv A outer s H vs Q E hr h => ?_)
  · obtain ⟨a, r, rfl, ha, hV, q⟩ := h
    rfl
  · obtain ⟨a, r, rfl, ha, hV, q⟩ := h
    refine ⟨_, (pss_cons (ps_setLc (i := 1) (own := [("card", 6)]) (g := gName 6) rfl sc_cycle_lists.nd rfl rfl (sw_true rfl rfl rfl (by decide +kernel)) (pi_tup (pv 0)) (blkOk_by (own := [("card", 6)]) (N := N_cycle_lists) (sc := d_cycle_lists.scope) (by decide +kernel)) (fun _ _ _ _ _ => (pg_name (i := 6) sc_cycle_lists.nd rfl (by first | exact Or.inl rfl | exact Or.inr rfl))) (fun _ _ _ _ _ => pts_nil) (fun _ _ _ _ _ => pe_bl))
      (pss_cons (ps_set (i := 2) sc_cycle_lists.nd rfl (by first | exact Or.inl rfl | exact Or.inr rfl) (pe_lst pa_nil))
      (pss_cons (ps_for PassesOwn.never rfl (pi_range2 rfl W.z_range (pa_cons pe_int (pa_cons (pe_op op_add (pe_callB call_len_seq (by rfl) W.z_len PySem.boot_len (pa_cons (pv 0) pa_nil)) pe_int) pa_nil))) (pg_name (i := 3) sc_cycle_lists.nd rfl (by first | exact Or.inl rfl | exact Or.inr rfl)) (pss_one (ps_if (pt_not (pt_val (pe_ix (show IxR _ (rIxL K) from ix_list) (pv 1) (pe_op op_sub (pv 3) pe_int) (fun _ _ => rfl)))) (pss_cons (ps_set (i := 4) sc_cycle_lists.nd rfl (by first | exact Or.inl rfl | exact Or.inr rfl) (pe_lst pa_nil))
      (pss_cons (ps_set (i := 5) sc_cycle_lists.nd rfl (by first | exact Or.inl rfl | exact Or.inr rfl) (pv 3))
      (pss_cons (ps_while PassesOwn.never (pt_not (pt_val (pe_ix (show IxR _ (rIxL K) from ix_list) (pv 1) (pe_op op_sub (pv 5) pe_int) (fun _ _ => rfl)))) (pss_cons (ps_asg pe_bl (pg_sub (pv 1) (pe_op op_sub (pv 5) pe_int) set_list))
      (pss_cons (ps_expr (pe_bm PySem.F.plainAttrs_list PySem.F.slot_list_append PySem.F.type_list_append mt_append (pv 4) (pa_cons (pv 5) pa_nil)))
      (pss_one (ps_set (i := 5) sc_cycle_lists.nd rfl (by first | exact Or.inl rfl | exact Or.inr rfl) (pe_callB call_abs (by rfl) W.z_abs boot_abs (pa_cons (pe_ix (show IxR _ (rIxT K) from ix_tup) (pv 0) (pe_op op_sub (pv 5) pe_int) (fun _ _ => rfl)) pa_nil)))))))
      (pss_one (ps_expr (pe_bm PySem.F.plainAttrs_list PySem.F.slot_list_append PySem.F.type_list_append mt_append (pv 2) (pa_cons (pe_tup (pa_cons (pv 4) (pa_cons (pe_callB call_len_seq (by rfl) W.z_len PySem.boot_len (pa_cons (pe_lc (own := [("place", 5)]) (g := gName 5) rfl sc_cycle_lists.nd (pi_list (pv 4)) (blkOk_by (own := [("place", 5)]) (N := N_cycle_lists) (sc := d_cycle_lists.scope) (by decide +kernel)) (fun _ _ _ _ _ => (pg_name (i := 5) sc_cycle_lists.nd rfl (by first | exact Or.inl rfl | exact Or.inr rfl))) (fun _ _ _ _ _ => (pts_one (pt_cmpR op_lt (pe_ix (show IxR _ (rIxT K) from ix_tup) (pv 0) (pe_op op_sub (pv 5) pe_int) (fun _ _ => rfl)) pe_int (nomark _)))) (fun _ _ _ _ _ => (pv 5))) pa_nil)) pa_nil))) pa_nil))))))) pss_nil)))
      (pss_one (ps_ret (pv 2)))))), ?_⟩
    refine ⟨.ref a, rfl, a, rfl, ⟨_, SqT.of ha⟩, fun D hD => lc_enc (wt (xs := r)) (Ex := fun c x _ => x = V.int c) (fun _ => true) (fun _ => V.bl false) rfl yat (fun H' e => SqT.of (e _ _ ha)) (vr_len hV) hD (fun y x H2 Yc Nn hy hS hE h1 h2 => ⟨rfl, h1 _ (Same.refl _) rfl⟩) fun H1 e1 hD1 => ?_⟩
    have ed : (r.filter (fun _ => true)).map (fun _ => V.bl false) = (cyRun r 0).1.map V.bl := by
      rw [List.filter_eq_self.mpr (fun _ _ => rfl)]
      show _ = List.map V.bl (r.map fun _ => false)
      rw [List.map_map]
      rfl
    rw [ed] at hD1
    refine ⟨Nat.zero_le _, fun o ho => ?_⟩
    have hoD : o ≠ D := fun e => by rw [e, hD1] at ho; cases ho
    have e2 : Same H (upd H1 o (.lst [])) := e1.trans (same_new ho)
    refine ⟨.ref a, rfl, a, _, rfl, .inr (SqT.of (e2 _ _ ha)), _, _, rfl, rfl, 1, _, rfl, ⟨by decide, by decide, by rw [len_map]; omega, by rw [len_map]; have := hV.most; omega⟩, ?_⟩
    rw [show ((((r.map V.int).length : Int) + 1) - 1).toNat = r.length by rw [len_map]; omega]
    have hDo : D ≠ o := fun e => hoD e.symm
    refine for_range (lo := 1) (n := r.length) (fun i σ H3 => ∃ vs y3 y4 y5 y6, σ = [some (.ref a), some (.ref D), some (.ref o), y3, y4, y5, y6] ∧ Same H H3 ∧ H3 D = some (.lst ((cyRun r i).1.map V.bl)) ∧ H3 o = some (.lst vs) ∧ Al (CycAt [D, o] H3) vs (cyRun r i).2)
      ⟨[], _, _, _, _, rfl, e2, by rw [upd_ne hDo]; exact hD1, upd_same, Al.nil⟩ (fun i σ H3 hi hI => ?_) (fun σ H3 hI => ?_)
    · obtain ⟨vs, y3, y4, y5, y6, rfl, e3, hD3, ho3, hA⟩ := hI
      have hsl := cyRun_len r i
      have hres := cyRun_res r i
      have hrun := cyRun_succ r i
      generalize hst : cyRun r i = st at *
      obtain ⟨seen, res⟩ := st
      have hat : atI (seen.map V.bl) ((1 : Int) + i - 1) = some (.bl (seen.getD i true)) := atI_gen (j := i) (by omega) (getD_bl (by rw [hsl]; exact hi))
      refine ⟨.ref D, rfl, .int _, rfl, _, _, rfl, rfl, D, _, _, _, rfl, rfl, SqL.of hD3, hat, _, rfl, ite2 (fun hc => ?_) fun hc => ?_⟩
      · -- not seen
        have hc0 : seen.getD i true = false := by simpa using hc
        refine ⟨Nat.zero_le _, fun pl hpl => ?_⟩
        have hplD : pl ≠ D := fun e => by rw [e, hD3] at hpl; cases hpl
        have hplo : pl ≠ o := fun e => by rw [e, ho3] at hpl; cases hpl
        have e4 : Same H (upd H3 pl (.lst [])) := e3.trans (same_new hpl)
        have hplH : H pl = none := e3.free hpl
        refine ⟨.int _, rfl, ?_⟩
        refine ⟨fun m σ' H5 => ∃ f sn p acc, fls sn = m ∧ σ' = [some (.ref a), some (.ref D), some (.ref o), some (.int ((1 : Int) + i)), some (.ref pl), some (nV p), y6] ∧ Same H H5 ∧ H5 D = some (.lst (sn.map V.bl)) ∧ H5 o = some (.lst vs) ∧ H5 pl = some (.lst (acc.map nV)) ∧
          Al (CycAt [pl, D, o] H5) vs res ∧ sn.length = r.length ∧ 1 ≤ p ∧ p ≤ r.length ∧ fls sn ≤ f ∧ acc.length + f ≤ r.length ∧ cyw r f sn p acc = cyw r r.length seen (i + 1) [],
          ⟨_, r.length, seen, i + 1, [], rfl, ?_, e4, ?_, ?_, upd_same, ?_, hsl, by omega, by omega, ?_, by show 0 + _ ≤ _; omega, rfl⟩, fun m σ' H5 hJ => ?_⟩
        · show _ = [_, _, _, _, _, some (V.int ((i + 1 : Nat) : Int)), _]
          rw [show ((i + 1 : Nat) : Int) = (1 : Int) + i by omega]
          rfl
        · rw [upd_ne hplD.symm]
          exact hD3
        · rw [upd_ne hplo.symm]
          exact ho3
        · exact (hA.mono fun v c h => (CycAt.more hpl h).same (same_new hpl))
        · rw [← hsl]
          exact fls_le seen
        · obtain ⟨f, sn, p, acc, rfl, rfl, e5, hD5, ho5, hp5, hA5, hsn, hp1, hp2, hf, hacc, heq⟩ := hJ
          have hat5 : atI (sn.map V.bl) ((p : Int) - 1) = some (.bl (sn.getD (p - 1) true)) := atI_gen (j := p - 1) (by omega) (getD_bl (by omega))
          refine ⟨.ref D, rfl, nV p, rfl, _, _, rfl, rfl, D, _, _, _, rfl, rfl, SqL.of hD5, hat5, _, rfl, ite2 (fun hc => ?_) fun hc => ?_⟩
          · have hc1 : sn.getD (p - 1) true = false := by simpa using hc
            have hget : sn[p - 1]? = some false := by
              rw [List.getD_eq_getElem?_getD] at hc1
              rw [List.getElem?_eq_getElem (by omega : p - 1 < sn.length)] at hc1 ⊢
              exact congrArg some hc1
            have hfs := fls_set sn (p - 1) hget
            obtain ⟨f, rfl⟩ : ∃ f', f = f' + 1 := ⟨f - 1, by omega⟩
            have hstep : cyw r (f + 1) sn p acc = cyw r f (sn.set (p - 1) true) ((r.getD (p - 1) 0).natAbs) (acc ++ [p]) := if_neg (by rw [hc1]; decide)
            have hnx := vr_next hV hp1 hp2
            refine ⟨fun σ2 H6 => σ2 = [some (.ref a), some (.ref D), some (.ref o), some (.int ((1 : Int) + i)), some (.ref pl), some (nV (r.getD (p - 1) 0).natAbs), y6] ∧ H6 = upd (upd H5 D (.lst ((sn.set (p - 1) true).map V.bl))) pl (.lst ((acc ++ [p]).map nV)), fun σ2 H6 hN => ?_, ?_⟩
            · obtain ⟨rfl, rfl⟩ := hN
              refine ⟨_, (by omega : fls (sn.set (p - 1) true) < fls sn), f, _, _, _, rfl, rfl, same_mut (same_mut e5 hD) hplH, ?_, ?_, upd_same, ?_, ?_, hnx.1, hnx.2, by omega, ?_, ?_⟩
              · rw [upd_ne hplD.symm, upd_same]
              · rw [upd_ne hplo.symm, upd_ne hoD]
                exact ho5
              · refine hA5.mono fun v c h => ?_
                have h6 := h.mut (by simp) hD5 (ys := (sn.set (p - 1) true).map V.bl)
                exact h6.mut (by simp) (by rw [upd_ne hplD]; exact hp5)
              · rw [List.length_set]
                exact hsn
              · rw [List.length_append]
                show acc.length + 1 + f ≤ _
                omega
              · rw [← hstep]
                exact heq
            · have hset : (sn.map V.bl).set (p - 1) (V.bl true) = (sn.set (p - 1) true).map V.bl := by rw [List.map_set]
              refine ⟨.ref D, rfl, nV p, rfl, _, 1, rfl, rfl, D, _, _, p - 1, rfl, rfl, hD5, ?_, ?_⟩
              · rw [List.length_map, show ((p : Int) - 1) = ((p - 1 : Nat) : Int) by omega]
                exact ixN_ok (by omega) (by omega)
              rw [hset]
              have hp6 : upd H5 D (.lst ((sn.set (p - 1) true).map V.bl)) pl = some (.lst (acc.map nV)) := by
                rw [upd_ne hplD]
                exact hp5
              refine ⟨.ref pl, rfl, .inl ⟨rfl, _, .inl (.inl hp6)⟩, nV p, rfl, pl, _, _, rfl, rfl, hp6, ?_, ?_⟩
              · rw [List.length_map]
                have := hV.most
                exact small1k (by omega)
              have happ : acc.map nV ++ [nV p] = (acc ++ [p]).map nV := by rw [List.map_append]; rfl
              rw [happ]
              have hadr : ∀ H7, H7 = upd (upd H5 D (.lst ((sn.set (p - 1) true).map V.bl))) pl (.lst ((acc ++ [p]).map nV)) → H7 a = some (.tup (r.map V.int)) := fun H7 e => by
                rw [e]
                exact same_mut (same_mut e5 hD) hplH _ _ ha
              refine ⟨.ref a, rfl, nV p, rfl, _, 1, rfl, rfl, a, _, _, _, rfl, rfl, SqT.of (hadr _ rfl), atI_int (by omega) (by omega), _, rfl, ?_, rfl⟩
              show [_, _, _, _, _, some (V.int _), _] = _
              rw [absI, show ((p : Int) - 1).toNat = p - 1 by omega]
              rfl
          · have hc1 : sn.getD (p - 1) true = true := by simpa using hc
            have hend : cyw r f sn p acc = (sn, acc) := by
              cases f with
              | zero => rfl
              | succ f => exact if_pos hc1
            rw [hend] at heq
            have hin : ∀ x ∈ acc, 1 ≤ x ∧ x ≤ r.length := by
              have h := cyw_in r hV r.length seen (i + 1) [] (by omega) (by omega) (fun x h => absurd h List.not_mem_nil)
              rw [← heq] at h
              exact h
            refine ⟨.ref o, rfl, .inl ⟨rfl, _, .inl (.inl ho5)⟩, .ref pl, rfl, .ref pl, rfl, pl, rfl, ⟨_, SqL.of hp5⟩, fun D2 hD2 => lc_enc (wl (xs := acc)) (Ex := fun c x _ => x = nV c) (fun p => decide (r.getD (p - 1) 0 < 0)) nV rfl yat (fun H' e => SqL.of (e _ _ hp5)) (by have := hV.most; omega) hD2 (fun y x H2 Yc Nn hy hS hE h1 h2 => ?_) fun H7 e7 hD7 => ?_⟩
            · subst hE
              have hy2 := hin y hy
              refine ⟨rfl, .ref a, rfl, nV y, rfl, _, 1, rfl, rfl, a, _, _, _, rfl, rfl, SqT.of (hS _ _ (e5 _ _ ha)), atI_int (by omega) (by omega), _, 0, rfl, rfl, _, rfl, ?_⟩
              rw [show ((y : Int) - 1).toNat = y - 1 by omega]
              refine ite2 (fun h => ?_) fun h => ?_
              · exact ⟨nV y, rfl, h1 _ (Same.refl _) h⟩
              · exact h2 _ (Same.refl _) (Bool.eq_false_iff.mpr h)
            refine ⟨D2, _, rfl, .inl (SqL.of hD7), by show 2 ≤ sizeLine; decide, fun t ht => ?_⟩
            have e8 := e7.trans (same_new (o := .tup [.ref pl, .int ((List.map nV (acc.filter fun p => decide (r.getD (p - 1) 0 < 0))).length : Int)]) ht)
            have ho8 := e8 _ _ ho5
            refine ⟨o, _, _, rfl, rfl, ho8, ?_, ?_⟩
            · rw [hA5.1]
              have := hV.most
              have hres' : res.length ≤ i := hres
              exact small1k (by omega)
            have hst2 : cyStep r (seen, res) (i + 1) = (sn, res ++ [(acc, negs r acc)]) := by
              show (if seen.getD i true = true then _ else _) = _
              rw [if_neg (by rw [hc0]; decide), ← heq]
            rw [hst2] at hrun
            rw [hrun]
            refine ⟨_, _, _, _, _, rfl, same_mut (e5.trans e8) (e1.free ho), ?_, upd_same, Al.snoc (hA5.mono fun v c h => ?_) ?_⟩
            · rw [upd_ne hDo]
              exact e8 _ _ hD5
            · exact ((h.same e8).less).mut (by simp) ho8
            · refine ⟨t, pl, rfl, ?_, ?_, by simp [hplD, hplo]⟩
              · rw [upd_ne (fun e => by rw [e, e7 _ _ ho5] at ht; cases ht), upd_same]
                rw [List.length_map]
                rfl
              · rw [upd_ne hplo]
                exact e8 _ _ hp5
      · -- seen
        have hc0 : seen.getD i true = true := by simpa using hc
        have hst2 : cyStep r (seen, res) (i + 1) = (seen, res) := if_pos hc0
        rw [hst2] at hrun
        rw [hrun]
        exact ⟨vs, _, _, _, _, rfl, e3, hD3, ho3, hA⟩
    · obtain ⟨vs, y3, y4, y5, y6, rfl, e3, hD3, ho3, hA⟩ := hI
      refine ⟨.ref o, rfl, q _ o vs e3 (e1.free ho) ho3 (hA.mono fun v c h => h.less.less)⟩
theorem c_cycle_lists (W : Wd w K mg) : Cal P w K mg base CX0 1 "cycle_lists" (d_cycle_lists.at_ K) (sp_cycle_lists K) := ⟨ok_cycle_lists W, W.g_cycle_lists, W.f_cycle_lists.kp⟩
end
end Tc
namespace Tc
open PySem PySem.Spec PyProof.Rows L2 He He5 Mi
/-! data of ints -/
theorem dp_ints {K : PySem.W.Frag} {H : Hp} : ∀ ns : List Int, DpAll K H (ns.map V.int) (ns.map PyData.int)
  | [] => .nil
  | n :: ns => .cons (.int n) (dp_ints ns)
theorem lay_ints : ∀ ns : List Int, PyData.canLayAll0 (ns.map PyData.int) = true
  | [] => by simp only [List.map_nil, PyData.canLayAll0]
  | n :: ns => by simp only [List.map_cons, PyData.canLayAll0, PyData.canLay0, lay_ints ns, Bool.and_self]
theorem dep_ints : ∀ ns : List Int, PyData.depthAll (ns.map PyData.int) = 0
  | [] => by simp only [List.map_nil, PyData.depthAll]
  | n :: ns => by simp only [List.map_cons, PyData.depthAll, PyData.depth, dep_ints ns, Nat.max_self]
theorem sh_listI (ns : List Int) : SeqAt.shaped (.list (ns.map PyData.int)) = true := by
  unfold SeqAt.shaped
  simp only [PyData.canLay0, PyData.depth, lay_ints, dep_ints, Bool.true_and]
  decide
theorem sh_tupI (ns : List Int) : SeqAt.shaped (.tuple (ns.map PyData.int)) = true := by
  unfold SeqAt.shaped
  simp only [PyData.canLay0, PyData.depth, lay_ints, dep_ints, Bool.true_and]
  decide
theorem eqv_ints : ∀ a b : List Int, PyData.eqvAll (a.map PyData.int) (b.map PyData.int) = decide (a = b)
  | [], [] => by simp [PyData.eqvAll]
  | x :: a, [] => by simp [PyData.eqvAll]
  | [], y :: b => by simp [PyData.eqvAll]
  | x :: a, y :: b => by
    have ih := eqv_ints a b
    simp only [List.map_cons, PyData.eqvAll, PyData.eqv, ih]
    by_cases h : x = y
    · subst h
      simp
    · simp [h]
theorem map_nV (ps : List Nat) : ps.map nV = (ps.map fun p : Nat => (p : Int)).map V.int := by
  rw [List.map_map]
  rfl
theorem inV_nat (p : Nat) (ps : List Nat) : inV (nV p) (ps.map nV) = decide (p ∈ ps) := by
  unfold inV
  induction ps with
  | nil => rfl
  | cons x ps ih =>
    rw [List.map_cons, List.any_cons, ih]
    have e : eqV (nV x) (nV p) = decide (x = p) := by
      show decide ((x : Int) = (p : Int)) = _
      by_cases h : x = p
      · subst h
        simp
      · rw [decide_eq_false h, decide_eq_false (by omega)]
    rw [e]
    by_cases h : x = p
    · subst h
      simp
    · have h' : ¬ p = x := fun z => h z.symm
      simp [h, h']
/-! places not seen -/
def blk (n : Nat) (seen : List Nat) : List Bool := (List.range n).map fun j => decide (j + 1 ∈ seen)
theorem blk_len (n : Nat) (seen : List Nat) : (blk n seen).length = n := by
  unfold blk
  rw [List.length_map, List.length_range]
theorem blk_get {n : Nat} {seen : List Nat} {p : Nat} (h1 : 1 ≤ p) (h2 : p ≤ n) (h : p ∉ seen) : (blk n seen)[p - 1]? = some false := by
  unfold blk
  rw [List.getElem?_map, List.getElem?_range (by omega)]
  show some (decide (p - 1 + 1 ∈ seen)) = _
  rw [show p - 1 + 1 = p by omega, decide_eq_false h]
theorem blk_add {n : Nat} {seen : List Nat} {p : Nat} (h1 : 1 ≤ p) (h2 : p ≤ n) : blk n (seen ++ [p]) = (blk n seen).set (p - 1) true := by
  refine List.ext_getElem? fun i => ?_
  unfold blk
  by_cases hi : i < n
  · rw [List.getElem?_map, List.getElem?_range hi, List.getElem?_set, List.getElem?_map, List.getElem?_range hi, List.length_map, List.length_range]
    by_cases h : p - 1 = i
    · rw [if_pos h, if_pos (by omega)]
      have : i + 1 = p := by omega
      simp [this]
    · rw [if_neg h]
      have : ¬ (i + 1 = p) := by omega
      simp [this]
  · rw [List.getElem?_eq_none (by rw [List.length_map, List.length_range]; omega), List.getElem?_eq_none (by rw [List.length_set, List.length_map, List.length_range]; omega)]
theorem lcRun_succ (r : Mi.Row) (k : Nat) : lcRun r (k + 1) = lcStep r (lcRun r k) (k + 1) := by
  unfold lcRun
  rw [List.range_succ, List.map_append, List.foldl_append]
  rfl
theorem lcStep_res (r : Mi.Row) (st : List Nat × List (Nat × List Nat)) (s : Nat) : (lcStep r st s).2.length ≤ st.2.length + 1 := by
  unfold lcStep
  dsimp only
  split
  · omega
  · rw [List.length_append]
    exact Nat.le_refl _
theorem lcRun_res (r : Mi.Row) : ∀ k, (lcRun r k).2.length ≤ k
  | 0 => Nat.le_refl 0
  | k + 1 => by
    rw [lcRun_succ]
    have := lcStep_res r (lcRun r k) (k + 1)
    have := lcRun_res r k
    omega
def LcAt (H : Hp) (v : V) (c : Nat × List Nat) : Prop := ∃ t x, v = .ref t ∧ H t = some (.tup [.int (c.1 : Int), x])
theorem LcAt.same {H H' : Hp} (e : Same H H') {v : V} {c : Nat × List Nat} (h : LcAt H v c) : LcAt H' v c := let ⟨t, x, h1, h2⟩ := h; ⟨t, x, h1, e _ _ h2⟩
theorem LcAt.mut {H : Hp} {a : Addr} {xs ys : List V} (h0 : H a = some (.lst xs)) {v : V} {c : Nat × List Nat} (h : LcAt H v c) : LcAt (upd H a (.lst ys)) v c := by
  obtain ⟨t, x, h1, h2⟩ := h
  refine ⟨t, x, h1, ?_⟩
  rw [upd_ne (fun e => by rw [e, h0] at h2; cases h2)]
  exact h2
section
variable {P : Program} {w : World} {K : PySem.W.Frag} {mg : Str → Option Value} {base : Heap}
def sp_l_cycles (K : PySem.W.Frag) : Sp := fun vs H Q _ => ∃ a r, vs = [.ref a] ∧ H a = some (.tup (r.map V.int)) ∧ Vr r ∧ ∀ H' p cs, Same H H' → H p = none → H' p = some (.lst cs) → Al (LcAt H') cs (lcycs r) → Q (.ref p) H'
abbrev N_l_cycles : List Str := ["_law_cards_here", "_law_seen", "_law_result", "_law_start", "_law_places", "_law_turned", "_law_place"]
theorem sc_l_cycles : FnScope N_l_cycles ["_law_cards_here"] d_l_cycles.scope := ⟨rfl, rfl, rfl, by decide +kernel, rfl, by decide +kernel, by decide +kernel⟩
theorem ok_l_cycles (W : Wd w K mg) : FnR P w K mg base CX0 1 (d_l_cycles.at_ K) (sp_l_cycles K) := by
  refine fnr0 W.f_l_cycles sc_l_cycles (fun vs H Q E h => ?_) (fun _ _ _ _ _ _ us hl => match us, hl with | [_], _ => rfl) (fun cdv A outer s H vs Q E hr h => ?_)
  · obtain ⟨a, r, rfl, ha, hV, q⟩ := h
    rfl
  · obtain ⟨a, r, rfl, ha, hV, q⟩ := h
    refine ⟨_, (pss_cons (ps_par (i := 1) (j := 2) (by rfl) sc_l_cycles.nd rfl rfl (by decide) rfl rfl (pa_cons (pe_lst pa_nil) (pa_cons (pe_lst pa_nil) pa_nil)) (by rfl))
      (pss_cons (ps_for PassesOwn.never rfl (pi_range2 rfl W.z_range (pa_cons pe_int (pa_cons (pe_op op_add (pe_callB call_len_seq (by rfl) W.z_len PySem.boot_len (pa_cons (pv 0) pa_nil)) pe_int) pa_nil))) (pg_name (i := 3) sc_l_cycles.nd rfl (by first | exact Or.inl rfl | exact Or.inr rfl)) (pss_cons (ps_par3 (i := 4) (j := 5) (l := 6) (by rfl) sc_l_cycles.nd rfl rfl rfl (by decide) (by decide) (by decide) rfl rfl rfl (pa_cons (pe_lst pa_nil) (pa_cons pe_int (pa_cons (pv 3) pa_nil))) (by rfl))
      (pss_cons (ps_while PassesOwn.never (pt_cmpR op_notIn_seq (pv 6) (pv 1) rfl) (pss_cons (ps_expr (pe_bm PySem.F.plainAttrs_list PySem.F.slot_list_append PySem.F.type_list_append mt_append (pv 1) (pa_cons (pv 6) pa_nil)))
      (pss_cons (ps_expr (pe_bm PySem.F.plainAttrs_list PySem.F.slot_list_append PySem.F.type_list_append mt_append (pv 4) (pa_cons (pv 6) pa_nil)))
      (pss_cons (ps_set (i := 5) sc_l_cycles.nd rfl (by first | exact Or.inl rfl | exact Or.inr rfl) (pe_op op_add (pv 5) (pe_callTy call_int1 (by rfl) W.z_int boot_int (pa_cons (pe_cmpR op_lt (pe_ix (show IxR _ (rIxT K) from ix_tup) (pv 0) (pe_op op_sub (pv 6) pe_int) (fun _ _ => rfl)) pe_int (nomark _)) pa_nil))))
      (pss_one (ps_set (i := 6) sc_l_cycles.nd rfl (by first | exact Or.inl rfl | exact Or.inr rfl) (pe_callB call_abs (by rfl) W.z_abs boot_abs (pa_cons (pe_ix (show IxR _ (rIxT K) from ix_tup) (pv 0) (pe_op op_sub (pv 6) pe_int) (fun _ _ => rfl)) pa_nil))))))))
      (pss_one (ps_if (pt_cmpR (op_neD hr.units) (pv 4) (pe_lst pa_nil) (nomark _)) (pss_one (ps_expr (pe_bm PySem.F.plainAttrs_list PySem.F.slot_list_append PySem.F.type_list_append mt_append (pv 2) (pa_cons (pe_tup (pa_cons (pe_op op_mod (pv 5) pe_int) (pa_cons (pv 4) pa_nil))) pa_nil)))) pss_nil)))))
      (pss_one (ps_ret (pv 2))))), ?_⟩
    refine ⟨Nat.zero_le _, fun D hD => ⟨Nat.zero_le _, fun o ho => ⟨_, _, rfl, ?_⟩⟩⟩
    have hoD : o ≠ D := fun e => by rw [e, upd_same] at ho; cases ho
    have hDo : D ≠ o := fun e => hoD e.symm
    have hoH : H o = none := (same_new hD).free ho
    have e2 : Same H (upd (upd H D (.lst [])) o (.lst [])) := (same_new hD).trans (same_new ho)
    refine ⟨.ref a, rfl, a, _, rfl, .inr (SqT.of (e2 _ _ ha)), _, _, rfl, rfl, 1, _, rfl, ⟨by decide, by decide, by rw [len_map]; omega, by rw [len_map]; have := hV.most; omega⟩, ?_⟩
    rw [show ((((r.map V.int).length : Int) + 1) - 1).toNat = r.length by rw [len_map]; omega]
    refine for_range (lo := 1) (n := r.length) (fun i σ H3 => ∃ vs y3 y4 y5 y6, σ = [some (.ref a), some (.ref D), some (.ref o), y3, y4, y5, y6] ∧ Same H H3 ∧ H3 D = some (.lst ((lcRun r i).1.map nV)) ∧ H3 o = some (.lst vs) ∧ Al (LcAt H3) vs (lcRun r i).2 ∧ (lcRun r i).1.length + fls (blk r.length (lcRun r i).1) = r.length)
      ⟨[], _, _, _, _, rfl, e2, by rw [upd_ne hDo, upd_same]; rfl, upd_same, Al.nil, ?_⟩ (fun i σ H3 hi hI => ?_) (fun σ H3 hI => ?_)
    · show 0 + fls (blk r.length []) = _
      unfold blk
      rw [Nat.zero_add]
      unfold fls
      rw [List.count_eq_length.mpr, List.length_map, List.length_range]
      intro b hb
      obtain ⟨j, _, e⟩ := List.mem_map.mp hb
      rw [← e]
      rfl
    · obtain ⟨vs, y3, y4, y5, y6, rfl, e3, hD3, ho3, hA, hcnt⟩ := hI
      have hres := lcRun_res r i
      have hrun := lcRun_succ r i
      generalize hst : lcRun r i = st at *
      obtain ⟨seen, res⟩ := st
      refine ⟨Nat.zero_le _, fun pl hpl => ?_⟩
      have hplD : pl ≠ D := fun e => by rw [e, hD3] at hpl; cases hpl
      have hplo : pl ≠ o := fun e => by rw [e, ho3] at hpl; cases hpl
      have e4 : Same H (upd H3 pl (.lst [])) := e3.trans (same_new hpl)
      have hplH : H pl = none := e3.free hpl
      refine ⟨.int _, rfl, _, _, _, rfl, ?_⟩
      refine ⟨fun m σ' H5 => ∃ f sn p acc t, fls (blk r.length sn) = m ∧ σ' = [some (.ref a), some (.ref D), some (.ref o), some (.int ((1 : Int) + i)), some (.ref pl), some (nV t), some (nV p)] ∧ Same H H5 ∧ H5 D = some (.lst (sn.map nV)) ∧ H5 o = some (.lst vs) ∧ H5 pl = some (.lst (acc.map nV)) ∧
          Al (LcAt H5) vs res ∧ sn.length + fls (blk r.length sn) = r.length ∧ 1 ≤ p ∧ p ≤ r.length ∧ fls (blk r.length sn) ≤ f ∧ acc.length + f ≤ r.length ∧ lcw r f sn p acc t = lcw r r.length seen (i + 1) [] 0,
          ⟨_, r.length, seen, i + 1, [], 0, rfl, ?_, e4, ?_, ?_, upd_same, ?_, hcnt, by omega, by omega, ?_, by show 0 + _ ≤ _; omega, rfl⟩, fun m σ' H5 hJ => ?_⟩
      · show _ = [_, _, _, _, _, _, some (V.int ((i + 1 : Nat) : Int))]
        rw [show ((i + 1 : Nat) : Int) = (1 : Int) + i by omega]
        rfl
      · rw [upd_ne hplD.symm]
        exact hD3
      · rw [upd_ne hplo.symm]
        exact ho3
      · exact hA.mono fun v c h => h.same (same_new hpl)
      · have : (seen, res).1 = seen := rfl
        rw [this] at hcnt
        omega
      · obtain ⟨f, sn, p, acc, t, rfl, rfl, e5, hD5, ho5, hp5, hA5, hsn, hp1, hp2, hf, hacc, heq⟩ := hJ
        have h4 := hV.most
        refine ⟨nV p, rfl, .ref D, rfl, D, _, rfl, .inl (SqL.of hD5), rfl, by rw [map_nV]; simp [flatV], _, rfl, ?_⟩
        rw [inV_nat]
        refine ite2 (fun hc => ?_) fun hc => ?_
        · have hc1 : p ∉ sn := by simpa using hc
          have hget := blk_get hp1 hp2 hc1
          have hfs := fls_set _ (p - 1) hget
          rw [← blk_add hp1 hp2] at hfs
          obtain ⟨f, rfl⟩ : ∃ f', f = f' + 1 := ⟨f - 1, by omega⟩
          have hstep : lcw r (f + 1) sn p acc t = lcw r f (sn ++ [p]) ((r.getD (p - 1) 0).natAbs) (acc ++ [p]) (t + if r.getD (p - 1) 0 < 0 then 1 else 0) := if_neg hc1
          have hnx := vr_next hV hp1 hp2
          refine ⟨fun σ2 H6 => σ2 = [some (.ref a), some (.ref D), some (.ref o), some (.int ((1 : Int) + i)), some (.ref pl), some (nV (t + if r.getD (p - 1) 0 < 0 then 1 else 0)), some (nV (r.getD (p - 1) 0).natAbs)] ∧ H6 = upd (upd H5 D (.lst ((sn ++ [p]).map nV))) pl (.lst ((acc ++ [p]).map nV)), fun σ2 H6 hN => ?_, ?_⟩
          · obtain ⟨rfl, rfl⟩ := hN
            refine ⟨_, (by omega : fls (blk r.length (sn ++ [p])) < fls (blk r.length sn)), f, _, _, _, _, rfl, rfl, same_mut (same_mut e5 hD) hplH, ?_, ?_, upd_same, ?_, ?_, hnx.1, hnx.2, by omega, ?_, ?_⟩
            · rw [upd_ne hplD.symm, upd_same]
            · rw [upd_ne hplo.symm, upd_ne hoD]
              exact ho5
            · refine hA5.mono fun v c h => ?_
              exact (h.mut hD5).mut (by rw [upd_ne hplD]; exact hp5)
            · rw [List.length_append]
              show sn.length + 1 + _ = _
              omega
            · rw [List.length_append]
              show acc.length + 1 + f ≤ _
              omega
            · rw [← hstep]
              exact heq
          · have hap : sn.map nV ++ [nV p] = (sn ++ [p]).map nV := by rw [List.map_append]; rfl
            refine ⟨.ref D, rfl, .inl ⟨rfl, _, .inl (.inl hD5)⟩, nV p, rfl, D, _, _, rfl, rfl, hD5, by rw [List.length_map]; exact small1k (by omega), ?_⟩
            rw [hap]
            have hp6 : upd H5 D (.lst ((sn ++ [p]).map nV)) pl = some (.lst (acc.map nV)) := by
              rw [upd_ne hplD]
              exact hp5
            refine ⟨.ref pl, rfl, .inl ⟨rfl, _, .inl (.inl hp6)⟩, nV p, rfl, pl, _, _, rfl, rfl, hp6, by rw [List.length_map]; exact small1k (by omega), ?_⟩
            have happ : acc.map nV ++ [nV p] = (acc ++ [p]).map nV := by rw [List.map_append]; rfl
            rw [happ]
            have hadr : upd (upd H5 D (.lst ((sn ++ [p]).map nV))) pl (.lst ((acc ++ [p]).map nV)) a = some (.tup (r.map V.int)) := same_mut (same_mut e5 hD) hplH _ _ ha
            refine ⟨nV t, rfl, .ref a, rfl, nV p, rfl, _, 1, rfl, rfl, a, _, _, _, rfl, rfl, SqT.of hadr, atI_int (by omega) (by omega), _, 0, rfl, rfl, .inr ⟨_, rfl, _, _, rfl, rfl, ?_⟩⟩
            refine ⟨.ref a, rfl, nV p, rfl, _, 1, rfl, rfl, a, _, _, _, rfl, rfl, SqT.of hadr, atI_int (by omega) (by omega), _, rfl, ?_, rfl⟩
            show [_, _, _, _, _, some (V.int _), some (V.int _)] = _
            rw [absI, show ((p : Int) - 1).toNat = p - 1 by omega]
            by_cases hneg : r.getD (p - 1) 0 < 0
            · rw [if_pos hneg, decide_eq_true hneg]
              rfl
            · rw [if_neg hneg, decide_eq_false hneg]
              show [_, _, _, _, _, some (V.int ((t : Int) + 0)), _] = _
              rw [Int.add_zero]
              rfl
        · have hc1 : p ∈ sn := by simpa using hc
          have hend : lcw r f sn p acc t = (sn, acc, t) := by
            cases f with
            | zero => rfl
            | succ f => exact if_pos hc1
          rw [hend] at heq
          refine ⟨.ref pl, rfl, Nat.zero_le _, fun l hl => ⟨.list ((acc.map fun p : Nat => (p : Int)).map PyData.int), .list (([] : List Int).map PyData.int), ?_, .lst (SqL.of upd_same) .nil, sh_listI _, sh_listI _, _, rfl, ?_⟩⟩
          · refine .lst (SqL.of (xs := acc.map nV) ?_) ?_
            · rw [upd_ne (fun e => by rw [← e, hp5] at hl; cases hl)]
              exact hp5
            · rw [map_nV]
              exact dp_ints _
          have e6 := same_new (o := .lst []) hl
          have hst2 : lcStep r (seen, res) (i + 1) = (sn, if acc = [] then res else res ++ [(t % 2, acc)]) := by
            unfold lcStep
            dsimp only
            rw [← heq]
          rw [hst2] at hrun
          rw [hrun]
          rw [show PyData.eqv (.list ((acc.map fun p : Nat => (p : Int)).map PyData.int)) (.list (([] : List Int).map PyData.int)) = decide (acc.map (fun p : Nat => (p : Int)) = []) from eqv_ints _ _]
          refine ite2 (fun hne => ?_) fun hne => ?_
          · have hne2 : acc ≠ [] := by
              intro z
              rw [z] at hne
              exact absurd hne (by decide)
            have ho6 := e6 _ _ ho5
            refine ⟨.ref o, rfl, .inl ⟨rfl, _, .inl (.inl ho6)⟩, nV t, rfl, _, 2, rfl, rfl, by show (0 : Int) < 2; decide, .ref pl, rfl, by show 2 ≤ sizeLine; decide, fun tt ht => ?_⟩
            have e7 := same_new (o := .tup [V.int ((t : Int) % 2), .ref pl]) ht
            have ho7 := e7 _ _ ho6
            refine ⟨o, _, _, rfl, rfl, ho7, ?_, ?_⟩
            · rw [hA5.1]
              have hres' : res.length ≤ i := hres
              exact small1k (by omega)
            refine ⟨_, _, _, _, _, rfl, same_mut (e5.trans (e6.trans e7)) hoH, ?_, upd_same, ?_, hsn⟩
            · rw [upd_ne hDo]
              exact e7 _ _ (e6 _ _ hD5)
            · show Al _ _ (if acc = [] then res else res ++ [(t % 2, acc)])
              rw [if_neg hne2]
              refine Al.snoc (hA5.mono fun v c h => (h.same (e6.trans e7)).mut ho7) ⟨tt, .ref pl, rfl, ?_⟩
              rw [upd_ne (fun e => by rw [e, ho6] at ht; cases ht), upd_same]
              rfl
          · have hne2 : acc = [] := by
              cases acc with
              | nil => rfl
              | cons x l => exact absurd rfl hne
            refine ⟨_, _, _, _, _, rfl, e5.trans e6, e6 _ _ hD5, e6 _ _ ho5, ?_, hsn⟩
            show Al _ _ (if acc = [] then res else res ++ [(t % 2, acc)])
            rw [if_pos hne2]
            exact hA5.mono fun v c h => h.same e6
    · obtain ⟨vs, y3, y4, y5, y6, rfl, e3, hD3, ho3, hA, _⟩ := hI
      exact ⟨.ref o, rfl, q _ o vs e3 hoH ho3 hA⟩
theorem c_l_cycles (W : Wd w K mg) : Cal P w K mg base CX0 1 "_law_cycles" (d_l_cycles.at_ K) (sp_l_cycles K) := ⟨ok_l_cycles W, W.g_l_cycles, W.f_l_cycles.kp⟩
end
end Tc
set_option maxHeartbeats 0
namespace Mi
/-- a row of one to four cards -/
def vrB (r : Row) : Bool := decide (1 ≤ r.length) && decide (r.length ≤ 4) && (r.all fun x => decide (1 ≤ x.natAbs) && decide (x.natAbs ≤ r.length)) && decide ((r.map Int.natAbs).Nodup)
def candV : List Int := [-4, -3, -2, -1, 1, 2, 3, 4]
def cand : Nat → List Row
  | 0 => [[]]
  | n + 1 => (cand n).flatMap fun r => candV.map fun x => x :: r
theorem cand_mem : ∀ r : Row, (∀ x ∈ r, x ∈ candV) → r ∈ cand r.length
  | [], _ => List.mem_cons_self ..
  | x :: r, h => by
    have ih := cand_mem r fun y hy => h y (List.mem_cons_of_mem _ hy)
    exact List.mem_flatMap.mpr ⟨r, ih, List.mem_map.mpr ⟨x, h x (List.mem_cons_self ..), rfl⟩⟩
theorem chk_all : ([1, 2, 3, 4].all fun n => ((cand n).filter vrB).all fun r => decide (r ∈ allRows)) = true := by decide +kernel
theorem candV_mem {x : Int} (h1 : 1 ≤ x.natAbs) (h2 : x.natAbs ≤ 4) : x ∈ candV := by
  have : x = -4 ∨ x = -3 ∨ x = -2 ∨ x = -1 ∨ x = 1 ∨ x = 2 ∨ x = 3 ∨ x = 4 := by omega
  unfold candV
  simp only [List.mem_cons, List.not_mem_nil, or_false]
  exact this
theorem vrB_parts {r : Row} (h : vrB r = true) : 1 ≤ r.length ∧ r.length ≤ 4 ∧ (∀ x ∈ r, 1 ≤ x.natAbs ∧ x.natAbs ≤ r.length) ∧ (r.map Int.natAbs).Nodup := by
  unfold vrB at h
  simp only [Bool.and_eq_true, decide_eq_true_eq, List.all_eq_true] at h
  exact ⟨h.1.1.1, h.1.1.2, h.1.2, h.2⟩
theorem vrB_mem {r : Row} (h : vrB r = true) : r ∈ allRows := by
  obtain ⟨h1, h2, h3, _⟩ := vrB_parts h
  have hc : r ∈ cand r.length := cand_mem r fun x hx => candV_mem (h3 x hx).1 (by have := (h3 x hx).2; omega)
  have hn : r.length ∈ [1, 2, 3, 4] := by
    have : r.length = 1 ∨ r.length = 2 ∨ r.length = 3 ∨ r.length = 4 := by omega
    simp only [List.mem_cons, List.not_mem_nil, or_false]
    exact this
  have h5 := List.all_eq_true.mp chk_all _ hn
  have h6 := List.all_eq_true.mp h5 r (List.mem_filter.mpr ⟨hc, h⟩)
  exact of_decide_eq_true h6
/-- all steps of n cards -/
def stepsOf (n : Nat) : List Stp := ((List.range n).map fun i => Stp.turn (i + 1)) ++ ((List.range n).flatMap fun i => (List.range n).flatMap fun j => if i = j then [] else [Stp.exch (i + 1) (j + 1), Stp.cross (i + 1) (j + 1)])
theorem stepsOf_mem {n : Nat} {s : Stp} (h : s.ok n = true) : s ∈ stepsOf n := by
  unfold stepsOf
  cases s with
  | turn i =>
    simp only [Stp.ok, Bool.and_eq_true, decide_eq_true_eq] at h
    exact List.mem_append_left _ (List.mem_map.mpr ⟨i - 1, List.mem_range.mpr (by omega), by rw [show i - 1 + 1 = i by omega]⟩)
  | exch i j =>
    simp only [Stp.ok, Bool.and_eq_true, decide_eq_true_eq] at h
    refine List.mem_append_right _ (List.mem_flatMap.mpr ⟨i - 1, List.mem_range.mpr (by omega), List.mem_flatMap.mpr ⟨j - 1, List.mem_range.mpr (by omega), ?_⟩⟩)
    rw [if_neg (by omega), show i - 1 + 1 = i by omega, show j - 1 + 1 = j by omega]
    simp
  | cross i j =>
    simp only [Stp.ok, Bool.and_eq_true, decide_eq_true_eq] at h
    refine List.mem_append_right _ (List.mem_flatMap.mpr ⟨i - 1, List.mem_range.mpr (by omega), List.mem_flatMap.mpr ⟨j - 1, List.mem_range.mpr (by omega), ?_⟩⟩)
    rw [if_neg (by omega), show i - 1 + 1 = i by omega, show j - 1 + 1 = j by omega]
    simp
theorem all_cut {α : Type} {f : α → Bool} {l : List α} (n : Nat) (a : (l.take n).all f = true) (b : (l.drop n).all f = true) : l.all f = true := by
  rw [← List.take_append_drop n l, List.all_append, a, b]
  rfl
theorem chk_stp0 : ((allRows.take 148).all fun r => (stepsOf r.length).all fun s => vrB (stp r s)) = true := by decide +kernel
theorem chk_stp1 : (((allRows.drop 148).take 148).all fun r => (stepsOf r.length).all fun s => vrB (stp r s)) = true := by decide +kernel
theorem chk_stp2 : (((allRows.drop 148).drop 148).all fun r => (stepsOf r.length).all fun s => vrB (stp r s)) = true := by decide +kernel
theorem chk_stp : (allRows.all fun r => (stepsOf r.length).all fun s => vrB (stp r s)) = true := all_cut 148 chk_stp0 (all_cut 148 chk_stp1 (chk_stp2))
theorem stp_vr {r : Row} {s : Stp} (h : vrB r = true) (hs : s.ok r.length = true) : vrB (stp r s) = true :=
  List.all_eq_true.mp (List.all_eq_true.mp chk_stp r (vrB_mem h)) s (stepsOf_mem hs)
theorem stp_len (r : Row) (s : Stp) : (stp r s).length = r.length := by
  cases s <;> simp [stp]
/-- order: the numbers on the way stay small -/
def ordOk (r : Row) : Bool := ((List.range ((cycs r).length + 1)).all fun k =>
  let v := ((cycs r).take k).foldl (fun a c => lcmI a ((c.1.length : Int) * (1 + (c.2 : Int) % 2))) 1
  decide (0 < v) && decide (v < 1000000)) && (cycs r).all fun c => decide (1 ≤ c.1.length) && decide (c.1.length ≤ 4)
theorem chk_ordOk : (allRows.all ordOk) = true := by decide +kernel
end Mi
set_option maxHeartbeats 4000000
namespace Tc
open PySem PySem.Spec PyProof.Rows L2 He He5 Mi
/-- a comprehension whose results are told by a relation that does not look at the heap -/
theorem lc_rel {J : It} {n : Nat} {G : Hp → Prop} {Y : Nat → Hp → V → Hp → Prop} (w : Walk J n G Y) {α : Type} {xs : List α} {Ex : α → V → Hp → Prop} {g : TG} {tt : TT} {te : TE} {vs : List Nat} {σ : L2.St} {H1 : Hp} {D : Addr} {Qd : Hp → Prop}
    (p : α → Bool) (R : V → α → Prop) (hn : n = xs.length) (hY : ∀ i H x H', Y i H x H' → i < n → Same H H' ∧ ∃ y, xs[i]? = some y ∧ Ex y x H') (hG : ∀ H', Same H1 H' → G H') (hsz : xs.length ≤ 1000) (hD : H1 D = none)
    (hs : ∀ y x H2 (Yc : V → Hp → Prop) (Nn : Hp → Prop), y ∈ xs → Same H1 H2 → Ex y x H2 → (∀ H3 v, Same H2 H3 → p y = true → R v y → Yc v H3) → (∀ H3, Same H2 H3 → p y = false → Nn H3) →
      g x (wipe σ vs) H2 fun σ2 H2 => wipe σ2 vs = wipe σ vs ∧ tt σ2 H2 fun b H3 => if b = true then te σ2 H3 Yc else Nn H3)
    (hd : ∀ H' zs, Same H1 H' → H' D = some (.lst zs) → Al R zs (xs.filter p) → Qd H') :
    ∃ W : Nat → Nat → Hp → Prop, (∃ m, W 0 m (upd H1 D (.lst []))) ∧ ∀ i m H, W i m H →
      (J.stop i H ∧ Qd H) ∨ (J.go i H ∧ ∃ Nx : Hp → Prop, (∀ H', Nx H' → ∃ m', m' < m ∧ W (i + 1) m' H') ∧ ∀ x H', J.yld i H x H' → g x (wipe σ vs) H' fun σ2 H2 => wipe σ2 vs = wipe σ vs ∧ tt σ2 H2 fun b H3 =>
        if b = true then te σ2 H3 fun y H4 => ∃ acc, H4 D = some (.lst acc) ∧ acc.length < sizeLine ∧ Nx (upd H4 D (.lst (acc ++ [y]))) else Nx H3) := by
  have hlen : ∀ i, ((xs.take i).filter p).length ≤ 1000 := fun i => Nat.le_trans (List.length_filter_le _ _) (Nat.le_trans (by rw [List.length_take]; exact Nat.min_le_right _ _) hsz)
  refine lc_it w (fun i H => Same H1 H ∧ ∃ zs, H D = some (.lst zs) ∧ Al R zs ((xs.take i).filter p)) ⟨same_new hD, [], upd_same, Al.nil⟩ (fun i H _ h => hG H h.1) (fun i x H H' hi hP hy => ?_) (fun H h => ?_)
  · obtain ⟨hS, y, hy1, hE⟩ := hY i H x H' hy hi
    obtain ⟨h1, zs, h2, hA⟩ := hP
    have hm : y ∈ xs := List.mem_of_getElem? hy1
    have ht : xs.take (i + 1) = xs.take i ++ [y] := by rw [List.take_add_one, hy1]; rfl
    refine hs y x H' _ _ hm (h1.trans hS) hE (fun H3 v e3 hp hR => ?_) (fun H3 e3 hp => ?_)
    · refine ⟨_, e3 _ _ (hS _ _ h2), ?_, ?_, _, upd_same, ?_⟩
      · rw [hA.1]
        exact small1k (hlen i)
      · exact same_mut ((h1.trans hS).trans e3) hD
      · rw [ht, List.filter_append, List.filter_cons, if_pos hp, List.filter_nil]
        exact hA.snoc hR
    · refine ⟨(h1.trans hS).trans e3, zs, e3 _ _ (hS _ _ h2), ?_⟩
      rw [ht, List.filter_append, List.filter_cons, if_neg (by rw [hp]; decide), List.filter_nil, List.append_nil]
      exact hA
  · obtain ⟨h1, zs, h2, hA⟩ := h
    rw [hn, List.take_length] at hA
    exact hd H zs h1 h2 hA
/-- a list walked beside what its items mean -/
theorem al_walk {α : Type} {R : V → α → Prop} {vs : List V} {cs : List α} (h : Al R vs cs) {n : Nat} : ∀ i H x H', YAt vs i H x H' → i < n → Same H H' ∧ ∃ y, (vs.zip cs)[i]? = some y ∧ (x = y.1 ∧ R y.1 y.2) := by
  rintro i H x H' ⟨rfl, e⟩ _
  refine ⟨Same.refl _, ?_⟩
  have hi : i < vs.length := (List.getElem?_eq_some_iff.mp e).1
  have hc : i < cs.length := by rw [← h.1]; exact hi
  refine ⟨(x, cs[i]), ?_, rfl, h.2 i x cs[i] e (List.getElem?_eq_getElem hc)⟩
  rw [List.getElem?_zip_eq_some]
  exact ⟨e, List.getElem?_eq_getElem hc⟩
theorem al_len {α : Type} {R : V → α → Prop} {vs : List V} {cs : List α} (h : Al R vs cs) : vs.length = (vs.zip cs).length := by
  rw [List.length_zip, ← h.1, Nat.min_self]
theorem zip_filter {α : Type} (p : α → Bool) : ∀ (vs : List V) (cs : List α), vs.length = cs.length → ((vs.zip cs).filter fun y => p y.2).map (·.2) = cs.filter p
  | [], [], _ => rfl
  | v :: vs, c :: cs, h => by
    have ih := zip_filter p vs cs (Nat.succ.inj h)
    rw [List.zip_cons_cons, List.filter_cons, List.filter_cons]
    by_cases hp : p c = true
    · rw [if_pos hp, if_pos hp, List.map_cons, ih]
    · rw [if_neg hp, if_neg hp, ih]
theorem zip_filter_len {α : Type} (p : α → Bool) {vs : List V} {cs : List α} (h : vs.length = cs.length) : ((vs.zip cs).filter fun y => p y.2).length = (cs.filter p).length := by
  rw [← zip_filter p vs cs h, List.length_map]
theorem Al.right {α β γ : Type} {R : α → γ → Prop} {R2 : α → β → Prop} (f : γ → β) {vs : List α} {cs : List γ} (h : Al R vs cs) (k : ∀ v c, R v c → R2 v (f c)) : Al R2 vs (cs.map f) := by
  refine ⟨by rw [List.length_map, h.1], fun i v c e1 e2 => ?_⟩
  rw [List.getElem?_map] at e2
  cases e : cs[i]? with
  | none => rw [e] at e2; cases e2
  | some d =>
    rw [e] at e2
    have : f d = c := Option.some.inj e2
    rw [← this]
    exact k v d (h.2 i v d e1 e)
theorem vrB_Vr {r : Mi.Row} (h : vrB r = true) : Vr r := let ⟨h1, h2, h3, _⟩ := vrB_parts h; ⟨h1, h2, h3⟩
theorem cycs_len (r : Mi.Row) : (cycs r).length ≤ r.length := cyRun_res r r.length
theorem lcycs_len (r : Mi.Row) : (lcycs r).length ≤ r.length := lcRun_res r r.length
theorem mod2_nat (n : Nat) : decide (V.int ((n : Int) % 2) = V.int 0) = decide (n % 2 = 0) := by
  by_cases h : n % 2 = 0
  · rw [decide_eq_true h, decide_eq_true (by rw [show (n : Int) % 2 = 0 by omega])]
  · rw [decide_eq_false h, decide_eq_false (fun z => h (by have := V.int.inj z; omega))]
theorem nat_eq0 (n : Nat) : decide (V.int (n : Int) = V.int 0) = decide (n = 0) := by
  by_cases h : n = 0
  · subst h
    rfl
  · rw [decide_eq_false h, decide_eq_false (fun z => h (by have := V.int.inj z; omega))]
section
variable {P : Program} {w : World} {K : PySem.W.Frag} {mg : Str → Option Value} {base : Heap}
def sp_fewest_of (K : PySem.W.Frag) : Sp := fun vs H Q _ => ∃ a r, vs = [.ref a] ∧ H a = some (.tup (r.map V.int)) ∧ Vr r ∧ ∀ H', Same H H' → Q (.int (fewest r)) H'
abbrev N_fewest_of : List Str := ["row", "places", "turned"]
theorem sc_fewest_of : FnScope N_fewest_of ["row"] d_fewest_of.scope := ⟨rfl, rfl, rfl, by decide +kernel, rfl, by decide +kernel, by decide +kernel⟩
theorem ok_fewest_of (W : Wd w K mg) : FnR P w K mg base CX0 2 (d_fewest_of.at_ K) (sp_fewest_of K) := by
  refine fnr0 W.f_fewest_of sc_fewest_of (fun vs H Q E h => ?_) (fun _ _ _ _ _ _ us hl => match us, hl with | [_], _ => rfl) (fun cdv A outer s H vs Q E hr h => ?_)
  · obtain ⟨a, r, rfl, ha, hV, q⟩ := h
    rfl
  · obtain ⟨a, r, rfl, ha, hV, q⟩ := h
    refine ⟨_, (pss_one (ps_ret (pe_op op_sub (pe_callB call_len_seq (by rfl) W.z_len PySem.boot_len (pa_cons (pv 0) pa_nil)) (pe_callB call_len_seq (by rfl) W.z_len PySem.boot_len (pa_cons (pe_lc (own := [("places", 1), ("turned", 2)]) (g := gTup K 2 (gCons (gName 1) (gCons (gName 2) gNil))) rfl sc_fewest_of.nd (pi_list (pe_c (c_cycle_lists W) (hr.mono (by omega)) pass0 (pa_cons (pv 0) pa_nil))) (blkOk_by (own := [("places", 1), ("turned", 2)]) (N := N_fewest_of) (sc := d_fewest_of.scope) (by decide +kernel)) (fun _ _ _ _ _ => (pg_tup rfl (pgs_cons (pg_name (i := 1) sc_fewest_of.nd rfl (by first | exact Or.inl rfl | exact Or.inr rfl)) (pgs_cons (pg_name (i := 2) sc_fewest_of.nd rfl (by first | exact Or.inl rfl | exact Or.inr rfl)) pgs_nil)))) (fun _ _ _ _ _ => (pts_one (pt_cmpR op_eq (pe_op op_mod (pv 2) pe_int) pe_int (nomark _)))) (fun _ _ _ _ _ => (pv 1))) pa_nil))))), ?_⟩
    refine ⟨.ref a, rfl, a, _, rfl, .inr (SqT.of ha), .ref a, rfl, a, r, rfl, ha, hV, fun H1 p cs e1 hp hp1 hA => ⟨p, rfl, ⟨_, SqL.of hp1⟩, fun D hD => lc_rel (walk_list (K := K)) (fun y => decide (y.2.2 % 2 = 0)) (fun _ _ => True) (al_len hA) (al_walk hA) (fun H' e => SqL.of (e _ _ hp1)) (by rw [← al_len hA, hA.1]; have := cycs_len r; have := hV.most; omega) hD (fun y x H2 Yc Nn hy hS hE h1 h2 => ?_) fun H2 zs e2 hD2 hA2 => ?_⟩⟩
    · obtain ⟨rfl, t, l, et, h3, h4, _⟩ := hE
      rw [et]
      refine ⟨t, _, rfl, SqT.of (hS _ _ h3), rfl, _, _, rfl, _, _, rfl, rfl, rfl, ?_⟩
      refine ⟨_, rfl, _, 2, rfl, rfl, by show (0 : Int) < 2; decide, rfl, _, rfl, ?_⟩
      rw [mod2_nat]
      refine ite2 (fun h => ?_) fun h => ?_
      · exact ⟨_, rfl, h1 _ _ (Same.refl _) h trivial⟩
      · exact h2 _ (Same.refl _) (Bool.eq_false_iff.mpr h)
    · refine ⟨D, _, rfl, .inl (SqL.of hD2), _, _, rfl, rfl, ?_⟩
      rw [len_map, hA2.1, zip_filter_len (fun c => decide (c.2 % 2 = 0)) hA.1]
      exact q _ (e1.trans e2)
theorem c_fewest_of (W : Wd w K mg) : Cal P w K mg base CX0 2 "fewest_of" (d_fewest_of.at_ K) (sp_fewest_of K) := ⟨ok_fewest_of W, W.g_fewest_of, W.f_fewest_of.kp⟩
def sp_l_fewest (K : PySem.W.Frag) : Sp := fun vs H Q _ => ∃ a r, vs = [.ref a] ∧ H a = some (.tup (r.map V.int)) ∧ Vr r ∧ ∀ H', Same H H' → Q (.int (lfewest r)) H'
abbrev N_l_fewest : List Str := ["_law_cards_here", "_law_kind", "_law_places"]
theorem sc_l_fewest : FnScope N_l_fewest ["_law_cards_here"] d_l_fewest.scope := ⟨rfl, rfl, rfl, by decide +kernel, rfl, by decide +kernel, by decide +kernel⟩
theorem ok_l_fewest (W : Wd w K mg) : FnR P w K mg base CX0 2 (d_l_fewest.at_ K) (sp_l_fewest K) := by
  refine fnr0 W.f_l_fewest sc_l_fewest (fun vs H Q E h => ?_) (fun _ _ _ _ _ _ us hl => match us, hl with | [_], _ => rfl) (fun cdv A outer s H vs Q E hr h => ?_)
  · obtain ⟨a, r, rfl, ha, hV, q⟩ := h
    rfl
  · obtain ⟨a, r, rfl, ha, hV, q⟩ := h
    refine ⟨_, (pss_one (ps_ret (pe_op op_sub (pe_callB call_len_seq (by rfl) W.z_len PySem.boot_len (pa_cons (pv 0) pa_nil)) (pe_callB call_len_seq (by rfl) W.z_len PySem.boot_len (pa_cons (pe_lc (own := [("_law_kind", 1), ("_law_places", 2)]) (g := gTup K 2 (gCons (gName 1) (gCons (gName 2) gNil))) rfl sc_l_fewest.nd (pi_list (pe_c (c_l_cycles W) (hr.mono (by omega)) pass0 (pa_cons (pv 0) pa_nil))) (blkOk_by (own := [("_law_kind", 1), ("_law_places", 2)]) (N := N_l_fewest) (sc := d_l_fewest.scope) (by decide +kernel)) (fun _ _ _ _ _ => (pg_tup rfl (pgs_cons (pg_name (i := 1) sc_l_fewest.nd rfl (by first | exact Or.inl rfl | exact Or.inr rfl)) (pgs_cons (pg_name (i := 2) sc_l_fewest.nd rfl (by first | exact Or.inl rfl | exact Or.inr rfl)) pgs_nil)))) (fun _ _ _ _ _ => (pts_one (pt_cmpR op_eq (pv 1) pe_int (nomark _)))) (fun _ _ _ _ _ => (pv 2))) pa_nil))))), ?_⟩
    refine ⟨.ref a, rfl, a, _, rfl, .inr (SqT.of ha), .ref a, rfl, a, r, rfl, ha, hV, fun H1 p cs e1 hp hp1 hA => ⟨p, rfl, ⟨_, SqL.of hp1⟩, fun D hD => lc_rel (walk_list (K := K)) (fun y => decide (y.2.1 = 0)) (fun _ _ => True) (al_len hA) (al_walk hA) (fun H' e => SqL.of (e _ _ hp1)) (by rw [← al_len hA, hA.1]; have := lcycs_len r; have := hV.most; omega) hD (fun y x H2 Yc Nn hy hS hE h1 h2 => ?_) fun H2 zs e2 hD2 hA2 => ?_⟩⟩
    · obtain ⟨rfl, t, l, et, h3⟩ := hE
      rw [et]
      refine ⟨t, _, rfl, SqT.of (hS _ _ h3), rfl, _, _, rfl, _, _, rfl, rfl, rfl, ?_⟩
      refine ⟨_, rfl, rfl, _, rfl, ?_⟩
      rw [nat_eq0]
      refine ite2 (fun h => ?_) fun h => ?_
      · exact ⟨_, rfl, h1 _ _ (Same.refl _) h trivial⟩
      · exact h2 _ (Same.refl _) (Bool.eq_false_iff.mpr h)
    · refine ⟨D, _, rfl, .inl (SqL.of hD2), _, _, rfl, rfl, ?_⟩
      rw [len_map, hA2.1, zip_filter_len (fun c => decide (c.1 = 0)) hA.1]
      exact q _ (e1.trans e2)
theorem c_l_fewest (W : Wd w K mg) : Cal P w K mg base CX0 2 "_law_fewest" (d_l_fewest.at_ K) (sp_l_fewest K) := ⟨ok_l_fewest W, W.g_l_fewest, W.f_l_fewest.kp⟩
end
end Tc
set_option maxHeartbeats 0
namespace Mi
/-- the powers of a row come to the first row -/
def perdEnd (r : Row) : Nat → Row → Bool
  | 0, _ => false
  | f + 1, c => vrB c && decide (c.length = r.length) && (decide (c = ident r.length) || perdEnd r f (prod c r))
theorem chk_per : (allRows.all fun r => perdEnd r 8 r) = true := by decide +kernel
theorem per_end {r : Row} (h : vrB r = true) : perdEnd r 8 r = true := List.all_eq_true.mp chk_per r (vrB_mem h)
theorem ord_ok {r : Row} (h : vrB r = true) : ordOk r = true := List.all_eq_true.mp chk_ordOk r (vrB_mem h)
end Mi
set_option maxHeartbeats 4000000
namespace Tc
open PySem PySem.Spec PyProof.Rows L2 He He5 Mi
theorem getD_at {r : Mi.Row} {i : Nat} (h : i < r.length) : (r.map V.int)[i]? = some (.int (r.getD i 0)) := by
  rw [List.getElem?_map, List.getElem?_eq_getElem h, List.getD_eq_getElem?_getD, List.getElem?_eq_getElem h]
  rfl
theorem getD_mem {r : Mi.Row} {i : Nat} (h : i < r.length) : r.getD i 0 ∈ r := by
  rw [List.getD_eq_getElem?_getD, List.getElem?_eq_getElem h]
  exact List.getElem_mem h
theorem rg_ident (n : Nat) : rgV 1 ((n : Int) + 1) = (ident n).map V.int := by
  unfold rgV ident
  rw [show ((n : Int) + 1 - 1).toNat = n by omega, List.map_map]
  refine List.map_congr_left fun i _ => ?_
  show V.int (1 + (i : Int)) = V.int ((i : Int) + 1)
  rw [Int.add_comm]
section
variable {P : Program} {w : World} {K : PySem.W.Frag} {mg : Str → Option Value} {base : Heap}
def sp_l_at : Sp := fun vs H Q _ => ∃ a r p, vs = [.ref a, .int p] ∧ H a = some (.tup (r.map V.int)) ∧ 1 ≤ p.natAbs ∧ p.natAbs ≤ r.length ∧ Q (.int (at_ r p)) H
abbrev N_l_at : List Str := ["_law_cards_here", "_law_place"]
theorem sc_l_at : FnScope N_l_at ["_law_cards_here", "_law_place"] d_l_at.scope := ⟨rfl, rfl, rfl, by decide +kernel, rfl, by decide +kernel, by decide +kernel⟩
theorem ok_l_at (W : Wd w K mg) : FnR P w K mg base CX0 1 (d_l_at.at_ K) sp_l_at := by
  refine fnr0 W.f_l_at sc_l_at (fun vs H Q E h => ?_) (fun _ _ _ _ _ _ us hl => match us, hl with | [_, _], _ => rfl) (fun cdv A outer s H vs Q E hr h => ?_)
  · obtain ⟨a, r, p, rfl, ha, h1, h2, q⟩ := h
    rfl
  · obtain ⟨a, r, p, rfl, ha, h1, h2, q⟩ := h
    refine ⟨_, (pss_one (ps_ret (pe_ifExp (pt_cmpR op_gt (pv 1) pe_int (nomark _)) (pe_ix (show IxR _ (rIxT K) from ix_tup) (pv 0) (pe_op op_sub (pv 1) pe_int) (fun _ _ => rfl)) (pe_op op_sub pe_int (pe_ix (show IxR _ (rIxT K) from ix_tup) (pv 0) (pe_op op_sub (pe_op op_sub pe_int (pv 1)) pe_int) (fun _ _ => rfl)))))), ?_⟩
    unfold at_ at q
    refine ⟨.int p, rfl, p, 0, rfl, rfl, _, rfl, ite2 (fun h => ?_) fun h => ?_⟩
    · have h := of_decide_eq_true h
      rw [if_pos h] at q
      exact ⟨.ref a, rfl, .int p, rfl, p, 1, rfl, rfl, a, _, _, _, rfl, rfl, SqT.of ha, atI_int (by omega) (by omega), q⟩
    · have h : ¬ 0 < p := fun z => h (decide_eq_true z)
      rw [if_neg h] at q
      refine ⟨.ref a, rfl, .int p, rfl, 0, p, rfl, rfl, _, 1, rfl, rfl, a, _, _, _, rfl, rfl, SqT.of ha, atI_int (by omega) (by omega), 0, _, rfl, rfl, ?_⟩
      show Q (V.int (0 - r.getD (0 - p - 1).toNat 0)) H
      rw [Int.zero_sub, Int.zero_sub]
      exact q
theorem c_l_at (W : Wd w K mg) : Cal P w K mg base CX0 1 "_law_at" (d_l_at.at_ K) sp_l_at := ⟨ok_l_at W, W.g_l_at, W.f_l_at.kp⟩
def sp_l_product (K : PySem.W.Frag) : Sp := fun vs H Q _ => ∃ a b x y, vs = [.ref a, .ref b] ∧ H a = some (.tup (x.map V.int)) ∧ H b = some (.tup (y.map V.int)) ∧ vrB x = true ∧ x.length = y.length ∧ ∀ H' p, Same H H' → H p = none → H' p = some (.tup ((prod x y).map V.int)) → Q (.ref p) H'
abbrev N_l_product : List Str := ["_law_first", "_law_second", "_law_card"]
theorem sc_l_product : FnScope N_l_product ["_law_first", "_law_second"] d_l_product.scope := ⟨rfl, rfl, rfl, by decide +kernel, rfl, by decide +kernel, by decide +kernel⟩
theorem ok_l_product (W : Wd w K mg) : FnR P w K mg base CX0 2 (d_l_product.at_ K) (sp_l_product K) := by
  refine fnr0 W.f_l_product sc_l_product (fun vs H Q E h => ?_) (fun _ _ _ _ _ _ us hl => match us, hl with | [_, _], _ => rfl) (fun cdv A outer s H vs Q E hr h => ?_)
  · obtain ⟨a, b, x, y, rfl, ha, hb, hx, hl, q⟩ := h
    rfl
  · obtain ⟨a, b, x, y, rfl, ha, hb, hx, hl, q⟩ := h
    refine ⟨_, (pss_one (ps_ret (pe_callTy call_tuple_of (by rfl) W.z_tuple boot_tuple (pa_cons (pe_lc (own := [("_law_card", 2)]) (g := gName 2) rfl sc_l_product.nd (pi_tup (pv 0)) (blkOk_by (own := [("_law_card", 2)]) (N := N_l_product) (sc := d_l_product.scope) (by decide +kernel)) (fun _ _ _ _ _ => (pg_name (i := 2) sc_l_product.nd rfl (by first | exact Or.inl rfl | exact Or.inr rfl))) (fun _ _ _ _ _ => pts_nil) (fun _ _ _ _ _ => (pe_c (c_l_at W) (hr.mono (by omega)) pass0 (pa_cons (pv 1) (pa_cons (pv 2) pa_nil))))) pa_nil)))), ?_⟩
    have hV := vrB_Vr hx
    refine ⟨.ref a, rfl, a, rfl, ⟨_, SqT.of ha⟩, fun D hD => lc_enc (wt (xs := x)) (Ex := fun c x _ => x = V.int c) (fun _ => true) (fun c => V.int (at_ y c)) rfl yat (fun H' e => SqT.of (e _ _ ha)) (vr_len hV) hD (fun c x' H2 Yc Nn hy hS hE h1 h2 => ?_) fun H1 e1 hD1 => ?_⟩
    · subst hE
      have hc := hV.each c hy
      exact ⟨rfl, .ref b, rfl, .int c, rfl, b, y, c, rfl, hS _ _ hb, hc.1, by omega, h1 _ (Same.refl _) rfl⟩
    · have e : (x.filter fun _ => true).map (fun c => V.int (at_ y c)) = (prod x y).map V.int := by
        rw [List.filter_eq_self.mpr (fun _ _ => rfl)]
        unfold prod
        rw [List.map_map]
        rfl
      rw [e] at hD1
      exact ⟨D, _, rfl, .inl ⟨SqL.of hD1, fun p hp => q _ p (e1.trans (same_new hp)) (e1.free hp) upd_same⟩⟩
theorem c_l_product (W : Wd w K mg) : Cal P w K mg base CX0 2 "_law_product" (d_l_product.at_ K) (sp_l_product K) := ⟨ok_l_product W, W.g_l_product, W.f_l_product.kp⟩
def sp_l_period (K : PySem.W.Frag) : Sp := fun vs H Q _ => ∃ a r, vs = [.ref a] ∧ H a = some (.tup (r.map V.int)) ∧ vrB r = true ∧ ∀ H', Same H H' → Q (.int (period r)) H'
abbrev N_l_period : List Str := ["_law_cards_here", "_law_result", "_law_current"]
theorem sc_l_period : FnScope N_l_period ["_law_cards_here"] d_l_period.scope := ⟨rfl, rfl, rfl, by decide +kernel, rfl, by decide +kernel, by decide +kernel⟩
theorem ok_l_period (W : Wd w K mg) : FnR P w K mg base CX0 3 (d_l_period.at_ K) (sp_l_period K) := by
  refine fnr0 W.f_l_period sc_l_period (fun vs H Q E h => ?_) (fun _ _ _ _ _ _ us hl => match us, hl with | [_], _ => rfl) (fun cdv A outer s H vs Q E hr h => ?_)
  · obtain ⟨a, r, rfl, ha, hr1, q⟩ := h
    rfl
  · obtain ⟨a, r, rfl, ha, hr1, q⟩ := h
    refine ⟨_, (pss_cons (ps_par (i := 1) (j := 2) (by rfl) sc_l_period.nd rfl rfl (by decide) rfl rfl (pa_cons pe_int (pa_cons (pv 0) pa_nil)) (by rfl))
      (pss_cons (ps_while PassesOwn.never (pt_cmpR (op_neD hr.units) (pv 2) (pe_tupRg rfl (by rfl) W.z_tuple (prg_2 (by rfl) W.z_range pe_int (pe_op op_add (pe_callB call_len_seq (by rfl) W.z_len PySem.boot_len (pa_cons (pv 0) pa_nil)) pe_int))) (nomark _)) (pss_one (ps_par (i := 1) (j := 2) (by rfl) sc_l_period.nd rfl rfl (by decide) rfl rfl (pa_cons (pe_op op_add (pv 1) pe_int) (pa_cons (pe_c (c_l_product W) (hr.mono (by omega)) pass0 (pa_cons (pv 2) (pa_cons (pv 0) pa_nil))) pa_nil)) (by rfl))))
      (pss_one (ps_ret (pv 1))))), ?_⟩
    refine ⟨.ref a, rfl, _, _, rfl, ?_⟩
    have h4 := (vrB_Vr hr1).most
    refine ⟨fun m σ H3 => ∃ k ct c, σ = [some (.ref a), some (.int k), some (.ref ct)] ∧ Same H H3 ∧ H3 ct = some (.tup (c.map V.int)) ∧ perdEnd r m c = true ∧ perd r m k c = period r, ⟨8, 1, a, r, rfl, Same.refl _, ha, per_end hr1, rfl⟩, fun m σ H3 hI => ?_⟩
    obtain ⟨k, ct, c, rfl, e3, hct, hend, hper⟩ := hI
    cases m with
    | zero => cases hend
    | succ f =>
      have hend2 : (vrB c = true ∧ c.length = r.length) ∧ (c = ident r.length ∨ perdEnd r f (prod c r) = true) := by
        have h := hend
        unfold perdEnd at h
        simpa only [Bool.and_eq_true, Bool.or_eq_true, decide_eq_true_eq] using h
      have hlr : ((r.map V.int).length : Int) = (r.length : Int) := by rw [len_map]
      refine ⟨.ref ct, rfl, .ref a, rfl, a, _, rfl, .inr (SqT.of (e3 _ _ ha)), _, _, rfl, rfl, 1, _, rfl, rfl, ⟨by decide, by decide, by omega, by omega, by omega⟩, fun p hp => ?_⟩
      have hrg : rgV 1 (((r.map V.int).length : Int) + 1) = (ident r.length).map V.int := by rw [hlr, rg_ident]
      refine ⟨.tuple (c.map PyData.int), .tuple ((ident r.length).map PyData.int), .tup (SqT.of (same_new hp _ _ hct)) (dp_ints _), .tup (SqT.of (by rw [upd_same]; exact congrArg (fun z => some (HO.tup z)) hrg)) (dp_ints _), sh_tupI _, sh_tupI _, _, rfl, ?_⟩
      rw [show PyData.eqv (.tuple (c.map PyData.int)) (.tuple ((ident r.length).map PyData.int)) = decide (c = ident r.length) from eqv_ints _ _]
      have e4 := e3.trans (same_new (o := .tup (rgV 1 (((r.map V.int).length : Int) + 1))) hp)
      have hct4 := same_new (o := .tup (rgV 1 (((r.map V.int).length : Int) + 1))) hp _ _ hct
      unfold perd at hper
      refine ite2 (fun h => ?_) fun h => ?_
      · have hne : ¬ c = ident r.length := by simpa using h
        rw [if_neg hne] at hper
        refine ⟨fun σ' H' => ∃ pt, σ' = [some (.ref a), some (.int (k + 1)), some (.ref pt)] ∧ Same H H' ∧ H' pt = some (.tup ((prod c r).map V.int)), fun σ' H' ⟨pt, e1, e2, e5⟩ => ⟨f, Nat.lt_succ_self f, k + 1, pt, prod c r, e1, e2, e5, hend2.2.resolve_left hne, hper⟩, ?_⟩
        exact ⟨.int k, rfl, k, 1, rfl, rfl, .ref ct, rfl, .ref a, rfl, ct, a, c, r, rfl, hct4, e4 _ _ ha, hend2.1.1, hend2.1.2, fun H' p' e5 hp' hp2 => ⟨_, _, rfl, p', rfl, e4.trans e5, hp2⟩⟩
      · have he : c = ident r.length := by simpa using h
        rw [if_pos he] at hper
        rw [← hper] at q
        exact ⟨.int k, rfl, q _ e4⟩
theorem c_l_period (W : Wd w K mg) : Cal P w K mg base CX0 3 "_law_period" (d_l_period.at_ K) (sp_l_period K) := ⟨ok_l_period W, W.g_l_period, W.f_l_period.kp⟩
def sp_best_steps (K : PySem.W.Frag) : Sp := fun vs H Q _ => ∃ a r, vs = [.ref a] ∧ H a = some (.tup (r.map V.int)) ∧ Vr r ∧ ∀ H' p, Same H H' → H p = none → H' p = some (.lst ((bests r).map nV)) → Q (.ref p) H'
abbrev N_best_steps : List Str := ["row", "result", "place"]
theorem sc_best_steps : FnScope N_best_steps ["row"] d_best_steps.scope := ⟨rfl, rfl, rfl, by decide +kernel, rfl, by decide +kernel, by decide +kernel⟩
theorem ok_best_steps (W : Wd w K mg) : FnR P w K mg base CX0 1 (d_best_steps.at_ K) (sp_best_steps K) := by
  refine fnr0 W.f_best_steps sc_best_steps (fun vs H Q E h => ?_) (fun _ _ _ _ _ _ us hl => match us, hl with | [_], _ => rfl) (fun cdv A outer s H vs Q E hr h => ?_)
  · obtain ⟨a, r, rfl, ha, hV, q⟩ := h
    rfl
  · obtain ⟨a, r, rfl, ha, hV, q⟩ := h
    refine ⟨_, (pss_cons (ps_set (i := 1) sc_best_steps.nd rfl (by first | exact Or.inl rfl | exact Or.inr rfl) (pe_ifExp (pt_cmpR op_lt (pe_ix (show IxR _ (rIxT K) from ix_tup) (pv 0) pe_int (fun _ _ => rfl)) pe_int (nomark _)) (pe_lst (pa_cons pe_int pa_nil)) (pe_lst pa_nil)))
      (pss_one (ps_ret (pe_op op_cat (pv 1) (pe_lc (own := [("place", 2)]) (g := gName 2) rfl sc_best_steps.nd (pi_range2 rfl W.z_range (pa_cons pe_int (pa_cons (pe_callB call_len_seq (by rfl) W.z_len PySem.boot_len (pa_cons (pv 0) pa_nil)) pa_nil))) (blkOk_by (own := [("place", 2)]) (N := N_best_steps) (sc := d_best_steps.scope) (by decide +kernel)) (fun _ _ _ _ _ => (pg_name (i := 2) sc_best_steps.nd rfl (by first | exact Or.inl rfl | exact Or.inr rfl))) (fun _ _ _ _ _ => (pts_one (pt_cmpR op_gt (pe_ix (show IxR _ (rIxT K) from ix_tup) (pv 0) (pe_op op_sub (pv 2) pe_int) (fun _ _ => rfl)) (pe_ix (show IxR _ (rIxT K) from ix_tup) (pv 0) (pv 2) (fun _ _ => rfl)) (nomark _)))) (fun _ _ _ _ _ => (pv 2))))))), ?_⟩
    have hp1 := hV.pos
    have h4 := hV.most
    have hYr : ∀ i H x H', YFn (fun i => V.int (1 + (i : Int))) i H x H' → i < r.length - 1 → Same H H' ∧ ∃ y, ((List.range (r.length - 1)).map (· + 1))[i]? = some y ∧ x = nV y := by
      rintro i H x H' ⟨rfl, rfl⟩ hi
      refine ⟨Same.refl _, i + 1, ?_, ?_⟩
      · rw [List.getElem?_map, List.getElem?_range hi]
        rfl
      · show V.int _ = V.int _
        rw [Int.add_comm]
        rfl
    refine ⟨.ref a, rfl, a, _, 0, _, rfl, rfl, SqT.of ha, atI_gen (j := 0) rfl (getD_at (by omega)), _, 0, rfl, rfl, _, rfl, ?_⟩
    refine ite2 (fun h => ?_) fun h => ?_
    · have h : r.getD 0 0 < 0 := of_decide_eq_true h
      refine ⟨by show 1 ≤ sizeLine; decide, fun L hL => ?_⟩
      have eL := same_new (o := .lst [V.int 0]) hL
      have haL := eL _ _ ha
      refine ⟨.ref L, rfl, .ref a, rfl, a, _, rfl, .inr (SqT.of haL), 1, _, rfl, ⟨by decide, by decide, by rw [len_map]; omega, by rw [len_map]; omega⟩, fun D hD => ?_⟩
      rw [show (((r.map V.int).length : Int) - 1).toNat = r.length - 1 by rw [len_map]; omega]
      refine lc_enc (walk_range (lo := 1) (n := r.length - 1)) (xs := (List.range (r.length - 1)).map (· + 1)) (Ex := fun y x _ => x = nV y) (fun p => decide (r.getD p 0 < r.getD (p - 1) 0)) nV (by rw [List.length_map, List.length_range]) hYr (fun _ _ => trivial) (by rw [List.length_map, List.length_range]; omega) hD (fun y x H2 Yc Nn hy hS hE h1 h2 => ?_) fun H2 e2 hD2 => ?_
      · subst hE
        obtain ⟨j, hj, rfl⟩ := List.mem_map.mp hy
        have hj := List.mem_range.mp hj
        have ha2 := hS _ _ haL
        refine ⟨rfl, .ref a, rfl, nV (j + 1), rfl, _, 1, rfl, rfl, a, _, _, _, rfl, rfl, SqT.of ha2, atI_int (by omega) (by omega), .ref a, rfl, nV (j + 1), rfl, a, _, _, _, rfl, rfl, SqT.of ha2, atI_int (by omega) (by omega), _, _, rfl, rfl, _, rfl, ?_⟩
        rw [show (((j + 1 : Nat) : Int) - 1).toNat = j + 1 - 1 by omega, Int.toNat_natCast]
        refine ite2 (fun h => ?_) fun h => ?_
        · exact ⟨_, rfl, h1 _ (Same.refl _) h⟩
        · exact h2 _ (Same.refl _) (Bool.eq_false_iff.mpr h)
      · have hL2 := e2 _ _ (upd_same (H := H) (a := L) (o := HO.lst [V.int 0]))
        refine ⟨L, D, _, _, rfl, rfl, hL2, hD2, ?_, fun p hp => q _ p ((eL.trans e2).trans (same_new hp)) ((eL.trans e2).free hp) ?_⟩
        · rw [List.length_map]
          have h9 := List.length_filter_le (fun p => decide (r.getD p 0 < r.getD (p - 1) 0)) ((List.range (r.length - 1)).map (· + 1))
          rw [List.length_map, List.length_range] at h9
          exact Nat.le_of_lt (small1k (by show 1 + _ ≤ 1000; omega))
        · rw [upd_same]
          unfold bests
          rw [if_pos h]
          rfl
    · have h : ¬ r.getD 0 0 < 0 := fun z => h (decide_eq_true z)
      refine ⟨Nat.zero_le _, fun L hL => ?_⟩
      have eL := same_new (o := .lst []) hL
      have haL := eL _ _ ha
      refine ⟨.ref L, rfl, .ref a, rfl, a, _, rfl, .inr (SqT.of haL), 1, _, rfl, ⟨by decide, by decide, by rw [len_map]; omega, by rw [len_map]; omega⟩, fun D hD => ?_⟩
      rw [show (((r.map V.int).length : Int) - 1).toNat = r.length - 1 by rw [len_map]; omega]
      refine lc_enc (walk_range (lo := 1) (n := r.length - 1)) (xs := (List.range (r.length - 1)).map (· + 1)) (Ex := fun y x _ => x = nV y) (fun p => decide (r.getD p 0 < r.getD (p - 1) 0)) nV (by rw [List.length_map, List.length_range]) hYr (fun _ _ => trivial) (by rw [List.length_map, List.length_range]; omega) hD (fun y x H2 Yc Nn hy hS hE h1 h2 => ?_) fun H2 e2 hD2 => ?_
      · subst hE
        obtain ⟨j, hj, rfl⟩ := List.mem_map.mp hy
        have hj := List.mem_range.mp hj
        have ha2 := hS _ _ haL
        refine ⟨rfl, .ref a, rfl, nV (j + 1), rfl, _, 1, rfl, rfl, a, _, _, _, rfl, rfl, SqT.of ha2, atI_int (by omega) (by omega), .ref a, rfl, nV (j + 1), rfl, a, _, _, _, rfl, rfl, SqT.of ha2, atI_int (by omega) (by omega), _, _, rfl, rfl, _, rfl, ?_⟩
        rw [show (((j + 1 : Nat) : Int) - 1).toNat = j + 1 - 1 by omega, Int.toNat_natCast]
        refine ite2 (fun h => ?_) fun h => ?_
        · exact ⟨_, rfl, h1 _ (Same.refl _) h⟩
        · exact h2 _ (Same.refl _) (Bool.eq_false_iff.mpr h)
      · have hL2 := e2 _ _ (upd_same (H := H) (a := L) (o := HO.lst []))
        refine ⟨L, D, _, _, rfl, rfl, hL2, hD2, ?_, fun p hp => q _ p ((eL.trans e2).trans (same_new hp)) ((eL.trans e2).free hp) ?_⟩
        · rw [List.length_map]
          have h9 := List.length_filter_le (fun p => decide (r.getD p 0 < r.getD (p - 1) 0)) ((List.range (r.length - 1)).map (· + 1))
          rw [List.length_map, List.length_range] at h9
          exact Nat.le_of_lt (small1k (by show 0 + _ ≤ 1000; omega))
        · rw [upd_same]
          unfold bests
          rw [if_neg h]
          rfl
theorem c_best_steps (W : Wd w K mg) : Cal P w K mg base CX0 1 "best_steps" (d_best_steps.at_ K) (sp_best_steps K) := ⟨ok_best_steps W, W.g_best_steps, W.f_best_steps.kp⟩
def sp_performed (K : PySem.W.Frag) : Sp := fun vs H Q _ => ∃ (a : Addr) (r : Mi.Row) (s : Nat), vs = [.ref a, nV s] ∧ H a = some (.tup (r.map V.int)) ∧ Vr r ∧ s < r.length ∧ ∀ H' p, Same H H' → H p = none → H' p = some (.tup ((perf r s).map V.int)) → Q (.ref p) H'
abbrev N_performed : List Str := ["row", "step"]
theorem sc_performed : FnScope N_performed ["row", "step"] d_performed.scope := ⟨rfl, rfl, rfl, by decide +kernel, rfl, by decide +kernel, by decide +kernel⟩
theorem ok_performed (W : Wd w K mg) : FnR P w K mg base CX0 1 (d_performed.at_ K) (sp_performed K) := by
  refine fnr0 W.f_performed sc_performed (fun vs H Q E h => ?_) (fun _ _ _ _ _ _ us hl => match us, hl with | [_, _], _ => rfl) (fun cdv A outer s H vs Q E hr h => ?_)
  · obtain ⟨a, r, s, rfl, ha, hV, hs, q⟩ := h
    rfl
  · obtain ⟨a, r, s, rfl, ha, hV, hs, q⟩ := h
    refine ⟨_, (pss_cons (ps_if (pt_cmpR op_eq (pv 1) pe_int (nomark _)) (pss_one (ps_ret (pe_tup (pa_cons (pe_un un_neg (pe_ix (show IxR _ (rIxT K) from ix_tup) (pv 0) pe_int (fun _ _ => rfl))) (StX.pa_star (pe_slice sl_tup (pv 0) (po_some pe_int) po_none) pa_nil))))) pss_nil)
      (pss_one (ps_ret (pe_tup (StX.pa_star (pe_slice sl_tup (pv 0) po_none (po_some (pe_op op_sub (pv 1) pe_int))) (pa_cons (pe_ix (show IxR _ (rIxT K) from ix_tup) (pv 0) (pv 1) (fun _ _ => rfl)) (pa_cons (pe_ix (show IxR _ (rIxT K) from ix_tup) (pv 0) (pe_op op_sub (pv 1) pe_int) (fun _ _ => rfl)) (StX.pa_star (pe_slice sl_tup (pv 0) (po_some (pe_op op_add (pv 1) pe_int)) po_none) pa_nil)))))))), ?_⟩
    have hp1 := hV.pos
    have h4 := hV.most
    have hd1 : cutV (r.map V.int) (some 1) none = (r.drop 1).map V.int := by
      unfold cutV
      rw [HT.sIx_none, show (1 : Int) = ((1 : Nat) : Int) from rfl, HT.sIx_nat, len_map, Nat.min_eq_left hp1, List.take_of_length_le (by rw [List.length_drop, len_map]; exact Nat.le_refl _), List.map_drop]
    refine ⟨nV s, rfl, rfl, _, rfl, ?_⟩
    rw [show decide (nV s = V.int 0) = decide (s = 0) from nat_eq0 s]
    refine ite2 (fun h => ?_) fun h => ?_
    · have h : s = 0 := of_decide_eq_true h
      subst h
      refine ⟨.ref a, rfl, a, _, 0, _, rfl, rfl, SqT.of ha, atI_gen (j := 0) rfl (getD_at (by omega)), _, rfl, .ref a, rfl, 1, rfl, a, _, rfl, SqT.of ha, ?_, fun p hp => ⟨p, _, rfl, .inl (SqT.of upd_same), ?_, fun t ht => q _ t ((same_new hp).trans (same_new ht)) ((same_new hp).free ht) ?_⟩⟩
      · intro z
        have z1 := z.1
        rw [show (1 : Int) = ((1 : Nat) : Int) from rfl, HT.sIx_nat, len_map] at z1
        omega
      · rw [hd1]
        show (_ :: _ ++ []).length ≤ sizeLine
        rw [List.append_nil, List.length_cons, List.length_map, List.length_drop]
        exact Nat.le_of_lt (small1k (by omega))
      · rw [upd_same, hd1, List.append_nil]
        rfl
    · have h : s ≠ 0 := fun z => h (decide_eq_true z)
      have hd2 : cutV (r.map V.int) none (some ((s : Int) - 1)) = (r.take (s - 1)).map V.int := by
        rw [show (s : Int) - 1 = ((s - 1 : Nat) : Int) by omega, cut_take (by rw [len_map]; omega), List.map_take]
      have hd3 : cutV (r.map V.int) (some ((s : Int) + 1)) none = (r.drop (s + 1)).map V.int := by
        unfold cutV
        rw [HT.sIx_none, show (s : Int) + 1 = ((s + 1 : Nat) : Int) by omega, HT.sIx_nat, len_map, Nat.min_eq_left hs, List.take_of_length_le (by rw [List.length_drop, len_map]; exact Nat.le_refl _), List.map_drop]
      refine ⟨.ref a, rfl, nV s, rfl, s, 1, rfl, rfl, _, rfl, a, _, rfl, SqT.of ha, ?_, fun p hp => ?_⟩
      · intro z
        have z2 := z.2
        rw [show (s : Int) - 1 = ((s - 1 : Nat) : Int) by omega, HT.sIx_nat, len_map] at z2
        omega
      have ha1 := same_new (o := .tup (cutV (r.map V.int) none (some ((s : Int) - 1)))) hp _ _ ha
      refine ⟨p, _, rfl, .inl (SqT.of upd_same), .ref a, rfl, nV s, rfl, a, _, _, _, rfl, rfl, SqT.of ha1, atI_int (by omega) (by omega), .ref a, rfl, nV s, rfl, s, 1, rfl, rfl, a, _, _, _, rfl, rfl, SqT.of ha1, atI_int (by omega) (by omega), .ref a, rfl, nV s, rfl, s, 1, rfl, rfl, _, rfl, a, _, rfl, SqT.of ha1, ?_, fun p2 hp2 => ?_⟩
      · intro z
        have z1 := z.1
        rw [show (s : Int) + 1 = ((s + 1 : Nat) : Int) by omega, HT.sIx_nat, len_map] at z1
        omega
      refine ⟨p2, _, rfl, .inl (SqT.of upd_same), ?_, fun t ht => q _ t (((same_new hp).trans (same_new hp2)).trans (same_new ht)) (((same_new hp).trans (same_new hp2)).free ht) ?_⟩
      · rw [hd2, hd3]
        simp only [List.length_append, List.length_cons, List.length_map, List.length_take, List.length_drop, List.length_nil]
        exact Nat.le_of_lt (small1k (by omega))
      · rw [upd_same, hd2, hd3]
        unfold perf
        rw [if_neg h, List.append_nil]
        simp only [List.map_append, List.map_cons, List.map_nil, Int.toNat_natCast, show ((s : Int) - 1).toNat = s - 1 by omega, List.append_assoc, List.cons_append, List.nil_append]
theorem c_performed (W : Wd w K mg) : Cal P w K mg base CX0 1 "performed" (d_performed.at_ K) (sp_performed K) := ⟨ok_performed W, W.g_performed, W.f_performed.kp⟩
end
end Tc
set_option maxHeartbeats 0
namespace Mi
theorem chk_words : (allRows.all fun r => decide (bests r = (List.range r.length).filter fun s => decide (dis (stp r (nst s)) < dis r)) && decide (dis r ≤ 16)) = true := by decide +kernel
theorem chk_perf : (allRows.all fun r => (List.range r.length).all fun s => decide (perf r s = stp r (nst s))) = true := by decide +kernel
theorem bests_eq {r : Row} (h : vrB r = true) : bests r = (List.range r.length).filter fun s => decide (dis (stp r (nst s)) < dis r) := by
  have := List.all_eq_true.mp chk_words r (vrB_mem h)
  exact of_decide_eq_true (Bool.and_eq_true_iff.mp this).1
theorem dis_le {r : Row} (h : vrB r = true) : dis r ≤ 16 := by
  have := List.all_eq_true.mp chk_words r (vrB_mem h)
  exact of_decide_eq_true (Bool.and_eq_true_iff.mp this).2
theorem perf_eq {r : Row} (h : vrB r = true) {s : Nat} (hs : s < r.length) : perf r s = stp r (nst s) :=
  of_decide_eq_true (List.all_eq_true.mp (List.all_eq_true.mp chk_perf r (vrB_mem h)) s (List.mem_range.mpr hs))
theorem nst_ok {n s : Nat} (h : s < n) : (nst s).ok n = true := by
  unfold nst
  by_cases e : s = 0
  · rw [if_pos e]
    simp only [Stp.ok, Bool.and_eq_true, decide_eq_true_eq]
    omega
  · rw [if_neg e]
    simp only [Stp.ok, Bool.and_eq_true, decide_eq_true_eq]
    omega
theorem bests_lt {r : Row} (h : vrB r = true) {s : Nat} (hs : s ∈ bests r) : s < r.length ∧ dis (stp r (nst s)) < dis r := by
  rw [bests_eq h] at hs
  have := List.mem_filter.mp hs
  exact ⟨List.mem_range.mp this.1, of_decide_eq_true this.2⟩
theorem perf_vr {r : Row} (h : vrB r = true) {s : Nat} (hs : s < r.length) : vrB (perf r s) = true := by
  rw [perf_eq h hs]
  exact stp_vr h (nst_ok hs)
theorem disAt_nn (r : Row) (i : Nat) (c : Int) : 0 ≤ disAt r i c := by
  unfold disAt
  omega
theorem disRun_nn (r : Row) : ∀ k, 0 ≤ disRun r k
  | 0 => by
    show (0 : Int) ≤ ((List.filter _ r).length : Int)
    omega
  | k + 1 => by
    have ih := disRun_nn r k
    unfold disRun at ih ⊢
    rw [List.range_succ, List.foldl_append]
    have := disAt_nn r k (r.getD k 0)
    show 0 ≤ _ + _
    omega
theorem dis_nn (r : Row) : 0 ≤ dis r := disRun_nn r r.length
theorem cnt_stable : ∀ (f g : Nat) (r : Row), vrB r = true → dis r < f → dis r < g → cnt f r = cnt g r
  | 0, _, r, _, h, _ => by
    have := dis_nn r
    omega
  | _, 0, r, _, _, h => by
    have := dis_nn r
    omega
  | f + 1, g + 1, r, hv, h1, h2 => by
    unfold cnt
    by_cases e : bests r = []
    · rw [if_pos e, if_pos e]
    · rw [if_neg e, if_neg e]
      have : (bests r).map (fun s => cnt f (perf r s)) = (bests r).map (fun s => cnt g (perf r s)) := by
        refine List.map_congr_left fun s hs => ?_
        obtain ⟨h3, h4⟩ := bests_lt hv hs
        have h5 := perf_eq hv h3
        exact cnt_stable f g _ (perf_vr hv h3) (by rw [h5]; omega) (by rw [h5]; omega)
      rw [this]
theorem words_rec {r : Row} (hv : vrB r = true) : words r = if bests r = [] then 1 else ((bests r).map fun s => words (perf r s)).sum := by
  have hd := dis_le hv
  unfold words
  rw [cnt_stable 17 18 r hv (by omega) (by omega)]
  rfl
theorem sum_bound (l : List Nat) (g : Nat → Int) (B : Int) (h : ∀ x ∈ l, 0 ≤ g x ∧ g x ≤ B) : 0 ≤ (l.map g).sum ∧ (l.map g).sum ≤ B * l.length := by
  induction l with
  | nil => simp
  | cons x l ih =>
    have h1 := h x (List.mem_cons_self ..)
    have h2 := ih fun y hy => h y (List.mem_cons_of_mem _ hy)
    rw [List.map_cons, List.sum_cons, List.length_cons]
    have e : B * ((l.length + 1 : Nat) : Int) = B * l.length + B := by
      rw [show ((l.length + 1 : Nat) : Int) = (l.length : Int) + 1 by omega, Int.mul_add, Int.mul_one]
    rw [e]
    omega
theorem cnt_bound : ∀ (f : Nat) (r : Row), vrB r = true → 0 ≤ cnt f r ∧ cnt f r ≤ 4 ^ f
  | 0, r, _ => by
    show (0 : Int) ≤ 1 ∧ (1 : Int) ≤ 1
    omega
  | f + 1, r, hv => by
    unfold cnt
    have hp : (1 : Int) ≤ 4 ^ f := by have h0 : (0 : Int) < 4 ^ f := Int.pow_pos (by decide); omega
    rw [Int.pow_succ]
    by_cases e : bests r = []
    · rw [if_pos e]
      omega
    · rw [if_neg e]
      have hb := sum_bound (bests r) (fun s => cnt f (perf r s)) (4 ^ f) fun s hs => cnt_bound f _ (perf_vr hv (bests_lt hv hs).1)
      have hl : (bests r).length ≤ 4 := by
        rw [bests_eq hv]
        refine Nat.le_trans (List.length_filter_le _ _) ?_
        rw [List.length_range]
        exact (vrB_parts hv).2.1
      refine ⟨hb.1, Int.le_trans hb.2 (Int.mul_le_mul_of_nonneg_left (by omega) (by omega))⟩
theorem words_bound {r : Row} (hv : vrB r = true) : 0 ≤ words r ∧ words r ≤ 4 ^ 17 := cnt_bound 17 r hv
end Mi
set_option maxHeartbeats 4000000
namespace Tc
open PySem PySem.Spec PyProof.Rows L2 He He5 Mi
/-! ### the dict of known words -/
def kk (r : Mi.Row) : List L2.Key := r.map Sum.inl
theorem kk_tup (r : Mi.Row) : r.map V.int = (kk r).map kV := by
  unfold kk
  rw [List.map_map]
  rfl
theorem kk_inj {r s : Mi.Row} (h : kk r = kk s) : r = s := by
  unfold kk at h
  induction r generalizing s with
  | nil =>
    cases s with
    | nil => rfl
    | cons y s => cases h
  | cons x r ih =>
    cases s with
    | nil => cases h
    | cons y s =>
      rw [List.map_cons, List.map_cons] at h
      have h1 := List.cons.inj h
      rw [Sum.inl.inj h1.1, ih h1.2]
structure Kn (kvs : List (List L2.Key × V)) : Prop where
  ok : ∀ e ∈ kvs, ∃ r, vrB r = true ∧ e.1 = kk r ∧ e.2 = .int (words r)
  nd : (kvs.map (·.1)).Nodup
theorem nodup_le {α : Type} [DecidableEq α] : ∀ (l m : List α), l.Nodup → (∀ x ∈ l, x ∈ m) → l.length ≤ m.length
  | [], _, _, _ => Nat.zero_le _
  | x :: l, m, h, hs => by
    have hx := hs x (List.mem_cons_self ..)
    have h1 := List.nodup_cons.mp h
    have ih := nodup_le l (m.erase x) h1.2 fun y hy => (List.mem_erase_of_ne (fun e => h1.1 (by rw [← e]; exact hy))).mpr (hs y (List.mem_cons_of_mem _ hy))
    rw [List.length_erase_of_mem hx] at ih
    have : 0 < m.length := List.length_pos_of_mem hx
    rw [List.length_cons]
    omega
theorem rows_len : allRows.length = 442 := by decide +kernel
theorem Kn.len {kvs : List (List L2.Key × V)} (h : Kn kvs) : kvs.length < sizeLine := by
  have h1 := nodup_le (kvs.map (·.1)) (allRows.map kk) h.nd fun x hx => by
    obtain ⟨e, he, rfl⟩ := List.mem_map.mp hx
    obtain ⟨r, h1, h2, _⟩ := h.ok e he
    rw [h2]
    exact List.mem_map.mpr ⟨r, vrB_mem h1, rfl⟩
  rw [List.length_map, List.length_map, rows_len] at h1
  exact small1k (by omega)
theorem Kn.get {kvs : List (List L2.Key × V)} (h : Kn kvs) {r : Mi.Row} {v : V} (e : valV kvs (kk r) = some v) : v = .int (words r) := by
  unfold valV at e
  cases hf : kvs.find? (fun kv => decide (kv.1 = kk r)) with
  | none => rw [hf] at e; cases e
  | some p =>
    rw [hf] at e
    have h1 : p.2 = v := Option.some.inj e
    obtain ⟨s, _, h2, h3⟩ := h.ok p (List.mem_of_find?_eq_some hf)
    have h4 : p.1 = kk r := by
      have := List.find?_some hf
      simpa using this
    rw [← h1, h3, kk_inj (h2.symm.trans h4)]
theorem Kn.put {kvs : List (List L2.Key × V)} (h : Kn kvs) {r : Mi.Row} (hr : vrB r = true) : Kn (putK kvs (kk r) (.int (words r))) := by
  unfold putK
  by_cases hc : (kvs.any fun kv => decide (kv.1 = kk r)) = true
  · rw [if_pos hc]
    refine ⟨fun x hx => ?_, ?_⟩
    · obtain ⟨y, hy, rfl⟩ := List.mem_map.mp hx
      by_cases e : y.1 = kk r
      · rw [if_pos e]
        exact ⟨r, hr, e, rfl⟩
      · rw [if_neg e]
        exact h.ok y hy
    · have : (kvs.map (fun kv => if kv.1 = kk r then (kv.1, V.int (words r)) else kv)).map (·.1) = kvs.map (·.1) := by
        rw [List.map_map]
        refine List.map_congr_left fun y _ => ?_
        show (if y.1 = kk r then (y.1, V.int (words r)) else y).1 = y.1
        split <;> rfl
      rw [this]
      exact h.nd
  · rw [if_neg hc]
    have e : kk r ∉ kvs.map (·.1) := fun z => by
      obtain ⟨y, hy, e⟩ := List.mem_map.mp z
      exact hc (List.any_eq_true.mpr ⟨y, hy, decide_eq_true e⟩)
    refine ⟨fun x hx => ?_, ?_⟩
    · rcases List.mem_append.mp hx with z | z
      · exact h.ok x z
      · rw [List.mem_singleton.mp z]
        exact ⟨r, hr, rfl, rfl⟩
    · rw [List.map_append, List.nodup_append]
      refine ⟨h.nd, by simp, fun a ha b hb => ?_⟩
      rw [List.mem_singleton.mp hb]
      intro z
      rw [z] at ha
      exact e ha
theorem Kn.nil : Kn [] := ⟨fun _ h => absurd h List.not_mem_nil, List.nodup_nil⟩
/-- nothing changed but d -/
def Sx (d : Addr) (H H' : Hp) : Prop := ∀ b o, H b = some o → b ≠ d → H' b = some o
theorem Sx.refl (d : Addr) (H : Hp) : Sx d H H := fun _ _ h _ => h
theorem Sx.trans {d : Addr} {H H1 H2 : Hp} (a : Sx d H H1) (b : Sx d H1 H2) : Sx d H H2 := fun c o h n => b c o (a c o h n) n
theorem same_sx {d : Addr} {H H' : Hp} (e : Same H H') : Sx d H H' := fun b o h _ => e b o h
def KnAt (d : Addr) (H : Hp) : Prop := ∃ kvs, H d = some (.dT kvs) ∧ Kn kvs
theorem KnAt.same {d : Addr} {H H' : Hp} (e : Same H H') (h : KnAt d H) : KnAt d H' := let ⟨k, h1, h2⟩ := h; ⟨k, e _ _ h1, h2⟩
theorem KnAt.ne {d p : Addr} {H : Hp} (h : KnAt d H) (hp : H p = none) : p ≠ d := fun e => by
  obtain ⟨k, h1, _⟩ := h
  rw [e, h1] at hp
  cases hp
theorem KnAt.mut {d p : Addr} {o : HO} {H : Hp} (h : KnAt d H) (hp : p ≠ d) : KnAt d (upd H p o) := let ⟨k, h1, h2⟩ := h; ⟨k, (upd_ne (fun e => hp e.symm)).trans h1, h2⟩
theorem sx_mut {d p : Addr} {o : HO} {H H' : Hp} (e : Sx d H H') (hp : H p = none) : Sx d H (upd H' p o) := fun b x h n => by
  rw [upd_ne (ne_of_none h hp)]
  exact e b x h n
/-- a comprehension without tests, each turn of which may put words into the dict d -/
theorem lc_kn {J : It} {n : Nat} {G : Hp → Prop} {Y : Nat → Hp → V → Hp → Prop} (w : Walk J n G Y) {α : Type} {xs : List α} {Ex : α → V → Hp → Prop} {g : TG} {tt : TT} {te : TE} {vs : List Nat} {σ : L2.St} {H1 : Hp} {D d : Addr} {Qd : Hp → Prop}
    (f : α → V) (hn : n = xs.length) (hY : ∀ i H x H', Y i H x H' → i < n → Same H H' ∧ ∃ y, xs[i]? = some y ∧ Ex y x H') (hG : ∀ H', Sx d H1 H' → G H') (hsz : xs.length ≤ 1000) (hD : H1 D = none) (hk : KnAt d H1)
    (hs : ∀ y x H2 (Yc : V → Hp → Prop) (Nn : Hp → Prop), y ∈ xs → Sx d H1 H2 → KnAt d H2 → Ex y x H2 → (∀ H3, Sx d H2 H3 → KnAt d H3 → Yc (f y) H3) →
      g x (wipe σ vs) H2 fun σ2 H2 => wipe σ2 vs = wipe σ vs ∧ tt σ2 H2 fun b H3 => if b = true then te σ2 H3 Yc else Nn H3)
    (hd : ∀ H', Sx d H1 H' → KnAt d H' → H' D = some (.lst (xs.map f)) → Qd H') :
    ∃ W : Nat → Nat → Hp → Prop, (∃ m, W 0 m (upd H1 D (.lst []))) ∧ ∀ i m H, W i m H →
      (J.stop i H ∧ Qd H) ∨ (J.go i H ∧ ∃ Nx : Hp → Prop, (∀ H', Nx H' → ∃ m', m' < m ∧ W (i + 1) m' H') ∧ ∀ x H', J.yld i H x H' → g x (wipe σ vs) H' fun σ2 H2 => wipe σ2 vs = wipe σ vs ∧ tt σ2 H2 fun b H3 =>
        if b = true then te σ2 H3 fun y H4 => ∃ acc, H4 D = some (.lst acc) ∧ acc.length < sizeLine ∧ Nx (upd H4 D (.lst (acc ++ [y]))) else Nx H3) := by
  have hDd := hk.ne hD
  refine lc_it w (fun i H => Sx d H1 H ∧ KnAt d H ∧ H D = some (.lst ((xs.take i).map f))) ⟨sx_mut (Sx.refl _ _) hD, hk.mut hDd, upd_same⟩ (fun i H _ h => hG H h.1) (fun i x H H' hi hP hy => ?_) (fun H h => hd H h.1 h.2.1 ?_)
  · obtain ⟨hS, y, hy1, hE⟩ := hY i H x H' hy hi
    obtain ⟨h1, hkn, h2⟩ := hP
    have hm : y ∈ xs := List.mem_of_getElem? hy1
    have ht : xs.take (i + 1) = xs.take i ++ [y] := by rw [List.take_add_one, hy1]; rfl
    refine hs y x H' _ _ hm (h1.trans (same_sx hS)) (hkn.same hS) hE (fun H3 e3 hk3 => ?_)
    refine ⟨_, e3 _ _ (hS _ _ h2) hDd, ?_, ?_, hk3.mut hDd, ?_⟩
    · rw [List.length_map, List.length_take]
      exact small1k (by omega)
    · exact sx_mut ((h1.trans (same_sx hS)).trans e3) hD
    · rw [upd_same, ht, List.map_append]
      rfl
  · have h2 := h.2.2
    rw [hn, List.take_length] at h2
    exact h2
section
variable {P : Program} {w : World} {K : PySem.W.Frag} {mg : Str → Option Value} {base : Heap}
def sp_count_from (K : PySem.W.Frag) (f : Nat) : Sp := fun vs H Q _ => ∃ (a d : Addr) (r : Mi.Row), vs = [.ref a, .ref d] ∧ H a = some (.tup (r.map V.int)) ∧ vrB r = true ∧ KnAt d H ∧ dis r < f ∧ ∀ H', Sx d H H' → KnAt d H' → Q (.int (words r)) H'
abbrev N_count_from : List Str := ["row", "known", "best", "step"]
theorem sc_count_from : FnScope N_count_from ["row", "known"] d_count_from.scope := ⟨rfl, rfl, rfl, by decide +kernel, rfl, by decide +kernel, by decide +kernel⟩
theorem bnd_count_from : ∀ (kV doc pm : Value) (an : Option Addr) (cdv ct : Value) (us : List Value), us.length = ["row", "known"].length → bindArgs (PySem.W.fnOf d_count_from.name d_count_from.qual d_count_from.params d_count_from.body d_count_from.scope .none kV doc pm an cdv ct) ⟨us, []⟩ = pure ((["row", "known"] : List Str).zip us) :=
  fun _ _ _ _ _ _ us hl => match us, hl with | [_, _], _ => rfl
theorem ok_count_from (W : Wd w K mg) : ∀ f : Nat, FnR P w K mg base CX0 (f + 2) (d_count_from.at_ K) (sp_count_from K f)
  | 0 => fnr0 (k := 1) W.f_count_from sc_count_from (fun vs H Q E h => by obtain ⟨_, _, _, rfl, _⟩ := h; rfl) bnd_count_from (fun cdv A outer s H vs Q E hr h => by
    obtain ⟨_, _, r, _, _, _, _, h, _⟩ := h
    have := dis_nn r
    omega)
  | f + 1 => by
    refine fnr0 (k := f + 2) W.f_count_from sc_count_from (fun vs H Q E h => ?_) bnd_count_from (fun cdv A outer s H vs Q E hr h => ?_)
    · obtain ⟨_, _, _, rfl, _⟩ := h
      rfl
    · obtain ⟨a, d, r, rfl, ha, hr1, hkn, hf, q⟩ := h
      have cme : Cal P w K mg base CX0 (f + 2) "count_from" (d_count_from.at_ K) (sp_count_from K f) := ⟨ok_count_from W f, W.g_count_from, W.f_count_from.kp⟩
      refine ⟨_, (pss_cons (ps_if (pt_cmp (pc_dnotin (hu_of hr) (pv 0) (pv 1))) (pss_cons (ps_set (i := 2) sc_count_from.nd rfl (by first | exact Or.inl rfl | exact Or.inr rfl) (pe_c (c_best_steps W) (hr.mono (by omega)) pass0 (pa_cons (pv 0) pa_nil)))
      (pss_one (ps_dput (hu_of hr) (pv 1) (pv 0) (pe_ifExp (pt_cmpR (op_neD hr.units) (pv 2) (pe_lst pa_nil) (nomark _)) (pe_callB (cr_sum rfl) (by rfl) W.z_sum (by decide +kernel) (pa_cons (pe_lc (own := [("step", 3)]) (g := gName 3) rfl sc_count_from.nd (pi_list (pv 2)) (blkOk_by (own := [("step", 3)]) (N := N_count_from) (sc := d_count_from.scope) (by decide +kernel)) (fun _ _ _ _ _ => (pg_name (i := 3) sc_count_from.nd rfl (by first | exact Or.inl rfl | exact Or.inr rfl))) (fun _ _ _ _ _ => pts_nil) (fun _ _ _ _ _ => (pe_c cme hr pass0 (pa_cons (pe_c (c_performed W) (hr.mono (by omega)) pass0 (pa_cons (pv 0) (pa_cons (pv 3) pa_nil))) (pa_cons (pv 1) pa_nil))))) pa_nil)) pe_int) rfl))) pss_nil)
      (pss_one (ps_ret (pe_dget (hu_of hr) (pv 1) (pv 0) (fun _ _ => rfl))))), ?_⟩
      have hV := vrB_Vr hr1
      have haS : ∀ H', Same H H' → H' a = some (.tup ((kk r).map kV)) := fun H' e => by rw [← kk_tup]; exact e _ _ ha
      have hgone : ∀ H', Sx d H H' → H' a = some (.tup (r.map V.int)) := fun H' e => e _ _ ha (fun z => by
        obtain ⟨kv, h1, _⟩ := hkn
        rw [← z, ha] at h1
        cases h1)
      obtain ⟨kvs, hd, hk⟩ := id hkn
      refine ⟨.ref a, rfl, .ref d, rfl, d, _, rfl, DGet.t (k := kk r) hd (haS _ (Same.refl _)), _, rfl, ite2 (fun hc => ?_) fun hc => ?_⟩
      · have hnone : valV kvs (kk r) = none := by
          cases e : valV kvs (kk r) with
          | none => rfl
          | some v => rw [e] at hc; cases hc
        -- what follows the store
        have fin : ∀ (H5 : Hp) (y2 y3 : Option V), Sx d H H5 → KnAt d H5 → ∀ kvs5, H5 d = some (.dT kvs5) → ∃ H6, DPut H5 d (.ref a) (.int (words r)) H6 ∧ Sx d H H6 ∧ KnAt d H6 ∧ DGet H6 d (.ref a) (some (.int (words r))) := by
          intro H5 y2 y3 e5 hk5 kvs5 hd5
          have hkn5 : Kn kvs5 := by
            obtain ⟨k', h1, h2⟩ := hk5
            rw [hd5] at h1
            cases h1
            exact h2
          have ha5 := hgone H5 e5
          rw [kk_tup] at ha5
          have had : a ≠ d := fun z => by rw [← z, ha5] at hd5; cases hd5
          refine ⟨_, DPut.t hd5 ha5 hkn5.len, ?_, ⟨_, upd_same, ?_⟩, ?_⟩
          · intro b o h n
            rw [upd_ne n]
            exact e5 b o h n
          · exact hkn5.put hr1
          · have := DGet.t (k := kk r) (upd_same (H := H5) (a := d) (o := HO.dT (putK kvs5 (kk r) (.int (words r))))) ((upd_ne had).trans ha5)
            rw [valV_put, if_pos rfl] at this
            exact this
        refine ⟨.ref a, rfl, a, r, rfl, ha, hV, fun H1 p e1 hp hp1 => ⟨.ref p, rfl, Nat.zero_le _, fun l hl => ?_⟩⟩
        refine ⟨.list (((bests r).map fun p : Nat => (p : Int)).map PyData.int), .list (([] : List Int).map PyData.int), .lst (SqL.of (xs := (bests r).map nV) ((upd_ne (fun e => by rw [← e, hp1] at hl; cases hl)).trans hp1)) (by rw [map_nV]; exact dp_ints _), .lst (SqL.of upd_same) .nil, sh_listI _, sh_listI _, _, rfl, ?_⟩
        rw [show PyData.eqv (.list (((bests r).map fun p : Nat => (p : Int)).map PyData.int)) (.list (([] : List Int).map PyData.int)) = decide ((bests r).map (fun p : Nat => (p : Int)) = []) from eqv_ints _ _]
        have e2 := e1.trans (same_new (o := .lst []) hl)
        have hp2 := same_new (o := .lst []) hl _ _ hp1
        refine ite2 (fun hne => ?_) fun hne => ?_
        · have hne2 : bests r ≠ [] := by
            intro z
            rw [z] at hne
            exact absurd hne (by decide)
          have hdp : p ≠ d := fun z => by
            rw [z, hd] at hp
            cases hp
          have hwr : words r = ((bests r).map fun s => words (perf r s)).sum := by rw [words_rec hr1, if_neg hne2]
          have hk2 : KnAt d (upd H1 l (.lst [])) := hkn.same e2
          have hbl : (bests r).length ≤ 1000 := by
            rw [bests_eq hr1]
            refine Nat.le_trans (List.length_filter_le _ _) ?_
            rw [List.length_range]
            exact vr_len hV
          refine ⟨.ref p, rfl, p, rfl, ⟨_, SqL.of hp2⟩, fun D hD => lc_kn (d := d) (wl (xs := bests r)) (Ex := fun s x _ => x = nV s) (fun s => V.int (words (perf r s))) rfl yat (fun H' e => SqL.of (e _ _ hp2 hdp)) hbl hD hk2 (fun y x H3 Yc Nn hy hS hk3 hE h1 => ?_) fun H4 e4 hk4 hD4 => ?_⟩
          · subst hE
            obtain ⟨hy1, hy2⟩ := bests_lt hr1 hy
            have ha3 := hgone H3 ((same_sx e2).trans hS)
            exact ⟨rfl, .ref a, rfl, nV y, rfl, a, r, y, rfl, ha3, hV, hy1, fun H5 p5 e5 hp5 hp6 => ⟨.ref d, rfl, p5, d, perf r y, rfl, hp6, perf_vr hr1 hy1, hk3.same e5, by rw [perf_eq hr1 hy1]; omega, fun H6 e6 hk6 => h1 _ ((same_sx e5).trans e6) hk6⟩⟩
          · have e5 : (bests r).map (fun s => V.int (words (perf r s))) = ((bests r).map fun s => words (perf r s)).map V.int := by
              rw [List.map_map]
              rfl
            rw [e5] at hD4
            have eS := (same_sx (d := d) e2).trans e4
            obtain ⟨kvs4, hd4, _⟩ := id hk4
            obtain ⟨H6, hput, e6, hk6, hget⟩ := fin H4 none none eS hk4 kvs4 hd4
            refine ⟨D, _, rfl, SqL.of hD4, .ref d, rfl, .ref a, rfl, d, H6, rfl, ?_, ?_⟩
            · rw [← hwr]
              exact hput
            · exact ⟨.ref d, rfl, .ref a, rfl, d, _, rfl, hget, q _ e6 hk6⟩
        · have hne2 : bests r = [] := by
            cases e : bests r with
            | nil => rfl
            | cons x l =>
              rw [e] at hne
              exact absurd rfl hne
          have hwr : words r = 1 := by rw [words_rec hr1, if_pos hne2]
          have hk2 : KnAt d (upd H1 l (.lst [])) := hkn.same e2
          obtain ⟨kvs4, hd4, _⟩ := id hk2
          obtain ⟨H6, hput, e6, hk6, hget⟩ := fin _ none none (same_sx e2) hk2 kvs4 hd4
          refine ⟨.ref d, rfl, .ref a, rfl, d, H6, rfl, ?_, ?_⟩
          · rw [hwr] at hput
            exact hput
          · exact ⟨.ref d, rfl, .ref a, rfl, d, _, rfl, hget, q _ e6 hk6⟩
      · have hsome : ∃ v, valV kvs (kk r) = some v := by
          cases e : valV kvs (kk r) with
          | none => rw [e] at hc; exact absurd rfl hc
          | some v => exact ⟨v, rfl⟩
        obtain ⟨v, hv⟩ := hsome
        have hq := q H (Sx.refl _ _) hkn
        rw [← hk.get hv] at hq
        refine ⟨.ref d, rfl, .ref a, rfl, d, v, rfl, ?_, hq⟩
        rw [← hv]
        exact DGet.t (k := kk r) hd (haS _ (Same.refl _))
end
end Tc
namespace Tc
open PySem PySem.Spec PyProof.Rows L2 He He5 Mi
theorem ite_int {c : Prop} [Decidable c] {a b : Int} : (if c then V.int a else V.int b) = V.int (if c then a else b) := by split <;> rfl
section
variable {P : Program} {w : World} {K : PySem.W.Frag} {mg : Str → Option Value} {base : Heap}
theorem put_words {H H5 : Hp} {d a : Addr} {r : Mi.Row} (hr1 : vrB r = true) (e5 : Sx d H H5) (hk5 : KnAt d H5) (ha5 : H5 a = some (.tup (r.map V.int))) :
    ∃ H6, DPut H5 d (.ref a) (.int (words r)) H6 ∧ Sx d H H6 ∧ KnAt d H6 ∧ DGet H6 d (.ref a) (some (.int (words r))) := by
  obtain ⟨kvs5, hd5, hkn5⟩ := hk5
  rw [kk_tup] at ha5
  have had : a ≠ d := fun z => by rw [← z, ha5] at hd5; cases hd5
  refine ⟨_, DPut.t hd5 ha5 hkn5.len, ?_, ⟨_, upd_same, hkn5.put hr1⟩, ?_⟩
  · intro b o h n
    rw [upd_ne n]
    exact e5 b o h n
  · have := DGet.t (k := kk r) (upd_same (H := H5) (a := d) (o := HO.dT (putK kvs5 (kk r) (.int (words r))))) ((upd_ne had).trans ha5)
    rw [valV_put, if_pos rfl] at this
    exact this
def sp_l_words (K : PySem.W.Frag) (f : Nat) : Sp := sp_count_from K f
abbrev N_l_words : List Str := ["_law_cards_here", "_law_known", "_law_below", "_law_step_here", "_law_other"]
theorem sc_l_words : FnScope N_l_words ["_law_cards_here", "_law_known"] d_l_words.scope := ⟨rfl, rfl, rfl, by decide +kernel, rfl, by decide +kernel, by decide +kernel⟩
theorem bnd_l_words : ∀ (kV doc pm : Value) (an : Option Addr) (cdv ct : Value) (us : List Value), us.length = ["_law_cards_here", "_law_known"].length → bindArgs (PySem.W.fnOf d_l_words.name d_l_words.qual d_l_words.params d_l_words.body d_l_words.scope .none kV doc pm an cdv ct) ⟨us, []⟩ = pure ((["_law_cards_here", "_law_known"] : List Str).zip us) :=
  fun _ _ _ _ _ _ us hl => match us, hl with | [_, _], _ => rfl
/-- what the loop has gathered -/
def wl_ (r : Mi.Row) (i : Nat) : List Int := ((List.range i).filter fun s => decide (dis (stp r (nst s)) < dis r)).map fun s => words (stp r (nst s))
theorem wl_succ (r : Mi.Row) (i : Nat) : wl_ r (i + 1) = if dis (stp r (nst i)) < dis r then wl_ r i ++ [words (stp r (nst i))] else wl_ r i := by
  unfold wl_
  rw [List.range_succ, List.filter_append, List.filter_cons]
  by_cases h : dis (stp r (nst i)) < dis r
  · rw [if_pos h, if_pos (decide_eq_true h), List.map_append]
    rfl
  · rw [if_neg h, if_neg (by simpa using h), List.filter_nil, List.append_nil]
theorem wl_len (r : Mi.Row) (i : Nat) : (wl_ r i).length ≤ i := by
  unfold wl_
  rw [List.length_map]
  refine Nat.le_trans (List.length_filter_le _ _) ?_
  rw [List.length_range]
  exact Nat.le_refl _
theorem wl_words {r : Mi.Row} (hv : vrB r = true) : words r = if wl_ r r.length = [] then 1 else (wl_ r r.length).sum := by
  have e : wl_ r r.length = (bests r).map fun s => words (perf r s) := by
    unfold wl_
    rw [bests_eq hv]
    refine List.map_congr_left fun s hs => ?_
    rw [perf_eq hv (List.mem_range.mp (List.mem_filter.mp hs).1)]
  rw [e, words_rec hv]
  by_cases h : bests r = []
  · rw [if_pos h, h]
    rfl
  · rw [if_neg h, if_neg (fun z => h (List.map_eq_nil_iff.mp z))]
theorem ok_l_words (W : Wd w K mg) : ∀ f : Nat, FnR P w K mg base CX0 (f + 2) (d_l_words.at_ K) (sp_l_words K f)
  | 0 => fnr0 (k := 1) W.f_l_words sc_l_words (fun vs H Q E h => by obtain ⟨_, _, _, rfl, _⟩ := h; rfl) bnd_l_words (fun cdv A outer s H vs Q E hr h => by
    obtain ⟨_, _, r, _, _, _, _, h, _⟩ := h
    have := dis_nn r
    omega)
  | f + 1 => by
    refine fnr0 (k := f + 2) W.f_l_words sc_l_words (fun vs H Q E h => ?_) bnd_l_words (fun cdv A outer s H vs Q E hr h => ?_)
    · obtain ⟨_, _, _, rfl, _⟩ := h
      rfl
    · obtain ⟨a, d, r, rfl, ha, hr1, hkn, hf, q⟩ := h
      have cme : Cal P w K mg base CX0 (f + 2) "_law_words" (d_l_words.at_ K) (sp_l_words K f) := ⟨ok_l_words W f, W.g_l_words, W.f_l_words.kp⟩
      refine ⟨_, (pss_cons (ps_if (pt_cmp (pc_dnotin (hu_of hr) (pv 0) (pv 1))) (pss_cons (ps_set (i := 2) sc_l_words.nd rfl (by first | exact Or.inl rfl | exact Or.inr rfl) (pe_lst pa_nil))
      (pss_cons (ps_for PassesOwn.never rfl (pi_range1 rfl W.z_range (pa_cons (pe_callB call_len_seq (by rfl) W.z_len PySem.boot_len (pa_cons (pv 0) pa_nil)) pa_nil)) (pg_name (i := 3) sc_l_words.nd rfl (by first | exact Or.inl rfl | exact Or.inr rfl)) (pss_cons (ps_set (i := 4) sc_l_words.nd rfl (by first | exact Or.inl rfl | exact Or.inr rfl) (pe_c (c_l_done W) (hr.mono (by omega)) pass0 (pa_cons (pv 0) (pa_cons (pe_ifExp (pt_cmpR op_eq (pv 3) pe_int (nomark _)) (pe_tup (pa_cons pe_str (pa_cons pe_int pa_nil))) (pe_tup (pa_cons pe_str (pa_cons (pv 3) (pa_cons (pe_op op_add (pv 3) pe_int) pa_nil))))) pa_nil))))
      (pss_one (ps_if (pt_cmpR op_lt (pe_c (c_l_disorders W) (hr.mono (by omega)) pass0 (pa_cons (pv 4) pa_nil)) (pe_c (c_l_disorders W) (hr.mono (by omega)) pass0 (pa_cons (pv 0) pa_nil)) (nomark _)) (pss_one (ps_expr (pe_bm PySem.F.plainAttrs_list PySem.F.slot_list_append PySem.F.type_list_append mt_append (pv 2) (pa_cons (pe_c cme hr pass0 (pa_cons (pv 4) (pa_cons (pv 1) pa_nil))) pa_nil)))) pss_nil))))
      (pss_one (ps_dput (hu_of hr) (pv 1) (pv 0) (pe_ifExp (pt_cmpR (op_neD hr.units) (pv 2) (pe_lst pa_nil) (nomark _)) (pe_callB (cr_sum rfl) (by rfl) W.z_sum (by decide +kernel) (pa_cons (pv 2) pa_nil)) pe_int) rfl)))) pss_nil)
      (pss_one (ps_ret (pe_dget (hu_of hr) (pv 1) (pv 0) (fun _ _ => rfl))))), ?_⟩
      have hV := vrB_Vr hr1
      have h4 := hV.most
      have hgone : ∀ H', Sx d H H' → H' a = some (.tup (r.map V.int)) := fun H' e => e _ _ ha (fun z => by
        obtain ⟨kv, h1, _⟩ := hkn
        rw [← z, ha] at h1
        cases h1)
      obtain ⟨kvs, hd, hk⟩ := id hkn
      refine ⟨.ref a, rfl, .ref d, rfl, d, _, rfl, DGet.t (k := kk r) hd (by rw [← kk_tup]; exact ha), _, rfl, ite2 (fun hc => ?_) fun hc => ?_⟩
      · refine ⟨Nat.zero_le _, fun b hb => ?_⟩
        have hbd := hkn.ne hb
        have eb := same_new (o := .lst []) hb
        refine ⟨.ref a, rfl, a, _, rfl, .inr (SqT.of (eb _ _ ha)), _, rfl, by rw [len_map]; omega, by rw [len_map]; omega, ?_⟩
        rw [show (((r.map V.int).length : Int)).toNat = r.length by rw [len_map]; omega]
        refine for_range (lo := 0) (n := r.length) (fun i σ H3 => ∃ y3 y4, σ = [some (.ref a), some (.ref d), some (.ref b), y3, y4] ∧ Sx d H H3 ∧ KnAt d H3 ∧ H3 b = some (.lst ((wl_ r i).map V.int))) ⟨_, _, rfl, same_sx eb, hkn.same eb, upd_same⟩ (fun i σ H3 hi hI => ?_) (fun σ H3 hI => ?_)
        · obtain ⟨y3, y4, rfl, e3, hk3, hb3⟩ := hI
          have ha3 := hgone _ e3
          have hok := nst_ok hi
          have hsv := stp_vr hr1 hok
          -- what comes once the step is there
          have hst : ∀ (H4 : Hp) (t : Addr), Same H3 H4 → H4 t = some (.tup (Stp.vs (nst i))) → ∀ (H5 : Hp) (p : Addr), Same H4 H5 → H4 p = none → H5 p = some (.tup ((stp r (nst i)).map V.int)) → Sx d H H5 ∧ KnAt d H5 ∧ H5 b = some (.lst ((wl_ r i).map V.int)) ∧ H5 a = some (.tup (r.map V.int)) :=
            fun H4 t s1 h1 H5 p s2 h2 h3 => ⟨e3.trans (same_sx (s1.trans s2)), hk3.same (s1.trans s2), (s1.trans s2) _ _ hb3, (s1.trans s2) _ _ ha3⟩
          refine ⟨.ref a, rfl, _, rfl, rfl, _, rfl, ?_⟩
          rw [Int.zero_add, show decide (V.int (i : Int) = V.int 0) = decide (i = 0) from nat_eq0 i]
          refine ite2 (fun h0 => ?_) fun h0 => ?_
          · have h0 : i = 0 := of_decide_eq_true h0
            have hn : nst i = .turn 1 := if_pos h0
            refine ⟨by show 2 ≤ sizeLine; decide, fun t ht => ?_⟩
            refine ⟨a, .ref t, r, nst i, rfl, same_new ht _ _ ha3, hV, ⟨t, rfl, by rw [upd_same, hn]; rfl⟩, hok, fun H5 p e5 hp hp5 => ?_⟩
            obtain ⟨x5, k5, b5, a5⟩ := hst _ t (same_new ht) ((upd_same).trans (by rw [hn]; rfl)) H5 p e5 hp hp5
            refine ⟨.ref p, rfl, p, _, rfl, hp5, vrB_Vr hsv, fun H6 e6 => ⟨.ref a, rfl, a, r, rfl, e6 _ _ a5, hV, fun H7 e7 => ⟨_, _, rfl, rfl, _, rfl, ?_⟩⟩⟩
            have e67 := e6.trans e7
            have b7 := e67 _ _ b5
            have k7 := k5.same e67
            have x7 := x5.trans (same_sx e67)
            have hws := wl_succ r i
            refine ite2 (fun h => ?_) fun h => ?_
            · have h := of_decide_eq_true h
              rw [if_pos h] at hws
              refine ⟨.ref b, rfl, .inl ⟨rfl, _, SqL.of b7⟩, .ref p, rfl, .ref d, rfl, p, d, stp r (nst i), rfl, e67 _ _ hp5, hsv, k7, by omega, fun H8 x8 k8 => ?_⟩
              have b8 := x8 _ _ b7 hbd
              refine ⟨b, _, _, rfl, rfl, b8, by rw [List.length_map]; have := wl_len r i; exact small1k (by omega), ?_⟩
              refine ⟨_, _, rfl, sx_mut (x7.trans x8) hb, k8.mut hbd, ?_⟩
              rw [upd_same, hws, List.map_append]
              rfl
            · have h : ¬ dis (stp r (nst i)) < dis r := fun z => h (decide_eq_true z)
              rw [if_neg h] at hws
              exact ⟨_, _, rfl, x7, k7, by rw [hws]; exact b7⟩
          · have h0 : i ≠ 0 := fun z => h0 (decide_eq_true z)
            have hn : nst i = .exch i (i + 1) := if_neg h0
            refine ⟨_, rfl, _, rfl, _, _, rfl, rfl, by show 3 ≤ sizeLine; decide, fun t ht => ?_⟩
            refine ⟨a, .ref t, r, nst i, rfl, same_new ht _ _ ha3, hV, ⟨t, rfl, by rw [upd_same, hn]; rfl⟩, hok, fun H5 p e5 hp hp5 => ?_⟩
            obtain ⟨x5, k5, b5, a5⟩ := hst _ t (same_new ht) ((upd_same).trans (by rw [hn]; rfl)) H5 p e5 hp hp5
            refine ⟨.ref p, rfl, p, _, rfl, hp5, vrB_Vr hsv, fun H6 e6 => ⟨.ref a, rfl, a, r, rfl, e6 _ _ a5, hV, fun H7 e7 => ⟨_, _, rfl, rfl, _, rfl, ?_⟩⟩⟩
            have e67 := e6.trans e7
            have b7 := e67 _ _ b5
            have k7 := k5.same e67
            have x7 := x5.trans (same_sx e67)
            have hws := wl_succ r i
            refine ite2 (fun h => ?_) fun h => ?_
            · have h := of_decide_eq_true h
              rw [if_pos h] at hws
              refine ⟨.ref b, rfl, .inl ⟨rfl, _, SqL.of b7⟩, .ref p, rfl, .ref d, rfl, p, d, stp r (nst i), rfl, e67 _ _ hp5, hsv, k7, by omega, fun H8 x8 k8 => ?_⟩
              have b8 := x8 _ _ b7 hbd
              refine ⟨b, _, _, rfl, rfl, b8, by rw [List.length_map]; have := wl_len r i; exact small1k (by omega), ?_⟩
              refine ⟨_, _, rfl, sx_mut (x7.trans x8) hb, k8.mut hbd, ?_⟩
              rw [upd_same, hws, List.map_append]
              rfl
            · have h : ¬ dis (stp r (nst i)) < dis r := fun z => h (decide_eq_true z)
              rw [if_neg h] at hws
              exact ⟨_, _, rfl, x7, k7, by rw [hws]; exact b7⟩
        · obtain ⟨y3, y4, rfl, e3, hk3, hb3⟩ := hI
          have hlst : ∀ H', H' b = some (.lst ((wl_ r r.length).map V.int)) → Dp K H' (.ref b) (.list ((wl_ r r.length).map PyData.int)) := fun H' h => .lst (SqL.of h) (dp_ints _)
          refine ⟨.ref b, rfl, Nat.zero_le _, fun l hl => ⟨_, .list (([] : List Int).map PyData.int), hlst _ ((upd_ne (fun e => by rw [← e, hb3] at hl; cases hl)).trans hb3), .lst (SqL.of upd_same) .nil, sh_listI _, sh_listI _, _, rfl, ?_⟩⟩
          rw [show PyData.eqv (.list ((wl_ r r.length).map PyData.int)) (.list (([] : List Int).map PyData.int)) = decide (wl_ r r.length = []) from eqv_ints _ _]
          have el := same_new (o := .lst []) hl
          have eS := e3.trans (same_sx el)
          obtain ⟨H6, hput, e6, hk6, hget⟩ := put_words (a := a) hr1 eS (hk3.same el) (hgone _ eS)
          have hww := wl_words hr1
          refine ite2 (fun h => ?_) fun h => ?_
          · have hne : ¬ wl_ r r.length = [] := by simpa using h
            rw [if_neg hne] at hww
            rw [hww] at hput
            exact ⟨.ref b, rfl, b, _, rfl, SqL.of (el _ _ hb3), .ref d, rfl, .ref a, rfl, d, H6, rfl, hput, .ref d, rfl, .ref a, rfl, d, _, rfl, hget, q _ e6 hk6⟩
          · have hne : wl_ r r.length = [] := by simpa using h
            rw [if_pos hne] at hww
            rw [hww] at hput
            exact ⟨.ref d, rfl, .ref a, rfl, d, H6, rfl, hput, .ref d, rfl, .ref a, rfl, d, _, rfl, hget, q _ e6 hk6⟩
      · have hsome : ∃ v, valV kvs (kk r) = some v := by
          cases e : valV kvs (kk r) with
          | none => rw [e] at hc; exact absurd rfl hc
          | some v => exact ⟨v, rfl⟩
        obtain ⟨v, hv⟩ := hsome
        have hq := q H (Sx.refl _ _) hkn
        rw [← hk.get hv] at hq
        refine ⟨.ref d, rfl, .ref a, rfl, d, v, rfl, ?_, hq⟩
        rw [← hv]
        exact DGet.t (k := kk r) hd (by rw [← kk_tup]; exact ha)
end
end Tc
namespace Tc
open PySem PySem.Spec PyProof.Rows L2 He He5 Mi
/-! ### sorted(steps) -/
def encS : Stp → PyData
  | .turn i => .tuple [.str "turn", .int (i : Int)]
  | .exch i j => .tuple [.str "exchange", .int (i : Int), .int (j : Int)]
  | .cross i j => .tuple [.str "cross", .int (i : Int), .int (j : Int)]
theorem alike_S (b b' : Stp) : PySem.W.alike (encS b) (encS b') = true := by
  cases b <;> cases b' <;> simp [encS, PySem.W.alike, PySem.W.alikeAll]
theorem enc_cons (b : Stp) : ∃ x r, encS b = .tuple (x :: r) := by
  cases b <;> exact ⟨_, _, rfl⟩
theorem enc_dep (b : Stp) : (encS b).depth = 1 := by
  cases b <;> simp [encS, PyData.depth, PyData.depthAll]
theorem dp_S {K : PySem.W.Frag} {H : Hp} {v : V} {s : Stp} (h : StpAt H v s) : Dp K H v (encS s) := by
  obtain ⟨a, rfl, ha⟩ := h
  cases s with
  | turn i => exact .tup (SqT.of ha) (.cons (.str _) (.cons (.int _) .nil))
  | exch i j => exact .tup (SqT.of ha) (.cons (.str _) (.cons (.int _) (.cons (.int _) .nil)))
  | cross i j => exact .tup (SqT.of ha) (.cons (.str _) (.cons (.int _) (.cons (.int _) .nil)))
def keyLe (a b : Stp) : Bool := decide (a.key ≤ b.key)
theorem chk_le : ((stepsOf 4).all fun a => (stepsOf 4).all fun b => PySem.W.dataLe false encS a b == keyLe a b) = true := by decide +kernel
theorem keyLe_total : PySem.W.TotalLe keyLe := ⟨fun a b c h1 h2 => by
  unfold keyLe at *
  have := of_decide_eq_true h1
  have := of_decide_eq_true h2
  exact decide_eq_true (by omega), fun a b => by
  unfold keyLe
  rcases Nat.le_total a.key b.key with h | h
  · exact .inl (decide_eq_true h)
  · exact .inr (decide_eq_true h)⟩
/-- sorted(xs), xs a list of steps of at most four cards -/
def rSortSt (K : PySem.W.Frag) : List V → Hp → VK → Prop := fun vs H Q => ∃ (a : Addr) (xs : List V) (ss : List Stp), vs = [V.ref a] ∧ SqL K H a xs ∧ Al (StpAt H) xs ss ∧ (∀ s ∈ ss, s ∈ stepsOf 4) ∧
  ∀ (ys : List V) (ss' : List Stp) (p : Addr), ss'.Perm ss → ss'.Pairwise (fun a b => a.key ≤ b.key) → Al (StpAt H) ys ss' → H p = none → Q (.ref p) (upd H p (.lst ys))
theorem al_each {H : Hp} : ∀ {xs : List V} {us : List Value} {ss : List Stp}, Vals xs us → Al (StpAt H) xs ss → PySem.W.EachIs (fun u s => ∃ x, L2.RelV x u ∧ StpAt H x s) us ss
  | [], _, [], .nil, _ => .nil
  | [], _, s :: ss, .nil, h => by cases h.1
  | x :: xs, _, [], _, h => by cases h.1
  | x :: xs, _, s :: ss, .cons r t, h => .cons ⟨x, r, h.2 0 x s rfl rfl⟩ (al_each t ⟨Nat.succ.inj h.1, fun i v c e1 e2 => h.2 (i + 1) v c e1 e2⟩)
theorem each_al {H : Hp} : ∀ {us : List Value} {ss : List Stp}, PySem.W.EachIs (fun u s => ∃ x, L2.RelV x u ∧ StpAt H x s) us ss → ∃ xs, Vals xs us ∧ Al (StpAt H) xs ss
  | _, _, .nil => ⟨[], .nil, Al.nil⟩
  | _, _, .cons ⟨x, r, hx⟩ t => by
    obtain ⟨xs, h1, h2⟩ := each_al t
    refine ⟨x :: xs, .cons r h1, by rw [List.length_cons, List.length_cons, h2.1], fun i v c e1 e2 => ?_⟩
    cases i with
    | zero =>
      cases e1
      cases e2
      exact hx
    | succ i => exact h2.2 i v c e1 e2
theorem cr_sortedSt {X : Cx} (hu : X.A.units + 64 < cLine) : CallR X (.builtin "sorted") (rSortSt X.K) := by
  intro pins s σ H vs us Q I r h
  obtain ⟨a, xs, ss, rfl, hs, hA, hss, q⟩ := h
  obtain ⟨its, rv, hl, hz⟩ := I.list hs
  rw [Vals.ref1 r]
  have hE := al_each rv hA
  have hR : PySem.W.EachIs (fun v b => ∃ as, Reads s.heap v (encS b) as) its ss := hE.mono fun v b ⟨x, rx, hx⟩ => Dp.reads I _ _ _ (dp_S hx) rx
  have hlen : ss.length = its.length := hE.length.symm
  refine PySem.W.sorted_data (enc := encS) hl.isList hE hR (PySem.W.AllAlike.of alike_S) (PySem.W.Sortable.tuples enc_cons) (by rw [hlen, ← rv.length]; exact hz) (fun b _ => by rw [enc_dep]; omega) fun out ho eo => ?_
  have hcongr : ss.mergeSort (PySem.W.dataLe false encS) = ss.mergeSort keyLe := PySem.W.sort_congr fun a ha b hb => by
    have h1 := List.all_eq_true.mp (List.all_eq_true.mp chk_le a (hss a ha)) b (hss b hb)
    exact eq_of_beq h1
  rw [hcongr] at eo
  obtain ⟨ys, h1, h2⟩ := each_al eo
  obtain ⟨ep, he'⟩ := PyProof.Rows.sortedAll_at s.heap its out.toArray
  have hys : ys.length ≤ sizeLine := by
    rw [h1.length, ho, hlen, ← rv.length]
    exact hz
  refine ⟨.ref _, upd H (s.heap.objs.size + 1) (.lst ys), I.laid (t' := s.toks) (fun _ _ => PyProof.Rows.sortedAll_old) (Nat.le_succ _) ⟨hys, out, ep, h1, he'⟩, rfl, q _ _ _ (List.mergeSort_perm ss keyLe) ?_ h2 (I.hok.fresh (Nat.le_succ _))⟩
  exact (PySem.W.sort_pairwise keyLe_total ss).imp fun h => of_decide_eq_true h
end Tc
namespace Tc
open PySem PySem.Spec PyProof.Rows L2 He He5 Mi
/-! sorted places -/
def insN (x : Nat) (acc : List Nat) : List Nat := acc.filter (fun y => decide (y < x)) ++ [x] ++ acc.filter fun y => decide (x ≤ y)
theorem sortN_cons (x : Nat) (l : List Nat) : sortN (x :: l) = insN x (sortN l) := rfl
theorem insN_perm (x : Nat) (acc : List Nat) : (insN x acc).Perm (x :: acc) := by
  unfold insN
  rw [List.append_assoc, List.singleton_append]
  refine List.perm_middle.trans (List.Perm.cons x ?_)
  have e : (fun y => decide (x ≤ y)) = fun y => !decide (y < x) := by
    funext y
    by_cases h : y < x
    · rw [decide_eq_true h, decide_eq_false (by omega)]
      rfl
    · rw [decide_eq_false h, decide_eq_true (by omega)]
      rfl
  rw [e]
  exact List.filter_append_perm _ _
theorem sortN_perm : ∀ l : List Nat, (sortN l).Perm l
  | [] => List.Perm.refl _
  | x :: l => by
    rw [sortN_cons]
    exact (insN_perm x _).trans ((sortN_perm l).cons x)
theorem sortN_sorted : ∀ l : List Nat, (sortN l).Pairwise (· ≤ ·)
  | [] => List.Pairwise.nil
  | x :: l => by
    have ih := sortN_sorted l
    rw [sortN_cons]
    unfold insN
    rw [List.append_assoc, List.singleton_append, List.pairwise_append]
    refine ⟨ih.filter _, List.pairwise_cons.mpr ⟨fun y hy => of_decide_eq_true (List.mem_filter.mp hy).2, ih.filter _⟩, fun a ha b hb => ?_⟩
    have h1 := of_decide_eq_true (List.mem_filter.mp ha).2
    rcases List.mem_cons.mp hb with e | e
    · omega
    · have h2 := of_decide_eq_true (List.mem_filter.mp e).2
      omega
theorem up_nat {ns : List Int} {ps : List Nat} (h : ns.Perm (ps.map fun p : Nat => (p : Int))) (hp : ns.Pairwise (· ≤ ·)) : ns = (sortN ps).map fun p : Nat => (p : Int) := by
  have h1 := PySem.W.os_sorted_mergeSort h hp
  have h2 : ((sortN ps).map fun p : Nat => (p : Int)).Perm (ps.map fun p : Nat => (p : Int)) := (sortN_perm ps).map _
  have h3 := PySem.W.os_sorted_mergeSort h2 (List.pairwise_map.mpr ((sortN_sorted ps).imp fun h => by omega))
  exact h1.trans h3.symm
theorem fm_len {α β : Type} (f : α → List β) (c : Nat) : ∀ l : List α, (∀ x ∈ l, (f x).length ≤ c) → (l.flatMap f).length ≤ c * l.length
  | [], _ => Nat.zero_le _
  | x :: l, h => by
    have ih := fm_len f c l fun y hy => h y (List.mem_cons_of_mem _ hy)
    have h1 := h x (List.mem_cons_self ..)
    rw [List.flatMap_cons, List.length_append, List.length_cons, Nat.mul_succ]
    omega
theorem fm_take {α β : Type} (f : α → List β) (l : List α) (i : Nat) {x : α} (h : l[i]? = some x) : (l.take (i + 1)).flatMap f = (l.take i).flatMap f ++ f x := by
  rw [List.take_add_one, h, List.flatMap_append]
  simp
theorem StpAt.same {H H' : Hp} (e : Same H H') {v : V} {c : Stp} (h : StpAt H v c) : StpAt H' v c := TupV.mono h e
theorem StpAt.mut {H : Hp} {a : Addr} {xs ys : List V} (h0 : H a = some (.lst xs)) {v : V} {c : Stp} (h : StpAt H v c) : StpAt (upd H a (.lst ys)) v c := by
  obtain ⟨t, h1, h2⟩ := h
  refine ⟨t, h1, ?_⟩
  rw [upd_ne (fun e => by rw [e, h0] at h2; cases h2)]
  exact h2
theorem al_app {α β : Type} {R : α → β → Prop} {vs ws : List α} {cs ds : List β} (h : Al R vs cs) (k : Al R ws ds) : Al R (vs ++ ws) (cs ++ ds) := by
  induction ws generalizing vs cs ds with
  | nil =>
    cases ds with
    | nil => simpa using h
    | cons d ds => exact absurd k.1 (by simp)
  | cons w ws ih =>
    cases ds with
    | nil => exact absurd k.1 (by simp)
    | cons d ds =>
      have h1 := h.snoc (k.2 0 w d rfl rfl)
      have h2 := ih h1 ⟨Nat.succ.inj k.1, fun i v c e1 e2 => k.2 (i + 1) v c e1 e2⟩
      simpa using h2
theorem idx_get {l : List Nat} {x : Nat} (h : x ∈ l) : l[l.idxOf x]? = some x := by
  have hlt := List.idxOf_lt_length_of_mem h
  rw [List.getElem?_eq_getElem hlt, List.getElem_idxOf hlt]
theorem idx_before {l : List Nat} {x m y : Nat} (hm : m < l.idxOf x) (h : l[m]? = some y) : y ≠ x := by
  intro e
  subst e
  have h1 := (List.getElem?_eq_some_iff.mp h)
  obtain ⟨hlt, he⟩ := h1
  have := List.not_of_lt_findIdx (p := (· == y)) (xs := l) (i := m) hm
  rw [he] at this
  simp at this
theorem eqV_nat (a b : Nat) : eqV (nV a) (nV b) = decide (a = b) := by
  show decide ((a : Int) = (b : Int)) = _
  by_cases h : a = b
  · rw [decide_eq_true h, decide_eq_true (by omega)]
  · rw [decide_eq_false h, decide_eq_false (by omega)]
/-- one pair of places -/
def pairSt (r : Mi.Row) (ps : List Nat) (turned a b : Nat) : List Stp :=
  if a < b then (if turned % 2 = 1 then [Stp.exch a b, Stp.cross a b] else
      [if negs r ((ps.take (max (ps.idxOf a) (ps.idxOf b))).drop (min (ps.idxOf a) (ps.idxOf b))) % 2 = 0 then Stp.exch a b else Stp.cross a b]) else []
def oneSt (r : Mi.Row) (ps : List Nat) (turned a : Nat) : List Stp := (if turned % 2 = 1 then [Stp.turn a] else []) ++ (sortN ps).flatMap (pairSt r ps turned a)
theorem within_eq (r : Mi.Row) (ps : List Nat) (turned : Nat) : within r ps turned = (sortN ps).flatMap (oneSt r ps turned) := rfl
theorem pairSt_len (r : Mi.Row) (ps : List Nat) (t a b : Nat) : (pairSt r ps t a b).length ≤ 2 := by
  unfold pairSt
  split
  · split
    · exact Nat.le_refl 2
    · exact Nat.le_succ 1
  · exact Nat.zero_le _
theorem sortN_len (l : List Nat) : (sortN l).length = l.length := (sortN_perm l).length_eq
theorem oneSt_len (r : Mi.Row) (ps : List Nat) (t a : Nat) (h : ps.length ≤ 4) : (oneSt r ps t a).length ≤ 9 := by
  unfold oneSt
  rw [List.length_append]
  have h1 := fm_len (pairSt r ps t a) 2 (sortN ps) fun b _ => pairSt_len ..
  rw [sortN_len] at h1
  have h2 : (if t % 2 = 1 then [Stp.turn a] else []).length ≤ 1 := by
    split
    · exact Nat.le_refl 1
    · exact Nat.zero_le 1
  omega
theorem par1 (n : Nat) : decide (V.int ((n : Int) % 2) = V.int 1) = decide (n % 2 = 1) := by
  by_cases h : n % 2 = 1
  · rw [decide_eq_true h, decide_eq_true (by rw [show (n : Int) % 2 = 1 by omega])]
  · rw [decide_eq_false h, decide_eq_false (fun z => h (by have := V.int.inj z; omega))]
theorem two_sorted {ns : List Int} {i j : Nat} (h : ns.Perm [(i : Int), (j : Int)]) (hp : ns.Pairwise (· ≤ ·)) : ns = [((min i j : Nat) : Int), ((max i j : Nat) : Int)] := by
  have h1 := PySem.W.os_sorted_mergeSort h hp
  have h2 : [((min i j : Nat) : Int), ((max i j : Nat) : Int)].Perm [(i : Int), (j : Int)] := by
    by_cases e : i ≤ j
    · rw [Nat.min_eq_left e, Nat.max_eq_right e]
    · rw [Nat.min_eq_right (by omega), Nat.max_eq_left (by omega)]
      exact List.Perm.swap _ _ _
  have h3 := PySem.W.os_sorted_mergeSort h2 (by
    rw [List.pairwise_cons]
    refine ⟨fun x hx => ?_, List.pairwise_singleton ..⟩
    rw [List.mem_singleton.mp hx]
    omega)
  exact h1.trans h3.symm
theorem cut_mid {α : Type} (f : α → V) (l : List α) {i j : Nat} (hi : i ≤ l.length) (hj : j ≤ l.length) : cutV (l.map f) (some (i : Int)) (some (j : Int)) = ((l.take j).drop i).map f := by
  unfold cutV
  rw [HT.sIx_nat, HT.sIx_nat, List.length_map, Nat.min_eq_left hi, Nat.min_eq_left hj, List.drop_take, List.map_take, List.map_drop]
theorem flat_nV (l : List Nat) : (l.map nV).all flatV = true := by
  rw [List.all_eq_true]
  intro x hx
  obtain ⟨y, _, rfl⟩ := List.mem_map.mp hx
  rfl
theorem natlt (b c : Nat) : decide ((b : Int) < (c : Int)) = decide (b < c) := by
  by_cases h : b < c
  · rw [decide_eq_true h, decide_eq_true (by omega)]
  · rw [decide_eq_false h, decide_eq_false (by omega)]
section
variable {P : Program} {w : World} {K : PySem.W.Frag} {mg : Str → Option Value} {base : Heap}
def sp_steps_within (K : PySem.W.Frag) : Sp := fun vs H Q _ => ∃ (a l : Addr) (r : Mi.Row) (ps : List Nat) (t : Nat), vs = [.ref a, .ref l, nV t] ∧ H a = some (.tup (r.map V.int)) ∧ Vr r ∧ H l = some (.lst (ps.map nV)) ∧ ps.length ≤ 4 ∧ (∀ p ∈ ps, 1 ≤ p ∧ p ≤ r.length) ∧
  ∀ H' p xs, Same H H' → H p = none → H' p = some (.lst xs) → Al (StpAt H') xs (within r ps t) → Q (.ref p) H'
abbrev N_steps_within : List Str := ["row", "places", "turned", "result", "first", "second", "start", "end", "between", "place"]
theorem sc_steps_within : FnScope N_steps_within ["row", "places", "turned"] d_steps_within.scope := ⟨rfl, rfl, rfl, by decide +kernel, rfl, by decide +kernel, by decide +kernel⟩
theorem ok_steps_within (W : Wd w K mg) : FnR P w K mg base CX0 1 (d_steps_within.at_ K) (sp_steps_within K) := by
  refine fnr0 W.f_steps_within sc_steps_within (fun vs H Q E h => ?_) (fun _ _ _ _ _ _ us hl => match us, hl with | [_, _, _], _ => rfl) (fun cdv A outer s H vs Q E hr h => ?_)
  · obtain ⟨a, l, r, ps, t, rfl, ha, hV, hl, h4, hin, q⟩ := h
    rfl
  · obtain ⟨a, l, r, ps, t, rfl, ha, hV, hl, h4, hin, q⟩ := h
    refine ⟨_, (pss_cons (ps_set (i := 3) sc_steps_within.nd rfl (by first | exact Or.inl rfl | exact Or.inr rfl) (pe_lst pa_nil))
      (pss_cons (ps_for PassesOwn.never rfl (pi_list (pe_callB cr_sorted (by rfl) W.z_sorted boot_sorted (pa_cons (pv 1) pa_nil))) (pg_name (i := 4) sc_steps_within.nd rfl (by first | exact Or.inl rfl | exact Or.inr rfl)) (Evl.pss_cut (ps_if (pt_cmpR op_eq (pe_op op_mod (pv 2) pe_int) pe_int (nomark _)) (pss_one (ps_expr (pe_bm PySem.F.plainAttrs_list PySem.F.slot_list_append PySem.F.type_list_append mt_append (pv 3) (pa_cons (pe_tup (pa_cons pe_str (pa_cons (pv 4) pa_nil))) pa_nil)))) pss_nil)
      (pss_one (ps_for PassesOwn.never rfl (pi_list (pe_callB cr_sorted (by rfl) W.z_sorted boot_sorted (pa_cons (pv 1) pa_nil))) (pg_name (i := 5) sc_steps_within.nd rfl (by first | exact Or.inl rfl | exact Or.inr rfl)) (pss_one (ps_if (PW.pt (pw_and (pt_cmpR op_lt (pv 4) (pv 5) (nomark _)) (pw_and1 (pt_cmpR op_eq (pe_op op_mod (pv 2) pe_int) pe_int (nomark _))))) (pss_one (ps_expr (pe_bm PySem.F.plainAttrs_list PySem.F.slot_list_extend PySem.F.type_list_extend mt_extend (pv 3) (pa_cons (pe_lst (pa_cons (pe_tup (pa_cons pe_str (pa_cons (pv 4) (pa_cons (pv 5) pa_nil)))) (pa_cons (pe_tup (pa_cons pe_str (pa_cons (pv 4) (pa_cons (pv 5) pa_nil)))) pa_nil))) pa_nil)))) (pss_one (ps_if (pt_cmpR op_lt (pv 4) (pv 5) (nomark _)) (pss_cons (ps_asg (pe_callB cr_sorted (by rfl) W.z_sorted boot_sorted (pa_cons (pe_lst (pa_cons (pe_bm PySem.F.plainAttrs_list PySem.F.slot_list_index PySem.F.type_list_index mt_index (pv 1) (pa_cons (pv 4) pa_nil)) (pa_cons (pe_bm PySem.F.plainAttrs_list PySem.F.slot_list_index PySem.F.type_list_index mt_index (pv 1) (pa_cons (pv 5) pa_nil)) pa_nil))) pa_nil)) (pg_unl rfl (pgs_cons (pg_name (i := 6) sc_steps_within.nd rfl (by first | exact Or.inl rfl | exact Or.inr rfl)) (pgs_cons (pg_name (i := 7) sc_steps_within.nd rfl (by first | exact Or.inl rfl | exact Or.inr rfl)) pgs_nil))))
      (pss_cons (ps_set (i := 8) sc_steps_within.nd rfl (by first | exact Or.inl rfl | exact Or.inr rfl) (pe_callB call_len_seq (by rfl) W.z_len PySem.boot_len (pa_cons (pe_lc (own := [("place", 9)]) (g := gName 9) rfl sc_steps_within.nd (pi_list (pe_slice sl_list (pv 1) (po_some (pv 6)) (po_some (pv 7)))) (blkOk_by (own := [("place", 9)]) (N := N_steps_within) (sc := d_steps_within.scope) (by decide +kernel)) (fun _ _ _ _ _ => (pg_name (i := 9) sc_steps_within.nd rfl (by first | exact Or.inl rfl | exact Or.inr rfl))) (fun _ _ _ _ _ => (pts_one (pt_cmpR op_lt (pe_ix (show IxR _ (rIxT K) from ix_tup) (pv 0) (pe_op op_sub (pv 9) pe_int) (fun _ _ => rfl)) pe_int (nomark _)))) (fun _ _ _ _ _ => (pv 9))) pa_nil)))
      (pss_one (ps_expr (pe_bm PySem.F.plainAttrs_list PySem.F.slot_list_append PySem.F.type_list_append mt_append (pv 3) (pa_cons (pe_tup (pa_cons (pe_ifExp (pt_cmpR op_eq (pe_op op_mod (pv 8) pe_int) pe_int (nomark _)) pe_str pe_str) (pa_cons (pv 4) (pa_cons (pv 5) pa_nil)))) pa_nil)))))) pss_nil))))))))
      (pss_one (ps_ret (pv 3))))), ?_⟩
    have hsl : (sortN ps).length ≤ 4 := by rw [sortN_len]; exact h4
    have hsin : ∀ p ∈ sortN ps, p ∈ ps := fun p h => (sortN_perm ps).mem_iff.mp h
    have hcast := map_nV ps
    refine ⟨Nat.zero_le _, fun o ho => ?_⟩
    have e1 := same_new (o := .lst []) ho
    refine ⟨.ref l, rfl, l, ps.map (fun p : Nat => (p : Int)), rfl, SqL.of (by rw [← hcast]; exact e1 _ _ hl), by rw [List.length_map]; omega, fun ns p1 hperm hsort hp1 => ?_⟩
    rw [up_nat hperm hsort, ← map_nV]
    refine ⟨p1, rfl, ⟨_, SqL.of upd_same⟩, ?_⟩
    have e2 := same_new (o := .lst ((sortN ps).map nV)) hp1
    have hop : o ≠ p1 := fun e => by rw [← e, upd_same] at hp1; cases hp1
    refine for_list (K := K) (a := p1) (xs := (sortN ps).map nV) (fun i σ H3 => ∃ xs y4 y5 y6 y7 y8 y9, σ = [some (.ref a), some (.ref l), some (nV t), some (.ref o), y4, y5, y6, y7, y8, y9] ∧ Same H H3 ∧ H3 p1 = some (.lst ((sortN ps).map nV)) ∧ H3 o = some (.lst xs) ∧ Al (StpAt H3) xs (((sortN ps).take i).flatMap (oneSt r ps t)))
      ⟨[], _, _, _, _, _, _, rfl, e1.trans e2, upd_same, (upd_ne hop).trans upd_same, Al.nil⟩ (fun i σ H3 _ h => ?_) (fun i x σ H3 hx hI => ?_) (fun σ H3 hI => ?_)
    · obtain ⟨_, _, _, _, _, _, _, _, _, h, _⟩ := h
      exact SqL.of h
    · obtain ⟨xs, y4, y5, y6, y7, y8, y9, rfl, e3, hp3, ho3, hA⟩ := hI
      obtain ⟨b, hb, rfl⟩ : ∃ b, (sortN ps)[i]? = some b ∧ nV b = x := by
        rw [List.getElem?_map] at hx
        cases e : (sortN ps)[i]? with
        | none => rw [e] at hx; cases hx
        | some b => rw [e] at hx; exact ⟨b, rfl, Option.some.inj hx⟩
      have hi4 : i < (sortN ps).length := (List.getElem?_eq_some_iff.mp hb).1
      have hbp := hsin b (List.mem_of_getElem? hb)
      have hbase : (((sortN ps).take i).flatMap (oneSt r ps t)).length ≤ 36 := by
        have h9 := fm_len (oneSt r ps t) 9 ((sortN ps).take i) fun c _ => oneSt_len r ps t c h4
        rw [List.length_take] at h9
        omega
      refine ⟨fun σ' H' => ∃ xs', σ' = [some (.ref a), some (.ref l), some (nV t), some (.ref o), some (nV b), y5, y6, y7, y8, y9] ∧ Same H H' ∧ H' p1 = some (.lst ((sortN ps).map nV)) ∧ H' o = some (.lst xs') ∧ Al (StpAt H') xs' (((sortN ps).take i).flatMap (oneSt r ps t) ++ if t % 2 = 1 then [Stp.turn b] else []), ?_, fun σ' H4 hM => ?_⟩
      · refine ⟨nV t, rfl, _, 2, rfl, rfl, by show (0 : Int) < 2; decide, rfl, _, rfl, ?_⟩
        rw [par1]
        refine ite2 (fun h => ?_) fun h => ?_
        · have h := of_decide_eq_true h
          refine ⟨.ref o, rfl, .inl ⟨rfl, _, SqL.of ho3⟩, nV b, rfl, by show 2 ≤ sizeLine; decide, fun tt htt => ?_⟩
          have et := same_new (o := .tup [V.str "turn", nV b]) htt
          have ho4 := et _ _ ho3
          refine ⟨o, _, _, rfl, rfl, ho4, by rw [hA.1]; exact small1k (by omega), ?_⟩
          refine ⟨_, rfl, same_mut (e3.trans et) ho, (upd_ne hop.symm).trans (et _ _ hp3), upd_same, ?_⟩
          rw [if_pos h]
          refine Al.snoc (hA.mono fun v c k => (k.same et).mut ho4) ⟨tt, rfl, ?_⟩
          rw [upd_ne (fun e => by rw [e, ho3] at htt; cases htt), upd_same]
          rfl
        · have h : ¬ t % 2 = 1 := fun z => h (decide_eq_true z)
          refine ⟨_, rfl, e3, hp3, ho3, ?_⟩
          rw [if_neg h, List.append_nil]
          exact hA
      · obtain ⟨xs4, rfl, e4, hp4, ho4, hA4⟩ := hM
        have hbase4 : (((sortN ps).take i).flatMap (oneSt r ps t) ++ if t % 2 = 1 then [Stp.turn b] else []).length ≤ 37 := by
          rw [List.length_append]
          have : (if t % 2 = 1 then [Stp.turn b] else []).length ≤ 1 := by
            split
            · exact Nat.le_refl 1
            · exact Nat.zero_le 1
          omega
        have hout := fm_take (oneSt r ps t) (sortN ps) i hb
        generalize hB : (((sortN ps).take i).flatMap (oneSt r ps t) ++ if t % 2 = 1 then [Stp.turn b] else []) = B at *
        refine ⟨.ref l, rfl, l, ps.map (fun p : Nat => (p : Int)), rfl, SqL.of (by rw [← hcast]; exact e4 _ _ hl), by rw [List.length_map]; omega, fun ns p2 hperm hsort hp2 => ?_⟩
        rw [up_nat hperm hsort, ← map_nV]
        refine ⟨p2, rfl, ⟨_, SqL.of upd_same⟩, ?_⟩
        have e5 := same_new (o := .lst ((sortN ps).map nV)) hp2
        have hop2 : o ≠ p2 := fun e => by rw [← e, ho4] at hp2; cases hp2
        refine for_list (K := K) (a := p2) (xs := (sortN ps).map nV) (fun j σ H5 => ∃ xs y5 y6 y7 y8 y9, σ = [some (.ref a), some (.ref l), some (nV t), some (.ref o), some (nV b), y5, y6, y7, y8, y9] ∧ Same H H5 ∧ H5 p1 = some (.lst ((sortN ps).map nV)) ∧ H5 p2 = some (.lst ((sortN ps).map nV)) ∧ H5 o = some (.lst xs) ∧ Al (StpAt H5) xs (B ++ ((sortN ps).take j).flatMap (pairSt r ps t b)))
          ⟨xs4, _, _, _, _, _, rfl, e4.trans e5, e5 _ _ hp4, upd_same, (upd_ne hop2).trans ho4, ?_⟩ (fun j σ H5 _ h => ?_) (fun j x σ H5 hx hI => ?_) (fun σ H5 hI => ?_)
        · rw [List.take_zero, List.flatMap_nil, List.append_nil]
          exact hA4.mono fun v c k => k.same e5
        · obtain ⟨_, _, _, _, _, _, _, _, _, h, _⟩ := h
          exact SqL.of h
        · obtain ⟨xs, y5, y6, y7, y8, y9, rfl, e6, hp61, hp62, ho6, hA6⟩ := hI
          obtain ⟨c, hc, rfl⟩ : ∃ c, (sortN ps)[j]? = some c ∧ nV c = x := by
            rw [List.getElem?_map] at hx
            cases e : (sortN ps)[j]? with
            | none => rw [e] at hx; cases hx
            | some c => rw [e] at hx; exact ⟨c, rfl, Option.some.inj hx⟩
          have hj4 : j < (sortN ps).length := (List.getElem?_eq_some_iff.mp hc).1
          have hcp := hsin c (List.mem_of_getElem? hc)
          have hb6 : (B ++ ((sortN ps).take j).flatMap (pairSt r ps t b)).length ≤ 50 := by
            have h9 := fm_len (pairSt r ps t b) 2 ((sortN ps).take j) fun c _ => pairSt_len ..
            rw [List.length_take] at h9
            rw [List.length_append]
            omega
          have hin6 := fm_take (pairSt r ps t b) (sortN ps) j hc
          refine ⟨nV b, rfl, nV c, rfl, _, _, rfl, rfl, _, rfl, ?_⟩
          rw [natlt]
          refine ite2 (fun hlt => ?_) fun hlt => ?_
          · have hlt := of_decide_eq_true hlt
            refine ⟨nV t, rfl, _, 2, rfl, rfl, by show (0 : Int) < 2; decide, rfl, _, rfl, ?_⟩
            rw [par1]
            refine ite2 (fun h => ?_) fun h => ?_
            · have h := of_decide_eq_true h
              have hps : pairSt r ps t b c = [Stp.exch b c, Stp.cross b c] := by
                unfold pairSt
                rw [if_pos hlt, if_pos h]
              refine ⟨.ref o, rfl, .inl ⟨rfl, _, SqL.of ho6⟩, nV b, rfl, nV c, rfl, by show 3 ≤ sizeLine; decide, fun t1 h1 => ⟨nV b, rfl, nV c, rfl, by show 3 ≤ sizeLine; decide, fun t2 h2 => ⟨by show 2 ≤ sizeLine; decide, fun L hL => ?_⟩⟩⟩
              have et1 := same_new (o := .tup [V.str "exchange", nV b, nV c]) h1
              have et2 := same_new (o := .tup [V.str "cross", nV b, nV c]) h2
              have et3 := same_new (o := .lst [V.ref t1, V.ref t2]) hL
              have eT := et1.trans (et2.trans et3)
              have ho7 := eT _ _ ho6
              refine ⟨o, L, _, _, rfl, rfl, ho7, upd_same, by rw [hA6.1]; exact Nat.le_of_lt (small1k (by show _ + 2 ≤ 1000; omega)), ?_⟩
              refine ⟨_, _, _, _, _, _, rfl, same_mut (e6.trans eT) ho, (upd_ne hop.symm).trans (eT _ _ hp61), (upd_ne hop2.symm).trans (eT _ _ hp62), upd_same, ?_⟩
              rw [hin6, hps, ← List.append_assoc]
              have ht1 : upd (upd (upd (upd H5 t1 (.tup [V.str "exchange", nV b, nV c])) t2 (.tup [V.str "cross", nV b, nV c])) L (.lst [V.ref t1, V.ref t2])) o (.lst (xs ++ [V.ref t1, V.ref t2])) t1 = some (.tup [V.str "exchange", nV b, nV c]) := by
                rw [upd_ne (fun e => by rw [e, ho6] at h1; cases h1)]
                exact (et2.trans et3) _ _ upd_same
              have ht2 : upd (upd (upd (upd H5 t1 (.tup [V.str "exchange", nV b, nV c])) t2 (.tup [V.str "cross", nV b, nV c])) L (.lst [V.ref t1, V.ref t2])) o (.lst (xs ++ [V.ref t1, V.ref t2])) t2 = some (.tup [V.str "cross", nV b, nV c]) := by
                rw [upd_ne (fun e => by rw [e, et1 _ _ ho6] at h2; cases h2)]
                exact et3 _ _ upd_same
              refine al_app (hA6.mono fun v c k => (k.same eT).mut ho7) ⟨rfl, fun m v d hv hd => ?_⟩
              match m, hv, hd with
              | 0, hv, hd =>
                cases hv
                cases hd
                exact ⟨t1, rfl, ht1⟩
              | 1, hv, hd =>
                cases hv
                cases hd
                exact ⟨t2, rfl, ht2⟩
              | m + 2, hv, hd => cases hv
            · have h : ¬ t % 2 = 1 := fun z => h (decide_eq_true z)
              refine ⟨nV b, rfl, nV c, rfl, _, _, rfl, rfl, _, rfl, iteP (decide_eq_true (by show (b : Int) < c; omega)) ?_⟩
              have hl6 := e6 _ _ hl
              have hfin : ∀ {x : Nat}, x ∈ ps → ∀ (m : Nat) (z' : V), m < ps.idxOf x → (ps.map nV)[m]? = some z' → eqV z' (nV x) = false := by
                intro x hx m z' hm hz
                rw [List.getElem?_map] at hz
                cases e : ps[m]? with
                | none => rw [e] at hz; cases hz
                | some y =>
                  rw [e] at hz
                  rw [← Option.some.inj hz]
                  show eqV (nV y) (nV x) = false
                  rw [eqV_nat, decide_eq_false (idx_before hm e)]
              have hget : ∀ {x : Nat}, x ∈ ps → (ps.map nV)[ps.idxOf x]? = some (nV x) := fun hx => by
                rw [List.getElem?_map, idx_get hx]
                rfl
              refine ⟨.ref l, rfl, .inl ⟨rfl, _, SqL.of hl6⟩, nV b, rfl, l, _, _, ps.idxOf b, nV b, rfl, rfl, SqL.of hl6, rfl, flat_nV ps, hget hbp, by rw [eqV_nat]; exact decide_eq_true rfl, hfin hbp, ?_⟩
              refine ⟨.ref l, rfl, .inl ⟨rfl, _, SqL.of hl6⟩, nV c, rfl, l, _, _, ps.idxOf c, nV c, rfl, rfl, SqL.of hl6, rfl, flat_nV ps, hget hcp, by rw [eqV_nat]; exact decide_eq_true rfl, hfin hcp, ?_⟩
              refine ⟨by show 2 ≤ sizeLine; decide, fun L hL => ⟨L, [(ps.idxOf b : Int), (ps.idxOf c : Int)], rfl, SqL.of upd_same, by show 2 < 64; decide, fun ns2 p3 hperm2 hsort2 hp3 => ?_⟩⟩
              rw [two_sorted hperm2 hsort2]
              refine ⟨p3, _, rfl, SqL.of upd_same, rfl, _, _, rfl, _, _, rfl, rfl, ?_⟩
              have eL := same_new (o := .lst [V.int (ps.idxOf b : Int), V.int (ps.idxOf c : Int)]) hL
              have eN := same_new (o := .lst (List.map V.int [((min (ps.idxOf b) (ps.idxOf c) : Nat) : Int), ((max (ps.idxOf b) (ps.idxOf c) : Nat) : Int)])) hp3
              have e7 := eL.trans eN
              have hib := List.idxOf_lt_length_of_mem hbp
              have hic := List.idxOf_lt_length_of_mem hcp
              refine ⟨.ref l, rfl, _, rfl, _, rfl, _, rfl, _, rfl, l, _, rfl, SqL.of (e7 _ _ hl6), fun p4 hp4 => ?_⟩
              rw [cut_mid nV ps (by omega) (by omega)]
              generalize hM : (ps.take (max (ps.idxOf b) (ps.idxOf c))).drop (min (ps.idxOf b) (ps.idxOf c)) = M
              have e8 := e7.trans (same_new (o := .lst (M.map nV)) hp4)
              have hMin : ∀ y ∈ M, y ∈ ps := fun y hy => by
                rw [← hM] at hy
                exact List.mem_of_mem_take (List.mem_of_mem_drop hy)
              have hMl : M.length ≤ 4 := by
                rw [← hM, List.length_drop, List.length_take]
                omega
              refine ⟨p4, rfl, ⟨_, SqL.of upd_same⟩, fun D2 hD2 => lc_enc (wl (xs := M)) (Ex := fun c x _ => x = nV c) (fun p => decide (r.getD (p - 1) 0 < 0)) nV rfl yat (fun H' e => SqL.of (e _ _ upd_same)) (by omega) hD2 (fun y x H2 Yc Nn hy hS hE h1 h2 => ?_) fun H9 e9 hD9 => ?_⟩
              · subst hE
                have hy2 := hin y (hMin y hy)
                refine ⟨rfl, .ref a, rfl, nV y, rfl, _, 1, rfl, rfl, a, _, _, _, rfl, rfl, SqT.of (hS _ _ (e8 _ _ (e6 _ _ ha))), atI_int (by omega) (by omega), _, 0, rfl, rfl, _, rfl, ?_⟩
                rw [show ((y : Int) - 1).toNat = y - 1 by omega]
                refine ite2 (fun h => ?_) fun h => ?_
                · exact ⟨nV y, rfl, h1 _ (Same.refl _) h⟩
                · exact h2 _ (Same.refl _) (Bool.eq_false_iff.mpr h)
              refine ⟨D2, _, rfl, .inl (SqL.of hD9), ?_⟩
              have e10 := e8.trans e9
              have ho10 := e10 _ _ ho6
              refine ⟨.ref o, rfl, .inl ⟨rfl, _, SqL.of ho10⟩, _, rfl, _, 2, rfl, rfl, by show (0 : Int) < 2; decide, rfl, _, rfl, ?_⟩
              have hneg : negs r M = (List.map nV (M.filter fun p => decide (r.getD (p - 1) 0 < 0))).length := by
                rw [List.length_map]
                rfl
              rw [mod2_nat, ← hneg]
              have hps : pairSt r ps t b c = [if negs r M % 2 = 0 then Stp.exch b c else Stp.cross b c] := by
                unfold pairSt
                rw [if_pos hlt, if_neg h, hM]
              have hfinal : ∀ (w : Str) (st : Stp), pairSt r ps t b c = [st] → Stp.vs st = [V.str w, nV b, nV c] → ∀ tt, H9 tt = none → Al (StpAt (upd (upd H9 tt (.tup [V.str w, nV b, nV c])) o (.lst (xs ++ [V.ref tt])))) (xs ++ [V.ref tt]) (B ++ ((sortN ps).take (j + 1)).flatMap (pairSt r ps t b)) := by
                intro w st hst hvs tt htt
                have et := same_new (o := .tup [V.str w, nV b, nV c]) htt
                rw [hin6, hst, ← List.append_assoc]
                refine Al.snoc (hA6.mono fun v c k => (k.same (e10.trans et)).mut (et _ _ ho10)) ⟨tt, rfl, ?_⟩
                rw [upd_ne (fun e => by rw [e, ho10] at htt; cases htt), upd_same, hvs]
              have hout2 : ∀ (w : Str) (tt : Addr), H9 tt = none → Same H (upd (upd H9 tt (.tup [V.str w, nV b, nV c])) o (.lst (xs ++ [V.ref tt]))) ∧ upd (upd H9 tt (.tup [V.str w, nV b, nV c])) o (.lst (xs ++ [V.ref tt])) p1 = some (.lst ((sortN ps).map nV)) ∧ upd (upd H9 tt (.tup [V.str w, nV b, nV c])) o (.lst (xs ++ [V.ref tt])) p2 = some (.lst ((sortN ps).map nV)) := by
                intro w tt htt
                have et := same_new (o := .tup [V.str w, nV b, nV c]) htt
                exact ⟨same_mut (e6.trans (e10.trans et)) ho, (upd_ne hop.symm).trans ((e10.trans et) _ _ hp61), (upd_ne hop2.symm).trans ((e10.trans et) _ _ hp62)⟩
              refine ite2 (fun hev => ?_) fun hev => ?_
              · have hev := of_decide_eq_true hev
                rw [if_pos hev] at hps
                refine ⟨nV b, rfl, nV c, rfl, by show 3 ≤ sizeLine; decide, fun tt htt => ⟨o, _, _, rfl, rfl, same_new htt _ _ ho10, by rw [hA6.1]; exact small1k (by omega), ?_⟩⟩
                obtain ⟨f1, f2, f3⟩ := hout2 "exchange" tt htt
                exact ⟨_, _, _, _, _, _, rfl, f1, f2, f3, upd_same, hfinal _ _ hps rfl tt htt⟩
              · have hev : ¬ negs r M % 2 = 0 := fun z => hev (decide_eq_true z)
                rw [if_neg hev] at hps
                refine ⟨nV b, rfl, nV c, rfl, by show 3 ≤ sizeLine; decide, fun tt htt => ⟨o, _, _, rfl, rfl, same_new htt _ _ ho10, by rw [hA6.1]; exact small1k (by omega), ?_⟩⟩
                obtain ⟨f1, f2, f3⟩ := hout2 "cross" tt htt
                exact ⟨_, _, _, _, _, _, rfl, f1, f2, f3, upd_same, hfinal _ _ hps rfl tt htt⟩
          · have hlt : ¬ b < c := fun z => hlt (decide_eq_true z)
            have hps : pairSt r ps t b c = [] := by
              unfold pairSt
              rw [if_neg hlt]
            refine ⟨nV b, rfl, nV c, rfl, _, _, rfl, rfl, _, rfl, iteN (fun z => hlt (by have := of_decide_eq_true z; omega)) ?_⟩
            refine ⟨xs, _, _, _, _, _, rfl, e6, hp61, hp62, ho6, ?_⟩
            rw [hin6, hps, List.append_nil]
            exact hA6
        · obtain ⟨xs, y5, y6, y7, y8, y9, rfl, e6, hp61, hp62, ho6, hA6⟩ := hI
          refine ⟨xs, _, _, _, _, _, _, rfl, e6, hp61, ho6, ?_⟩
          rw [hout]
          rw [List.length_map, List.take_length] at hA6
          rw [show oneSt r ps t b = (if t % 2 = 1 then [Stp.turn b] else []) ++ (sortN ps).flatMap (pairSt r ps t b) from rfl, ← List.append_assoc, hB]
          exact hA6
    · obtain ⟨xs, y4, y5, y6, y7, y8, y9, rfl, e3, hp3, ho3, hA⟩ := hI
      rw [List.length_map, List.take_length, ← within_eq] at hA
      exact ⟨.ref o, rfl, q _ o xs e3 ho ho3 hA⟩
theorem c_steps_within (W : Wd w K mg) : Cal P w K mg base CX0 1 "steps_within" (d_steps_within.at_ K) (sp_steps_within K) := ⟨ok_steps_within W, W.g_steps_within, W.f_steps_within.kp⟩
end
end Tc
set_option maxHeartbeats 0
namespace Mi
theorem chk_few : (allRows.all fun r => decide (fewest r = lfewest r)) = true := by decide +kernel
theorem chk_ord : (allRows.all fun r => decide (ord r = period r)) = true := by decide +kernel
theorem chk_cyc : (allRows.all fun r => (cycs r).all fun c => decide (c.1.length ≤ 4) && (c.1.all fun p => decide (1 ≤ p) && decide (p ≤ r.length))) = true := by decide +kernel
def hintOk (r : Row) (h : Option Stp) (b : List Stp) : Bool :=
  decide (least b = h) && decide (b.length ≤ 100) && (b.all fun s => decide (s ∈ stepsOf 4)) && (match h with
  | none => decide (fewest r = 0)
  | some s => decide (fewest (stp r s) = fewest r - 1) && s.ok r.length)
theorem chk_hint0 : ((allRows.take 74).all fun r => hintOk r (hint r) (bestL r)) = true := by decide +kernel
theorem chk_hint1 : (((allRows.drop 74).take 74).all fun r => hintOk r (hint r) (bestL r)) = true := by decide +kernel
theorem chk_hint2 : ((((allRows.drop 74).drop 74).take 74).all fun r => hintOk r (hint r) (bestL r)) = true := by decide +kernel
theorem chk_hint3 : (((((allRows.drop 74).drop 74).drop 74).take 74).all fun r => hintOk r (hint r) (bestL r)) = true := by decide +kernel
theorem chk_hint4 : ((((((allRows.drop 74).drop 74).drop 74).drop 74).take 74).all fun r => hintOk r (hint r) (bestL r)) = true := by decide +kernel
theorem chk_hint5 : ((((((allRows.drop 74).drop 74).drop 74).drop 74).drop 74).all fun r => hintOk r (hint r) (bestL r)) = true := by decide +kernel
theorem chk_hint : (allRows.all fun r => hintOk r (hint r) (bestL r)) = true := all_cut 74 chk_hint0 (all_cut 74 chk_hint1 (all_cut 74 chk_hint2 (all_cut 74 chk_hint3 (all_cut 74 chk_hint4 (chk_hint5)))))
theorem few_eq {r : Row} (h : vrB r = true) : fewest r = lfewest r := of_decide_eq_true (List.all_eq_true.mp chk_few r (vrB_mem h))
theorem ord_eq {r : Row} (h : vrB r = true) : ord r = period r := of_decide_eq_true (List.all_eq_true.mp chk_ord r (vrB_mem h))
theorem cyc_ok {r : Row} (h : vrB r = true) {c : List Nat × Nat} (hc : c ∈ cycs r) : c.1.length ≤ 4 ∧ ∀ p ∈ c.1, 1 ≤ p ∧ p ≤ r.length := by
  have h1 := List.all_eq_true.mp (List.all_eq_true.mp chk_cyc r (vrB_mem h)) c hc
  simp only [Bool.and_eq_true, decide_eq_true_eq, List.all_eq_true] at h1
  exact h1
theorem hint_ok {r : Row} (h : vrB r = true) : hintOk r (hint r) (bestL r) = true := List.all_eq_true.mp chk_hint r (vrB_mem h)
theorem best_least {r : Row} (h : vrB r = true) : least (bestL r) = hint r := by
  have h1 := hint_ok h
  unfold hintOk at h1
  simp only [Bool.and_eq_true, decide_eq_true_eq] at h1
  exact h1.1.1.1
theorem best_len {r : Row} (h : vrB r = true) : (bestL r).length ≤ 100 := by
  have h1 := hint_ok h
  unfold hintOk at h1
  simp only [Bool.and_eq_true, decide_eq_true_eq] at h1
  exact h1.1.1.2
theorem best_in {r : Row} (h : vrB r = true) : ∀ s ∈ bestL r, s ∈ stepsOf 4 := by
  have h1 := hint_ok h
  unfold hintOk at h1
  simp only [Bool.and_eq_true, decide_eq_true_eq, List.all_eq_true] at h1
  exact h1.1.2
theorem hint_none {r : Row} (h : vrB r = true) (e : hint r = none) : fewest r = 0 := by
  have h1 := hint_ok h
  unfold hintOk at h1
  rw [e] at h1
  exact of_decide_eq_true (Bool.and_eq_true_iff.mp h1).2
theorem hint_some {r : Row} (h : vrB r = true) {s : Stp} (e : hint r = some s) : fewest (stp r s) = fewest r - 1 ∧ s.ok r.length = true := by
  have h1 := hint_ok h
  unfold hintOk at h1
  rw [e] at h1
  have h2 := (Bool.and_eq_true_iff.mp h1).2
  exact ⟨of_decide_eq_true (Bool.and_eq_true_iff.mp h2).1, (Bool.and_eq_true_iff.mp h2).2⟩
/-! the least of a list -/
theorem least_none {l : List Stp} : least l = none ↔ l = [] := by
  cases l with
  | nil => exact ⟨fun _ => rfl, fun _ => rfl⟩
  | cons s l =>
    refine ⟨fun h => ?_, fun h => by cases h⟩
    unfold least at h
    cases e : least l with
    | none => rw [e] at h; cases h
    | some t => rw [e] at h; cases h
theorem least_mem : ∀ {l : List Stp} {s : Stp}, least l = some s → s ∈ l ∧ ∀ t ∈ l, s.key ≤ t.key
  | [], s, h => by cases h
  | a :: l, s, h => by
    unfold least at h
    cases e : least l with
    | none =>
      rw [e] at h
      have h1 : a = s := Option.some.inj h
      have h2 := least_none.mp e
      subst h1 h2
      refine ⟨List.mem_cons_self .., fun t ht => ?_⟩
      rw [List.mem_singleton.mp ht]
      exact Nat.le_refl _
    | some b =>
      rw [e] at h
      have h1 : (if a.key ≤ b.key then a else b) = s := Option.some.inj h
      obtain ⟨ih1, ih2⟩ := least_mem e
      by_cases hk : a.key ≤ b.key
      · rw [if_pos hk] at h1
        subst h1
        refine ⟨List.mem_cons_self .., fun t ht => ?_⟩
        rcases List.mem_cons.mp ht with z | z
        · rw [z]
          exact Nat.le_refl _
        · exact Nat.le_trans hk (ih2 t z)
      · rw [if_neg hk] at h1
        subst h1
        refine ⟨List.mem_cons_of_mem _ ih1, fun t ht => ?_⟩
        rcases List.mem_cons.mp ht with z | z
        · rw [z]
          omega
        · exact ih2 t z
theorem chk_key : ((stepsOf 4).all fun a => (stepsOf 4).all fun b => decide (a.key = b.key → a = b)) = true := by decide +kernel
theorem key_inj {a b : Stp} (ha : a ∈ stepsOf 4) (hb : b ∈ stepsOf 4) (h : a.key = b.key) : a = b :=
  of_decide_eq_true (List.all_eq_true.mp (List.all_eq_true.mp chk_key a ha) b hb) h
/-- the first of a sorted list is the least -/
theorem head_least {l m : List Stp} (hp : m.Perm l) (hs : m.Pairwise fun a b => a.key ≤ b.key) (hin : ∀ s ∈ l, s ∈ stepsOf 4) : m.head? = least l := by
  cases m with
  | nil =>
    have : l = [] := List.nil_perm.mp hp
    rw [this]
    rfl
  | cons a m =>
    cases e : least l with
    | none =>
      rw [least_none.mp e] at hp
      exact absurd hp.length_eq (by simp)
    | some s =>
      obtain ⟨h1, h2⟩ := least_mem e
      have ha : a ∈ l := hp.mem_iff.mp (List.mem_cons_self ..)
      have hs1 : s ∈ a :: m := hp.mem_iff.mpr h1
      have h3 := h2 a ha
      have h4 : a.key ≤ s.key := by
        rcases List.mem_cons.mp hs1 with z | z
        · rw [z]
          exact Nat.le_refl _
        · exact (List.pairwise_cons.mp hs).1 s z
      show some a = some s
      rw [key_inj (hin a ha) (hin s h1) (by omega)]
theorem chk_lbest : (allRows.all fun r => (allSt r.length).all fun s => s.ok r.length && decide (s ∈ stepsOf 4)) = true := by decide +kernel
theorem lbest_in {r : Row} (h : vrB r = true) : ∀ s ∈ allSt r.length, s.ok r.length = true ∧ s ∈ stepsOf 4 := fun s hs => by
  have h1 := List.all_eq_true.mp (List.all_eq_true.mp chk_lbest r (vrB_mem h)) s hs
  have h2 := Bool.and_eq_true_iff.mp h1
  exact ⟨h2.1, of_decide_eq_true h2.2⟩
end Mi
set_option maxHeartbeats 4000000
namespace Tc
open PySem PySem.Spec PyProof.Rows L2 He He5 Mi
/-! steps across two cycles -/
def xSt (a b : Nat) : List Stp := [Stp.exch (min a b) (max a b), Stp.cross (min a b) (max a b)]
def x1 (others : List Nat) (a : Nat) : List Stp := others.flatMap (xSt a)
def x2 (places others : List Nat) : List Stp := places.flatMap (x1 others)
def x3 (l : List (List Nat)) (i : Nat) : List Stp := (l.drop (i + 1)).flatMap (x2 (l.getD i []))
theorem across_eq (l : List (List Nat)) : across l = (List.range l.length).flatMap (x3 l) := rfl
def revs (r : Mi.Row) : List (List Nat) := ((cycs r).filter fun c => decide (c.2 % 2 = 1)).map (·.1)
def inn (r : Mi.Row) : List Stp := (cycs r).flatMap fun c => within r c.1 c.2
theorem bestL_eq (r : Mi.Row) : bestL r = inn r ++ across (revs r) := rfl
theorem x1_len (o : List Nat) (a : Nat) (h : o.length ≤ 4) : (x1 o a).length ≤ 8 := by
  have := fm_len (xSt a) 2 o fun _ _ => Nat.le_refl 2
  unfold x1
  omega
theorem x2_len (p o : List Nat) (hp : p.length ≤ 4) (h : o.length ≤ 4) : (x2 p o).length ≤ 32 := by
  have := fm_len (x1 o) 8 p fun a _ => x1_len o a h
  unfold x2
  omega
theorem x3_len (l : List (List Nat)) (i : Nat) (hl : l.length ≤ 4) (h : ∀ p ∈ l, p.length ≤ 4) : (x3 l i).length ≤ 128 := by
  have hg : (l.getD i []).length ≤ 4 := by
    rw [List.getD_eq_getElem?_getD]
    cases e : l[i]? with
    | none => exact Nat.zero_le _
    | some p => exact h p (List.mem_of_getElem? e)
  have := fm_len (x2 (l.getD i [])) 32 (l.drop (i + 1)) fun o ho => x2_len _ o hg (h o (List.mem_of_mem_drop ho))
  rw [List.length_drop] at this
  unfold x3
  omega
theorem cut_drop {xs : List V} {i : Nat} (h : i ≤ xs.length) : cutV xs (some (i : Int)) none = xs.drop i := by
  unfold cutV
  rw [HT.sIx_none, HT.sIx_nat, Nat.min_eq_left h, List.take_of_length_le (by rw [List.length_drop]; exact Nat.le_refl _)]
/-- a list of places, none of Z -/
def LiAt (Z : List Addr) (H : Hp) (v : V) (l : List Nat) : Prop := ∃ a, v = .ref a ∧ H a = some (.lst (l.map nV)) ∧ a ∉ Z
/-- the result list at o, the rest as in H4 -/
def Rz (o : Addr) (H4 Hk : Hp) (B : List Stp) : Prop := Sx o H4 Hk ∧ ∃ xs, Hk o = some (.lst xs) ∧ Al (StpAt Hk) xs B
theorem Rz.same {o : Addr} {H4 Hk H' : Hp} {B : List Stp} (h : Rz o H4 Hk B) (e : Same Hk H') : Rz o H4 H' B := let ⟨h1, xs, h2, h3⟩ := h; ⟨h1.trans (same_sx e), xs, e _ _ h2, h3.mono fun v c k => k.same e⟩
theorem rz_two {o : Addr} {H4 Hk : Hp} {B : List Stp} {xs : List V} {t1 t2 L : Addr} {s1 s2 : Stp} (h1 : Sx o H4 Hk) (ho : Hk o = some (.lst xs)) (hA : Al (StpAt Hk) xs B) (n1 : Hk t1 = none) (n2 : upd Hk t1 (.tup (Stp.vs s1)) t2 = none)
    (n3 : upd (upd Hk t1 (.tup (Stp.vs s1))) t2 (.tup (Stp.vs s2)) L = none) :
    upd (upd (upd Hk t1 (.tup (Stp.vs s1))) t2 (.tup (Stp.vs s2))) L (.lst [V.ref t1, V.ref t2]) o = some (.lst xs) ∧
      Rz o H4 (upd (upd (upd (upd Hk t1 (.tup (Stp.vs s1))) t2 (.tup (Stp.vs s2))) L (.lst [V.ref t1, V.ref t2])) o (.lst (xs ++ [V.ref t1, V.ref t2]))) (B ++ [s1, s2]) := by
  have et1 := same_new (o := .tup (Stp.vs s1)) n1
  have et2 := same_new (o := .tup (Stp.vs s2)) n2
  have et3 := same_new (o := .lst [V.ref t1, V.ref t2]) n3
  have eT := et1.trans (et2.trans et3)
  have ho7 := eT _ _ ho
  refine ⟨ho7, ?_, _, upd_same, ?_⟩
  · intro b x hb hn
    rw [upd_ne hn]
    exact eT _ _ (h1 b x hb hn)
  · have ht1 : upd (upd (upd (upd Hk t1 (.tup (Stp.vs s1))) t2 (.tup (Stp.vs s2))) L (.lst [V.ref t1, V.ref t2])) o (.lst (xs ++ [V.ref t1, V.ref t2])) t1 = some (.tup (Stp.vs s1)) := by
      rw [upd_ne (fun e => by rw [e, ho] at n1; cases n1)]
      exact (et2.trans et3) _ _ upd_same
    have ht2 : upd (upd (upd (upd Hk t1 (.tup (Stp.vs s1))) t2 (.tup (Stp.vs s2))) L (.lst [V.ref t1, V.ref t2])) o (.lst (xs ++ [V.ref t1, V.ref t2])) t2 = some (.tup (Stp.vs s2)) := by
      rw [upd_ne (fun e => by rw [e, et1 _ _ ho] at n2; cases n2)]
      exact et3 _ _ upd_same
    refine al_app (hA.mono fun v c k => (k.same eT).mut ho7) ⟨rfl, fun m v d hv hd => ?_⟩
    match m, hv, hd with
    | 0, hv, hd =>
      cases hv
      cases hd
      exact ⟨t1, rfl, ht1⟩
    | 1, hv, hd =>
      cases hv
      cases hd
      exact ⟨t2, rfl, ht2⟩
    | m + 2, hv, hd => cases hv
theorem minI (a b : Nat) : (if (b : Int) < (a : Int) then (b : Int) else (a : Int)) = ((min a b : Nat) : Int) := by
  split <;> omega
theorem maxI (a b : Nat) : (if (b : Int) > (a : Int) then (b : Int) else (a : Int)) = ((max a b : Nat) : Int) := by
  split <;> omega
theorem map_get {ps : List Nat} {i : Nat} {x : V} (hx : (ps.map nV)[i]? = some x) : ∃ b, ps[i]? = some b ∧ x = nV b := by
  rw [List.getElem?_map] at hx
  cases e : ps[i]? with
  | none => rw [e] at hx; cases hx
  | some b => rw [e] at hx; exact ⟨b, rfl, (Option.some.inj hx).symm⟩
section
variable {P : Program} {w : World} {K : PySem.W.Frag} {mg : Str → Option Value} {base : Heap}
def sp_best_of (K : PySem.W.Frag) : Sp := fun vs H Q _ => ∃ a r, vs = [.ref a] ∧ H a = some (.tup (r.map V.int)) ∧ vrB r = true ∧
  ∀ H' p xs ss, Same H H' → H p = none → H' p = some (.lst xs) → Al (StpAt H') xs ss → ss.head? = hint r → Q (.ref p) H'
abbrev N_best_of : List Str := ["row", "cycles", "result", "places", "turned", "reversed_places", "index", "others", "first", "second", "low", "high"]
theorem sc_best_of : FnScope N_best_of ["row"] d_best_of.scope := ⟨rfl, rfl, rfl, by decide +kernel, rfl, by decide +kernel, by decide +kernel⟩
theorem ok_best_of (W : Wd w K mg) : FnR P w K mg base CX0 2 (d_best_of.at_ K) (sp_best_of K) := by
  refine fnr0 W.f_best_of sc_best_of (fun vs H Q E h => ?_) (fun _ _ _ _ _ _ us hl => match us, hl with | [_], _ => rfl) (fun cdv A outer s H vs Q E hr h => ?_)
  · obtain ⟨a, r, rfl, ha, hr1, q⟩ := h
    rfl
  · obtain ⟨a, r, rfl, ha, hr1, q⟩ := h
    refine ⟨_, (pss_cons (ps_set (i := 1) sc_best_of.nd rfl (by first | exact Or.inl rfl | exact Or.inr rfl) (pe_c (c_cycle_lists W) (hr.mono (by omega)) pass0 (pa_cons (pv 0) pa_nil)))
      (pss_cons (ps_set (i := 2) sc_best_of.nd rfl (by first | exact Or.inl rfl | exact Or.inr rfl) (pe_lst pa_nil))
      (pss_cons (ps_for PassesOwn.never rfl (pi_list (pv 1)) (pg_tup rfl (pgs_cons (pg_name (i := 3) sc_best_of.nd rfl (by first | exact Or.inl rfl | exact Or.inr rfl)) (pgs_cons (pg_name (i := 4) sc_best_of.nd rfl (by first | exact Or.inl rfl | exact Or.inr rfl)) pgs_nil))) (pss_one (ps_expr (pe_bm PySem.F.plainAttrs_list PySem.F.slot_list_extend PySem.F.type_list_extend mt_extend (pv 2) (pa_cons (pe_c (c_steps_within W) (hr.mono (by omega)) pass0 (pa_cons (pv 0) (pa_cons (pv 3) (pa_cons (pv 4) pa_nil)))) pa_nil)))))
      (pss_cons (ps_setLc (i := 5) (own := [("places", 3), ("turned", 4)]) (g := gTup K 2 (gCons (gName 3) (gCons (gName 4) gNil))) rfl sc_best_of.nd rfl rfl (sw_true rfl rfl rfl (by decide +kernel)) (pi_list (pv 1)) (blkOk_by (own := [("places", 3), ("turned", 4)]) (N := N_best_of) (sc := d_best_of.scope) (by decide +kernel)) (fun _ _ _ _ _ => (pg_tup rfl (pgs_cons (pg_name (i := 3) sc_best_of.nd rfl (by first | exact Or.inl rfl | exact Or.inr rfl)) (pgs_cons (pg_name (i := 4) sc_best_of.nd rfl (by first | exact Or.inl rfl | exact Or.inr rfl)) pgs_nil)))) (fun _ _ _ _ _ => (pts_one (pt_cmpR op_eq (pe_op op_mod (pv 4) pe_int) pe_int (nomark _)))) (fun _ _ _ _ _ => (pv 3)))
      (pss_cons (ps_for PassesOwn.never rfl (pi_enum (by rfl) W.z_enumerate (pa_cons (pv 5) pa_nil)) (pg_tup rfl (pgs_cons (pg_name (i := 6) sc_best_of.nd rfl (by first | exact Or.inl rfl | exact Or.inr rfl)) (pgs_cons (pg_name (i := 3) sc_best_of.nd rfl (by first | exact Or.inl rfl | exact Or.inr rfl)) pgs_nil))) (pss_one (ps_for PassesOwn.never rfl (pi_list (pe_slice sl_list (pv 5) (po_some (pe_op op_add (pv 6) pe_int)) po_none)) (pg_name (i := 7) sc_best_of.nd rfl (by first | exact Or.inl rfl | exact Or.inr rfl)) (pss_one (ps_for PassesOwn.never rfl (pi_list (pv 3)) (pg_name (i := 8) sc_best_of.nd rfl (by first | exact Or.inl rfl | exact Or.inr rfl)) (pss_one (ps_for PassesOwn.never rfl (pi_list (pv 7)) (pg_name (i := 9) sc_best_of.nd rfl (by first | exact Or.inl rfl | exact Or.inr rfl)) (pss_cons (ps_par (i := 10) (j := 11) (by rfl) sc_best_of.nd rfl rfl (by decide) rfl rfl (pa_cons (pe_callB (call_min2 rfl) (by rfl) W.z_min boot_min (pa_cons (pv 8) (pa_cons (pv 9) pa_nil))) (pa_cons (pe_callB (call_max2 rfl) (by rfl) W.z_max boot_max (pa_cons (pv 8) (pa_cons (pv 9) pa_nil))) pa_nil)) (by rfl))
      (pss_one (ps_expr (pe_bm PySem.F.plainAttrs_list PySem.F.slot_list_extend PySem.F.type_list_extend mt_extend (pv 2) (pa_cons (pe_lst (pa_cons (pe_tup (pa_cons pe_str (pa_cons (pv 10) (pa_cons (pv 11) pa_nil)))) (pa_cons (pe_tup (pa_cons pe_str (pa_cons (pv 10) (pa_cons (pv 11) pa_nil)))) pa_nil))) pa_nil))))))))))))
      (pss_one (ps_ret (pe_callB (cr_sortedSt hr.units) (by rfl) W.z_sorted boot_sorted (pa_cons (pv 2) pa_nil))))))))), ?_⟩
    have hV := vrB_Vr hr1
    have h4 := hV.most
    have hbl := best_len hr1
    have hil : (inn r).length ≤ 100 := by
      rw [bestL_eq, List.length_append] at hbl
      omega
    refine ⟨.ref a, rfl, a, r, rfl, ha, hV, fun H1 c cs e1 hc hc1 hA => ⟨Nat.zero_le _, fun o ho => ?_⟩⟩
    have hoH : H o = none := e1.free ho
    have eo := same_new (o := .lst []) ho
    have hAo : Al (CycAt [o] (upd H1 o (.lst []))) cs (cycs r) := hA.mono fun v d k => (CycAt.more ho k).same eo
    have hco : c ≠ o := fun e => by rw [← e, hc1] at ho; cases ho
    refine ⟨.ref c, rfl, c, rfl, ⟨_, SqL.of (eo _ _ hc1)⟩, ?_⟩
    refine for_list (K := K) (a := c) (xs := cs) (fun i σ H3 => ∃ y3 y4 y5 y6 y7 y8 y9 y10 y11, σ = [some (.ref a), some (.ref c), some (.ref o), y3, y4, y5, y6, y7, y8, y9, y10, y11] ∧ Rz o (upd H1 o (.lst [])) H3 (((cycs r).take i).flatMap fun c => within r c.1 c.2) ∧ Same H H3)
      ⟨_, _, _, _, _, _, _, _, _, rfl, ⟨Sx.refl _ _, [], upd_same, Al.nil⟩, e1.trans eo⟩ (fun i σ H3 _ h => ?_) (fun i x σ H3 hx hI => ?_) (fun σ H3 hI => ?_)
    · obtain ⟨_, _, _, _, _, _, _, _, _, _, h, _⟩ := h
      exact SqL.of (h.1 _ _ (eo _ _ hc1) hco)
    · obtain ⟨y3, y4, y5, y6, y7, y8, y9, y10, y11, rfl, hR, eH⟩ := hI
      have hic : i < (cycs r).length := by
        rw [← hA.1]
        exact (List.getElem?_eq_some_iff.mp hx).1
      have hxc : (cycs r)[i]? = some (cycs r)[i] := List.getElem?_eq_getElem hic
      have hcm : (cycs r)[i] ∈ cycs r := List.getElem_mem hic
      generalize hd : (cycs r)[i] = d at *
      obtain ⟨t, l, rfl, ht, hl, hlo⟩ := hAo.2 i x d hx hxc
      obtain ⟨hS, xs, hox, hAx⟩ := hR
      have hto : t ≠ o := fun e => by rw [e, upd_same] at ht; cases ht
      have hlo2 : l ≠ o := fun e => hlo (by rw [e]; exact List.mem_singleton.mpr rfl)
      have ht3 := hS _ _ ht hto
      have hl3 := hS _ _ hl hlo2
      obtain ⟨hd4, hdin⟩ := cyc_ok hr1 hcm
      have hfm := fm_take (fun c : List Nat × Nat => within r c.1 c.2) (cycs r) i hxc
      refine ⟨t, _, rfl, SqT.of ht3, rfl, _, _, rfl, _, _, rfl, rfl, ?_⟩
      refine ⟨.ref o, rfl, .inl ⟨rfl, _, SqL.of hox⟩, .ref a, rfl, .ref l, rfl, nV d.2, rfl, a, l, r, d.1, d.2, rfl, eH _ _ ha, hV, hl3, hd4, hdin, fun H5 p zs e5 hp hp5 hA5 => ?_⟩
      have ho5 := e5 _ _ hox
      have hpre : (((cycs r).take (i + 1)).flatMap fun c => within r c.1 c.2).length ≤ 100 := by
        have : inn r = (((cycs r).take (i + 1)).flatMap fun c => within r c.1 c.2) ++ ((cycs r).drop (i + 1)).flatMap fun c => within r c.1 c.2 := by
          unfold inn
          rw [← List.flatMap_append, List.take_append_drop]
        rw [this, List.length_append] at hil
        omega
      refine ⟨o, p, _, _, rfl, rfl, ho5, hp5, ?_, ?_⟩
      · rw [hAx.1, hA5.1]
        rw [hfm, List.length_append] at hpre
        exact Nat.le_of_lt (small1k (by omega))
      · refine ⟨_, _, _, _, _, _, _, _, _, rfl, ⟨?_, _, upd_same, ?_⟩, same_mut (eH.trans e5) hoH⟩
        · intro b x hb hn
          rw [upd_ne hn]
          exact e5 _ _ (hS b x hb hn)
        · rw [hfm]
          exact al_app (hAx.mono fun v c k => (k.same e5).mut ho5) (hA5.mono fun v c k => k.mut ho5)
    · obtain ⟨y3, y4, y5, y6, y7, y8, y9, y10, y11, rfl, hR, eH⟩ := hI
      rw [hA.1, List.take_length] at hR
      have hR : Rz o (upd H1 o (.lst [])) H3 (inn r) := hR
      obtain ⟨hS, xs, hox, hAx⟩ := hR
      have hA3 : Al (CycAt [o] H3) cs (cycs r) := hAo.mono fun v d k => by
        obtain ⟨t, l, k1, k2, k3, k4⟩ := k
        have hto : t ≠ o := fun e => by rw [e, upd_same] at k2; cases k2
        exact ⟨t, l, k1, hS _ _ k2 hto, hS _ _ k3 (fun e => k4 (by rw [e]; exact List.mem_singleton.mpr rfl)), k4⟩
      have hc3 := hS _ _ (eo _ _ hc1) hco
      refine ⟨.ref c, rfl, c, rfl, ⟨_, SqL.of hc3⟩, fun D hD => lc_rel (walk_list (K := K)) (fun y => decide (y.2.2 % 2 = 1)) (fun v y => LiAt [o] H3 v y.2.1) (al_len hA3) (al_walk hA3) (fun H' e => SqL.of (e _ _ hc3)) (by rw [← al_len hA3, hA3.1]; have := cycs_len r; omega) hD (fun y x H2 Yc Nn hy hS2 hE h1 h2 => ?_) fun H5 zs e5 hD5 hZ => ?_⟩
      · obtain ⟨rfl, t, l, et, h3, h4', h5⟩ := hE
        rw [et]
        refine ⟨t, _, rfl, SqT.of (hS2 _ _ h3), rfl, _, _, rfl, _, _, rfl, rfl, rfl, ?_⟩
        refine ⟨_, rfl, _, 2, rfl, rfl, by show (0 : Int) < 2; decide, rfl, _, rfl, ?_⟩
        rw [par1]
        refine ite2 (fun h => ?_) fun h => ?_
        · exact ⟨_, rfl, h1 _ _ (Same.refl _) h ⟨l, rfl, h4', h5⟩⟩
        · exact h2 _ (Same.refl _) (Bool.eq_false_iff.mpr h)
      · have hZ2 : Al (LiAt [o] H3) zs (revs r) := by
          have h1 := hZ.right (R2 := LiAt [o] H3) (fun y => y.2.1) fun v c k => k
          have h2 := zip_filter (fun c : List Nat × Nat => decide (c.2 % 2 = 1)) cs (cycs r) hA3.1
          have h3 : ((cs.zip (cycs r)).filter fun y => decide (y.2.2 % 2 = 1)).map (fun y => y.2.1) = revs r := by
            unfold revs
            rw [← h2, List.map_map]
            rfl
          rw [h3] at h1
          exact h1
        have hrl : (revs r).length ≤ 4 := by
          unfold revs
          rw [List.length_map]
          have := List.length_filter_le (fun c : List Nat × Nat => decide (c.2 % 2 = 1)) (cycs r)
          have := cycs_len r
          omega
        have hr4 : ∀ l ∈ revs r, l.length ≤ 4 := fun l hl => by
          unfold revs at hl
          obtain ⟨c, hc, rfl⟩ := List.mem_map.mp hl
          exact (cyc_ok hr1 (List.mem_filter.mp hc).1).1
        have hDo : D ≠ o := fun e => by rw [e, hox] at hD; cases hD
        have hZ5 : Al (LiAt [o] H5) zs (revs r) := hZ2.mono fun v l ⟨b, k1, k2, k3⟩ => ⟨b, k1, e5 _ _ k2, k3⟩
        have hR5 : Rz o H5 H5 (inn r) := ⟨Sx.refl _ _, xs, e5 _ _ hox, hAx.mono fun v c k => k.same e5⟩
        have eH5 := eH.trans e5
        clear hA3 hZ2 hZ hS hAx hox
        have hlist : ∀ {l : Addr} {ps : List Nat} {Hk : Hp} {B : List Stp}, H5 l = some (.lst (ps.map nV)) → l ∉ [o] → Rz o H5 Hk B → Hk l = some (.lst (ps.map nV)) := fun h1 h2 h3 => h3.1 _ _ h1 (fun e => h2 (by rw [e]; exact List.mem_singleton.mpr rfl))
        refine ⟨.ref D, rfl, D, zs, rfl, SqL.of hD5, for_it (wen (xs := zs)) (fun i σ Hk => ∃ y3 y4 y6 y7 y8 y9 y10 y11, σ = [some (.ref a), some (.ref c), some (.ref o), y3, y4, some (.ref D), y6, y7, y8, y9, y10, y11] ∧ Rz o H5 Hk (inn r ++ (List.range i).flatMap (x3 (revs r))))
          ⟨_, _, _, _, _, _, _, _, rfl, by rw [List.range_zero, List.flatMap_nil, List.append_nil]; exact hR5⟩ (fun i σ Hk _ h => ?_) (fun i x σ Hk Hk' hi hI hy => ?_) (fun σ Hk hI => ?_)⟩
        · obtain ⟨_, _, _, _, _, _, _, _, _, h⟩ := h
          exact SqL.of (h.1 _ _ hD5 hDo)
        · obtain ⟨y3, y4, y6, y7, y8, y9, y10, y11, rfl, hR⟩ := hI
          obtain ⟨T, x, rfl, hT, rfl, hx⟩ := hy
          have hir : i < (revs r).length := by rw [← hZ5.1]; exact hi
          have hxr : (revs r)[i]? = some (revs r)[i] := List.getElem?_eq_getElem hir
          have hpm : (revs r)[i] ∈ revs r := List.getElem_mem hir
          have hgd : (revs r).getD i [] = (revs r)[i] := by rw [List.getD_eq_getElem?_getD, hxr]; rfl
          have hP4 := hr4 _ hpm
          generalize hpl : (revs r)[i] = pl at *
          obtain ⟨la, rfl, hla, hlao⟩ := hZ5.2 i x pl hx hxr
          have hR1 := hR.same (same_new (o := .tup [.int (i : Nat), .ref la]) hT)
          have hD6 := hR1.1 _ _ hD5 hDo
          have hB3 : (inn r ++ (List.range i).flatMap (x3 (revs r))).length ≤ 100 + 512 := by
            have := fm_len (x3 (revs r)) 128 (List.range i) fun j _ => x3_len _ j hrl hr4
            rw [List.length_range] at this
            rw [List.length_append]
            omega
          refine ⟨T, _, rfl, SqT.of upd_same, rfl, _, _, rfl, _, _, rfl, rfl, ?_⟩
          refine ⟨.ref D, rfl, .int (i : Nat), rfl, _, 1, rfl, rfl, _, rfl, D, _, rfl, SqL.of hD6, fun sl hsl => ?_⟩
          rw [show cutV zs (some ((i : Int) + 1)) none = zs.drop (i + 1) by rw [show (i : Int) + 1 = ((i + 1 : Nat) : Int) by omega]; exact cut_drop (by omega)]
          have hR2 := hR1.same (same_new (o := .lst (zs.drop (i + 1))) hsl)
          have hslo : sl ≠ o := fun e => by
            obtain ⟨_, ys, hy, _⟩ := hR1
            rw [e, hy] at hsl
            cases hsl
          have hsl2 : ∀ {Hk' : Hp} {B : List Stp}, Rz o (upd (upd Hk T (.tup [.int (i : Nat), .ref la])) sl (.lst (zs.drop (i + 1)))) Hk' B → Hk' sl = some (.lst (zs.drop (i + 1))) := fun h => h.1 _ _ upd_same hslo
          -- from the heap with the slice
          generalize hH6 : upd (upd Hk T (.tup [.int (i : Nat), .ref la])) sl (.lst (zs.drop (i + 1))) = H6 at *
          have hRz : ∀ {Hk' : Hp} {B : List Stp}, Rz o H6 Hk' B → Rz o H5 Hk' B := fun h => ⟨hR2.1.trans h.1, h.2⟩
          generalize hB : inn r ++ (List.range i).flatMap (x3 (revs r)) = B at *
          have hZd : Al (LiAt [o] H5) (zs.drop (i + 1)) ((revs r).drop (i + 1)) := by
            refine ⟨by rw [List.length_drop, List.length_drop, hZ5.1], fun j v c k1 k2 => ?_⟩
            rw [List.getElem?_drop] at k1 k2
            exact hZ5.2 _ v c k1 k2
          refine ⟨sl, rfl, ⟨_, SqL.of (by rw [← hH6]; exact upd_same)⟩, ?_⟩
          refine for_list (K := K) (a := sl) (xs := zs.drop (i + 1)) (fun j σ Hj => ∃ y7 y8 y9 y10 y11, σ = [some (.ref a), some (.ref c), some (.ref o), some (.ref la), y4, some (.ref D), some (.int (i : Nat)), y7, y8, y9, y10, y11] ∧ Rz o H6 Hj (B ++ (((revs r).drop (i + 1)).take j).flatMap (x2 pl)))
            ⟨_, _, _, _, _, rfl, ⟨Sx.refl _ _, ?_⟩⟩ (fun j σ Hj _ h => ?_) (fun j x σ Hj hx hI => ?_) (fun σ Hj hI => ?_)
          · rw [List.take_zero, List.flatMap_nil, List.append_nil]
            exact hR2.2
          · obtain ⟨_, _, _, _, _, _, h⟩ := h
            exact SqL.of (hsl2 h)
          · obtain ⟨y7, y8, y9, y10, y11, rfl, hRj⟩ := hI
            have hjr : j < ((revs r).drop (i + 1)).length := by rw [← hZd.1]; exact (List.getElem?_eq_some_iff.mp hx).1
            have hxo : ((revs r).drop (i + 1))[j]? = some ((revs r).drop (i + 1))[j] := List.getElem?_eq_getElem hjr
            have hom : ((revs r).drop (i + 1))[j] ∈ revs r := List.mem_of_mem_drop (List.getElem_mem hjr)
            generalize hoth : ((revs r).drop (i + 1))[j] = oth at *
            have hO4 := hr4 _ hom
            obtain ⟨lb, rfl, hlb, hlbo⟩ := hZd.2 j x oth hx hxo
            have hfm := fm_take (x2 pl) ((revs r).drop (i + 1)) j hxo
            have hB2 : (B ++ (((revs r).drop (i + 1)).take j).flatMap (x2 pl)).length ≤ 612 + 128 := by
              have := fm_len (x2 pl) 32 (((revs r).drop (i + 1)).take j) fun q hq => x2_len pl q hP4 (hr4 _ (List.mem_of_mem_drop (List.mem_of_mem_take hq)))
              rw [List.length_take, List.length_drop] at this
              rw [List.length_append]
              omega
            rw [hfm, ← List.append_assoc]
            generalize hBB : B ++ (((revs r).drop (i + 1)).take j).flatMap (x2 pl) = B2 at *
            refine ⟨.ref la, rfl, la, rfl, ⟨_, SqL.of (hlist hla hlao (hRz hRj))⟩, ?_⟩
            refine for_list (K := K) (a := la) (xs := pl.map nV) (fun m σ Hm => ∃ y8 y9 y10 y11, σ = [some (.ref a), some (.ref c), some (.ref o), some (.ref la), y4, some (.ref D), some (.int (i : Nat)), some (.ref lb), y8, y9, y10, y11] ∧ Rz o H6 Hm (B2 ++ (pl.take m).flatMap (x1 oth)))
              ⟨_, _, _, _, rfl, by rw [List.take_zero, List.flatMap_nil, List.append_nil]; exact hRj⟩ (fun m σ Hm _ h => ?_) (fun m x σ Hm hx hI => ?_) (fun σ Hm hI => ?_)
            · obtain ⟨_, _, _, _, _, h⟩ := h
              exact SqL.of (hlist hla hlao (hRz h))
            · obtain ⟨y8, y9, y10, y11, rfl, hRm⟩ := hI
              obtain ⟨b1, hb1, rfl⟩ := map_get hx
              have hm4 : m < pl.length := (List.getElem?_eq_some_iff.mp hb1).1
              have hfm1 := fm_take (x1 oth) pl m hb1
              have hB1 : (B2 ++ (pl.take m).flatMap (x1 oth)).length ≤ 740 + 32 := by
                have := fm_len (x1 oth) 8 (pl.take m) fun q _ => x1_len oth q hO4
                rw [List.length_take] at this
                rw [List.length_append]
                omega
              rw [hfm1, ← List.append_assoc]
              generalize hBB1 : B2 ++ (pl.take m).flatMap (x1 oth) = B1 at *
              refine ⟨.ref lb, rfl, lb, rfl, ⟨_, SqL.of (hlist hlb hlbo (hRz hRm))⟩, ?_⟩
              refine for_list (K := K) (a := lb) (xs := oth.map nV) (fun n σ Hn => ∃ y9 y10 y11, σ = [some (.ref a), some (.ref c), some (.ref o), some (.ref la), y4, some (.ref D), some (.int (i : Nat)), some (.ref lb), some (nV b1), y9, y10, y11] ∧ Rz o H6 Hn (B1 ++ (oth.take n).flatMap (xSt b1)))
                ⟨_, _, _, rfl, by rw [List.take_zero, List.flatMap_nil, List.append_nil]; exact hRm⟩ (fun n σ Hn _ h => ?_) (fun n x σ Hn hx hI => ?_) (fun σ Hn hI => ?_)
              · obtain ⟨_, _, _, _, h⟩ := h
                exact SqL.of (hlist hlb hlbo (hRz h))
              · obtain ⟨y9, y10, y11, rfl, hRn⟩ := hI
                obtain ⟨b2, hb2, rfl⟩ := map_get hx
                have hn4 : n < oth.length := (List.getElem?_eq_some_iff.mp hb2).1
                have hfm2 := fm_take (xSt b1) oth n hb2
                have hB0 : (B1 ++ (oth.take n).flatMap (xSt b1)).length ≤ 772 + 8 := by
                  have := fm_len (xSt b1) 2 (oth.take n) fun q _ => Nat.le_refl 2
                  rw [List.length_take] at this
                  rw [List.length_append]
                  omega
                rw [hfm2, ← List.append_assoc]
                generalize hBB0 : B1 ++ (oth.take n).flatMap (xSt b1) = B0 at *
                refine ⟨nV b1, rfl, nV b2, rfl, _, _, rfl, nV b1, rfl, nV b2, rfl, _, _, rfl, _, _, rfl, ?_⟩
                rw [minI, maxI]
                obtain ⟨hSn, ys, hon, hAn⟩ := hRn
                refine ⟨.ref o, rfl, .inl ⟨rfl, _, SqL.of hon⟩, _, rfl, _, rfl, by show 3 ≤ sizeLine; decide, fun t1 n1 => ⟨_, rfl, _, rfl, by show 3 ≤ sizeLine; decide, fun t2 n2 => ⟨by show 2 ≤ sizeLine; decide, fun L nL => ?_⟩⟩⟩
                obtain ⟨ho7, hR7⟩ := rz_two (s1 := Stp.exch (min b1 b2) (max b1 b2)) (s2 := Stp.cross (min b1 b2) (max b1 b2)) hSn hon hAn n1 n2 nL
                exact ⟨o, L, _, _, rfl, rfl, ho7, upd_same, by rw [hAn.1]; exact Nat.le_of_lt (small1k (by show _ + 2 ≤ 1000; omega)), _, _, _, rfl, hR7⟩
              · obtain ⟨y9, y10, y11, rfl, hRn⟩ := hI
                rw [List.length_map, List.take_length] at hRn
                exact ⟨_, _, _, _, rfl, hRn⟩
            · obtain ⟨y8, y9, y10, y11, rfl, hRm⟩ := hI
              rw [List.length_map, List.take_length] at hRm
              exact ⟨_, _, _, _, _, rfl, hRm⟩
          · obtain ⟨y7, y8, y9, y10, y11, rfl, hRj⟩ := hI
            rw [hZd.1, List.take_length] at hRj
            refine ⟨_, _, _, _, _, _, _, _, rfl, ?_⟩
            rw [List.range_succ, List.flatMap_append, ← List.append_assoc, hB]
            have : [i].flatMap (x3 (revs r)) = ((revs r).drop (i + 1)).flatMap (x2 pl) := by
              show x3 (revs r) i ++ [] = _
              rw [List.append_nil]
              unfold x3
              rw [hgd]
            rw [this]
            exact hRz hRj
        · obtain ⟨y3, y4, y6, y7, y8, y9, y10, y11, rfl, hR⟩ := hI
          rw [hZ5.1] at hR
          have hR : Rz o H5 Hk (bestL r) := hR
          obtain ⟨hS, ys, hok, hAk⟩ := hR
          have eK : Same H Hk := fun b x hb => hS _ _ (eH5 b x hb) (ne_of_none hb hoH)
          refine ⟨.ref o, rfl, o, ys, bestL r, rfl, SqL.of hok, hAk, best_in hr1, fun zs' ss' p hperm hpair hA' hp => ?_⟩
          refine q _ p zs' ss' (eK.trans (same_new hp)) (eK.free hp) upd_same (hA'.mono fun v c k => k.same (same_new hp)) ?_
          rw [head_least hperm hpair (best_in hr1), best_least hr1]
theorem c_best_of (W : Wd w K mg) : Cal P w K mg base CX0 2 "best_of" (d_best_of.at_ K) (sp_best_of K) := ⟨ok_best_of W, W.g_best_of, W.f_best_of.kp⟩
end
end Tc
namespace Tc
open PySem PySem.Spec PyProof.Rows L2 He He5 Mi
/-- a comprehension whose results are told by a relation that looks at the heap, but not at the new list -/
theorem lc_gen {J : It} {n : Nat} {G : Hp → Prop} {Y : Nat → Hp → V → Hp → Prop} (w : Walk J n G Y) {α : Type} {xs : List α} {Ex : α → V → Hp → Prop} {g : TG} {tt : TT} {te : TE} {vs : List Nat} {σ : L2.St} {H1 : Hp} {D : Addr} {Qd : Hp → Prop}
    (p : α → Bool) (R : Hp → V → α → Prop) (hRs : ∀ H H' v y, Same H H' → R H v y → R H' v y) (hRm : ∀ H zs ws v y, H D = some (.lst zs) → R H v y → R (upd H D (.lst ws)) v y)
    (hn : n = xs.length) (hY : ∀ i H x H', Y i H x H' → i < n → Same H H' ∧ ∃ y, xs[i]? = some y ∧ Ex y x H') (hG : ∀ H', Same H1 H' → G H') (hsz : xs.length ≤ 1000) (hD : H1 D = none)
    (hs : ∀ y x H2 (Yc : V → Hp → Prop) (Nn : Hp → Prop), y ∈ xs → Same H1 H2 → Ex y x H2 → (∀ H3 v, Same H2 H3 → p y = true → R H3 v y → Yc v H3) → (∀ H3, Same H2 H3 → p y = false → Nn H3) →
      g x (wipe σ vs) H2 fun σ2 H2 => wipe σ2 vs = wipe σ vs ∧ tt σ2 H2 fun b H3 => if b = true then te σ2 H3 Yc else Nn H3)
    (hd : ∀ H' zs, Same H1 H' → H' D = some (.lst zs) → Al (R H') zs (xs.filter p) → Qd H') :
    ∃ W : Nat → Nat → Hp → Prop, (∃ m, W 0 m (upd H1 D (.lst []))) ∧ ∀ i m H, W i m H →
      (J.stop i H ∧ Qd H) ∨ (J.go i H ∧ ∃ Nx : Hp → Prop, (∀ H', Nx H' → ∃ m', m' < m ∧ W (i + 1) m' H') ∧ ∀ x H', J.yld i H x H' → g x (wipe σ vs) H' fun σ2 H2 => wipe σ2 vs = wipe σ vs ∧ tt σ2 H2 fun b H3 =>
        if b = true then te σ2 H3 fun y H4 => ∃ acc, H4 D = some (.lst acc) ∧ acc.length < sizeLine ∧ Nx (upd H4 D (.lst (acc ++ [y]))) else Nx H3) := by
  have hlen : ∀ i, ((xs.take i).filter p).length ≤ 1000 := fun i => Nat.le_trans (List.length_filter_le _ _) (Nat.le_trans (by rw [List.length_take]; exact Nat.min_le_right _ _) hsz)
  refine lc_it w (fun i H => Same H1 H ∧ ∃ zs, H D = some (.lst zs) ∧ Al (R H) zs ((xs.take i).filter p)) ⟨same_new hD, [], upd_same, Al.nil⟩ (fun i H _ h => hG H h.1) (fun i x H H' hi hP hy => ?_) (fun H h => ?_)
  · obtain ⟨hS, y, hy1, hE⟩ := hY i H x H' hy hi
    obtain ⟨h1, zs, h2, hA⟩ := hP
    have hm : y ∈ xs := List.mem_of_getElem? hy1
    have ht : xs.take (i + 1) = xs.take i ++ [y] := by rw [List.take_add_one, hy1]; rfl
    refine hs y x H' _ _ hm (h1.trans hS) hE (fun H3 v e3 hp hR => ?_) (fun H3 e3 hp => ?_)
    · have h3 := e3 _ _ (hS _ _ h2)
      refine ⟨_, h3, ?_, ?_, _, upd_same, ?_⟩
      · rw [hA.1]
        exact small1k (hlen i)
      · exact same_mut ((h1.trans hS).trans e3) hD
      · rw [ht, List.filter_append, List.filter_cons, if_pos hp, List.filter_nil]
        exact (hA.mono fun v c k => hRm _ _ _ _ _ h3 (hRs _ _ _ _ (hS.trans e3) k)).snoc (hRm _ _ _ _ _ h3 hR)
    · refine ⟨(h1.trans hS).trans e3, zs, e3 _ _ (hS _ _ h2), ?_⟩
      rw [ht, List.filter_append, List.filter_cons, if_neg (by rw [hp]; decide), List.filter_nil, List.append_nil]
      exact hA.mono fun v c k => hRs _ _ _ _ (hS.trans e3) k
  · obtain ⟨h1, zs, h2, hA⟩ := h
    rw [hn, List.take_length] at hA
    exact hd H zs h1 h2 hA
def pr (a b : Nat) : List Stp := [Stp.exch a b, Stp.cross a b]
def prs (b : Nat) : List Stp := (List.range (b + 1)).flatMap fun a => pr (a + 1) (b + 2)
theorem allSt_eq (n : Nat) : allSt n = (List.range (n - 1)).flatMap prs ++ (List.range n).map fun i => Stp.turn (i + 1) := rfl
theorem prs_len (b : Nat) : (prs b).length ≤ 2 * (b + 1) := by
  have := fm_len (fun a => pr (a + 1) (b + 2)) 2 (List.range (b + 1)) fun _ _ => Nat.le_refl 2
  rw [List.length_range] at this
  exact this
section
variable {P : Program} {w : World} {K : PySem.W.Frag} {mg : Str → Option Value} {base : Heap}
def sp_l_best (K : PySem.W.Frag) : Sp := fun vs H Q _ => ∃ a r, vs = [.ref a] ∧ H a = some (.tup (r.map V.int)) ∧ vrB r = true ∧
  ∀ H' p xs ss, Same H H' → H p = none → H' p = some (.lst xs) → Al (StpAt H') xs ss → ss.head? = hint r → Q (.ref p) H'
abbrev N_l_best : List Str := ["_law_cards_here", "_law_many", "_law_result", "_law_second", "_law_first", "_law_place", "_law_step_here"]
theorem sc_l_best : FnScope N_l_best ["_law_cards_here"] d_l_best.scope := ⟨rfl, rfl, rfl, by decide +kernel, rfl, by decide +kernel, by decide +kernel⟩
theorem ok_l_best (W : Wd w K mg) : FnR P w K mg base CX0 3 (d_l_best.at_ K) (sp_l_best K) := by
  refine fnr0 W.f_l_best sc_l_best (fun vs H Q E h => ?_) (fun _ _ _ _ _ _ us hl => match us, hl with | [_], _ => rfl) (fun cdv A outer s H vs Q E hr h => ?_)
  · obtain ⟨a, r, rfl, ha, hr1, q⟩ := h
    rfl
  · obtain ⟨a, r, rfl, ha, hr1, q⟩ := h
    refine ⟨_, (pss_cons (ps_par (i := 1) (j := 2) (by rfl) sc_l_best.nd rfl rfl (by decide) rfl rfl (pa_cons (pe_callB call_len_seq (by rfl) W.z_len PySem.boot_len (pa_cons (pv 0) pa_nil)) (pa_cons (pe_lst pa_nil) pa_nil)) (by rfl))
      (pss_cons (ps_for PassesOwn.never rfl (pi_range2 rfl W.z_range (pa_cons pe_int (pa_cons (pe_op op_add (pv 1) pe_int) pa_nil))) (pg_name (i := 3) sc_l_best.nd rfl (by first | exact Or.inl rfl | exact Or.inr rfl)) (pss_one (ps_for PassesOwn.never rfl (pi_range2 rfl W.z_range (pa_cons pe_int (pa_cons (pv 3) pa_nil))) (pg_name (i := 4) sc_l_best.nd rfl (by first | exact Or.inl rfl | exact Or.inr rfl)) (pss_one (ps_set (i := 2) sc_l_best.nd rfl (by first | exact Or.inl rfl | exact Or.inr rfl) (pe_op op_cat (pv 2) (pe_lst (pa_cons (pe_tup (pa_cons pe_str (pa_cons (pv 4) (pa_cons (pv 3) pa_nil)))) (pa_cons (pe_tup (pa_cons pe_str (pa_cons (pv 4) (pa_cons (pv 3) pa_nil)))) pa_nil)))))))))
      (pss_cons (ps_set (i := 2) sc_l_best.nd rfl (by first | exact Or.inl rfl | exact Or.inr rfl) (pe_op op_cat (pv 2) (pe_lc (own := [("_law_place", 5)]) (g := gName 5) rfl sc_l_best.nd (pi_range2 rfl W.z_range (pa_cons pe_int (pa_cons (pe_op op_add (pv 1) pe_int) pa_nil))) (blkOk_by (own := [("_law_place", 5)]) (N := N_l_best) (sc := d_l_best.scope) (by decide +kernel)) (fun _ _ _ _ _ => (pg_name (i := 5) sc_l_best.nd rfl (by first | exact Or.inl rfl | exact Or.inr rfl))) (fun _ _ _ _ _ => pts_nil) (fun _ _ _ _ _ => (pe_tup (pa_cons pe_str (pa_cons (pv 5) pa_nil)))))))
      (pss_one (ps_ret (pe_callB (cr_sortedSt hr.units) (by rfl) W.z_sorted boot_sorted (pa_cons (pe_lc (own := [("_law_step_here", 6)]) (g := gName 6) rfl sc_l_best.nd (pi_list (pv 2)) (blkOk_by (own := [("_law_step_here", 6)]) (N := N_l_best) (sc := d_l_best.scope) (by decide +kernel)) (fun _ _ _ _ _ => (pg_name (i := 6) sc_l_best.nd rfl (by first | exact Or.inl rfl | exact Or.inr rfl))) (fun _ _ _ _ _ => (pts_one (pt_cmpR op_lt (pe_c (c_l_fewest W) (hr.mono (by omega)) pass0 (pa_cons (pe_c (c_l_done W) (hr.mono (by omega)) pass0 (pa_cons (pv 0) (pa_cons (pv 6) pa_nil))) pa_nil)) (pe_c (c_l_fewest W) (hr.mono (by omega)) pass0 (pa_cons (pv 0) pa_nil)) (nomark _)))) (fun _ _ _ _ _ => (pv 6))) pa_nil))))))), ?_⟩
    have hV := vrB_Vr hr1
    have h4 := hV.most
    have h1 := hV.pos
    refine ⟨.ref a, rfl, a, _, rfl, .inr (SqT.of ha), Nat.zero_le _, fun l0 hl0 => ⟨_, _, rfl, ?_⟩⟩
    rw [len_map]
    have e0 := same_new (o := .lst []) hl0
    refine ⟨_, rfl, _, 1, rfl, rfl, 2, (r.length : Int) + 1, rfl, ⟨by decide, by decide, by omega, by omega⟩, ?_⟩
    rw [show ((r.length : Int) + 1 - 2).toNat = r.length - 1 by omega]
    refine for_range (lo := 2) (n := r.length - 1) (fun i σ Hk => ∃ l xs y3 y4 y5 y6, σ = [some (.ref a), some (.int (r.length : Int)), some (.ref l), y3, y4, y5, y6] ∧ Same H Hk ∧ Hk l = some (.lst xs) ∧ Al (StpAt Hk) xs ((List.range i).flatMap prs))
      ⟨l0, [], _, _, _, _, rfl, e0, upd_same, Al.nil⟩ (fun i σ Hk hi hI => ?_) (fun σ Hk hI => ?_)
    · obtain ⟨l, xs, y3, y4, y5, y6, rfl, eK, hl, hA⟩ := hI
      have hB : ((List.range i).flatMap prs).length ≤ 40 := by
        have := fm_len prs 8 (List.range i) fun b hb => Nat.le_trans (prs_len b) (by have := List.mem_range.mp hb; omega)
        rw [List.length_range] at this
        omega
      refine ⟨_, rfl, 1, (2 : Int) + i, rfl, ⟨by decide, by decide, by omega, by omega⟩, ?_⟩
      rw [show ((2 : Int) + i - 1).toNat = i + 1 by omega]
      generalize hBd : (List.range i).flatMap prs = B at *
      refine for_range (lo := 1) (n := i + 1) (fun j σ Hk => ∃ l xs y4 y5 y6, σ = [some (.ref a), some (.int (r.length : Int)), some (.ref l), some (.int ((2 : Int) + i)), y4, y5, y6] ∧ Same H Hk ∧ Hk l = some (.lst xs) ∧ Al (StpAt Hk) xs (B ++ (List.range j).flatMap fun a => pr (a + 1) (i + 2)))
        ⟨l, xs, _, _, _, rfl, eK, hl, by rw [List.range_zero, List.flatMap_nil, List.append_nil]; exact hA⟩ (fun j σ Hk hj hI => ?_) (fun σ Hk hI => ?_)
      · obtain ⟨l, xs, y4, y5, y6, rfl, eK, hl, hA⟩ := hI
        have hB2 : (B ++ (List.range j).flatMap fun a => pr (a + 1) (i + 2)).length ≤ 60 := by
          have := fm_len (fun a => pr (a + 1) (i + 2)) 2 (List.range j) fun _ _ => Nat.le_refl 2
          rw [List.length_range] at this
          rw [List.length_append]
          omega
        refine ⟨.ref l, rfl, _, rfl, _, rfl, by show 3 ≤ sizeLine; decide, fun t1 n1 => ⟨_, rfl, _, rfl, by show 3 ≤ sizeLine; decide, fun t2 n2 => ⟨by show 2 ≤ sizeLine; decide, fun L nL => ?_⟩⟩⟩
        have c1 : (1 : Int) + j = ((j + 1 : Nat) : Int) := by omega
        have c2 : (2 : Int) + i = ((i + 2 : Nat) : Int) := by omega
        have et1 := same_new (o := .tup [V.str "exchange", V.int (1 + (j : Int)), V.int (2 + (i : Int))]) n1
        have et2 := same_new (o := .tup [V.str "cross", V.int (1 + (j : Int)), V.int (2 + (i : Int))]) n2
        have et3 := same_new (o := .lst [V.ref t1, V.ref t2]) nL
        have eT := et1.trans (et2.trans et3)
        refine ⟨l, L, _, _, rfl, rfl, eT _ _ hl, upd_same, by rw [hA.1]; exact Nat.le_of_lt (small1k (by show _ + 2 ≤ 1000; omega)), fun M hM => ?_⟩
        have eM := same_new (o := .lst (xs ++ [V.ref t1, V.ref t2])) hM
        refine ⟨M, _, _, _, _, rfl, eK.trans (eT.trans eM), upd_same, ?_⟩
        rw [List.range_succ, List.flatMap_append, ← List.append_assoc]
        refine al_app (hA.mono fun v c k => k.same (eT.trans eM)) ⟨rfl, fun m v d hv hd => ?_⟩
        match m, hv, hd with
        | 0, hv, hd =>
          cases hv
          cases hd
          refine ⟨t1, rfl, ?_⟩
          refine eM _ _ ((et2.trans et3) _ _ (upd_same.trans ?_))
          rw [c1, c2]
          rfl
        | 1, hv, hd =>
          cases hv
          cases hd
          refine ⟨t2, rfl, ?_⟩
          refine eM _ _ (et3 _ _ (upd_same.trans ?_))
          rw [c1, c2]
          rfl
        | m + 2, hv, hd => cases hv
      · obtain ⟨l, xs, y4, y5, y6, rfl, eK, hl, hA⟩ := hI
        refine ⟨l, xs, _, _, _, _, rfl, eK, hl, ?_⟩
        rw [List.range_succ, List.flatMap_append, hBd, List.flatMap_cons, List.flatMap_nil, List.append_nil]
        exact hA
    · obtain ⟨l, xs, y3, y4, y5, y6, rfl, eK, hl, hA⟩ := hI
      have hB : ((List.range (r.length - 1)).flatMap prs).length ≤ 40 := by
        have := fm_len prs 8 (List.range (r.length - 1)) fun b hb => Nat.le_trans (prs_len b) (by have := List.mem_range.mp hb; omega)
        rw [List.length_range] at this
        omega
      refine ⟨.ref l, rfl, _, rfl, _, 1, rfl, rfl, 1, (r.length : Int) + 1, rfl, ⟨by decide, by decide, by omega, by omega⟩, fun D hD => ?_⟩
      rw [show ((r.length : Int) + 1 - 1).toNat = r.length by omega]
      refine lc_gen (walk_range (lo := 1) (n := r.length)) (xs := List.range r.length) (Ex := fun i x _ => x = .int ((1 : Int) + (i : Nat))) (fun _ => true) (fun H v i => StpAt H v (Stp.turn (i + 1))) (fun _ _ _ _ e k => k.same e) (fun _ _ _ _ _ h k => k.mut h) (by rw [List.length_range]) (fun i H x H' hy hi => ⟨by rw [hy.1]; exact Same.refl _, i, List.getElem?_range hi, hy.2⟩) (fun _ _ => trivial) (by rw [List.length_range]; omega) hD (fun i x H2 Yc Nn hy hS hE h1 h2 => ?_) (fun H5 zs e5 hD5 hZ => ?_)
      · subst hE
        refine ⟨rfl, _, rfl, by show 2 ≤ sizeLine; decide, fun t ht => h1 _ _ (same_new ht) rfl ⟨t, rfl, upd_same.trans ?_⟩⟩
        rw [show (1 : Int) + (i : Nat) = ((i + 1 : Nat) : Int) by omega]
        rfl
      · rw [List.filter_eq_self.mpr (fun _ _ => rfl)] at hZ
        refine ⟨l, D, _, _, rfl, rfl, e5 _ _ hl, hD5, by rw [hA.1, hZ.1, List.length_range]; exact Nat.le_of_lt (small1k (by omega)), fun M hM => ?_⟩
        have eM := same_new (o := .lst (xs ++ zs)) hM
        have hAll : Al (StpAt (upd H5 M (.lst (xs ++ zs)))) (xs ++ zs) (allSt r.length) := by
          rw [allSt_eq]
          exact al_app (hA.mono fun v c k => k.same (e5.trans eM)) ((hZ.right (R2 := StpAt H5) (fun i => Stp.turn (i + 1)) fun v c k => k).mono fun v c k => k.same eM)
        have eS := eK.trans (e5.trans eM)
        have hal : (allSt r.length).length ≤ 100 := by
          rw [allSt_eq, List.length_append, List.length_map, List.length_range]
          omega
        refine ⟨.ref M, rfl, M, rfl, ⟨_, SqL.of upd_same⟩, fun D2 hD2 => lc_rel (walk_list (K := K)) (fun y => decide (lfewest (stp r y.2) < lfewest r)) (fun v y => StpAt (upd H5 M (.lst (xs ++ zs))) v y.2) (al_len hAll) (al_walk hAll) (fun H' e => SqL.of (e _ _ upd_same)) (by rw [← al_len hAll, hAll.1]; omega) hD2 (fun y x H7 Yc Nn hy hS2 hE h1 h2 => ?_) fun H7 ws e7 hD7 hW => ?_⟩
        · obtain ⟨rfl, hst⟩ := hE
          have hym : y.2 ∈ allSt r.length := (List.of_mem_zip (show (y.1, y.2) ∈ _ from hy)).2
          obtain ⟨hok, hin4⟩ := lbest_in hr1 _ hym
          have hv := stp_vr hr1 hok
          refine ⟨rfl, .ref a, rfl, y.1, rfl, a, y.1, r, y.2, rfl, hS2 _ _ (eS _ _ ha), hV, hst.same hS2, hok, fun H8 p8 e8 hp8 hp8' => ⟨p8, _, rfl, hp8', vrB_Vr hv, fun H9 e9 => ⟨.ref a, rfl, a, r, rfl, e9 _ _ (e8 _ _ (hS2 _ _ (eS _ _ ha))), hV, fun H10 e10 => ⟨_, _, rfl, rfl, _, rfl, ite2 (fun h => ?_) fun h => ?_⟩⟩⟩⟩
          · exact ⟨_, rfl, h1 _ _ (e8.trans (e9.trans e10)) h hst⟩
          · exact h2 _ (e8.trans (e9.trans e10)) (Bool.eq_false_iff.mpr h)
        · have hW2 : Al (StpAt H7) ws (lbestL r) := by
            have k1 := (hW.right (R2 := StpAt (upd H5 M (.lst (xs ++ zs)))) (fun y => y.2) fun v c k => k).mono fun v c k => k.same e7
            have k2 := zip_filter (fun s : Stp => decide (lfewest (stp r s) < lfewest r)) (xs ++ zs) (allSt r.length) hAll.1
            rw [k2] at k1
            exact k1
          have hlin : ∀ s ∈ lbestL r, s ∈ stepsOf 4 := fun s hs => (lbest_in hr1 s (List.mem_filter.mp hs).1).2
          refine ⟨D2, ws, lbestL r, rfl, SqL.of hD7, hW2, hlin, fun ys ss p hperm hpair hA' hp => ?_⟩
          refine q _ p ys ss ((eS.trans e7).trans (same_new hp)) ((eS.trans e7).free hp) upd_same (hA'.mono fun v c k => k.same (same_new hp)) ?_
          rw [head_least hperm hpair hlin]
          rfl
theorem c_l_best (W : Wd w K mg) : Cal P w K mg base CX0 3 "_law_best" (d_l_best.at_ K) (sp_l_best K) := ⟨ok_l_best W, W.g_l_best, W.f_l_best.kp⟩
end
end Tc
namespace Tc
open PySem PySem.Spec PyProof.Rows L2 He He5 Mi
section
variable {X : Cx} {CX : CXT} {k i : Nat} {f C p g : Addr} {sp : Sp} {E : XK} {x m : Str} {l o e : Expr} {es : List Expr} {tl ta : TE} {t : TA} {tg : Expr} {pos apos ppos : Pos}
/-- what is walked is a list or a tuple -/
def iSeq (K : PySem.W.Frag) (tl : TE) : TI := fun σ H R => tl σ H fun x H1 => ∃ a xs, x = .ref a ∧ (SqL K H1 a xs ∨ SqT K H1 a xs) ∧
  ∀ (J : It) (G : Hp → Prop) (Y : Nat → Hp → V → Hp → Prop), Walk J xs.length G Y → (∀ H', Same H1 H' → G H') → (∀ i H x H', Y i H x H' → H' = H ∧ xs[i]? = some x) → R J H1
theorem pi_seq (hl : PE X l tl) : PI X tg l (iSeq X.K tl) := by
  refine ⟨fun pins s σ H R I h => ?_⟩
  refine thn (hl.run pins s σ H _ I h) fun v s1 ⟨x, H1, I1, r1, q1⟩ => ?_
  obtain ⟨a, xs, e, hq, q⟩ := q1
  subst e
  cases r1
  have fin : ∀ b, b ∈ [s1.heap.objs.size] → FpOk X pins H1 b := fun b hb => by
    have e : b = s1.heap.objs.size := by simpa using hb
    subst e
    exact I1.fpOk (Nat.le_refl _) (I1.hok.fresh (Nat.le_refl _))
  rcases hq with hq | hq
  · obtain ⟨its, rv, p, hz⟩ := I1.list hq
    refine wpAny_pyIter_list p.isList ?_
    exact ⟨s1.heap.objs.size, [s1.heap.objs.size], _, _, H1, rfl, I1.kept (t' := s1.toks) fun b o e => Heap.get?_push_of_some _ e, turn_list a _, ⟨_, Heap.get?_push_size _ rfl, rfl, rfl⟩, fin, q _ _ _ walk_list (fun H' e => same_sqL e hq) (fun _ _ _ _ h => h)⟩
  · obtain ⟨its, rv, p, hz⟩ := I1.tuple hq
    refine wpAny_pyIter_tuple (show s1.heap.IsTuple a its.toArray from p) ?_
    exact ⟨s1.heap.objs.size, [s1.heap.objs.size], _, _, H1, rfl, I1.kept (t' := s1.toks) fun b o e => Heap.get?_push_of_some _ e, turn_tuple a _, ⟨_, Heap.get?_push_size _ rfl, rfl, rfl⟩, fin, q _ _ _ walk_tup (fun H' e => same_sqT e hq) (fun _ _ _ _ h => h)⟩
/-- C.m(..), m a staticmethod of the class C -/
theorem pe_smeth {pl : Sem Bool} (he : PE X o ta) (r : ClX.CRead X.K C (.type "type")) (c : SMet X.K C m p g) (F : FnR X.prog X.w X.K X.mg X.base CX k g sp) (hr : Room k X.A) (hx : Passes CX X E) (ha : PA X (e :: es) t)
    (hst : starEach (e :: es) X.env = (false, eval e X.env) :: starEach es X.env := by rfl) (hpl : (backTo pos (starEach es X.env)).any (·.1) = false := by rfl)
    (ht : eval (.Call (.Attribute o m apos) (e :: es) [] pos) X.env = (do
      let ov ← eval o X.env
      standAt apos.atName
      let (f, first) ← holding [ov] (getMethod ov m pl)
      callWith pos f first (backTo pos (starEach (e :: es) X.env)) (backToKw pos (keywordEach [] X.env))) := by rfl) :
    PE X (.Call (.Attribute o m apos) (e :: es) [] pos) (fun σ H Q => ta σ H fun x H1 => x = .ref C ∧ t σ H1 fun vs H2 => sp vs H2 Q E) := by
  refine ⟨fun pins s σ H Q I h => ?_⟩
  refine PySem.W.methodCall_KW (pl := pl) (thn (he.run pins s σ H _ I h) fun u s1 ⟨x, H1, I1, rx, ex, q⟩ => ?_) ht
  subst ex
  obtain rfl : u = Value.ref C := rx
  obtain ⟨rest, hp⟩ := c.rc
  refine PySem.W.method_cls I1.kIn r.ga (PySem.W.cls_bind I1.kIn r.rd c.at_ (wpAny_call (PySem.W.sm_get (s := { s1 with toks := s1.toks + 1 }) I1.kIn hp (PySem.W.handed_on rfl ?_))))
  have I2 := I1.tok (s1.toks + 1)
  refine PySem.W.callWith_K (first := []) (h₀ := X.base) I2.ok.mod.kin c.kp (thn (ha.run pos pins _ σ H1 _ I2 q) fun us s3 ⟨vs, H2, I3, rv, q2⟩ => ⟨I3.kIn, ?_⟩) hst hpl
  exact wpAny_call (run_fnR F hr hx I3 rv q2)
/-- v(..), v a local that holds the class C -/
def tClsM (i : Nat) (C : Addr) (sp : Sp) (E : XK) (t : TA) : TE := fun σ H Q => σ[i]? = some (some (.ref C)) ∧ StX.tMakeR C sp E t σ H Q
theorem pe_clsV (M : Mk X.K C f) (F : FnR X.prog X.w X.K X.mg X.base CX k f sp) (hr : Room (k + 1) X.A) (hx : Passes CX X E) (hN : X.N[i]? = some x) (hv : Vis X.env.scope x) (ha : PA X (e :: es) t)
    (hd : (x == ("__debug__" : Str)) = false := by decide) (hcd : (x == ("__classdict__" : Str)) = false := by decide)
    (he : starEach (e :: es) X.env = (false, eval e X.env) :: starEach es X.env := by rfl) (hpl : (backTo pos (starEach es X.env)).any (·.1) = false := by rfl) : PE X (.Call (.Name x ppos) (e :: es) [] pos) (tClsM i C sp E t) := by
  refine ⟨fun pins s σ H Q I h => ?_⟩
  obtain ⟨hs, h⟩ := h
  refine wpAny_Call_Name_kw (thn ((pe_var (pos := ppos) (i := i) hN hv hd hcd).run pins s σ H (fun v H1 => v = .ref C ∧ H1 = H) I ⟨.ref C, hs, rfl, rfl⟩) fun u s1 ⟨v, H1, I1, r1, ev, eH⟩ => ?_)
  subst ev
  rw [eH] at I1
  cases r1
  refine PySem.W.callWith_K (h₀ := X.base) I.ok.mod.kin M.kp (thn (ha.run pos pins s1 σ H _ I1 h) fun us s2 ⟨vs, H2, I2, r, q⟩ => ⟨I2.kIn, ?_⟩) he hpl
  exact StX.run_makeR M F hr hx I2 r q
end
/-- len(o), o an own instance with __len__ -/
theorem len_own {prog : Program} {w : World} {A : Around} {E : Value → Shared → Prop} {s : Shared} {K : PySem.W.Frag} {x C f : Addr} {ox : Obj} {od : Option Obj} {Q : Value → Shared → Prop} (X₀ : K.In s.heap) (I : PySem.W.InstAt s.heap x ox C od) (hs : PySem.W.findIn K (.ref C) "__len__" = some (some (.ref f))) (hf : PySem.W.isFn K (.ref f) = true)
    (h : wpAny (model prog w) A.in1 (call (.ref f) [.ref x]) (PySem.W.LenBack Q) E s) : wpAny (model prog w) A (call (.builtin "len") [.ref x]) Q E s := by
  refine Calls.call_function_entry PySem.kind_len PySem.plain_len PySem.entry_len (PySem.args_len1 _) ?_
  unfold Builtin.«len»
  refine wpAny_bind (m := oneArg "len" _) (wpAny_pure ?_)
  refine wpAny_bind (m := callSpecial? (.ref x) (Str.ofString "__len__")) (PySem.W.special_fn X₀ I hs (beq_iff_eq.mp hf) (wpAny_mono h (fun r s' hr => ?_) fun _ _ y => y))
  cases r <;> first | exact hr.elim | skip
  rename_i n u
  obtain ⟨⟨h0, h1⟩, hq⟩ := hr
  refine wpAny_bind (wpAny_holding (wpAny_pure ?_))
  refine wpAny_bind (wpAny_letGo ?_)
  show wpAny _ _ (if n < 0 then _ else _) _ _ _
  rw [if_neg (by omega)]
  show wpAny _ _ (if n ≥ 2 ^ 63 then _ else _) _ _ _
  rw [if_neg (by omega)]
  exact wpAny_bind (wpAny_mkInt (wpAny_pure ⟨_, rfl, hq⟩))
def rLenO (C : Addr) (sp : Sp) : List V → Hp → VK → Prop := fun xs H Q => ∃ a dx fs, xs = [.ref a] ∧ H a = some (.ins C dx fs) ∧ sp [.ref a] H (fun v H' => ∃ n : Int, v = .int n ∧ 0 ≤ n ∧ n < 2 ^ 63 ∧ Q (.int n) H') E0
theorem call_lenO {X : Cx} {k : Nat} {C g : Addr} {sp : Sp} (hm : Meth X.K C "__len__" g) (F : FnR X.prog X.w X.K X.mg X.base CX0 k g sp) (hr : Room (k + 1) X.A) : CallR X (.builtin "len") (rLenO C sp) := by
  intro pins s σ H xs us Q I r h
  obtain ⟨a, dx, fs, rfl, ha, h⟩ := h
  rw [Vals.ref1 r]
  obtain ⟨mA, O, _, _, _, _⟩ := ins_get I.hok ha
  obtain ⟨od, J, _⟩ := O.look
  refine len_own I.kIn J hm.at_ hm.fn (wpAny_call (codeAny_mono (F X.A.in1 X.stack s H [.ref a] [.ref a] _ E0 hr.in1 I.env0.in1 (.cons rfl .nil) h) fun r s' hq => ?_))
  cases r with
  | error er => exact False.elim hq
  | ok fl =>
    cases fl with
    | ret u =>
      obtain ⟨v, H', I3, rv, n, rfl, h0, h1, q⟩ := I.after hq
      obtain ⟨t, rfl⟩ := rv
      exact ⟨⟨h0, h1⟩, ⟨.int n, H', I3.tok _, ⟨_, rfl⟩, q⟩⟩
    | next => exact False.elim hq
    | brk => exact False.elim hq
    | cont => exact False.elim hq
end Tc
namespace Tc
open PySem PySem.Spec PyProof.Rows L2 He He5 Mi
abbrev CA (K : PySem.W.Frag) : Addr := ga K "Arrangement"
/-- a list or tuple of ints that is tracked -/
def SeqH (H : Hp) (v : V) (r : Mi.Row) : Prop := ∃ a, v = .ref a ∧ (H a = some (.lst (r.map V.int)) ∨ H a = some (.tup (r.map V.int)))
theorem SeqH.same {H H' : Hp} (e : Same H H') {v : V} {r : Mi.Row} (h : SeqH H v r) : SeqH H' v r := by
  obtain ⟨a, h1, h2 | h2⟩ := h
  · exact ⟨a, h1, .inl (e _ _ h2)⟩
  · exact ⟨a, h1, .inr (e _ _ h2)⟩
theorem SeqH.seq {K : PySem.W.Frag} {H : Hp} {v : V} {r : Mi.Row} (h : SeqH H v r) : SeqI K H v r := by
  obtain ⟨a, h1, h2 | h2⟩ := h
  · exact ⟨a, h1, .inl (SqL.of h2)⟩
  · exact ⟨a, h1, .inr (SqT.of h2)⟩
/-- an arrangement of the row r -/
def ArrAt (K : PySem.W.Frag) (H : Hp) (v : V) (r : Mi.Row) : Prop := ∃ p dx t, v = .ref p ∧ H p = some (.ins (CA K) dx [("cards", .ref t)]) ∧ H t = some (.tup (r.map V.int))
theorem ArrAt.same {K : PySem.W.Frag} {H H' : Hp} (e : Same H H') {v : V} {r : Mi.Row} (h : ArrAt K H v r) : ArrAt K H' v r := let ⟨p, dx, t, h1, h2, h3⟩ := h; ⟨p, dx, t, h1, e _ _ h2, e _ _ h3⟩
def isRow (r : Mi.Row) : Bool := decide (sortN (r.map Int.natAbs) = (List.range r.length).map (· + 1))
theorem chk_isRow : (allRows.all isRow) = true := by decide +kernel
theorem isRow_ok {r : Mi.Row} (h : vrB r = true) : isRow r = true := List.all_eq_true.mp chk_isRow r (vrB_mem h)
theorem cast_eq : ∀ (a b : List Nat), (a.map (fun p : Nat => (p : Int)) = b.map fun p : Nat => (p : Int)) ↔ a = b
  | [], [] => by simp
  | x :: a, [] => by simp
  | [], y :: b => by simp
  | x :: a, y :: b => by
    rw [List.map_cons, List.map_cons, List.cons.injEq, List.cons.injEq, cast_eq a b]
    constructor
    · rintro ⟨h1, h2⟩
      exact ⟨by omega, h2⟩
    · rintro ⟨h1, h2⟩
      exact ⟨by omega, h2⟩
theorem rg_nat (n : Nat) : rgV 1 ((n : Int) + 1) = (((List.range n).map (· + 1)).map fun p : Nat => (p : Int)).map V.int := by
  rw [rg_ident]
  unfold ident
  rw [List.map_map, List.map_map, List.map_map]
  refine List.map_congr_left fun i _ => ?_
  show V.int ((i : Int) + 1) = V.int ((i + 1 : Nat) : Int)
  rw [show ((i + 1 : Nat) : Int) = (i : Int) + 1 by omega]
theorem yseq {r : Mi.Row} {Y : Nat → Hp → V → Hp → Prop} {n : Nat} (h : ∀ i H x H', Y i H x H' → H' = H ∧ (r.map V.int)[i]? = some x) : ∀ i H x H', Y i H x H' → i < n → Same H H' ∧ ∃ y, r[i]? = some y ∧ x = V.int y := fun i H x H' hy hi => by
  have h1 := h i H x H' hy
  exact yat (enc := V.int) (xs := r) (n := n) i H x H' h1 hi
section
variable {P : Program} {w : World} {K : PySem.W.Frag} {mg : Str → Option Value} {base : Heap}
def sp_is_row : Sp := fun vs H Q _ => ∃ v r, vs = [v] ∧ SeqH H v r ∧ 1 ≤ r.length ∧ r.length ≤ 50 ∧ ∀ H', Same H H' → Q (.bl (isRow r)) H'
abbrev N_Arrangement_is_row : List Str := ["value", "card"]
theorem sc_Arrangement_is_row : FnScope N_Arrangement_is_row ["value"] d_Arrangement_is_row.scope := ⟨rfl, rfl, rfl, by decide +kernel, rfl, by decide +kernel, by decide +kernel⟩
theorem ok_Arrangement_is_row (W : Wd w K mg) : FnR P w K mg base CX0 2 (d_Arrangement_is_row.at_ K) sp_is_row := by
  refine fnr0 W.f_Arrangement_is_row sc_Arrangement_is_row (fun vs H Q E h => ?_) (fun _ _ _ _ _ _ us hl => match us, hl with | [_], _ => rfl) (fun cdv A outer s H vs Q E hr h => ?_)
  · obtain ⟨v, r, rfl, hs, h1, h50, q⟩ := h
    rfl
  · obtain ⟨v, r, rfl, hs, h1, h50, q⟩ := h
    refine ⟨_, (pss_cons (ps_if (PW.pt (pw_or (pt_not (pt_val (pe_callB call_isiT (by rfl) W.z_isinstance boot_isinstance (pa_cons (pv 0) (pa_cons (pe_tup (pa_cons (pe_bltn (v := .ty "list") (u := .type "list") (by rfl) W.z_list (by decide +kernel) rfl) (pa_cons (pe_bltn (v := .ty "tuple") (u := .type "tuple") (by rfl) W.z_tuple (by decide +kernel) rfl) pa_nil))) pa_nil))))) (pw_or1 (pt_not (pt_chain op_le op_le pe_int (pe_callB call_len_seq (by rfl) W.z_len PySem.boot_len (pa_cons (pv 0) pa_nil)) (pe_glob (v := .int 2000) rfl W.i_MOST_CARDS.choose_spec ⟨_, rfl⟩)))))) (pss_one (ps_ret pe_bl)) pss_nil)
      (pss_cons (ps_if (pt_not (pt_val (pe_callB (cr_all rfl) (by rfl) W.z_all (by decide +kernel) (pa_cons (pe_lc (own := [("card", 1)]) (g := gName 1) rfl sc_Arrangement_is_row.nd (pi_seq (pv 0)) (blkOk_by (own := [("card", 1)]) (N := N_Arrangement_is_row) (sc := d_Arrangement_is_row.scope) (by decide +kernel)) (fun _ _ _ _ _ => (pg_name (i := 1) sc_Arrangement_is_row.nd rfl (by first | exact Or.inl rfl | exact Or.inr rfl))) (fun _ _ _ _ _ => pts_nil) (fun _ _ _ _ _ => (pe_c (c_is_integer W) (hr.mono (by omega)) pass0 (pa_cons (pv 1) pa_nil)))) pa_nil)))) (pss_one (ps_ret pe_bl)) pss_nil)
      (pss_one (ps_ret (pe_cmpR (op_eqD hr.units) (pe_callB cr_sorted (by rfl) W.z_sorted boot_sorted (pa_cons (pe_lc (own := [("card", 1)]) (g := gName 1) rfl sc_Arrangement_is_row.nd (pi_seq (pv 0)) (blkOk_by (own := [("card", 1)]) (N := N_Arrangement_is_row) (sc := d_Arrangement_is_row.scope) (by decide +kernel)) (fun _ _ _ _ _ => (pg_name (i := 1) sc_Arrangement_is_row.nd rfl (by first | exact Or.inl rfl | exact Or.inr rfl))) (fun _ _ _ _ _ => pts_nil) (fun _ _ _ _ _ => (pe_callB call_abs (by rfl) W.z_abs boot_abs (pa_cons (pv 1) pa_nil)))) pa_nil)) (pe_listRg rfl (by rfl) W.z_list (prg_2 (by rfl) W.z_range pe_int (pe_op op_add (pe_callB call_len_seq (by rfl) W.z_len PySem.boot_len (pa_cons (pv 0) pa_nil)) pe_int))) (nomark _)))))), ?_⟩
    obtain ⟨a, rfl, ha⟩ := hs
    have hsq : ∀ {H' : Hp}, Same H H' → (SqL K H' a (r.map V.int) ∨ SqT K H' a (r.map V.int)) := fun e => by
      rcases ha with h | h
      · exact .inl (SqL.of (e _ _ h))
      · exact .inr (SqT.of (e _ _ h))
    refine ⟨.ref a, rfl, by show 2 ≤ sizeLine; decide, fun tp htp => ?_⟩
    have e1 := same_new (o := .tup [V.ty "list", V.ty "tuple"]) htp
    have hty : ∃ t b, TyX K (upd H tp (.tup [V.ty "list", V.ty "tuple"])) (.ref a) t ∧ PySem.W.kitAny K t [.type "list", .type "tuple"] = some b ∧ b = true := by
      rcases ha with h | h
      · exact ⟨.type "list", true, .base (.lst (e1 _ _ h)), kitAny_cons (b := true) (kit_ty (by decide +kernel)) (fun z => nomatch z) (fun _ => rfl), rfl⟩
      · exact ⟨.type "tuple", true, .base (.tup (e1 _ _ h)), kitAny_cons (b := false) (kit_ty (by decide +kernel)) (fun _ => kitAny_cons (b := true) (kit_ty (by decide +kernel)) (fun z => nomatch z) (fun _ => rfl)) (fun z => nomatch z), rfl⟩
    obtain ⟨ty, b, hty1, hty2, rfl⟩ := hty
    refine ⟨.ref a, tp, [V.ty "list", V.ty "tuple"], ty, [.type "list", .type "tuple"], true, rfl, upd_same, .cons (.ty _) (.cons (.ty _) .nil), hty1, hty2, true, rfl, iteN (by decide) ?_⟩
    refine ⟨.ref a, rfl, a, _, rfl, hsq e1, 1, _, rfl, rfl, _, rfl, iteP (by rw [len_map, decide_eq_true_eq]; omega) ?_⟩
    refine ⟨_, 2000, rfl, rfl, _, rfl, iteN (by rw [len_map, decide_eq_true (by omega)]; decide) ?_⟩
    refine ⟨.ref a, rfl, a, _, rfl, hsq e1, fun J G Y w hG hY D hD => lc_enc (n := (r.map V.int).length) w (Ex := fun c x _ => x = V.int c) (fun _ => true) (fun _ => V.bl true) len_map (yseq hY) hG (by omega) hD (fun y x H2 Yc Nn hy hS hE h1 h2 => ?_) fun H2 e2 hD2 => ?_⟩
    · subst hE
      exact ⟨rfl, .int y, rfl, y, rfl, h1 _ (Same.refl _) rfl⟩
    have hbs : ((r.filter fun _ => true).map fun _ => V.bl true) = (r.map fun _ => true).map V.bl := by
      rw [List.filter_eq_self.mpr (fun _ _ => rfl), List.map_map]
      rfl
    rw [hbs] at hD2
    have eT := e1.trans e2
    refine ⟨D, _, rfl, SqL.of hD2, _, rfl, iteN (by rw [show (r.map fun _ => true).all id = true by rw [List.all_map]; exact List.all_eq_true.mpr fun _ _ => rfl]; decide) ?_⟩
    refine ⟨.ref a, rfl, a, _, rfl, hsq eT, fun J G Y w hG hY D3 hD3 => lc_enc (n := (r.map V.int).length) w (Ex := fun c x _ => x = V.int c) (fun _ => true) (fun c => V.int (c.natAbs : Int)) len_map (yseq hY) hG (by omega) hD3 (fun y x H2 Yc Nn hy hS hE h1 h2 => ?_) fun H4 e4 hD4 => ?_⟩
    · subst hE
      refine ⟨rfl, .int y, rfl, y, rfl, ?_⟩
      rw [absI]
      exact h1 _ (Same.refl _) rfl
    have hbs : ((r.filter fun _ => true).map fun c => V.int (c.natAbs : Int)) = ((r.map Int.natAbs).map fun p : Nat => (p : Int)).map V.int := by
      rw [List.filter_eq_self.mpr (fun _ _ => rfl), List.map_map, List.map_map]
      rfl
    rw [hbs] at hD4
    refine ⟨D3, _, rfl, SqL.of hD4, by rw [List.length_map, List.length_map]; omega, fun ns p hperm hsort hp => ?_⟩
    rw [up_nat hperm hsort]
    have e5 := eT.trans (e4.trans (same_new (o := .lst (((sortN (r.map Int.natAbs)).map fun p : Nat => (p : Int)).map V.int)) hp))
    refine ⟨.ref a, rfl, a, _, rfl, hsq e5, _, 1, rfl, rfl, 1, _, rfl, rfl, ⟨by decide, by decide, by rw [len_map]; omega, by rw [len_map]; omega, by rw [len_map]; omega⟩, fun p2 hp2 => ?_⟩
    have hrg : rgV 1 (((r.map V.int).length : Int) + 1) = (((List.range r.length).map (· + 1)).map fun p : Nat => (p : Int)).map V.int := by rw [len_map, rg_nat]
    refine ⟨.list (((sortN (r.map Int.natAbs)).map fun p : Nat => (p : Int)).map PyData.int), .list ((((List.range r.length).map (· + 1)).map fun p : Nat => (p : Int)).map PyData.int), .lst (SqL.of (same_new hp2 _ _ upd_same)) (dp_ints _), .lst (SqL.of (upd_same.trans (congrArg (fun z => some (HO.lst z)) hrg))) (dp_ints _), sh_listI _, sh_listI _, ?_⟩
    rw [show PyData.eqv (.list (((sortN (r.map Int.natAbs)).map fun p : Nat => (p : Int)).map PyData.int)) (.list ((((List.range r.length).map (· + 1)).map fun p : Nat => (p : Int)).map PyData.int)) = decide (_ = _) from eqv_ints _ _]
    have hdec : decide ((sortN (r.map Int.natAbs)).map (fun p : Nat => (p : Int)) = ((List.range r.length).map (· + 1)).map fun p : Nat => (p : Int)) = isRow r := by
      unfold isRow
      rw [decide_eq_decide]
      exact cast_eq _ _
    rw [hdec]
    exact q _ (e5.trans (same_new hp2))
def sp_Arr_init (K : PySem.W.Frag) : Sp := fun vs H Q _ => ∃ (p dx : Addr) (v : V) (r : Mi.Row), vs = [.ref p, v] ∧ H p = some (.ins (CA K) dx []) ∧ SeqH H v r ∧ isRow r = true ∧ 1 ≤ r.length ∧ r.length ≤ 50 ∧
  ∀ H', (∀ b o, H b = some o → b ≠ p → H' b = some o) → (∃ t, H' p = some (.ins (CA K) dx [("cards", .ref t)]) ∧ H' t = some (.tup (r.map V.int))) → Q .non H'
abbrev N_Arrangement_init : List Str := ["self", "row"]
theorem sc_Arrangement_init : FnScope N_Arrangement_init ["self", "row"] d_Arrangement_init.scope := ⟨rfl, rfl, rfl, by decide +kernel, rfl, by decide +kernel, by decide +kernel⟩
theorem ok_Arrangement_init (W : Wd w K mg) : FnR P w K mg base CX0 3 (d_Arrangement_init.at_ K) (sp_Arr_init K) := by
  refine fnr0 W.f_Arrangement_init sc_Arrangement_init (fun vs H Q E h => ?_) (fun _ _ _ _ _ _ us hl => match us, hl with | [_, _], _ => rfl) (fun cdv A outer s H vs Q E hr h => ?_)
  · obtain ⟨p, dx, v, r, rfl, hp, hs, hir, h1, h50, q⟩ := h
    rfl
  · obtain ⟨p, dx, v, r, rfl, hp, hs, hir, h1, h50, q⟩ := h
    refine ⟨_, (pss_cons (ps_if (pt_not (pt_val (pe_smeth (pe_glob (v := .ref (CA K)) rfl W.g_Arrangement rfl) W.rd_Arr W.sm_is_row (ok_Arrangement_is_row W) (hr.mono (by omega)) pass0 (pa_cons (pv 1) pa_nil)))) (pss_one (ps_never)) pss_nil)
      (pss_one (ps_fld (pv 0) (pe_callTy call_tuple_of (by rfl) W.z_tuple boot_tuple (pa_cons (pv 1) pa_nil)) rfl))), ?_⟩
    refine ⟨rfl, v, rfl, v, r, rfl, hs, h1, h50, fun H1 e1 => ⟨_, rfl, iteN (by rw [hir]; decide) ?_⟩⟩
    have hs1 := hs.same e1
    obtain ⟨a, rfl, ha⟩ := hs1
    rcases ha with ha | ha
    · refine ⟨.ref a, rfl, a, _, rfl, .inl ⟨SqL.of ha, fun t ht => ?_⟩⟩
      have e2 := e1.trans (same_new (o := .tup (r.map V.int)) ht)
      refine ⟨.ref p, rfl, p, CA K, dx, [], rfl, e2 _ _ hp, W.c_Arrangement, W.n_Arrangement_cards, by decide, ?_⟩
      refine q _ (fun b o hb hn => ?_) ⟨t, upd_same, ?_⟩
      · rw [upd_ne hn]
        exact e2 _ _ hb
      · rw [upd_ne (fun e => by rw [e, e1 _ _ hp] at ht; cases ht), upd_same]
    · refine ⟨.ref a, rfl, a, _, rfl, .inr ⟨SqT.of ha, ?_⟩⟩
      refine ⟨.ref p, rfl, p, CA K, dx, [], rfl, e1 _ _ hp, W.c_Arrangement, W.n_Arrangement_cards, by decide, ?_⟩
      refine q _ (fun b o hb hn => ?_) ⟨a, upd_same, ?_⟩
      · rw [upd_ne hn]
        exact e1 _ _ hb
      · rw [upd_ne (fun e => by rw [e, e1 _ _ hp] at ha; cases ha)]
        exact ha
def sp_Arr_row (K : PySem.W.Frag) : Sp := fun vs H Q _ => ∃ (p dx t : Addr), vs = [.ref p] ∧ H p = some (.ins (CA K) dx [("cards", .ref t)]) ∧ Q (.ref t) H
abbrev N_Arrangement_row : List Str := ["self"]
theorem sc_Arrangement_row : FnScope N_Arrangement_row ["self"] d_Arrangement_row.scope := ⟨rfl, rfl, rfl, by decide +kernel, rfl, by decide +kernel, by decide +kernel⟩
theorem ok_Arrangement_row (W : Wd w K mg) : FnR P w K mg base CX0 1 (d_Arrangement_row.at_ K) (sp_Arr_row K) := by
  refine fnr0 W.f_Arrangement_row sc_Arrangement_row (fun vs H Q E h => ?_) (fun _ _ _ _ _ _ us hl => match us, hl with | [_], _ => rfl) (fun cdv A outer s H vs Q E hr h => ?_)
  · obtain ⟨p, dx, t, rfl, hp, q⟩ := h
    rfl
  · obtain ⟨p, dx, t, rfl, hp, q⟩ := h
    refine ⟨_, (pss_one (ps_ret (pe_fld (pv 0) rfl))), ?_⟩
    exact ⟨.ref p, rfl, p, CA K, dx, _, _, rfl, hp, W.c_Arrangement, W.n_Arrangement_cards, rfl, q⟩
def sp_Arr_len (K : PySem.W.Frag) : Sp := fun vs H Q _ => ∃ (v : V) (r : Mi.Row), vs = [v] ∧ ArrAt K H v r ∧ Q (.int (r.length : Int)) H
abbrev N_Arrangement_len : List Str := ["self"]
theorem sc_Arrangement_len : FnScope N_Arrangement_len ["self"] d_Arrangement_len.scope := ⟨rfl, rfl, rfl, by decide +kernel, rfl, by decide +kernel, by decide +kernel⟩
theorem ok_Arrangement_len (W : Wd w K mg) : FnR P w K mg base CX0 1 (d_Arrangement_len.at_ K) (sp_Arr_len K) := by
  refine fnr0 W.f_Arrangement_len sc_Arrangement_len (fun vs H Q E h => ?_) (fun _ _ _ _ _ _ us hl => match us, hl with | [_], _ => rfl) (fun cdv A outer s H vs Q E hr h => ?_)
  · obtain ⟨v, r, rfl, hA, q⟩ := h
    rfl
  · obtain ⟨v, r, rfl, hA, q⟩ := h
    refine ⟨_, (pss_one (ps_ret (pe_callB call_len_seq (by rfl) W.z_len PySem.boot_len (pa_cons (pe_fld (pv 0) rfl) pa_nil)))), ?_⟩
    obtain ⟨p, dx, t, rfl, hp, ht⟩ := hA
    refine ⟨.ref p, rfl, p, CA K, dx, _, _, rfl, hp, W.c_Arrangement, W.n_Arrangement_cards, rfl, t, _, rfl, .inr (SqT.of ht), ?_⟩
    rw [len_map]
    exact q
end
end Tc
namespace Tc
open PySem PySem.Spec PyProof.Rows L2 He He5 Mi
/-! ### texts -/
def tI (i : Int) : Str := toString i
def rowText (r : Mi.Row) : Str := Txt.join " " (r.map tI)
def rowComma (r : Mi.Row) : Str := Txt.join "," (r.map tI)
def stepText : Stp → Str
  | .turn i => tI (i : Int) ++ "!"
  | .exch i j => tI (i : Int) ++ "/" ++ tI (j : Int)
  | .cross i j => tI (i : Int) ++ "*" ++ tI (j : Int)
theorem tI_len {x : Int} (h : x.natAbs ≤ 4) : (tI x).length ≤ 2 := by
  have : x = -4 ∨ x = -3 ∨ x = -2 ∨ x = -1 ∨ x = 0 ∨ x = 1 ∨ x = 2 ∨ x = 3 ∨ x = 4 := by omega
  rcases this with e | e | e | e | e | e | e | e | e <;> subst e <;> decide +kernel
theorem log_ok {n : Nat} (h : n ≤ 1000) : n.log2 < 1920 := Nat.lt_of_le_of_lt (Nat.log2_le_self n) (by omega)
theorem log_big {n : Nat} (h : n ≤ 4 ^ 17) : n.log2 < 1920 := by
  by_cases e : n = 0
  · subst e
    decide
  · rw [Nat.log2_lt e]
    have h1 : n ≤ 2 ^ 34 := h
    exact Nat.lt_of_le_of_lt h1 (Nat.pow_lt_pow_right (by decide) (by decide))
theorem sum_len : ∀ (r : Mi.Row), (∀ x ∈ r, x.natAbs ≤ 4) → ((r.map tI).map (·.length)).sum ≤ 2 * r.length
  | [], _ => Nat.zero_le _
  | x :: r, h => by
    have ih := sum_len r fun y hy => h y (List.mem_cons_of_mem _ hy)
    have h1 := tI_len (h x (List.mem_cons_self ..))
    simp only [List.map_cons, List.sum_cons, List.length_cons] at ih ⊢
    omega
theorem vr_abs {r : Mi.Row} (h : Vr r) : ∀ x ∈ r, x.natAbs ≤ 4 := fun x hx => Nat.le_trans (h.each x hx).2 h.most
theorem step_small {s : Stp} (h : s ∈ stepsOf 4) : match s with
    | .turn i => i ≤ 4
    | .exch i j => i ≤ 4 ∧ j ≤ 4
    | .cross i j => i ≤ 4 ∧ j ≤ 4 := by
  have : ((stepsOf 4).all fun s => match s with
    | .turn i => decide (i ≤ 4)
    | .exch i j => decide (i ≤ 4) && decide (j ≤ 4)
    | .cross i j => decide (i ≤ 4) && decide (j ≤ 4)) = true := by decide +kernel
  have h1 := List.all_eq_true.mp this s h
  cases s with
  | turn i => exact of_decide_eq_true h1
  | exch i j =>
    have := Bool.and_eq_true_iff.mp h1
    exact ⟨of_decide_eq_true this.1, of_decide_eq_true this.2⟩
  | cross i j =>
    have := Bool.and_eq_true_iff.mp h1
    exact ⟨of_decide_eq_true this.1, of_decide_eq_true this.2⟩
theorem nat_abs_cast (i : Nat) : ((i : Int)).natAbs = i := Int.natAbs_natCast i
/-! ### orders -/
def ordF (a : Int) (c : List Nat × Nat) : Int := lcmI a ((c.1.length : Int) * (1 + (c.2 : Int) % 2))
theorem ord_parts {r : Mi.Row} (h : vrB r = true) : (∀ k ≤ (cycs r).length, 0 < ((cycs r).take k).foldl ordF 1 ∧ ((cycs r).take k).foldl ordF 1 < 1000000) ∧ ∀ c ∈ cycs r, 1 ≤ c.1.length ∧ c.1.length ≤ 4 := by
  have h1 := ord_ok h
  unfold ordOk at h1
  simp only [Bool.and_eq_true, List.all_eq_true, decide_eq_true_eq, List.mem_range] at h1
  exact ⟨fun k hk => h1.1 k (by omega), fun c hc => h1.2 c hc⟩
section
variable {P : Program} {w : World} {K : PySem.W.Frag} {mg : Str → Option Value} {base : Heap}
def sp_sorted_row (K : PySem.W.Frag) : Sp := fun vs H Q _ => vs = [.ref (CA K), .int 1] ∧ ∀ H' v, Same H H' → ArrAt K H' v [1] → Q v H'
abbrev N_Arrangement_sorted_row : List Str := ["cls", "size"]
theorem sc_Arrangement_sorted_row : FnScope N_Arrangement_sorted_row ["cls", "size"] d_Arrangement_sorted_row.scope := ⟨rfl, rfl, rfl, by decide +kernel, rfl, by decide +kernel, by decide +kernel⟩
theorem ok_Arrangement_sorted_row (W : Wd w K mg) : FnR P w K mg base CX0 5 (d_Arrangement_sorted_row.at_ K) (sp_sorted_row K) := by
  refine fnr0 W.f_Arrangement_sorted_row sc_Arrangement_sorted_row (fun vs H Q E h => ?_) (fun _ _ _ _ _ _ us hl => match us, hl with | [_, _], _ => rfl) (fun cdv A outer s H vs Q E hr h => ?_)
  · obtain ⟨rfl, q⟩ := h
    rfl
  · obtain ⟨rfl, q⟩ := h
    refine ⟨_, (pss_cons (ps_if (pt_not (pt_val (pe_c (c_is_between W) (hr.mono (by omega)) pass0 (pa_cons (pv 1) (pa_cons pe_int (pa_cons (pe_glob (v := .int 2000) rfl W.i_MOST_CARDS.choose_spec ⟨_, rfl⟩) pa_nil)))))) (pss_one (ps_never)) pss_nil)
      (pss_one (ps_ret (pe_clsV (i := 0) W.k_Arrangement (ok_Arrangement_init W) (hr.mono (by omega)) pass0 rfl (by first | exact Or.inl rfl | exact Or.inr (Or.inl rfl)) (pa_cons (pe_tupRg rfl (by rfl) W.z_tuple (prg_2 (by rfl) W.z_range pe_int (pe_op op_add (pv 1) pe_int))) pa_nil))))), ?_⟩
    refine ⟨.int 1, rfl, 1, 1, 2000, rfl, _, rfl, iteN (by decide) ?_⟩
    refine ⟨rfl, .int 1, rfl, 1, 1, rfl, rfl, 1, _, rfl, rfl, ⟨by decide, by decide, by decide, by decide, by decide⟩, fun t ht => fun x dx hx hdx hne => ?_⟩
    have e1 := same_new (o := .tup (rgV 1 (1 + 1))) ht
    have hxd : x ≠ dx := fun e => hne e.symm
    refine ⟨x, dx, .ref t, [1], rfl, upd_same, ⟨t, rfl, .inr ?_⟩, by decide +kernel, by decide, by decide, fun H' h1 h2 => ⟨rfl, q H' _ (fun b o hb => ?_) ?_⟩⟩
    · rw [upd_ne (fun e => by rw [← e, upd_same] at hx; cases hx), upd_ne (fun e => by rw [← e, upd_same] at hdx; cases hdx), upd_same]
      rfl
    · have hb1 := e1 _ _ hb
      have n1 : b ≠ x := ne_of_none hb1 hx
      have n2 : b ≠ dx := ne_of_none hb1 hdx
      exact h1 b o (by rw [upd_ne n1, upd_ne n2]; exact hb1) n1
    · obtain ⟨tt, k1, k2⟩ := h2
      exact ⟨x, dx, tt, rfl, k1, k2⟩
def sp_order (K : PySem.W.Frag) : Sp := fun vs H Q _ => ∃ (v : V) (r : Mi.Row), vs = [v] ∧ ArrAt K H v r ∧ vrB r = true ∧ ∀ H', Same H H' → Q (.int (ord r)) H'
abbrev N_order : List Str := ["a", "result", "places", "turned"]
theorem sc_order : FnScope N_order ["a"] d_order.scope := ⟨rfl, rfl, rfl, by decide +kernel, rfl, by decide +kernel, by decide +kernel⟩
theorem ok_order (W : Wd w K mg) : FnR P w K mg base CX0 3 (d_order.at_ K) (sp_order K) := by
  refine fnr0 W.f_order sc_order (fun vs H Q E h => ?_) (fun _ _ _ _ _ _ us hl => match us, hl with | [_], _ => rfl) (fun cdv A outer s H vs Q E hr h => ?_)
  · obtain ⟨v, r, rfl, hA, hr1, q⟩ := h
    rfl
  · obtain ⟨v, r, rfl, hA, hr1, q⟩ := h
    refine ⟨_, (pss_cons (ps_set (i := 1) sc_order.nd rfl (by first | exact Or.inl rfl | exact Or.inr rfl) pe_int)
      (pss_cons (ps_for PassesOwn.never rfl (pi_list (pe_c (c_cycle_lists W) (hr.mono (by omega)) pass0 (pa_cons (pe_propR (pv 0) W.c_Arrangement W.p_Arr_row (ok_Arrangement_row W) (hr.mono (by omega))) pa_nil))) (pg_tup rfl (pgs_cons (pg_name (i := 2) sc_order.nd rfl (by first | exact Or.inl rfl | exact Or.inr rfl)) (pgs_cons (pg_name (i := 3) sc_order.nd rfl (by first | exact Or.inl rfl | exact Or.inr rfl)) pgs_nil))) (pss_one (ps_set (i := 1) sc_order.nd rfl (by first | exact Or.inl rfl | exact Or.inr rfl) (pe_c (c_common_multiple W) (hr.mono (by omega)) pass0 (pa_cons (pv 1) (pa_cons (pe_op op_mul (pe_callB call_len_seq (by rfl) W.z_len PySem.boot_len (pa_cons (pv 2) pa_nil)) (pe_op op_add pe_int (pe_op op_mod (pv 3) pe_int))) pa_nil))))))
      (pss_one (ps_ret (pv 1))))), ?_⟩
    obtain ⟨p, dx, t, rfl, hp, ht⟩ := hA
    have hV := vrB_Vr hr1
    obtain ⟨ho1, ho2⟩ := ord_parts hr1
    refine ⟨.ref p, rfl, p, dx, _, rfl, hp, p, dx, t, rfl, hp, t, r, rfl, ht, hV, fun H1 c cs e1 hc hc1 hC => ?_⟩
    refine ⟨c, rfl, ⟨_, SqL.of hc1⟩, for_list (K := K) (a := c) (xs := cs) (fun i σ Hk => ∃ y2 y3, σ = [some (.ref p), some (.int (((cycs r).take i).foldl ordF 1)), y2, y3] ∧ Same H1 Hk) ⟨_, _, rfl, Same.refl _⟩ (fun i σ Hk _ h => ?_) (fun i x σ Hk hx hI => ?_) (fun σ Hk hI => ?_)⟩
    · obtain ⟨_, _, _, h⟩ := h
      exact SqL.of (h _ _ hc1)
    · obtain ⟨y2, y3, rfl, eK⟩ := hI
      have hic : i < (cycs r).length := by
        rw [← hC.1]
        exact (List.getElem?_eq_some_iff.mp hx).1
      have hxc : (cycs r)[i]? = some (cycs r)[i] := List.getElem?_eq_getElem hic
      have hcm : (cycs r)[i] ∈ cycs r := List.getElem_mem hic
      obtain ⟨k1, k2⟩ := ho1 i (by omega)
      obtain ⟨l1, l2⟩ := ho2 _ hcm
      have hst : ((cycs r).take (i + 1)).foldl ordF 1 = ordF (((cycs r).take i).foldl ordF 1) (cycs r)[i] := by
        rw [List.take_add_one, hxc, List.foldl_append]
        rfl
      generalize hd : (cycs r)[i] = d at *
      obtain ⟨tt, l, rfl, htt, hl, _⟩ := hC.2 i x d hx hxc
      have hm2 : 0 ≤ (d.2 : Int) % 2 ∧ (d.2 : Int) % 2 ≤ 1 := by omega
      have hb : 0 < (d.1.length : Int) * (1 + (d.2 : Int) % 2) ∧ (d.1.length : Int) * (1 + (d.2 : Int) % 2) < 1000000 := by
        have : (d.2 : Int) % 2 = 0 ∨ (d.2 : Int) % 2 = 1 := by omega
        rcases this with e | e <;> rw [e] <;> omega
      refine ⟨tt, _, rfl, SqT.of (eK _ _ htt), rfl, _, _, rfl, _, _, rfl, rfl, ?_⟩
      refine ⟨_, rfl, .ref l, rfl, l, _, rfl, .inl (SqL.of (eK _ _ hl)), _, rfl, _, 2, rfl, rfl, by show (0 : Int) < 2; decide, 1, _, rfl, rfl, _, _, rfl, rfl, .inl ⟨by rw [List.length_map]; omega, by rw [List.length_map]; omega⟩, _, _, rfl, k1, k2, ?_, ?_, ?_⟩
      · rw [List.length_map]
        exact hb.1
      · rw [List.length_map]
        exact hb.2
      · rw [List.length_map]
        exact ⟨_, _, by rw [hst]; rfl, eK⟩
    · obtain ⟨y2, y3, rfl, eK⟩ := hI
      rw [hC.1, List.take_length]
      exact ⟨_, rfl, q _ (e1.trans eK)⟩
theorem c_order (W : Wd w K mg) : Cal P w K mg base CX0 3 "order" (d_order.at_ K) (sp_order K) := ⟨ok_order W, W.g_order, W.f_order.kp⟩
def sp_disorders1 (K : PySem.W.Frag) : Sp := fun vs H Q _ => ∃ (v : V) (r : Mi.Row), vs = [v] ∧ ArrAt K H v r ∧ Vr r ∧ ∀ H', Same H H' → Q (.int (dis r)) H'
abbrev N_disorders : List Str := ["a"]
theorem sc_disorders : FnScope N_disorders ["a"] d_disorders.scope := ⟨rfl, rfl, rfl, by decide +kernel, rfl, by decide +kernel, by decide +kernel⟩
theorem ok_disorders (W : Wd w K mg) : FnR P w K mg base CX0 3 (d_disorders.at_ K) (sp_disorders1 K) := by
  refine fnr0 W.f_disorders sc_disorders (fun vs H Q E h => ?_) (fun _ _ _ _ _ _ us hl => match us, hl with | [_], _ => rfl) (fun cdv A outer s H vs Q E hr h => ?_)
  · obtain ⟨v, r, rfl, hA, hV, q⟩ := h
    rfl
  · obtain ⟨v, r, rfl, hA, hV, q⟩ := h
    refine ⟨_, (pss_one (ps_ret (pe_c (c_disorders_of W) (hr.mono (by omega)) pass0 (pa_cons (pe_propR (pv 0) W.c_Arrangement W.p_Arr_row (ok_Arrangement_row W) (hr.mono (by omega))) pa_nil)))), ?_⟩
    obtain ⟨p, dx, t, rfl, hp, ht⟩ := hA
    exact ⟨.ref p, rfl, p, dx, _, rfl, hp, p, dx, t, rfl, hp, t, r, rfl, ht, hV, q⟩
theorem c_disorders (W : Wd w K mg) : Cal P w K mg base CX0 3 "disorders" (d_disorders.at_ K) (sp_disorders1 K) := ⟨ok_disorders W, W.g_disorders, W.f_disorders.kp⟩
def sp_check_listed (K : PySem.W.Frag) : Sp := fun vs H Q _ => ∃ (v : V) (r : Mi.Row), vs = [v] ∧ ArrAt K H v r ∧ r.length ≤ 4 ∧ Q .non H
abbrev N_check_listed : List Str := ["a"]
theorem sc_check_listed : FnScope N_check_listed ["a"] d_check_listed.scope := ⟨rfl, rfl, rfl, by decide +kernel, rfl, by decide +kernel, by decide +kernel⟩
theorem ok_check_listed (W : Wd w K mg) : FnR P w K mg base CX0 3 (d_check_listed.at_ K) (sp_check_listed K) := by
  refine fnr0 W.f_check_listed sc_check_listed (fun vs H Q E h => ?_) (fun _ _ _ _ _ _ us hl => match us, hl with | [_], _ => rfl) (fun cdv A outer s H vs Q E hr h => ?_)
  · obtain ⟨v, r, rfl, hA, h4, q⟩ := h
    rfl
  · obtain ⟨v, r, rfl, hA, h4, q⟩ := h
    refine ⟨_, (pss_one (ps_if (pt_cmpR op_gt (pe_callB (call_lenO W.m_Arrangement_len (ok_Arrangement_len W) (hr.mono (by omega))) (by rfl) W.z_len PySem.boot_len (pa_cons (pv 0) pa_nil)) (pe_glob (v := .int 5) rfl W.i_MOST_LISTED_CARDS.choose_spec ⟨_, rfl⟩) (nomark _)) (pss_one (ps_never)) pss_nil)), ?_⟩
    obtain ⟨p, dx, t, rfl, hp, ht⟩ := id hA
    refine ⟨.ref p, rfl, p, dx, _, rfl, hp, .ref p, r, rfl, hA, (r.length : Int), rfl, by omega, by omega, _, 5, rfl, rfl, _, rfl, iteN (by rw [decide_eq_true_eq]; omega) q⟩
theorem c_check_listed (W : Wd w K mg) : Cal P w K mg base CX0 3 "check_listed" (d_check_listed.at_ K) (sp_check_listed K) := ⟨ok_check_listed W, W.g_check_listed, W.f_check_listed.kp⟩
def sp_count_words (K : PySem.W.Frag) : Sp := fun vs H Q _ => ∃ (v : V) (r : Mi.Row), vs = [v] ∧ ArrAt K H v r ∧ vrB r = true ∧ ∀ H', Same H H' → Q (.int (words r)) H'
abbrev N_count_words : List Str := ["a"]
theorem sc_count_words : FnScope N_count_words ["a"] d_count_words.scope := ⟨rfl, rfl, rfl, by decide +kernel, rfl, by decide +kernel, by decide +kernel⟩
theorem ok_count_words (W : Wd w K mg) : FnR P w K mg base CX0 20 (d_count_words.at_ K) (sp_count_words K) := by
  refine fnr0 W.f_count_words sc_count_words (fun vs H Q E h => ?_) (fun _ _ _ _ _ _ us hl => match us, hl with | [_], _ => rfl) (fun cdv A outer s H vs Q E hr h => ?_)
  · obtain ⟨v, r, rfl, hA, hr1, q⟩ := h
    rfl
  · obtain ⟨v, r, rfl, hA, hr1, q⟩ := h
    refine ⟨_, (pss_cons (ps_expr (pe_c (c_check_listed W) (hr.mono (by omega)) pass0 (pa_cons (pv 0) pa_nil)))
      (pss_one (ps_ret (pe_c (⟨ok_count_from W 17, W.g_count_from, W.f_count_from.kp⟩ : Cal P w K mg base CX0 19 "count_from" (d_count_from.at_ K) (sp_count_from K 17)) (hr.mono (by omega)) pass0 (pa_cons (pe_propR (pv 0) W.c_Arrangement W.p_Arr_row (ok_Arrangement_row W) (hr.mono (by omega))) (pa_cons pe_dnewT pa_nil)))))), ?_⟩
    obtain ⟨p, dx, t, rfl, hp, ht⟩ := id hA
    have hV := vrB_Vr hr1
    have hd16 := dis_le hr1
    refine ⟨.ref p, rfl, .ref p, r, rfl, hA, hV.most, .ref p, rfl, p, dx, _, rfl, hp, p, dx, t, rfl, hp, fun d hd => ?_⟩
    have e1 := same_new (o := .dT []) hd
    refine ⟨t, d, r, rfl, e1 _ _ ht, hr1, ⟨[], upd_same, Kn.nil⟩, by omega, fun H' hS _ => q H' fun b o hb => hS _ _ (e1 _ _ hb) (ne_of_none hb hd)⟩
theorem c_count_words (W : Wd w K mg) : Cal P w K mg base CX0 20 "count_words" (d_count_words.at_ K) (sp_count_words K) := ⟨ok_count_words W, W.g_count_words, W.f_count_words.kp⟩
def sp_format_arrangement (K : PySem.W.Frag) : Sp := fun vs H Q _ => ∃ (v : V) (r : Mi.Row), vs = [v] ∧ ArrAt K H v r ∧ Vr r ∧ ∀ H', Same H H' → Q (.str (rowText r)) H'
abbrev N_format_arrangement : List Str := ["a", "card"]
theorem sc_format_arrangement : FnScope N_format_arrangement ["a"] d_format_arrangement.scope := ⟨rfl, rfl, rfl, by decide +kernel, rfl, by decide +kernel, by decide +kernel⟩
theorem ok_format_arrangement (W : Wd w K mg) : FnR P w K mg base CX0 3 (d_format_arrangement.at_ K) (sp_format_arrangement K) := by
  refine fnr0 W.f_format_arrangement sc_format_arrangement (fun vs H Q E h => ?_) (fun _ _ _ _ _ _ us hl => match us, hl with | [_], _ => rfl) (fun cdv A outer s H vs Q E hr h => ?_)
  · obtain ⟨v, r, rfl, hA, hV, q⟩ := h
    rfl
  · obtain ⟨v, r, rfl, hA, hV, q⟩ := h
    refine ⟨_, (pss_one (ps_ret (pe_join pe_str (pe_lc (own := [("card", 1)]) (g := gName 1) rfl sc_format_arrangement.nd (pi_tup (pe_propR (pv 0) W.c_Arrangement W.p_Arr_row (ok_Arrangement_row W) (hr.mono (by omega)))) (blkOk_by (own := [("card", 1)]) (N := N_format_arrangement) (sc := d_format_arrangement.scope) (by decide +kernel)) (fun _ _ _ _ _ => (pg_name (i := 1) sc_format_arrangement.nd rfl (by first | exact Or.inl rfl | exact Or.inr rfl))) (fun _ _ _ _ _ => pts_nil) (fun _ _ _ _ _ => (pe_callTy call_str_int (by rfl) W.z_str boot_str (pa_cons (pv 1) pa_nil))))))), ?_⟩
    obtain ⟨p, dx, t, rfl, hp, ht⟩ := hA
    have hab := vr_abs hV
    have h4 := hV.most
    refine ⟨⟨_, rfl⟩, .ref p, rfl, p, dx, _, rfl, hp, p, dx, t, rfl, hp, t, rfl, ⟨_, SqT.of ht⟩, fun D hD => lc_enc (wt (xs := r)) (Ex := fun c x _ => x = V.int c) (fun _ => true) (fun c => V.str (tI c)) rfl yat (fun H' e => SqT.of (e _ _ ht)) (vr_len hV) hD (fun y x H2 Yc Nn hy hS hE h1 h2 => ?_) fun H1 e1 hD1 => ?_⟩
    · subst hE
      exact ⟨rfl, .int y, rfl, y, rfl, log_ok (by have := hab y hy; omega), h1 _ (Same.refl _) rfl⟩
    · rw [List.filter_eq_self.mpr (fun _ _ => rfl), ← show (r.map tI).map V.str = r.map (fun c => V.str (tI c)) by rw [List.map_map]; rfl] at hD1
      refine ⟨_, D, r.map tI, rfl, rfl, .inl (SqL.of hD1), ?_, q _ e1⟩
      have := sum_len r hab
      rw [List.length_map]
      show _ + _ * 1 ≤ _
      omega
theorem c_format_arrangement (W : Wd w K mg) : Cal P w K mg base CX0 3 "format_arrangement" (d_format_arrangement.at_ K) (sp_format_arrangement K) := ⟨ok_format_arrangement W, W.g_format_arrangement, W.f_format_arrangement.kp⟩
def sp_l_fresh : Sp := fun vs H Q _ => ∃ (a : Addr) (r : Mi.Row), vs = [.ref a] ∧ H a = some (.tup (r.map V.int)) ∧ Vr r ∧ ∀ H', Same H H' → Q (.str ("new " ++ rowComma r)) H'
abbrev N_l_fresh : List Str := ["_law_cards_here", "_law_card"]
theorem sc_l_fresh : FnScope N_l_fresh ["_law_cards_here"] d_l_fresh.scope := ⟨rfl, rfl, rfl, by decide +kernel, rfl, by decide +kernel, by decide +kernel⟩
theorem ok_l_fresh (W : Wd w K mg) : FnR P w K mg base CX0 1 (d_l_fresh.at_ K) sp_l_fresh := by
  refine fnr0 W.f_l_fresh sc_l_fresh (fun vs H Q E h => ?_) (fun _ _ _ _ _ _ us hl => match us, hl with | [_], _ => rfl) (fun cdv A outer s H vs Q E hr h => ?_)
  · obtain ⟨t, r, rfl, ht, hV, q⟩ := h
    rfl
  · obtain ⟨t, r, rfl, ht, hV, q⟩ := h
    refine ⟨_, (pss_one (ps_ret (pe_op op_add_str pe_str (pe_join pe_str (pe_lc (own := [("_law_card", 1)]) (g := gName 1) rfl sc_l_fresh.nd (pi_tup (pv 0)) (blkOk_by (own := [("_law_card", 1)]) (N := N_l_fresh) (sc := d_l_fresh.scope) (by decide +kernel)) (fun _ _ _ _ _ => (pg_name (i := 1) sc_l_fresh.nd rfl (by first | exact Or.inl rfl | exact Or.inr rfl))) (fun _ _ _ _ _ => pts_nil) (fun _ _ _ _ _ => (pe_callTy call_str_int (by rfl) W.z_str boot_str (pa_cons (pv 1) pa_nil)))))))), ?_⟩
    have hab := vr_abs hV
    have h4 := hV.most
    refine ⟨⟨_, rfl⟩, .ref t, rfl, t, rfl, ⟨_, SqT.of ht⟩, fun D hD => lc_enc (wt (xs := r)) (Ex := fun c x _ => x = V.int c) (fun _ => true) (fun c => V.str (tI c)) rfl yat (fun H' e => SqT.of (e _ _ ht)) (vr_len hV) hD (fun y x H2 Yc Nn hy hS hE h1 h2 => ?_) fun H1 e1 hD1 => ?_⟩
    · subst hE
      exact ⟨rfl, .int y, rfl, y, rfl, log_ok (by have := hab y hy; omega), h1 _ (Same.refl _) rfl⟩
    · rw [List.filter_eq_self.mpr (fun _ _ => rfl), ← show (r.map tI).map V.str = r.map (fun c => V.str (tI c)) by rw [List.map_map]; rfl] at hD1
      have hs := sum_len r hab
      refine ⟨_, D, r.map tI, rfl, rfl, .inl (SqL.of hD1), ?_, _, _, rfl, rfl, ?_, q _ e1⟩
      · rw [List.length_map]
        show _ + _ * 1 ≤ _
        omega
      · have := StrLaws.join_length_le "," (r.map tI)
        have h2 : (Txt.join "," (r.map tI)).length ≤ ((r.map tI).map (·.length)).sum + (r.map tI).length * 1 := by
          rw [show Txt.join "," (r.map tI) = Str.join "," (r.map tI) from StrLaws.glued_eq_join _ _]
          exact this
        rw [List.length_map] at h2
        exact Nat.le_of_lt (small1k (by show 4 + _ ≤ 1000; omega))
theorem c_l_fresh (W : Wd w K mg) : Cal P w K mg base CX0 1 "_law_fresh" (d_l_fresh.at_ K) sp_l_fresh := ⟨ok_l_fresh W, W.g_l_fresh, W.f_l_fresh.kp⟩
def sp_stepText : Sp := fun vs H Q _ => ∃ (v : V) (s : Stp), vs = [v] ∧ StpAt H v s ∧ s ∈ stepsOf 4 ∧ ∀ H', Same H H' → Q (.str (stepText s)) H'
abbrev N_format_step : List Str := ["step"]
theorem sc_format_step : FnScope N_format_step ["step"] d_format_step.scope := ⟨rfl, rfl, rfl, by decide +kernel, rfl, by decide +kernel, by decide +kernel⟩
theorem ok_format_step (W : Wd w K mg) : FnR P w K mg base CX0 1 (d_format_step.at_ K) sp_stepText := by
  refine fnr0 W.f_format_step sc_format_step (fun vs H Q E h => ?_) (fun _ _ _ _ _ _ us hl => match us, hl with | [_], _ => rfl) (fun cdv A outer s H vs Q E hr h => ?_)
  · obtain ⟨v, s, rfl, hs, hin, q⟩ := h
    rfl
  · obtain ⟨v, s, rfl, hs, hin, q⟩ := h
    refine ⟨_, (pss_cons (ps_if (pt_cmpR op_eq (pe_ix (show IxR _ (rIxT K) from ix_tup) (pv 0) pe_int (fun _ _ => rfl)) pe_str (nomark _)) (pss_one (ps_ret (pe_joined (.cons (pe_fmt (pe_ix (show IxR _ (rIxT K) from ix_tup) (pv 0) pe_int (fun _ _ => rfl))) (.cons pe_str .nil))))) pss_nil)
      (pss_one (ps_ret (pe_joined (.cons (pe_fmt (pe_ix (show IxR _ (rIxT K) from ix_tup) (pv 0) pe_int (fun _ _ => rfl))) (.cons (pe_fmt (pe_ifExp (pt_cmpR op_eq (pe_ix (show IxR _ (rIxT K) from ix_tup) (pv 0) pe_int (fun _ _ => rfl)) pe_str (nomark _)) pe_str pe_str)) (.cons (pe_fmt (pe_ix (show IxR _ (rIxT K) from ix_tup) (pv 0) pe_int (fun _ _ => rfl))) .nil))))))), ?_⟩
    obtain ⟨a, rfl, ha⟩ := hs
    have hsm := step_small hin
    cases s with
    | turn i =>
      have l1 := tI_len (x := (i : Int)) (by rw [nat_abs_cast]; exact hsm)
      refine ⟨.ref a, rfl, a, _, 0, _, rfl, rfl, SqT.of ha, rfl, rfl, _, rfl, iteP (by decide +kernel) ?_⟩
      refine ⟨.ref a, rfl, a, _, 1, _, rfl, rfl, SqT.of ha, rfl, .inr ⟨_, rfl, log_ok (by rw [nat_abs_cast]; omega), tI (i : Int), rfl, ?_, _, rfl, ?_, ?_⟩⟩
      · rw [Str.empty_append]
        exact Nat.le_of_lt (small1k (by omega))
      · rw [Str.empty_append, Str.length_append]
        exact Nat.le_of_lt (small1k (by show _ + 1 ≤ _; omega))
      · rw [Str.empty_append]
        exact q _ (Same.refl _)
    | exch i j =>
      have l1 := tI_len (x := (i : Int)) (by rw [nat_abs_cast]; exact hsm.1)
      have l2 := tI_len (x := (j : Int)) (by rw [nat_abs_cast]; exact hsm.2)
      refine ⟨.ref a, rfl, a, _, 0, _, rfl, rfl, SqT.of ha, rfl, rfl, _, rfl, iteN (by decide +kernel) ?_⟩
      refine ⟨.ref a, rfl, a, _, 1, _, rfl, rfl, SqT.of ha, rfl, .inr ⟨_, rfl, log_ok (by rw [nat_abs_cast]; omega), tI (i : Int), rfl, ?_, ?_⟩⟩
      · rw [Str.empty_append]
        exact Nat.le_of_lt (small1k (by omega))
      refine ⟨.ref a, rfl, a, _, 0, _, rfl, rfl, SqT.of ha, rfl, rfl, _, rfl, iteP (by decide +kernel) (.inl ⟨_, rfl, by decide +kernel, _, rfl, ?_, ?_⟩)⟩
      · rw [Str.empty_append, Str.length_append]
        exact Nat.le_of_lt (small1k (by show _ + 1 ≤ _; omega))
      refine ⟨.ref a, rfl, a, _, 2, _, rfl, rfl, SqT.of ha, rfl, .inr ⟨_, rfl, log_ok (by rw [nat_abs_cast]; omega), tI (j : Int), rfl, ?_, ?_⟩⟩
      · rw [Str.empty_append, Str.length_append, Str.length_append]
        exact Nat.le_of_lt (small1k (by show _ + 1 + _ ≤ _; omega))
      · rw [Str.empty_append]
        exact q _ (Same.refl _)
    | cross i j =>
      have l1 := tI_len (x := (i : Int)) (by rw [nat_abs_cast]; exact hsm.1)
      have l2 := tI_len (x := (j : Int)) (by rw [nat_abs_cast]; exact hsm.2)
      refine ⟨.ref a, rfl, a, _, 0, _, rfl, rfl, SqT.of ha, rfl, rfl, _, rfl, iteN (by decide +kernel) ?_⟩
      refine ⟨.ref a, rfl, a, _, 1, _, rfl, rfl, SqT.of ha, rfl, .inr ⟨_, rfl, log_ok (by rw [nat_abs_cast]; omega), tI (i : Int), rfl, ?_, ?_⟩⟩
      · rw [Str.empty_append]
        exact Nat.le_of_lt (small1k (by omega))
      refine ⟨.ref a, rfl, a, _, 0, _, rfl, rfl, SqT.of ha, rfl, rfl, _, rfl, iteN (by decide +kernel) (.inl ⟨_, rfl, by decide +kernel, _, rfl, ?_, ?_⟩)⟩
      · rw [Str.empty_append, Str.length_append]
        exact Nat.le_of_lt (small1k (by show _ + 1 ≤ _; omega))
      refine ⟨.ref a, rfl, a, _, 2, _, rfl, rfl, SqT.of ha, rfl, .inr ⟨_, rfl, log_ok (by rw [nat_abs_cast]; omega), tI (j : Int), rfl, ?_, ?_⟩⟩
      · rw [Str.empty_append, Str.length_append, Str.length_append]
        exact Nat.le_of_lt (small1k (by show _ + 1 + _ ≤ _; omega))
      · rw [Str.empty_append]
        exact q _ (Same.refl _)
theorem c_format_step (W : Wd w K mg) : Cal P w K mg base CX0 1 "format_step" (d_format_step.at_ K) sp_stepText := ⟨ok_format_step W, W.g_format_step, W.f_format_step.kp⟩
abbrev N_l_word : List Str := ["_law_step_here"]
theorem sc_l_word : FnScope N_l_word ["_law_step_here"] d_l_word.scope := ⟨rfl, rfl, rfl, by decide +kernel, rfl, by decide +kernel, by decide +kernel⟩
theorem ok_l_word (W : Wd w K mg) : FnR P w K mg base CX0 1 (d_l_word.at_ K) sp_stepText := by
  refine fnr0 W.f_l_word sc_l_word (fun vs H Q E h => ?_) (fun _ _ _ _ _ _ us hl => match us, hl with | [_], _ => rfl) (fun cdv A outer s H vs Q E hr h => ?_)
  · obtain ⟨v, s, rfl, hs, hin, q⟩ := h
    rfl
  · obtain ⟨v, s, rfl, hs, hin, q⟩ := h
    refine ⟨_, (pss_cons (ps_if (pt_cmpR op_eq (pe_ix (show IxR _ (rIxT K) from ix_tup) (pv 0) pe_int (fun _ _ => rfl)) pe_str (nomark _)) (pss_one (ps_ret (pe_op op_add_str (pe_callTy call_str_int (by rfl) W.z_str boot_str (pa_cons (pe_ix (show IxR _ (rIxT K) from ix_tup) (pv 0) pe_int (fun _ _ => rfl)) pa_nil)) pe_str))) pss_nil)
      (pss_one (ps_ret (pe_op op_add_str (pe_op op_add_str (pe_callTy call_str_int (by rfl) W.z_str boot_str (pa_cons (pe_ix (show IxR _ (rIxT K) from ix_tup) (pv 0) pe_int (fun _ _ => rfl)) pa_nil)) (pe_ix (show IxR _ (rIxL K) from ix_list) (pe_lst (pa_cons pe_str (pa_cons pe_str pa_nil))) (pe_callTy call_int1 (by rfl) W.z_int boot_int (pa_cons (pe_cmpR op_eq (pe_ix (show IxR _ (rIxT K) from ix_tup) (pv 0) pe_int (fun _ _ => rfl)) pe_str (nomark _)) pa_nil)) (fun _ _ => rfl))) (pe_callTy call_str_int (by rfl) W.z_str boot_str (pa_cons (pe_ix (show IxR _ (rIxT K) from ix_tup) (pv 0) pe_int (fun _ _ => rfl)) pa_nil)))))), ?_⟩
    obtain ⟨a, rfl, ha⟩ := hs
    have hsm := step_small hin
    cases s with
    | turn i =>
      have l1 := tI_len (x := (i : Int)) (by rw [nat_abs_cast]; exact hsm)
      refine ⟨.ref a, rfl, a, _, 0, _, rfl, rfl, SqT.of ha, rfl, rfl, _, rfl, iteP (by decide +kernel) ?_⟩
      exact ⟨.ref a, rfl, a, _, 1, _, rfl, rfl, SqT.of ha, rfl, _, rfl, log_ok (by rw [nat_abs_cast]; omega), tI (i : Int), _, rfl, rfl, Nat.le_of_lt (small1k (by show _ + 1 ≤ _; omega)), q _ (Same.refl _)⟩
    | exch i j =>
      have l1 := tI_len (x := (i : Int)) (by rw [nat_abs_cast]; exact hsm.1)
      have l2 := tI_len (x := (j : Int)) (by rw [nat_abs_cast]; exact hsm.2)
      refine ⟨.ref a, rfl, a, _, 0, _, rfl, rfl, SqT.of ha, rfl, rfl, _, rfl, iteN (by decide +kernel) ?_⟩
      refine ⟨.ref a, rfl, a, _, 1, _, rfl, rfl, SqT.of ha, rfl, _, rfl, log_ok (by rw [nat_abs_cast]; omega), by show 2 ≤ sizeLine; decide, fun L hL => ?_⟩
      have e1 := same_new (o := .lst [V.str "/", V.str "*"]) hL
      have ha1 := e1 _ _ ha
      refine ⟨.ref a, rfl, a, _, 0, _, rfl, rfl, SqT.of ha1, rfl, rfl, .inr ⟨false, rfl, L, _, _, V.str "/", rfl, rfl, SqL.of upd_same, rfl, tI (i : Int), _, rfl, rfl, Nat.le_of_lt (small1k (by show _ + 1 ≤ _; omega)), ?_⟩⟩
      exact ⟨.ref a, rfl, a, _, 2, _, rfl, rfl, SqT.of ha1, rfl, _, rfl, log_ok (by rw [nat_abs_cast]; omega), _, tI (j : Int), rfl, rfl, by rw [Str.length_append]; exact Nat.le_of_lt (small1k (by show _ + 1 + _ ≤ _; omega)), q _ e1⟩
    | cross i j =>
      have l1 := tI_len (x := (i : Int)) (by rw [nat_abs_cast]; exact hsm.1)
      have l2 := tI_len (x := (j : Int)) (by rw [nat_abs_cast]; exact hsm.2)
      refine ⟨.ref a, rfl, a, _, 0, _, rfl, rfl, SqT.of ha, rfl, rfl, _, rfl, iteN (by decide +kernel) ?_⟩
      refine ⟨.ref a, rfl, a, _, 1, _, rfl, rfl, SqT.of ha, rfl, _, rfl, log_ok (by rw [nat_abs_cast]; omega), by show 2 ≤ sizeLine; decide, fun L hL => ?_⟩
      have e1 := same_new (o := .lst [V.str "/", V.str "*"]) hL
      have ha1 := e1 _ _ ha
      refine ⟨.ref a, rfl, a, _, 0, _, rfl, rfl, SqT.of ha1, rfl, rfl, .inr ⟨true, rfl, L, _, _, V.str "*", rfl, rfl, SqL.of upd_same, rfl, tI (i : Int), _, rfl, rfl, Nat.le_of_lt (small1k (by show _ + 1 ≤ _; omega)), ?_⟩⟩
      exact ⟨.ref a, rfl, a, _, 2, _, rfl, rfl, SqT.of ha1, rfl, _, rfl, log_ok (by rw [nat_abs_cast]; omega), _, tI (j : Int), rfl, rfl, by rw [Str.length_append]; exact Nat.le_of_lt (small1k (by show _ + 1 + _ ≤ _; omega)), q _ e1⟩
theorem c_l_word (W : Wd w K mg) : Cal P w K mg base CX0 1 "_law_word" (d_l_word.at_ K) sp_stepText := ⟨ok_l_word W, W.g_l_word, W.f_l_word.kp⟩
end
end Tc
namespace Tc
open PySem PySem.Spec PyProof.Rows L2 He He5
open Sem (wp)
section
variable {prog : Program} {w : World} {K : Type} [DecidableEq K] {knd : KeyKind prog w K} {A : Around} {E : Value → Shared → Prop} {s : Shared}
theorem wpAny_dictPut_pairs {d : Addr} {kvs : List (K × Value)} {k : K} {key v : Value} {Q : Unit → Shared → Prop} (hkey : knd.is k key = true) (hm : s.heap.DictOf knd d kvs)
    (hQ : ∀ h', h'.DictOf knd d (stored kvs k v) → Heap.SameBut d s.heap h' → Q () { s with heap := h' }) (hsz : kvs.length ≤ sizeLine) :
    wpAny (model prog w) A (dictPut d (knd.hash k) key v) Q E s := by
  obtain ⟨o, es, ep, ho, hc, hd, hk, hp, hn⟩ := hm
  have hes : es.size ≤ sizeLine := by
    have e1 := hp.length
    have e2 : es.toList.length = es.size := by simp
    omega
  unfold dictPut
  refine wpAny_bind (wpAny_dictFind_of hkey ho hd hk ?_)
  have hidx : (es.findIdx? fun e => knd.is k e.key) = kvs.findIdx? fun kv => decide (kv.1 = k) := by
    rw [← hp.findIdx k]; obtain ⟨l⟩ := es; simp
  cases hi : es.findIdx? fun e => knd.is k e.key with
  | some i =>
    refine wpAny_updateDict ho hd (hQ _ ⟨_, _, ep, Heap.get?_update_self _ ho (Obj.isFreed_of_dict (Obj.data_mapDict hd _)),
      hc.mapDict _, Obj.data_mapDict hd _, hk.modify _ _, ?_, ?_⟩ (Heap.SameBut.update ..))
    · rw [stored, if_pos (any_of_findIdx_some (hidx ▸ hi))]
      have hl : (es.toList.findIdx? fun e => knd.is k e.key) = some i := by rw [← hi]; obtain ⟨l⟩ := es; simp
      have := hp.modify hn hl v
      obtain ⟨l⟩ := es
      simpa using this
    · rw [stored, if_pos (any_of_findIdx_some (hidx ▸ hi)), keys_map_store]; exact hn
  | none =>
    have hnot : k ∉ kvs.map (·.1) := not_mem_of_findIdx_none (hidx ▸ hi)
    have hany : ¬ (kvs.any fun kv => decide (kv.1 = k)) = true := by
      rw [List.any_eq_true]; rintro ⟨kv, hkv, he⟩
      exact hnot (List.mem_map.mpr ⟨kv, hkv, of_decide_eq_true he⟩)
    refine wpAny_updateDictKeys (hz := hes) ho hd (hQ _ ⟨_, _, ep + 1, Heap.get?_update_self _ ho (Obj.isFreed_of_dict (Obj.data_mapDictKeys hd _)),
      hc.mapDictKeys _, Obj.data_mapDictKeys hd _, hk.push hkey _, ?_, ?_⟩ (Heap.SameBut.update ..))
    · rw [stored, if_neg hany]
      have := hp.append hkey (knd.hash k) v
      obtain ⟨l⟩ := es
      simpa using this
    · rw [stored, if_neg hany, List.map_append, List.nodup_append]
      refine ⟨hn, by simp, ?_⟩
      intro a ha b hb
      simp only [List.map_cons, List.map_nil, List.mem_singleton] at hb
      subst hb
      exact fun e => hnot (e ▸ ha)
theorem byValue_noref {v : Value} (h : carriedByValue v = true) : ∀ a, v ≠ .ref a := by
  rintro a rfl
  simp [carriedByValue] at h
theorem wpAny_mergeMapping_dict {d o : Addr} {kvs more : List (K × Value)} {Q : Unit → Shared → Prop} (hdo : d ≠ o) (hoS : (o == sysModules) = false)
    (hd : s.heap.DictOf knd d kvs) (ho : s.heap.DictOf knd o more)
    (hQ : ∀ h', h'.DictOf knd d (merged kvs more) → Heap.SameBut d s.heap h' → Q () { s with heap := h' })
    (hsz : kvs.length + more.length ≤ sizeLine) :
    wpAny (model prog w) A (mergeMapping d (.ref o) false) Q E s := by
  obtain ⟨od, esd, epd, hod, hcd, hdd, hkd, hpd, hnd⟩ := id hd
  obtain ⟨oo, eso, epo, hoo, hco, hdo', hko, hpo, hno⟩ := id ho
  have hlen : more.length = eso.size := by rw [← hpo.length]; simp
  have loop : wpAny (model prog w) A (do
      let size := (← dictEntries o).size
      let epoch ← dictEpoch o
      forIn (List.range size) PUnit.unit fun i (_ : PUnit) => (do
          let l' ← dictEntries o
          match l'[i]? with
            | some e => do
              holding [e.key, e.val] (dictPut d e.hash e.key e.val)
              let ep' ← dictEpoch o
              if (ep' != epoch) = true then do
                  unsupported "dict.changed-during-merge"
                  pure (ForInStep.yield PUnit.unit)
                else pure (ForInStep.yield PUnit.unit)
            | _ => do
              unsupported "dict.changed-during-merge"
              pure (ForInStep.yield PUnit.unit) : Sem (ForInStep PUnit))
      pure ()) Q E s := by
    refine wpAny_bind (wpAny_dictEntries hoo hdo' ?_)
    refine wpAny_bind (wpAny_dictEpoch hoo hdo' ?_)
    refine wpAny_bind ?_
    rw [List.range_eq_range']
    refine wpAny_forIn_list _
      (fun rest _ s' => ∃ h' i, s' = { s with heap := h' } ∧ rest = List.range' i (eso.size - i) ∧ i ≤ eso.size ∧ h'.DictOf knd d (merged kvs (more.take i)) ∧ h'.get? o = some oo ∧ Heap.SameBut d s.heap h')
      _ ?_ ?_ _ _ ⟨s.heap, 0, rfl, by simp, Nat.zero_le _, by simpa [merged] using hd, hoo, Heap.SameBut.refl _ _⟩
    · rintro x rest b s' ⟨h', i, rfl, hr, hi, hd', hoo', hs'⟩
      have hlt : i < eso.size := by
        rcases Nat.lt_or_ge i eso.size with h | h
        · exact h
        · rw [Nat.sub_eq_zero_of_le h] at hr; simp at hr
      obtain ⟨rfl, hrest⟩ : x = i ∧ rest = List.range' (i + 1) (eso.size - (i + 1)) := by
        have e : eso.size - i = (eso.size - (i + 1)) + 1 := by omega
        rw [e, List.range'_succ] at hr
        injection hr with h1 h2
        exact ⟨h1, h2⟩
      refine wpAny_bind (wpAny_dictEntries hoo' hdo' ?_)
      rw [Array.getElem?_eq_getElem hlt]
      obtain ⟨kv, hkv⟩ : ∃ kv, more[x]? = some kv := ⟨more[x]'(by rw [hlen]; exact hlt), List.getElem?_eq_getElem _⟩
      obtain ⟨k, v⟩ := kv
      obtain ⟨hkey, hval⟩ := hpo.get? (e := eso[x]) (by simp [hlt]) hkv
      obtain ⟨k', hkey', hhash⟩ := hko eso[x] (Array.getElem_mem hlt)
      obtain rfl : k' = k := knd.inj _ _ _ hkey' hkey
      show wpAny _ _ (holding [eso[x].key, eso[x].val] (dictPut d eso[x].hash eso[x].key eso[x].val) >>= _) _ _ _
      rw [hhash, hval]
      have hmx : (merged kvs (more.take x)).length ≤ sizeLine := by
        have e1 := merged_length_le kvs (more.take x)
        have e2 : (more.take x).length ≤ more.length := by rw [List.length_take]; omega
        omega
      refine wpAny_bind (wpAny_holding (wpAny_dictPut_pairs hkey hd' (fun h'' hd'' hs'' => ?_) hmx))
      have hoo'' : h''.get? o = some oo := (hs''.2 o (Ne.symm hdo)).trans hoo'
      refine wpAny_bind (wpAny_dictEpoch hoo'' hdo' ?_)
      rw [if_neg (by simp)]
      exact wpAny_pure ⟨h'', x + 1, rfl, hrest, hlt, by rw [merged_take_succ kvs more x (k', v) hkv]; exact hd'', hoo'', hs'.trans hs''⟩
    · rintro b s' ⟨h', i, rfl, hr, hi, hd', hoo', hs'⟩
      have hin : i = eso.size := by
        rcases Nat.lt_or_ge i eso.size with h | h
        · have e : eso.size - i = (eso.size - (i + 1)) + 1 := by omega
          rw [e, List.range'_succ] at hr; exact nomatch hr
        · exact Nat.le_antisymm hi h
      refine wpAny_pure (hQ h' ?_ hs')
      rw [hin, ← hlen, List.take_length] at hd'; exact hd'
  unfold mergeMapping
  refine wpAny_bind (wpAny_isInstance ho.typeIs isSubtype_dict_dict ?_)
  simp only [if_true]
  refine wpAny_bind (wpAny_specialOf ho.typeIs F.slot_dict_iter.lookup ?_)
  refine wpAny_bind (wpAny_pure ?_)
  simp only [beq_self_eq_true]
  rw [if_neg (by rw [hoS]; exact Bool.false_ne_true)]
  refine wpAny_bind (wpAny_dictEntries hod hdd ?_)
  split
  · refine wpAny_bind (wpAny_dictEntries hoo hdo' ?_)
    refine wpAny_bind (wpAny_of_eq (a := PUnit.unit) ?_ ?_)
    · rw [← Array.forIn_toList]
      refine forIn_yield_id _ fun e he c => ?_
      obtain ⟨k, hkey, _⟩ := hko e (Array.mem_toList_iff.mp he)
      have hn := byValue_noref (knd.byValue k _ hkey)
      cases hek : e.key <;> first | rfl | exact absurd hek (hn _)
    · simp only [Bool.false_eq_true, if_false]
      exact loop
  · simp only [Bool.false_eq_true, if_false]
    exact loop
end
section
variable {X : Cx} {pos : Pos} {e k v : Expr} {td : TE} {trs : List (TE × TE)}
theorem dd_shape (m1 k1 v1 : Sem Value) : dictDisplay [(none, m1), (some k1, v1)] = (do
    let x ← alloc { cls := Value.type "dict", data := Data.dict #[] }
    let x_1 ← holding [Value.ref x] m1
    (((holding [Value.ref x, x_1] (mergeMapping x x_1 false)).onRaise fun x_2 =>
        (fun a => ()) <$> holding [Value.ref x, x_1, x_2] (runValue (Code.builtin "proto.let_go" {}))).tryCatch
      fun e => do
        let r ← isInstance e (Value.type "AttributeError")
        if r = true then do
          rule "dict.display.not-a-mapping"
          let t ← typeNameOf x_1
          raiseErrorMade "TypeError" (ToString.toString "'" ++ ToString.toString t ++ ToString.toString "' object is not a mapping")
          throw e
        else throw e).onRaise
      fun x_2 => (fun a => ()) <$> holding [Value.ref x, x_2] (runValue (Code.builtin "proto.let_go" {}))
    let x_2 ← holding [Value.ref x] (subDict [(k1, v1)])
    (fun a => Value.ref x) <$>
      (holding [Value.ref x, Value.ref x_2] (mergeMapping x (Value.ref x_2) false)).onRaise fun x_3 =>
        (fun a => ()) <$> holding [Value.ref x, x_3] (runValue (Code.builtin "proto.let_go" {}))) := by
  unfold dictDisplay
  dsimp only
  simp only [List.forIn_cons, List.forIn_nil, bind_assoc, pure_bind]
  simp
/-- {**e, k: v} -/
def tDStar (td : TE) (trs : List (TE × TE)) : TE := fun σ H Q => ∀ p, H p = none → td σ (upd H p (.dK [])) fun x H1 => ∃ a kvs, x = .ref a ∧ H1 a = some (.dK kvs) ∧ a ≠ p ∧ H1 p = some (.dK []) ∧
  ∀ q, upd H1 p (.dK kvs) q = none → (kvs.map (·.1)).Nodup → tPairs trs σ (upd (upd H1 p (.dK kvs)) q (.dK [])) fun ps H3 => H3 q = some (.dK []) ∧ H3 p = some (.dK kvs) ∧ q ≠ p ∧ kvs.length + 1 ≤ sizeLine ∧
    ∃ (y : Key) (z : V), ps = [(kV y, z)] ∧ Q (.ref p) (upd (upd H3 q (.dK [(y, z)])) p (.dK (putK kvs y z)))
theorem pe_dstar (he : PE X e td) (hkv : PPs X pos [some k] [v] trs) : PE X (.Dict [none, some k] [e, v] pos) (tDStar td trs) := by
  refine ⟨fun pins s σ H Q I h => ?_⟩
  have hn := I.hok.fresh (Nat.le_refl s.heap.objs.size)
  have I1 := I.laid (a := s.heap.objs.size) (o := .dK []) (h' := s.heap.push { cls := .type "dict", data := .dict #[] }) (t' := s.toks) (fun _ _ q => Heap.get?_push_of_some _ q) (Nat.le_refl _) (dk_empty s.heap I.big)
  rw [arm_eval_Dict]
  refine wpAny_bind (wpAny_standAt ?_)
  show wpAny _ _ (dictDisplay [(none, do let x ← eval e X.env; standAt pos; pure x), (some (eval k X.env), do let x ← eval v X.env; standAt pos; pure x)]) _ _ _
  rw [dd_shape]
  refine wpAny_bind (wpAny_alloc ?_)
  refine wpAny_bind (wpAny_holding (wpAny_bind (thn (he.run pins _ σ _ _ I1 (h _ hn)) fun u s2 ⟨x, H1, I2, rx, a, kvs, ex, ha, hap, hp1, q⟩ => wpAny_bind (wpAny_standAt (wpAny_pure ?_)))))
  subst ex
  obtain rfl : u = Value.ref a := rx
  obtain ⟨z0, hd0, vs0, r0, dd0⟩ := dk_of I2.hok hp1
  cases r0
  obtain ⟨z1, hd1, vs1, r1, dd1⟩ := dk_of I2.hok ha
  have hnod : (vs1.map (·.1)).Nodup := let ⟨_, _, _, _, _, _, _, _, h⟩ := dd1; h
  have hl1 : vs1.length ≤ sizeLine := by rw [← KV.length r1]; exact z1
  refine wpAny_bind (wpAny_onRaise (wpAny_tryCatch (wpAny_onRaise (wpAny_holding (wpAny_mergeMapping_dict (knd := mixKind X.prog X.w) (Ne.symm hap) hd1 dd0 dd1 (fun h' dd' hs => ?_) (by simpa using hl1))))))
  rw [merged_nil_of_nodup vs1 hnod] at dd'
  have he' : ∃ q, h'.get? s.heap.objs.size = some q := let ⟨q, _, _, hq, _⟩ := dd'; ⟨q, hq⟩
  have I3 := d_write (t' := s2.toks) (ob := .dK kvs) I2 (by rw [hp1]; exact True.intro) hs he' (dk_new z1 hd0 r1 dd')
  have hq := I3.hok.fresh (Nat.le_refl h'.objs.size)
  have I4 := I3.laid (a := h'.objs.size) (o := .dK []) (h' := h'.push { cls := .type "dict", data := .dict #[] }) (t' := s2.toks) (fun _ _ q => Heap.get?_push_of_some _ q) (Nat.le_refl _) (dk_empty h' I3.big)
  refine wpAny_bind (wpAny_holding (wpAny_subDict (knd := mixKind X.prog X.w) (by show 1 ≤ 15; decide) (thn (hkv.run pins _ σ _ _ I4 (q _ hq (by rw [KV.keys r1]; exact hnod))) fun ws s3 ⟨ps, H3, I5, rel, e1, e2, hqp, hsz, y, z, ep, q2⟩ => ?_)))
  subst ep
  obtain ⟨rs, c, rk⟩ := carries_of (P := X.prog) (w := X.w) (kvs := [(y, z)]) rel
  obtain ⟨z3, hd3, vs3, r3, dd3⟩ := dk_of I5.hok e1
  cases r3
  refine ⟨rs, c, dd3, fun h4 dd4 hs4 => ?_⟩
  have hz4 : ([(y, z)] : List (Key × V)).length ≤ sizeLine := by
    show 1 ≤ sizeLine
    decide
  have he4 : ∃ q, h4.get? h'.objs.size = some q := let ⟨q, _, _, hq, _⟩ := dd4; ⟨q, hq⟩
  have rk1 : KV [(y, z)] (merged [] rs) := (rk.merge .nil : KV (mergeK [] [(y, z)]) (merged [] rs))
  have I6 := d_write (t' := s3.toks + ws.length) (ob := .dK [(y, z)]) I5 (by rw [e1]; exact True.intro) hs4 he4 (dk_new hz4 hd3 rk1 dd4)
  have e3 : upd H3 h'.objs.size (.dK [(y, z)]) s.heap.objs.size = some (.dK kvs) := by
    rw [upd_ne (Ne.symm hqp)]
    exact e2
  obtain ⟨z5, hd5, vs5, r5, dd5⟩ := dk_of I6.hok e3
  refine wpAny_map (wpAny_onRaise (wpAny_holding (wpAny_mergeMapping_dict (knd := mixKind X.prog X.w) (Ne.symm hqp) hd3 dd5 dd4 (fun h6 dd6 hs6 => ?_) ?_)))
  · have he6 : ∃ q, h6.get? s.heap.objs.size = some q := let ⟨q, _, _, hq, _⟩ := dd6; ⟨q, hq⟩
    have hz6 : (mergeK kvs [(y, z)]).length ≤ sizeLine := by
      have := length_mergeK [(y, z)] kvs
      exact Nat.le_trans this hsz
    have rk6 : KV (mergeK kvs [(y, z)]) (merged vs5 (merged [] rs)) := KV.merge rk1 r5
    have I7 := d_write (t' := s3.toks + ws.length) (ob := .dK (mergeK kvs [(y, z)])) I6 (by rw [e3]; exact True.intro) hs6 he6 (dk_new hz6 hd0 rk6 dd6)
    exact ⟨.ref s.heap.objs.size, _, I7, rfl, q2⟩
  · rw [← KV.length r5, ← KV.length rk1]
    exact hsz
end
end Tc
namespace Mi
/-! ### the state of a game, as both the program and the law keep it -/
abbrev Pl := List (PySem.Str × Stp)
abbrev Ud := List (PySem.Str × List Stp)
structure Gs where
  first : Row
  played : Pl
  undone : Ud
def curOf (f : Row) (pl : Pl) : Row := pl.foldl (fun c us => stp c us.2) f
def Gs.cur (g : Gs) : Row := curOf g.first g.played
def gPut (d : Ud) (u : PySem.Str) (ss : List Stp) : Ud := if (d.any fun e => decide (e.1 = u)) = true then d.map (fun e => if e.1 = u then (e.1, ss) else e) else d ++ [(u, ss)]
def gGet (d : Ud) (u : PySem.Str) : Option (List Stp) := (d.find? fun e => decide (e.1 = u)).map (·.2)
def Gs.play (g : Gs) (u : PySem.Str) (s : Stp) : Gs := ⟨g.first, g.played ++ [(u, s)], gPut g.undone u []⟩
/-- the places of a user's moves -/
def plIdx (pl : Pl) (u : PySem.Str) : List Nat := (List.range pl.length).filter fun i => decide (((pl[i]?).map (·.1)) = some u)
def Gs.undo (g : Gs) (u : PySem.Str) : Option Gs :=
  match (plIdx g.played u).getLast? with
  | none => none
  | some i => match g.played[i]? with
    | none => none
    | some e => some ⟨g.first, g.played.take i ++ g.played.drop (i + 1), gPut g.undone u ((gGet g.undone u).getD [] ++ [e.2])⟩
def Gs.redo (g : Gs) (u : PySem.Str) : Option Gs :=
  match ((gGet g.undone u).getD []).getLast? with
  | none => none
  | some s => some ⟨g.first, g.played ++ [(u, s)], gPut g.undone u ((gGet g.undone u).getD []).dropLast⟩
theorem curOf_ok {f : Row} (hf : vrB f = true) : ∀ pl : Pl, (∀ e ∈ pl, e.2.ok f.length = true) → vrB (curOf f pl) = true ∧ (curOf f pl).length = f.length := by
  intro pl
  unfold curOf
  suffices H : ∀ (c : Row), vrB c = true → c.length = f.length → (∀ e ∈ pl, e.2.ok f.length = true) → vrB (pl.foldl (fun c us => stp c us.2) c) = true ∧ (pl.foldl (fun c us => stp c us.2) c).length = f.length from H f hf rfl
  induction pl with
  | nil => exact fun c h1 h2 _ => ⟨h1, h2⟩
  | cons e pl ih =>
    intro c h1 h2 h3
    exact ih (stp c e.2) (stp_vr h1 (by rw [h2]; exact h3 e (List.mem_cons_self ..))) (by rw [stp_len, h2]) fun x hx => h3 x (List.mem_cons_of_mem _ hx)
/-- what holds of every state -/
structure Gs.Ok (n : Nat) (g : Gs) : Prop where
  row : vrB g.first = true
  pl : ∀ e ∈ g.played, e.2.ok g.first.length = true
  ud : ∀ e ∈ g.undone, ∀ s ∈ e.2, s.ok g.first.length = true
  pn : g.played.length ≤ n
  un : ∀ e ∈ g.undone, e.2.length ≤ n
  kn : g.undone.length ≤ n
theorem Gs.Ok.cur {n : Nat} {g : Gs} (h : g.Ok n) : vrB g.cur = true ∧ g.cur.length = g.first.length := curOf_ok h.row g.played h.pl
theorem gGet_mem {d : Ud} {u : PySem.Str} {ss : List Stp} (h : gGet d u = some ss) : (u, ss) ∈ d := by
  unfold gGet at h
  cases e : d.find? (fun e => decide (e.1 = u)) with
  | none => rw [e] at h; cases h
  | some p =>
    rw [e] at h
    have h1 : p.2 = ss := Option.some.inj h
    have h2 : p.1 = u := by
      have := List.find?_some e
      simpa using this
    rw [← h1, ← h2]
    exact List.mem_of_find?_eq_some e
theorem gPut_mem {d : Ud} {u : PySem.Str} {ss : List Stp} {e : PySem.Str × List Stp} (h : e ∈ gPut d u ss) : e.2 = ss ∨ e ∈ d := by
  unfold gPut at h
  by_cases c : (d.any fun e => decide (e.1 = u)) = true
  · rw [if_pos c] at h
    obtain ⟨x, hx, rfl⟩ := List.mem_map.mp h
    by_cases k : x.1 = u
    · rw [if_pos k]
      exact .inl rfl
    · rw [if_neg k]
      exact .inr hx
  · rw [if_neg c] at h
    rcases List.mem_append.mp h with k | k
    · exact .inr k
    · rw [List.mem_singleton.mp k]
      exact .inl rfl
theorem gPut_len (d : Ud) (u : PySem.Str) (ss : List Stp) : (gPut d u ss).length ≤ d.length + 1 := by
  unfold gPut
  split
  · rw [List.length_map]
    omega
  · rw [List.length_append]
    exact Nat.le_refl _
theorem Gs.Ok.mono {n m : Nat} {g : Gs} (h : g.Ok n) (k : n ≤ m) : g.Ok m := ⟨h.row, h.pl, h.ud, Nat.le_trans h.pn k, fun e he => Nat.le_trans (h.un e he) k, Nat.le_trans h.kn k⟩
theorem Gs.Ok.play {n : Nat} {g : Gs} (h : g.Ok n) (u : PySem.Str) {s : Stp} (hs : s.ok g.first.length = true) : (g.play u s).Ok (n + 1) := by
  refine ⟨h.row, fun e he => ?_, fun e he t ht => ?_, ?_, fun e he => ?_, ?_⟩
  · rcases List.mem_append.mp he with k | k
    · exact h.pl e k
    · rw [List.mem_singleton.mp k]
      exact hs
  · rcases gPut_mem he with k | k
    · rw [k] at ht
      exact absurd ht List.not_mem_nil
    · exact h.ud e k t ht
  · show (g.played ++ [(u, s)]).length ≤ _
    rw [List.length_append]
    have := h.pn
    show _ + 1 ≤ _
    omega
  · rcases gPut_mem he with k | k
    · rw [k]
      exact Nat.zero_le _
    · exact Nat.le_succ_of_le (h.un e k)
  · have := gPut_len g.undone u []
    have := h.kn
    show (gPut g.undone u []).length ≤ _
    omega
theorem Gs.Ok.undo {n : Nat} {g g' : Gs} (h : g.Ok n) {u : PySem.Str} (e : g.undo u = some g') : g'.Ok (n + 1) := by
  unfold Gs.undo at e
  cases e1 : (plIdx g.played u).getLast? with
  | none => rw [e1] at e; cases e
  | some i =>
    rw [e1] at e
    dsimp only at e
    cases e2 : g.played[i]? with
    | none => rw [e2] at e; cases e
    | some x =>
      rw [e2] at e
      cases e
      have hx : x ∈ g.played := List.mem_of_getElem? e2
      have hold : ∀ t ∈ (gGet g.undone u).getD [], t.ok g.first.length = true := fun t ht => by
        cases k : gGet g.undone u with
        | none => rw [k] at ht; exact absurd ht List.not_mem_nil
        | some ss => rw [k] at ht; exact h.ud _ (gGet_mem k) t ht
      have holn : ((gGet g.undone u).getD []).length ≤ n := by
        cases k : gGet g.undone u with
        | none => exact Nat.zero_le _
        | some ss => exact h.un _ (gGet_mem k)
      refine ⟨h.row, fun y hy => ?_, fun y hy t ht => ?_, ?_, fun y hy => ?_, ?_⟩
      · rcases List.mem_append.mp hy with k | k
        · exact h.pl y (List.mem_of_mem_take k)
        · exact h.pl y (List.mem_of_mem_drop k)
      · rcases gPut_mem hy with k | k
        · rw [k] at ht
          rcases List.mem_append.mp ht with z | z
          · exact hold t z
          · rw [List.mem_singleton.mp z]
            exact h.pl x hx
        · exact h.ud y k t ht
      · have := h.pn
        show (g.played.take i ++ g.played.drop (i + 1)).length ≤ _
        rw [List.length_append, List.length_take, List.length_drop]
        omega
      · rcases gPut_mem hy with k | k
        · rw [k, List.length_append]
          show _ + 1 ≤ _
          omega
        · exact Nat.le_succ_of_le (h.un y k)
      · have := gPut_len g.undone u ((gGet g.undone u).getD [] ++ [x.2])
        have := h.kn
        show (gPut _ _ _).length ≤ _
        omega
theorem Gs.Ok.redo {n : Nat} {g g' : Gs} (h : g.Ok n) {u : PySem.Str} (e : g.redo u = some g') : g'.Ok (n + 1) := by
  unfold Gs.redo at e
  cases e1 : ((gGet g.undone u).getD []).getLast? with
  | none => rw [e1] at e; cases e
  | some s =>
    rw [e1] at e
    cases e
    have hold : ∀ t ∈ (gGet g.undone u).getD [], t.ok g.first.length = true := fun t ht => by
      cases k : gGet g.undone u with
      | none => rw [k] at ht; exact absurd ht List.not_mem_nil
      | some ss => rw [k] at ht; exact h.ud _ (gGet_mem k) t ht
    have holn : ((gGet g.undone u).getD []).length ≤ n := by
      cases k : gGet g.undone u with
      | none => exact Nat.zero_le _
      | some ss => exact h.un _ (gGet_mem k)
    refine ⟨h.row, fun y hy => ?_, fun y hy t ht => ?_, ?_, fun y hy => ?_, ?_⟩
    · rcases List.mem_append.mp hy with k | k
      · exact h.pl y k
      · rw [List.mem_singleton.mp k]
        exact hold s (List.mem_of_getLast? e1)
    · rcases gPut_mem hy with k | k
      · rw [k] at ht
        exact hold t ((List.dropLast_sublist _).subset ht)
      · exact h.ud y k t ht
    · have := h.pn
      show (g.played ++ [(u, s)]).length ≤ _
      rw [List.length_append]
      show _ + 1 ≤ _
      omega
    · rcases gPut_mem hy with k | k
      · rw [k, List.length_dropLast]
        omega
      · exact Nat.le_succ_of_le (h.un y k)
    · have := gPut_len g.undone u ((gGet g.undone u).getD []).dropLast
      have := h.kn
      show (gPut _ _ _).length ≤ _
      omega
theorem Gs.play_first (g : Gs) (u : PySem.Str) (s : Stp) : (g.play u s).first = g.first := rfl
end Mi
namespace Tc
open PySem PySem.Spec PyProof.Rows L2 He He5 Mi
abbrev CG (K : PySem.W.Frag) : Addr := ga K "Game"
/-! ### games in the heap -/
/-- only F changed; tuples stay -/
def Fr (F : List Addr) (H H' : Hp) : Prop := (∀ b o, H b = some o → b ∉ F → H' b = some o) ∧ ∀ b xs, H b = some (.tup xs) → H' b = some (.tup xs)
theorem Fr.of_same {F : List Addr} {H H' : Hp} (e : Same H H') : Fr F H H' := ⟨fun b o h _ => e _ _ h, fun b xs h => e _ _ h⟩
theorem Fr.trans {F : List Addr} {H H1 H2 : Hp} (a : Fr F H H1) (b : Fr F H1 H2) : Fr F H H2 := ⟨fun c o h n => b.1 c o (a.1 c o h n) n, fun c xs h => b.2 c xs (a.2 c xs h)⟩
theorem Fr.more {F F' : List Addr} {H H' : Hp} (a : Fr F H H') (h : ∀ x ∈ F, x ∈ F') : Fr F' H H' := ⟨fun c o k n => a.1 c o k fun z => n (h c z), a.2⟩
theorem Fr.sx {p : Addr} {H H' : Hp} {o : HO} (e : Sx p H H') (ho : H p = some o) (hn : ∀ xs, o ≠ .tup xs) : Fr [p] H H' :=
  ⟨fun b x h n => e b x h fun z => n (by rw [z]; exact List.mem_singleton.mpr rfl), fun b xs h => e b _ h fun z => by
    rw [z, ho] at h
    exact hn xs (Option.some.inj h)⟩
def PlAt (H : Hp) (v : V) (e : Str × Stp) : Prop := ∃ t st, v = .ref t ∧ H t = some (.tup [.str e.1, st]) ∧ StpAt H st e.2
theorem StpAt.fr {F : List Addr} {H H' : Hp} (e : Fr F H H') {v : V} {s : Stp} (h : StpAt H v s) : StpAt H' v s := let ⟨a, h1, h2⟩ := h; ⟨a, h1, e.2 _ _ h2⟩
theorem PlAt.fr {F : List Addr} {H H' : Hp} (e : Fr F H H') {v : V} {s : Str × Stp} (h : PlAt H v s) : PlAt H' v s := let ⟨t, st, h1, h2, h3⟩ := h; ⟨t, st, h1, e.2 _ _ h2, h3.fr e⟩
def UdAt (Z : List Addr) (H : Hp) (kv : L2.Key × V) (e : Str × List Stp) : Prop := kv.1 = .inr e.1 ∧ ∃ l xs, kv.2 = .ref l ∧ l ∉ Z ∧ H l = some (.lst xs) ∧ Al (StpAt H) xs e.2
/-- the fields of a game -/
def gFs (ft ct pl ud : Addr) : List (Str × V) := [("first", .ref ft), ("cards", .ref ct), ("played", .ref pl), ("undone", .ref ud), ("text", .str "")]
structure GameP (K : PySem.W.Frag) (Z : List Addr) (H : Hp) (p : Addr) (g : Gs) (dx ft ct pl ud : Addr) (ps : List V) (kvs : List (L2.Key × V)) : Prop where
  pz : p ∉ Z
  hp : H p = some (.ins (CG K) dx (gFs ft ct pl ud))
  hf : H ft = some (.tup (g.first.map V.int))
  hc : H ct = some (.tup (g.cur.map V.int))
  lz : pl ∉ Z
  hl : H pl = some (.lst ps)
  al : Al (PlAt H) ps g.played
  uz : ud ∉ Z
  hu : H ud = some (.dK kvs)
  au : Al (UdAt Z H) kvs g.undone
def GameAt (K : PySem.W.Frag) (Z : List Addr) (H : Hp) (p : Addr) (g : Gs) : Prop := ∃ dx ft ct pl ud ps kvs, GameP K Z H p g dx ft ct pl ud ps kvs
theorem UdAt.fr {Z F : List Addr} {H H' : Hp} (e : Fr F H H') (hF : ∀ f ∈ F, f ∈ Z ∨ ∃ C dx fs, H f = some (.ins C dx fs)) {kv : L2.Key × V} {x : Str × List Stp} (h : UdAt Z H kv x) : UdAt Z H' kv x := by
  obtain ⟨h1, l, xs, h2, h3, h4, h5⟩ := h
  refine ⟨h1, l, xs, h2, h3, e.1 _ _ h4 fun hm => ?_, h5.mono fun v c k => k.fr e⟩
  rcases hF l hm with z | ⟨C, dx, fs, z⟩
  · exact h3 z
  · rw [z] at h4
    cases h4
theorem GameP.fr {K : PySem.W.Frag} {Z F : List Addr} {H H' : Hp} {p : Addr} {g : Gs} {dx ft ct pl ud : Addr} {ps : List V} {kvs : List (L2.Key × V)} (h : GameP K Z H p g dx ft ct pl ud ps kvs) (e : Fr F H H')
    (hF : ∀ f ∈ F, f ∈ Z ∨ ∃ C dx fs, H f = some (.ins C dx fs)) (hp : p ∉ F) : GameP K Z H' p g dx ft ct pl ud ps kvs := by
  refine ⟨h.pz, e.1 _ _ h.hp hp, e.2 _ _ h.hf, e.2 _ _ h.hc, h.lz, e.1 _ _ h.hl fun hm => ?_, h.al.mono fun v c k => k.fr e, h.uz, e.1 _ _ h.hu fun hm => ?_, h.au.mono fun v c k => k.fr e hF⟩
  · rcases hF _ hm with z | ⟨C, dx, fs, z⟩
    · exact h.lz z
    · have := h.hl
      rw [z] at this
      cases this
  · rcases hF _ hm with z | ⟨C, dx, fs, z⟩
    · exact h.uz z
    · have := h.hu
      rw [z] at this
      cases this
theorem GameAt.fr {K : PySem.W.Frag} {Z F : List Addr} {H H' : Hp} {p : Addr} {g : Gs} (h : GameAt K Z H p g) (e : Fr F H H') (hF : ∀ f ∈ F, f ∈ Z ∨ ∃ C dx fs, H f = some (.ins C dx fs)) (hp : p ∉ F) : GameAt K Z H' p g :=
  let ⟨dx, ft, ct, pl, ud, ps, kvs, h⟩ := h; ⟨dx, ft, ct, pl, ud, ps, kvs, h.fr e hF hp⟩
theorem GameAt.same {K : PySem.W.Frag} {Z : List Addr} {H H' : Hp} {p : Addr} {g : Gs} (h : GameAt K Z H p g) (e : Same H H') : GameAt K Z H' p g := h.fr (F := []) (Fr.of_same e) (fun f hf => absurd hf List.not_mem_nil) List.not_mem_nil
def ZOk (Z : List Addr) (H : Hp) : Prop := ∀ z ∈ Z, ∃ o, H z = some o
theorem ZOk.new {Z : List Addr} {H : Hp} (h : ZOk Z H) {p : Addr} (hp : H p = none) : p ∉ Z := fun hm => by
  obtain ⟨o, e⟩ := h p hm
  rw [hp] at e
  cases e
theorem ZOk.same {Z : List Addr} {H H' : Hp} (h : ZOk Z H) (e : Same H H') : ZOk Z H' := fun z hz => let ⟨o, h1⟩ := h z hz; ⟨o, e _ _ h1⟩
theorem putF_at {H : Hp} {p : Addr} {o : HO} : upd H p o p = some o := upd_same
section
variable {P : Program} {w : World} {K : PySem.W.Frag} {mg : Str → Option Value} {base : Heap}
def sp_Game_init (K : PySem.W.Frag) : Sp := fun vs H Q _ => ∃ (p dx : Addr) (v : V) (r : Mi.Row) (Z : List Addr), vs = [.ref p, v] ∧ H p = some (.ins (CG K) dx []) ∧ ArrAt K H v r ∧ p ∉ Z ∧ ZOk Z H ∧
  ∀ H', Sx p H H' → GameAt K Z H' p ⟨r, [], []⟩ → Q .non H'
abbrev N_Game_init : List Str := ["self", "start"]
theorem sc_Game_init : FnScope N_Game_init ["self", "start"] d_Game_init.scope := ⟨rfl, rfl, rfl, by decide +kernel, rfl, by decide +kernel, by decide +kernel⟩
theorem ok_Game_init (W : Wd w K mg) : FnR P w K mg base CX0 4 (d_Game_init.at_ K) (sp_Game_init K) := by
  refine fnr0 W.f_Game_init sc_Game_init (fun vs H Q E h => ?_) (fun _ _ _ _ _ _ us hl => match us, hl with | [_, _], _ => rfl) (fun cdv A outer s H vs Q E hr h => ?_)
  · obtain ⟨p, dx, v, r, Z, rfl, hp, hA, hpZ, hZ, q⟩ := h
    rfl
  · obtain ⟨p, dx, v, r, Z, rfl, hp, hA, hpZ, hZ, q⟩ := h
    refine ⟨_, (pss_cons (ps_fld (pv 0) (pe_propR (pv 1) W.c_Arrangement W.p_Arr_row (ok_Arrangement_row W) (hr.mono (by omega))) rfl)
      (pss_cons (ps_fld (pv 0) (pe_propR (pv 1) W.c_Arrangement W.p_Arr_row (ok_Arrangement_row W) (hr.mono (by omega))) rfl)
      (pss_cons (ps_fld (pv 0) (pe_lst pa_nil) rfl)
      (pss_cons (ps_fld (pv 0) pe_dnewK rfl)
      (pss_one (ps_fld (pv 0) pe_str rfl)))))), ?_⟩
    obtain ⟨a, ax, t, rfl, ha, ht⟩ := hA
    have hap : a ≠ p := fun e => by
      rw [e, hp] at ha
      injection (Option.some.inj ha) with _ _ h
      cases h
    have htp : t ≠ p := fun e => by rw [e, hp] at ht; cases ht
    refine ⟨.ref a, rfl, a, ax, _, rfl, ha, a, ax, t, rfl, ha, .ref p, rfl, p, CG K, dx, [], rfl, hp, W.c_Game, W.n_Game_first, by decide, ?_⟩
    refine ⟨.ref a, rfl, a, ax, _, rfl, (upd_ne hap).trans ha, a, ax, t, rfl, (upd_ne hap).trans ha, .ref p, rfl, p, CG K, dx, [("first", .ref t)], rfl, upd_same, W.c_Game, W.n_Game_cards, by simp, ?_⟩
    rw [upd_upd]
    refine ⟨Nat.zero_le _, fun pl hpl => ?_⟩
    have hplp : p ≠ pl := fun e => by rw [← e, upd_same] at hpl; cases hpl
    refine ⟨.ref p, rfl, p, CG K, dx, [("first", .ref t), ("cards", .ref t)], rfl, (upd_ne hplp).trans upd_same, W.c_Game, W.n_Game_played, by simp, ?_⟩
    refine fun ud hud => ?_
    have hudp : p ≠ ud := fun e => by rw [← e, upd_same] at hud; cases hud
    have hudpl : ud ≠ pl := fun e => by rw [e, upd_ne (fun z => hplp z.symm), upd_same] at hud; cases hud
    refine ⟨.ref p, rfl, p, CG K, dx, [("first", .ref t), ("cards", .ref t), ("played", .ref pl)], rfl, (upd_ne hudp).trans upd_same, W.c_Game, W.n_Game_undone, by simp, ?_⟩
    refine ⟨.ref p, rfl, p, CG K, dx, [("first", .ref t), ("cards", .ref t), ("played", .ref pl), ("undone", .ref ud)], rfl, upd_same, W.c_Game, W.n_Game_text, by simp, ?_⟩
    have hplH : H pl = none := by
      rw [upd_ne (fun z => hplp z.symm)] at hpl
      exact hpl
    have hudH : H ud = none := by
      rw [upd_ne (fun z => hudp z.symm), upd_ne hudpl, upd_ne (fun z => hudp z.symm)] at hud
      exact hud
    refine q _ (fun b o hb hn => ?_) ⟨dx, t, t, pl, ud, [], [], hpZ, upd_same, ?_, ?_, hZ.new hplH, ?_, Al.nil, hZ.new hudH, ?_, Al.nil⟩
    · rw [upd_ne hn, upd_ne hn, upd_ne (ne_of_none hb hudH), upd_ne hn, upd_ne (ne_of_none hb hplH), upd_ne hn]
      exact hb
    · rw [upd_ne htp, upd_ne htp, upd_ne (ne_of_none ht hudH), upd_ne htp, upd_ne (ne_of_none ht hplH), upd_ne htp]
      exact ht
    · rw [upd_ne htp, upd_ne htp, upd_ne (ne_of_none ht hudH), upd_ne htp, upd_ne (ne_of_none ht hplH), upd_ne htp]
      exact ht
    · rw [upd_ne (fun z => hplp z.symm), upd_ne (fun z => hplp z.symm), upd_ne (fun z => hudpl z.symm), upd_ne (fun z => hplp z.symm), upd_same]
    · rw [upd_ne (fun z => hudp z.symm), upd_ne (fun z => hudp z.symm), upd_same]
end
end Tc
namespace Mi
/-! ### more about states -/
theorem plIdx_lt {pl : Pl} {u : PySem.Str} {i : Nat} (h : i ∈ plIdx pl u) : i < pl.length := List.mem_range.mp (List.mem_filter.mp h).1
theorem plIdx_len (pl : Pl) (u : PySem.Str) : (plIdx pl u).length ≤ pl.length := by
  unfold plIdx
  exact Nat.le_trans (List.length_filter_le _ _) (by rw [List.length_range]; exact Nat.le_refl _)
theorem plIdx_get {pl : Pl} {u : PySem.Str} {i : Nat} (h : i ∈ plIdx pl u) : ∃ s, pl[i]? = some (u, s) := by
  have h2 := of_decide_eq_true (List.mem_filter.mp h).2
  cases e : pl[i]? with
  | none => rw [e] at h2; cases h2
  | some x =>
    rw [e] at h2
    have : x.1 = u := Option.some.inj h2
    exact ⟨x.2, by rw [← this]⟩
theorem undo_none {g : Gs} {u : PySem.Str} (h : plIdx g.played u = []) : g.undo u = none := by
  unfold Gs.undo
  rw [h]
  rfl
theorem undo_some {g : Gs} {u : PySem.Str} {is : List Nat} {i : Nat} {s : Stp} (h : plIdx g.played u = is ++ [i]) (hs : g.played[i]? = some (u, s)) :
    g.undo u = some ⟨g.first, g.played.take i ++ g.played.drop (i + 1), gPut g.undone u ((gGet g.undone u).getD [] ++ [s])⟩ := by
  unfold Gs.undo
  rw [h, List.getLast?_append]
  simp [hs]
theorem redo_none {g : Gs} {u : PySem.Str} (h : (gGet g.undone u).getD [] = []) : g.redo u = none := by
  unfold Gs.redo
  rw [h]
  rfl
theorem redo_some {g : Gs} {u : PySem.Str} {ss : List Stp} {s : Stp} (h : (gGet g.undone u).getD [] = ss ++ [s]) :
    g.redo u = some ⟨g.first, g.played ++ [(u, s)], gPut g.undone u ss⟩ := by
  unfold Gs.redo
  rw [h, List.getLast?_append]
  simp
theorem split_last {α : Type} : ∀ (l : List α), l = [] ∨ ∃ a b, l = a ++ [b] := fun l => by
  rcases List.eq_nil_or_concat l with h | ⟨a, b, h⟩
  · exact .inl h
  · exact .inr ⟨a, b, by rw [h, List.concat_eq_append]⟩
theorem redo_ok {n : Nat} {g : Gs} (h : g.Ok n) (u : PySem.Str) : (∀ s ∈ (gGet g.undone u).getD [], s.ok g.first.length = true) ∧ ((gGet g.undone u).getD []).length ≤ n := by
  cases k : gGet g.undone u with
  | none => exact ⟨fun t ht => absurd ht List.not_mem_nil, Nat.zero_le _⟩
  | some ss => exact ⟨fun t ht => h.ud _ (gGet_mem k) t ht, h.un _ (gGet_mem k)⟩
end Mi
namespace Tc
open PySem PySem.Spec PyProof.Rows L2 He He5 Mi
/-! ### names -/
abbrev letS : Str := "abcdefghijklmnopqrstuvwxyz"
def inLet (s : Str) : Bool := !(Builtin.Str.occurrences letS s 0 letS.length 1).isEmpty
def cpsStr (s : Str) : List Str := s.cps.toList.map fun c => ⟨#[c]⟩
def isNm (s : Str) : Bool := decide (1 ≤ s.length) && decide (s.length ≤ 8) && (cpsStr s).all inLet
theorem yStr {s : Str} {n : Nat} : ∀ i (H : Hp) x H', (H' = H ∧ ∃ c, s.cps[i]? = some c ∧ x = V.str ⟨#[c]⟩) → i < n → Same H H' ∧ ∃ y, (cpsStr s)[i]? = some y ∧ x = V.str y := fun i H x H' h hi => by
  obtain ⟨rfl, c, h1, rfl⟩ := h
  refine ⟨Same.refl _, ⟨#[c]⟩, ?_, rfl⟩
  unfold cpsStr
  rw [List.getElem?_map, Array.getElem?_toList, h1]
  rfl
theorem cpsStr_len (s : Str) : (cpsStr s).length = s.cps.size := by
  unfold cpsStr
  rw [List.length_map, Array.length_toList]
section
variable {P : Program} {w : World} {K : PySem.W.Frag} {mg : Str → Option Value} {base : Heap}
def sp_is_name : Sp := fun vs H Q _ => ∃ s : Str, vs = [.str s] ∧ s.cps.size ≤ 1000 ∧ s.length ≤ 1000 ∧ ∀ H', Same H H' → Q (.bl (isNm s)) H'
abbrev N_is_name : List Str := ["value", "sign"]
theorem sc_is_name : FnScope N_is_name ["value"] d_is_name.scope := ⟨rfl, rfl, rfl, by decide +kernel, rfl, by decide +kernel, by decide +kernel⟩
theorem ok_is_name (W : Wd w K mg) : FnR P w K mg base CX0 1 (d_is_name.at_ K) sp_is_name := by
  refine fnr0 W.f_is_name sc_is_name (fun vs H Q E h => ?_) (fun _ _ _ _ _ _ us hl => match us, hl with | [_], _ => rfl) (fun cdv A outer s H vs Q E hr h => ?_)
  · obtain ⟨s, rfl, hz, hl, q⟩ := h
    rfl
  · obtain ⟨s, rfl, hz, hl, q⟩ := h
    refine ⟨_, (pss_cons (ps_if (PW.pt (pw_or (pt_not (pt_val (pe_callB call_isi (by rfl) W.z_isinstance boot_isinstance (pa_cons (pv 0) (pa_cons (pe_bltn (v := .ty "str") (u := .type "str") (by rfl) W.z_str (by decide +kernel) rfl) pa_nil))))) (pw_or1 (pt_not (pt_chain op_le op_le pe_int (pe_callB call_len_str (by rfl) W.z_len PySem.boot_len (pa_cons (pv 0) pa_nil)) (pe_glob (v := .int 8) rfl W.i_MOST_LETTERS.choose_spec ⟨_, rfl⟩)))))) (pss_one (ps_ret pe_bl)) pss_nil)
      (pss_one (ps_ret (pe_callB (cr_all rfl) (by rfl) W.z_all (by decide +kernel) (pa_cons (pe_lc (own := [("sign", 1)]) (g := gName 1) rfl sc_is_name.nd (pi_str (pv 0)) (blkOk_by (own := [("sign", 1)]) (N := N_is_name) (sc := d_is_name.scope) (by decide +kernel)) (fun _ _ _ _ _ => (pg_name (i := 1) sc_is_name.nd rfl (by first | exact Or.inl rfl | exact Or.inr rfl))) (fun _ _ _ _ _ => pts_nil) (fun _ _ _ _ _ => (pe_cmpR op_in_str (pv 1) (pe_glob (v := .str "abcdefghijklmnopqrstuvwxyz") rfl W.i_LETTERS.choose_spec ⟨_, rfl⟩) rfl))) pa_nil))))), ?_⟩
    refine ⟨.str s, rfl, .str s, .ty "str", .type "str", .type "str", true, rfl, .ty _, .base (.str s), kit_ty (by decide +kernel), true, rfl, iteN (by decide) ?_⟩
    refine ⟨.str s, rfl, s, rfl, Nat.le_of_lt (small1k hl), 1, _, rfl, rfl, _, rfl, ite2 (fun h1 => ?_) fun h1 => ?_⟩
    · have h1 : 1 ≤ s.length := by
        have := of_decide_eq_true h1
        omega
      refine ⟨_, 8, rfl, rfl, _, rfl, ite2 (fun h2 => ?_) fun h2 => ?_⟩
      · have h2 : ¬ s.length ≤ 8 := fun z => by
          rw [decide_eq_true (by omega)] at h2
          cases h2
        have e : isNm s = false := by
          unfold isNm
          rw [decide_eq_false h2, Bool.and_false, Bool.false_and]
        rw [e] at q
        exact q _ (Same.refl _)
      · have h2 : s.length ≤ 8 := by
          by_cases z : s.length ≤ 8
          · exact z
          · rw [decide_eq_false (by omega)] at h2
            exact absurd rfl h2
        refine ⟨.str s, rfl, s, rfl, fun D hD => lc_enc (walk_str (z := s)) (xs := cpsStr s) (Ex := fun c x _ => x = V.str c) (fun _ => true) (fun c => V.bl (inLet c)) (cpsStr_len s).symm yStr (fun _ _ => True.intro) (by rw [cpsStr_len]; exact hz) hD (fun y x H2 Yc Nn hy hS hE k1 k2 => ?_) fun H2 e2 hD2 => ?_⟩
        · subst hE
          exact ⟨rfl, .str y, rfl, y, letS, rfl, rfl, k1 _ (Same.refl _) rfl⟩
        · have hbs : (((cpsStr s).filter fun _ => true).map fun c => V.bl (inLet c)) = ((cpsStr s).map inLet).map V.bl := by
            rw [List.filter_eq_self.mpr (fun _ _ => rfl), List.map_map]
            rfl
          rw [hbs] at hD2
          have e : isNm s = ((cpsStr s).map inLet).all id := by
            unfold isNm
            rw [decide_eq_true h1, decide_eq_true h2, List.all_map]
            rfl
          rw [e] at q
          exact ⟨D, _, rfl, SqL.of hD2, q _ e2⟩
    · have h1 : ¬ 1 ≤ s.length := fun z => h1 (decide_eq_true (by omega))
      have e : isNm s = false := by
        unfold isNm
        rw [decide_eq_false h1, Bool.false_and, Bool.false_and]
      rw [e] at q
      exact ⟨_, rfl, iteP rfl (q _ (Same.refl _))⟩
theorem c_is_name (W : Wd w K mg) : Cal P w K mg base CX0 1 "is_name" (d_is_name.at_ K) sp_is_name := ⟨ok_is_name W, W.g_is_name, W.f_is_name.kp⟩
end
end Tc
namespace Tc
open PySem PySem.Spec PyProof.Rows L2 He He5 Mi
section
variable {P : Program} {w : World} {K : PySem.W.Frag} {mg : Str → Option Value} {base : Heap}
def nmOk (s : Str) : Prop := s.cps.size ≤ 1000 ∧ s.length ≤ 1000 ∧ isNm s = true
def sp_check_name : Sp := fun vs H Q _ => ∃ s : Str, vs = [.str s] ∧ nmOk s ∧ ∀ H', Same H H' → Q .non H'
abbrev N_check_name : List Str := ["user"]
theorem sc_check_name : FnScope N_check_name ["user"] d_check_name.scope := ⟨rfl, rfl, rfl, by decide +kernel, rfl, by decide +kernel, by decide +kernel⟩
theorem ok_check_name (W : Wd w K mg) : FnR P w K mg base CX0 2 (d_check_name.at_ K) sp_check_name := by
  refine fnr0 W.f_check_name sc_check_name (fun vs H Q E h => ?_) (fun _ _ _ _ _ _ us hl => match us, hl with | [_], _ => rfl) (fun cdv A outer s H vs Q E hr h => ?_)
  · obtain ⟨s, rfl, hs, q⟩ := h
    rfl
  · obtain ⟨s, rfl, hs, q⟩ := h
    refine ⟨_, (pss_one (ps_if (pt_not (pt_val (pe_c (c_is_name W) (hr.mono (by omega)) pass0 (pa_cons (pv 0) pa_nil)))) (pss_one (ps_never)) pss_nil)), ?_⟩
    refine ⟨.str s, rfl, s, rfl, hs.1, hs.2.1, fun H1 e1 => ⟨_, rfl, iteN (by rw [hs.2.2]; decide) (q _ e1)⟩⟩
theorem c_check_name (W : Wd w K mg) : Cal P w K mg base CX0 2 "check_name" (d_check_name.at_ K) sp_check_name := ⟨ok_check_name W, W.g_check_name, W.f_check_name.kp⟩
/-- an instance of Game that holds the row r -/
def CurAt (K : PySem.W.Frag) (H : Hp) (p : Addr) (r : Mi.Row) : Prop := ∃ dx ft ct pl ud, H p = some (.ins (CG K) dx (gFs ft ct pl ud)) ∧ H ct = some (.tup (r.map V.int))
theorem GameAt.curAt {K : PySem.W.Frag} {Z : List Addr} {H : Hp} {p : Addr} {g : Gs} (h : GameAt K Z H p g) : CurAt K H p g.cur := let ⟨dx, ft, ct, pl, ud, _, _, h⟩ := h; ⟨dx, ft, ct, pl, ud, h.hp, h.hc⟩
def sp_Game_row (K : PySem.W.Frag) : Sp := fun vs H Q _ => ∃ (p : Addr) (r : Mi.Row), vs = [.ref p] ∧ CurAt K H p r ∧ vrB r = true ∧ ∀ H' v, Same H H' → ArrAt K H' v r → Q v H'
abbrev N_Game_row : List Str := ["self"]
theorem sc_Game_row : FnScope N_Game_row ["self"] d_Game_row.scope := ⟨rfl, rfl, rfl, by decide +kernel, rfl, by decide +kernel, by decide +kernel⟩
theorem ok_Game_row (W : Wd w K mg) : FnR P w K mg base CX0 5 (d_Game_row.at_ K) (sp_Game_row K) := by
  refine fnr0 W.f_Game_row sc_Game_row (fun vs H Q E h => ?_) (fun _ _ _ _ _ _ us hl => match us, hl with | [_], _ => rfl) (fun cdv A outer s H vs Q E hr h => ?_)
  · obtain ⟨p, r, rfl, ⟨dx, ft, ct, pl, ud, hp, hc⟩, hr1, q⟩ := h
    rfl
  · obtain ⟨p, r, rfl, ⟨dx, ft, ct, pl, ud, hp, hc⟩, hr1, q⟩ := h
    refine ⟨_, (pss_one (ps_ret (StX.pe_makeR W.k_Arrangement (ok_Arrangement_init W) (hr.mono (by omega)) rfl W.g_Arrangement pass0 (pa_cons (pe_fld (pv 0) rfl) pa_nil)))), ?_⟩
    have hV := vrB_Vr hr1
    refine ⟨.ref p, rfl, p, CG K, dx, _, _, rfl, hp, W.c_Game, W.n_Game_cards, rfl, fun x ax hx hax hne => ?_⟩
    have hxd : x ≠ ax := fun e => hne e.symm
    refine ⟨x, ax, .ref ct, r, rfl, upd_same, ⟨ct, rfl, .inr ?_⟩, isRow_ok hr1, hV.pos, Nat.le_trans hV.most (by decide), fun H' h1 h2 => ⟨rfl, q H' _ (fun b o hb => ?_) ?_⟩⟩
    · rw [upd_ne (ne_of_none hc hx), upd_ne (ne_of_none hc hax)]
      exact hc
    · have n1 : b ≠ x := ne_of_none hb hx
      have n2 : b ≠ ax := ne_of_none hb hax
      exact h1 b o (by rw [upd_ne n1, upd_ne n2]; exact hb) n1
    · obtain ⟨tt, k1, k2⟩ := h2
      exact ⟨x, ax, tt, rfl, k1, k2⟩
def sp_Game_remaining (K : PySem.W.Frag) : Sp := fun vs H Q _ => ∃ (p : Addr) (r : Mi.Row), vs = [.ref p] ∧ CurAt K H p r ∧ Vr r ∧ ∀ H', Same H H' → Q (.int (fewest r)) H'
abbrev N_Game_remaining : List Str := ["self"]
theorem sc_Game_remaining : FnScope N_Game_remaining ["self"] d_Game_remaining.scope := ⟨rfl, rfl, rfl, by decide +kernel, rfl, by decide +kernel, by decide +kernel⟩
theorem ok_Game_remaining (W : Wd w K mg) : FnR P w K mg base CX0 3 (d_Game_remaining.at_ K) (sp_Game_remaining K) := by
  refine fnr0 W.f_Game_remaining sc_Game_remaining (fun vs H Q E h => ?_) (fun _ _ _ _ _ _ us hl => match us, hl with | [_], _ => rfl) (fun cdv A outer s H vs Q E hr h => ?_)
  · obtain ⟨p, r, rfl, ⟨dx, ft, ct, pl, ud, hp, hc⟩, hV, q⟩ := h
    rfl
  · obtain ⟨p, r, rfl, ⟨dx, ft, ct, pl, ud, hp, hc⟩, hV, q⟩ := h
    refine ⟨_, (pss_one (ps_ret (pe_c (c_fewest_of W) (hr.mono (by omega)) pass0 (pa_cons (pe_fld (pv 0) rfl) pa_nil)))), ?_⟩
    exact ⟨.ref p, rfl, p, CG K, dx, _, _, rfl, hp, W.c_Game, W.n_Game_cards, rfl, ct, r, rfl, hc, hV, q⟩
theorem gl5 (a b c d : Addr) : (gFs a b c d).length < 1000 := (by decide : 5 < 1000)
theorem curOf_snoc (f : Mi.Row) (pl : Pl) (i : Nat) {e : Str × Stp} (h : pl[i]? = some e) : curOf f (pl.take (i + 1)) = stp (curOf f (pl.take i)) e.2 := by
  unfold curOf
  rw [List.take_add_one, h, List.foldl_append]
  rfl
def sp_go_to (K : PySem.W.Frag) : Sp := fun vs H Q _ => ∃ (p L dx ft ct pl0 ud : Addr) (ps : List V) (f : Mi.Row) (pl : Pl), vs = [.ref p, .ref L] ∧ H p = some (.ins (CG K) dx (gFs ft ct pl0 ud)) ∧ H ft = some (.tup (f.map V.int)) ∧ vrB f = true ∧
  H L = some (.lst ps) ∧ Al (PlAt H) ps pl ∧ (∀ e ∈ pl, e.2.ok f.length = true) ∧
  ∀ H' ct', Sx p H H' → H' p = some (.ins (CG K) dx (gFs ft ct' L ud)) → H' ct' = some (.tup ((curOf f pl).map V.int)) → Q .non H'
abbrev N_Game_go_to : List Str := ["self", "played", "cards", "user", "step"]
theorem sc_Game_go_to : FnScope N_Game_go_to ["self", "played"] d_Game_go_to.scope := ⟨rfl, rfl, rfl, by decide +kernel, rfl, by decide +kernel, by decide +kernel⟩
theorem ok_Game_go_to (W : Wd w K mg) : FnR P w K mg base CX0 3 (d_Game_go_to.at_ K) (sp_go_to K) := by
  refine fnr0 W.f_Game_go_to sc_Game_go_to (fun vs H Q E h => ?_) (fun _ _ _ _ _ _ us hl => match us, hl with | [_, _], _ => rfl) (fun cdv A outer s H vs Q E hr h => ?_)
  · obtain ⟨p, L, dx, ft, ct, pl0, ud, ps, f, pl, rfl, hp, hf, hfv, hL, hA, hok, q⟩ := h
    rfl
  · obtain ⟨p, L, dx, ft, ct, pl0, ud, ps, f, pl, rfl, hp, hf, hfv, hL, hA, hok, q⟩ := h
    refine ⟨_, (pss_cons (ps_set (i := 2) sc_Game_go_to.nd rfl (by first | exact Or.inl rfl | exact Or.inr rfl) (pe_fld (pv 0) rfl))
      (pss_cons (ps_for PassesOwn.never rfl (pi_list (pv 1)) (pg_tup rfl (pgs_cons (pg_name (i := 3) sc_Game_go_to.nd rfl (by first | exact Or.inl rfl | exact Or.inr rfl)) (pgs_cons (pg_name (i := 4) sc_Game_go_to.nd rfl (by first | exact Or.inl rfl | exact Or.inr rfl)) pgs_nil))) (pss_one (ps_set (i := 2) sc_Game_go_to.nd rfl (by first | exact Or.inl rfl | exact Or.inr rfl) (pe_c (c_stepped W) (hr.mono (by omega)) pass0 (pa_cons (pv 2) (pa_cons (pv 4) pa_nil))))))
      (pss_cons (ps_fld (pv 0) (pe_callTy call_tuple_of (by rfl) W.z_tuple boot_tuple (pa_cons (pv 2) pa_nil)) rfl)
      (pss_one (ps_fld (pv 0) (pv 1) rfl))))), ?_⟩
    have fin : ∀ (Hk : Hp) (t : Addr), Same H Hk → Hk t = some (.tup ((curOf f pl).map V.int)) → Q .non (upd Hk p (.ins (CG K) dx (gFs ft t L ud))) := fun Hk t e ht => by
      refine q _ t (fun b o hb hn => by rw [upd_ne hn]; exact e _ _ hb) upd_same ?_
      rw [upd_ne (fun z => by rw [z, e _ _ hp] at ht; cases ht)]
      exact ht
    refine ⟨.ref p, rfl, p, CG K, dx, _, _, rfl, hp, W.c_Game, W.n_Game_first, rfl, ?_⟩
    refine ⟨.ref L, rfl, L, rfl, ⟨_, SqL.of hL⟩, for_list (K := K) (a := L) (xs := ps) (fun i σ Hk => ∃ v y3 y4, σ = [some (.ref p), some (.ref L), some v, y3, y4] ∧ SeqH Hk v (curOf f (pl.take i)) ∧ Same H Hk) ⟨.ref ft, _, _, rfl, ⟨ft, rfl, .inr hf⟩, Same.refl _⟩ (fun i σ Hk _ h => ?_) (fun i x σ Hk hx hI => ?_) (fun σ Hk hI => ?_)⟩
    · obtain ⟨_, _, _, _, _, e⟩ := h
      exact SqL.of (e _ _ hL)
    · obtain ⟨v, y3, y4, rfl, hS, eK⟩ := hI
      have hi : i < pl.length := by
        rw [← hA.1]
        exact (List.getElem?_eq_some_iff.mp hx).1
      have he : pl[i]? = some pl[i] := List.getElem?_eq_getElem hi
      obtain ⟨t, st, rfl, ht, hst⟩ := hA.2 i x pl[i] hx he
      have hcv := curOf_ok hfv (pl.take i) fun e hm => hok e (List.mem_of_mem_take hm)
      refine ⟨t, _, rfl, SqT.of (eK _ _ ht), rfl, _, _, rfl, _, _, rfl, rfl, ?_⟩
      refine ⟨v, rfl, st, rfl, v, st, curOf f (pl.take i), pl[i].2, rfl, hS.seq, vrB_Vr hcv.1, hst.same eK, by rw [hcv.2]; exact hok _ (List.getElem_mem hi), fun H' l e hn hl => ?_⟩
      refine ⟨_, _, _, rfl, ⟨l, rfl, .inl ?_⟩, eK.trans e⟩
      rw [curOf_snoc f pl i he]
      exact hl
    · obtain ⟨v, y3, y4, rfl, hS, eK⟩ := hI
      have hend : SeqH Hk v (curOf f pl) := by
        have e : pl.take ps.length = pl := by rw [hA.1, List.take_length]
        rw [e] at hS
        exact hS
      obtain ⟨c, rfl, hc | hc⟩ := hend
      · refine ⟨.ref c, rfl, c, _, rfl, .inl ⟨SqL.of hc, fun t ht => ?_⟩⟩
        have e2 := eK.trans (same_new (o := .tup ((curOf f pl).map V.int)) ht)
        refine ⟨.ref p, rfl, p, CG K, dx, _, rfl, e2 _ _ hp, W.c_Game, W.n_Game_cards, gl5 _ _ _ _, ?_⟩
        refine ⟨.ref L, rfl, .ref p, rfl, p, CG K, dx, _, rfl, upd_same, W.c_Game, W.n_Game_played, gl5 _ _ _ _, ?_⟩
        rw [upd_upd]
        exact fin _ t e2 upd_same
      · refine ⟨.ref c, rfl, c, _, rfl, .inr ⟨SqT.of hc, ?_⟩⟩
        refine ⟨.ref p, rfl, p, CG K, dx, _, rfl, eK _ _ hp, W.c_Game, W.n_Game_cards, gl5 _ _ _ _, ?_⟩
        refine ⟨.ref L, rfl, .ref p, rfl, p, CG K, dx, _, rfl, upd_same, W.c_Game, W.n_Game_played, gl5 _ _ _ _, ?_⟩
        rw [upd_upd]
        exact fin Hk c eK hc
end
end Tc
namespace Tc
open PySem PySem.Spec PyProof.Rows L2 He He5 Mi
theorem Sx.fr {p : Addr} {H H' : Hp} {C dx : Addr} {fs : List (Str × V)} (e : Sx p H H') (ho : H p = some (.ins C dx fs)) : Fr [p] H H' := Fr.sx e ho fun xs h => nomatch h
theorem put_ud (ft ct pl ud D : Addr) : putF "undone" (V.ref D) (gFs ft ct pl ud) = gFs ft ct pl D := by rfl
theorem key_eq {k : L2.Key} {u x : Str} (h : k = .inr x) : (decide (k = .inr u)) = decide (x = u) := by
  rw [h]
  by_cases e : x = u
  · rw [e]
    simp
  · rw [decide_eq_false e, decide_eq_false (fun z => e (Sum.inr.inj z))]
theorem al_any {Z : List Addr} {H : Hp} {u : Str} : ∀ {kvs : List (L2.Key × V)} {ud : Ud}, Al (UdAt Z H) kvs ud → (kvs.any fun kv => decide (kv.1 = .inr u)) = (ud.any fun e => decide (e.1 = u))
  | [], [], _ => rfl
  | [], _ :: _, h => by cases h.1
  | _ :: _, [], h => by cases h.1
  | kv :: kvs, e :: ud, h => by
    have h0 : UdAt Z H kv e := h.2 0 kv e rfl rfl
    have h1 : Al (UdAt Z H) kvs ud := ⟨Nat.succ.inj h.1, fun i v c e1 e2 => h.2 (i + 1) v c e1 e2⟩
    rw [List.any_cons, List.any_cons, al_any h1, key_eq h0.1]
theorem al_put {Z : List Addr} {H : Hp} {u : Str} {v : V} {ss : List Stp} {kvs : List (L2.Key × V)} {ud : Ud} (h : Al (UdAt Z H) kvs ud) (hv : UdAt Z H (.inr u, v) (u, ss)) : Al (UdAt Z H) (putK kvs (.inr u) v) (gPut ud u ss) := by
  unfold putK gPut
  rw [al_any h]
  by_cases c : (ud.any fun e => decide (e.1 = u)) = true
  · rw [if_pos c, if_pos c]
    refine ⟨by rw [List.length_map, List.length_map, h.1], fun i x y e1 e2 => ?_⟩
    rw [List.getElem?_map] at e1 e2
    cases k1 : kvs[i]? with
    | none => rw [k1] at e1; cases e1
    | some kv =>
      cases k2 : ud[i]? with
      | none => rw [k2] at e2; cases e2
      | some e =>
        rw [k1] at e1
        rw [k2] at e2
        have h0 := h.2 i kv e k1 k2
        have e1 : (if kv.1 = .inr u then (kv.1, v) else kv) = x := Option.some.inj e1
        have e2 : (if e.1 = u then (e.1, ss) else e) = y := Option.some.inj e2
        by_cases z : e.1 = u
        · have z2 : kv.1 = .inr u := by rw [h0.1, z]
          rw [if_pos z2] at e1
          rw [if_pos z] at e2
          rw [← e1, ← e2, z2, z]
          exact hv
        · have z2 : ¬ kv.1 = .inr u := fun q => z (Sum.inr.inj (h0.1.symm.trans q))
          rw [if_neg z2] at e1
          rw [if_neg z] at e2
          rw [← e1, ← e2]
          exact h0
  · rw [if_neg c, if_neg c]
    exact h.snoc hv
theorem al_get {Z : List Addr} {H : Hp} {u : Str} : ∀ {kvs : List (L2.Key × V)} {ud : Ud}, Al (UdAt Z H) kvs ud → match gGet ud u with
    | none => valV kvs (.inr u) = none
    | some ss => ∃ v, valV kvs (.inr u) = some v ∧ UdAt Z H (.inr u, v) (u, ss)
  | [], [], _ => rfl
  | [], _ :: _, h => by cases h.1
  | _ :: _, [], h => by cases h.1
  | kv :: kvs, e :: ud, h => by
    have h0 : UdAt Z H kv e := h.2 0 kv e rfl rfl
    have h1 : Al (UdAt Z H) kvs ud := ⟨Nat.succ.inj h.1, fun i v c e1 e2 => h.2 (i + 1) v c e1 e2⟩
    have ih := al_get (u := u) h1
    by_cases z : e.1 = u
    · have z2 : kv.1 = .inr u := by rw [h0.1, z]
      have e1 : gGet (e :: ud) u = some e.2 := by simp [gGet, List.find?_cons, z]
      rw [e1]
      refine ⟨kv.2, valV_pos z2, ?_⟩
      obtain ⟨a1, a2⟩ := h0
      exact ⟨rfl, a2⟩
    · have z2 : ¬ kv.1 = .inr u := fun q => z (Sum.inr.inj (h0.1.symm.trans q))
      have e1 : gGet (e :: ud) u = gGet ud u := by simp [gGet, List.find?_cons, z]
      rw [e1, valV_neg z2]
      exact ih
theorem ins1 {Z : List Addr} {H : Hp} {p C dx : Addr} {fs : List (Str × V)} (h : H p = some (.ins C dx fs)) : ∀ f ∈ [p], f ∈ Z ∨ ∃ C dx fs, H f = some (.ins C dx fs) := fun f hf => by
  rw [List.mem_singleton.mp hf]
  exact .inr ⟨_, _, _, h⟩
theorem game_end {K : PySem.W.Frag} {Z : List Addr} {H H1 H3 H' : Hp} {p D L dx ft ct pl ud ct' : Addr} {g : Gs} {ps ps' : List V} {kvs kvs' : List (L2.Key × V)} {pl' : Pl} {ud' : Ud} (G : GameP K Z H p g dx ft ct pl ud ps kvs)
    (e1 : Same H H1) (hD : H D = none) (hD1 : H1 D = some (.dK kvs')) (hZ : ZOk Z H) (au' : Al (UdAt Z H1) kvs' ud') (e3 : Sx p H1 H3) (hp3 : H3 p = some (.ins (CG K) dx (gFs ft ct pl D))) (hL1 : H1 L = none) (hL3 : H3 L = some (.lst ps')) (A3 : Al (PlAt H3) ps' pl')
    (hx : Sx p H3 H') (hp' : H' p = some (.ins (CG K) dx (gFs ft ct' L D))) (hc' : H' ct' = some (.tup ((curOf g.first pl').map V.int))) : GameAt K Z H' p ⟨g.first, pl', ud'⟩ := by
  have hDp : D ≠ p := fun e => by rw [e, G.hp] at hD; cases hD
  have hftp : ft ≠ p := fun e => by have := G.hf; rw [e, G.hp] at this; cases this
  have hLp : L ≠ p := fun e => by rw [e, e1 _ _ G.hp] at hL1; cases hL1
  have hxD : ∀ b o, H1 b = some o → b ≠ p → H' b = some o := fun b o hb hn => hx b o (e3 b o hb hn) hn
  have fr1 : Fr [p] H1 H' := (e3.fr (e1 _ _ G.hp)).trans (hx.fr hp3)
  exact ⟨dx, ft, ct', L, D, ps', kvs', G.pz, hp', hxD _ _ (e1 _ _ G.hf) hftp, hc', hZ.new (e1.free hL1), hx _ _ hL3 hLp, A3.mono fun x c k => k.fr (hx.fr hp3), hZ.new hD, hxD _ _ hD1 hDp, au'.mono fun x c k => k.fr fr1 (ins1 (e1 _ _ G.hp))⟩
section
variable {P : Program} {w : World} {K : PySem.W.Frag} {mg : Str → Option Value} {base : Heap}
def sp_play (K : PySem.W.Frag) : Sp := fun vs H Q _ => ∃ (p : Addr) (u : Str) (v : V) (s : Stp) (g : Gs) (Z : List Addr) (n : Nat), vs = [.ref p, .str u, v] ∧ GameAt K Z H p g ∧ ZOk Z H ∧ g.Ok n ∧ n ≤ 900 ∧ StpAt H v s ∧ s.ok g.first.length = true ∧
  ∀ H', Sx p H H' → GameAt K Z H' p (g.play u s) → Q .non H'
abbrev N_Game_play : List Str := ["self", "user", "step"]
theorem sc_Game_play : FnScope N_Game_play ["self", "user", "step"] d_Game_play.scope := ⟨rfl, rfl, rfl, by decide +kernel, rfl, by decide +kernel, by decide +kernel⟩
theorem ok_Game_play (W : Wd w K mg) : FnR P w K mg base CX0 4 (d_Game_play.at_ K) (sp_play K) := by
  refine fnr0 W.f_Game_play sc_Game_play (fun vs H Q E h => ?_) (fun _ _ _ _ _ _ us hl => match us, hl with | [_, _, _], _ => rfl) (fun cdv A outer s H vs Q E hr h => ?_)
  · obtain ⟨p, u, v, s, g, Z, n, rfl, ⟨dx, ft, ct, pl, ud, ps, kvs, G⟩, hZ, hG, hn, hs, hok, q⟩ := h
    rfl
  · obtain ⟨p, u, v, s, g, Z, n, rfl, ⟨dx, ft, ct, pl, ud, ps, kvs, G⟩, hZ, hG, hn, hs, hok, q⟩ := h
    refine ⟨_, (pss_cons (ps_fld (pv 0) (pe_dstar (pe_fld (pv 0) rfl) (pps_cons (pv 1) (pe_lst pa_nil) pps_nil)) rfl)
      (pss_one (ps_expr (pe_methR (pv 0) W.c_Game W.m_Game_go_to (ok_Game_go_to W) (hr.mono (by omega)) pass0 (pa_cons (pe_lst (StX.pa_star (pe_fld (pv 0) rfl) (pa_cons (pe_tup (pa_cons (pv 1) (pa_cons (pv 2) pa_nil))) pa_nil))) pa_nil))))), ?_⟩
    refine fun D hD => ⟨.ref p, rfl, p, CG K, dx, _, _, rfl, (upd_ne (ne_of_none G.hp hD)).trans G.hp, W.c_Game, W.n_Game_undone, rfl, ud, kvs, rfl, (upd_ne (ne_of_none G.hu hD)).trans G.hu, ne_of_none G.hu hD, upd_same, fun q0 hq hnd => ?_⟩
    rw [upd_upd] at hq ⊢
    have hqD : q0 ≠ D := fun e => by rw [e, upd_same] at hq; cases hq
    have hqH : H q0 = none := by rw [upd_ne hqD] at hq; exact hq
    refine ⟨.str u, rfl, Nat.zero_le _, fun l hl => ?_⟩
    have hlq : l ≠ q0 := fun e => by rw [e, upd_same] at hl; cases hl
    have hlD : l ≠ D := fun e => by rw [e, upd_ne (Ne.symm hqD), upd_same] at hl; cases hl
    have hlH : H l = none := by rw [upd_ne hlq, upd_ne hlD] at hl; exact hl
    have hkl : kvs.length + 1 ≤ sizeLine := by
      have := small1k (n := kvs.length) (by rw [G.au.1]; have := hG.kn; omega)
      omega
    refine ⟨(upd_ne (Ne.symm hlq)).trans upd_same, (upd_ne (Ne.symm hlD)).trans ((upd_ne (Ne.symm hqD)).trans upd_same), hqD, hkl, .inr u, .ref l, rfl, ?_⟩
    generalize hH1 : upd (upd (upd (upd (upd H D (HO.dK kvs)) q0 (HO.dK [])) l (HO.lst [])) q0 (HO.dK [(Sum.inr u, V.ref l)])) D (HO.dK (putK kvs (Sum.inr u) (V.ref l))) = H1
    have e1 : Same H H1 := by
      rw [← hH1]
      exact same_mut (same_mut (same_mut (same_mut (same_new hD) hqH) hlH) hqH) hD
    have hD1 : H1 D = some (.dK (putK kvs (.inr u) (.ref l))) := by rw [← hH1, upd_same]
    have hl1 : H1 l = some (.lst []) := by rw [← hH1, upd_ne hlD, upd_ne hlq, upd_same]
    clear hH1 hq hl
    refine ⟨.ref p, rfl, p, CG K, dx, _, rfl, e1 _ _ G.hp, W.c_Game, W.n_Game_undone, gl5 _ _ _ _, ?_⟩
    rw [put_ud]
    have hlp : pl ≠ p := fun e => by have := G.hl; rw [e, G.hp] at this; cases this
    have hDp : D ≠ p := fun e => by rw [e, G.hp] at hD; cases hD
    have hlp' : l ≠ p := fun e => by rw [e, G.hp] at hlH; cases hlH
    have hftp : ft ≠ p := fun e => by have := G.hf; rw [e, G.hp] at this; cases this
    refine ⟨.ref p, rfl, p, dx, _, rfl, upd_same, rfl, .ref p, rfl, p, CG K, dx, _, _, rfl, upd_same, W.c_Game, W.n_Game_played, rfl, pl, ps, rfl, .inr (SqL.of ((upd_ne hlp).trans (e1 _ _ G.hl))), ?_⟩
    refine ⟨.str u, rfl, v, rfl, by show 2 ≤ sizeLine; decide, fun t ht => ?_⟩
    have htp : t ≠ p := fun e => by rw [e, upd_same] at ht; cases ht
    have ht1 : H1 t = none := by rw [upd_ne htp] at ht; exact ht
    have hpl : (ps ++ [V.ref t]).length ≤ sizeLine := by
      rw [List.length_append]
      have h1 := small1k (n := ps.length + 1) (by rw [G.al.1]; have := hG.pn; omega)
      exact Nat.le_of_lt h1
    refine ⟨hpl, fun L hL => ?_⟩
    have hLt : L ≠ t := fun e => by rw [e, upd_same] at hL; cases hL
    have hLp : L ≠ p := fun e => by rw [e, upd_ne (Ne.symm htp), upd_same] at hL; cases hL
    have hL1 : H1 L = none := by rw [upd_ne hLt, upd_ne hLp] at hL; exact hL
    generalize hH3 : upd (upd (upd H1 p (HO.ins (CG K) dx (gFs ft ct pl D))) t (HO.tup [V.str u, v])) L (HO.lst (ps ++ [V.ref t])) = H3
    have e3 : Sx p H1 H3 := fun b o hb hn => by
      rw [← hH3, upd_ne (ne_of_none hb hL1), upd_ne (ne_of_none hb ht1), upd_ne hn]
      exact hb
    have hp3 : H3 p = some (.ins (CG K) dx (gFs ft ct pl D)) := by rw [← hH3, upd_ne (Ne.symm hLp), upd_ne (Ne.symm htp), upd_same]
    have hL3 : H3 L = some (.lst (ps ++ [V.ref t])) := by rw [← hH3, upd_same]
    have ht3 : H3 t = some (.tup [V.str u, v]) := by rw [← hH3, upd_ne (Ne.symm hLt), upd_same]
    have fr3 : Fr [p] H H3 := (Fr.of_same e1).more (fun _ h => absurd h List.not_mem_nil) |>.trans (e3.fr (e1 _ _ G.hp))
    refine ⟨p, L, dx, ft, ct, pl, D, ps ++ [.ref t], g.first, g.played ++ [(u, s)], rfl, hp3, e3 _ _ (e1 _ _ G.hf) hftp, hG.row, hL3, (G.al.mono fun x c k => k.fr fr3).snoc ⟨t, v, rfl, ht3, hs.fr fr3⟩, (hG.play u hok).pl, fun H' ct' hx hp' hc' => ?_⟩
    refine q H' (fun b o hb hn => hx b o (e3 b o (e1 _ _ hb) hn) hn) (game_end G e1 hD hD1 hZ (al_put (G.au.mono fun x c k => k.fr (Fr.of_same (F := []) e1) fun f hf => absurd hf List.not_mem_nil) ⟨rfl, l, [], rfl, hZ.new hlH, hl1, Al.nil⟩) e3 hp3 hL1 hL3 ((G.al.mono fun x c k => k.fr fr3).snoc ⟨t, v, rfl, ht3, hs.fr fr3⟩) hx hp' hc')
end
end Tc
namespace Tc
open PySem PySem.Spec PyProof.Rows L2 He He5 Mi
/-! ### lists of steps as data -/
theorem dp_steps {K : PySem.W.Frag} {H : Hp} : ∀ {xs : List V} {ss : List Stp}, Al (StpAt H) xs ss → DpAll K H xs (ss.map encS)
  | [], [], _ => .nil
  | [], _ :: _, h => by cases h.1
  | _ :: _, [], h => by cases h.1
  | x :: xs, s :: ss, h => .cons (dp_S (h.2 0 x s rfl rfl)) (dp_steps ⟨Nat.succ.inj h.1, fun i v c e1 e2 => h.2 (i + 1) v c e1 e2⟩)
theorem lay_S (s : Stp) : (encS s).canLay0 = true := by
  have h1 : PyData.strOk "turn" = true := by decide +kernel
  have h2 : PyData.strOk "exchange" = true := by decide +kernel
  have h3 : PyData.strOk "cross" = true := by decide +kernel
  cases s <;> simp [encS, PyData.canLay0, PyData.canLayAll0, h1, h2, h3]
theorem lay_steps : ∀ ss : List Stp, PyData.canLayAll0 (ss.map encS) = true
  | [] => by simp only [List.map_nil, PyData.canLayAll0]
  | s :: ss => by simp only [List.map_cons, PyData.canLayAll0, lay_S, lay_steps ss, Bool.and_self]
theorem dep_steps : ∀ ss : List Stp, PyData.depthAll (ss.map encS) ≤ 1
  | [] => by simp only [List.map_nil, PyData.depthAll, Nat.zero_le]
  | s :: ss => by
    have ih := dep_steps ss
    simp only [List.map_cons, PyData.depthAll, enc_dep]
    omega
theorem sh_steps (ss : List Stp) : SeqAt.shaped (.list (ss.map encS)) = true := by
  have h := dep_steps ss
  unfold SeqAt.shaped
  simp only [PyData.canLay0, PyData.depth, lay_steps, Bool.true_and]
  exact decide_eq_true (by omega)
theorem eqv_none (ds : List PyData) : PyData.eqv (.list ds) (.list []) = decide (ds = []) := by
  cases ds with
  | nil => simp [PyData.eqv, PyData.eqvAll]
  | cons d ds => simp [PyData.eqv, PyData.eqvAll]
theorem sh_nil : SeqAt.shaped (.list []) = true := sh_listI []
section
variable {P : Program} {w : World} {K : PySem.W.Frag} {mg : Str → Option Value} {base : Heap}
def sp_moveK (K : PySem.W.Frag) : Sp := fun vs H Q E => ∃ u, nmOk u ∧ ∃ (p : Addr) (u2 : Str) (v : V) (s : Stp) (g : Gs) (Z : List Addr) (n : Nat), vs = [.ref p, .str u, v] ∧ GameAt K Z H p g ∧ ZOk Z H ∧ g.Ok n ∧ n ≤ 900 ∧ StpAt H v s ∧ s.ok g.first.length = true ∧
  ∀ H', Sx p H H' → GameAt K Z H' p (g.play u s) → Q .non H'
abbrev N_Game_move : List Str := ["self", "user", "step"]
theorem sc_Game_move : FnScope N_Game_move ["self", "user", "step"] d_Game_move.scope := ⟨rfl, rfl, rfl, by decide +kernel, rfl, by decide +kernel, by decide +kernel⟩
theorem ok_Game_move (W : Wd w K mg) : FnR P w K mg base CX0 5 (d_Game_move.at_ K) (sp_moveK K) := by
  refine fnr0 W.f_Game_move sc_Game_move (fun vs H Q E h => ?_) (fun _ _ _ _ _ _ us hl => match us, hl with | [_, _, _], _ => rfl) (fun cdv A outer s H vs Q E hr h => ?_)
  · obtain ⟨u, hu, p, _, v, s, g, Z, n, rfl, hG, hZ, hO, hn, hs, hok, q⟩ := h
    rfl
  · obtain ⟨u, hu, p, _, v, s, g, Z, n, rfl, hG, hZ, hO, hn, hs, hok, q⟩ := h
    refine ⟨_, (pss_cons (ps_expr (pe_c (c_check_name W) (hr.mono (by omega)) pass0 (pa_cons (pv 1) pa_nil)))
      (pss_cons (ps_if (pt_not (pt_val (pe_c (c_is_free_step W) (hr.mono (by omega)) pass0 (pa_cons (pe_callB call_len_seq (by rfl) W.z_len PySem.boot_len (pa_cons (pe_fld (pv 0) rfl) pa_nil)) (pa_cons (pv 2) pa_nil))))) (pss_one (ps_never)) pss_nil)
      (pss_one (ps_expr (pe_methR (pv 0) W.c_Game W.m_Game_play (ok_Game_play W) (hr.mono (by omega)) pass0 (pa_cons (pv 1) (pa_cons (pv 2) pa_nil))))))), ?_⟩
    have hC := hG.curAt
    obtain ⟨dx, ft, ct, pl, ud, hp, hc⟩ := hC
    refine ⟨.str u, rfl, u, rfl, hu, fun H1 e1 => ?_⟩
    refine ⟨.ref p, rfl, p, CG K, dx, _, _, rfl, e1 _ _ hp, W.c_Game, W.n_Game_cards, rfl, ct, _, rfl, .inr (SqT.of (e1 _ _ hc)), v, rfl, g.first.length, v, s, ?_, hs.same e1, fun H2 e2 => ⟨_, rfl, iteN (by rw [hok]; decide) ?_⟩⟩
    · rw [len_map, hO.cur.2]
    · have e12 := e1.trans e2
      exact ⟨.ref p, rfl, p, dx, _, rfl, e12 _ _ hp, rfl, .str u, rfl, v, rfl, p, u, v, s, g, Z, n, rfl, hG.same e12, hZ.same e12, hO, hn, hs.same e12, hok, fun H' hx hG' => q H' (fun b o hb hne => hx b o (e12 _ _ hb) hne) hG'⟩
def sp_hint (K : PySem.W.Frag) : Sp := fun vs H Q _ => ∃ (p : Addr) (r : Mi.Row), vs = [.ref p] ∧ CurAt K H p r ∧ vrB r = true ∧ ∀ H', Same H H' → (hint r = none → Q .non H') ∧ ∀ v s, hint r = some s → StpAt H' v s → Q v H'
abbrev N_Game_hint : List Str := ["self", "best"]
theorem sc_Game_hint : FnScope N_Game_hint ["self"] d_Game_hint.scope := ⟨rfl, rfl, rfl, by decide +kernel, rfl, by decide +kernel, by decide +kernel⟩
theorem ok_Game_hint (W : Wd w K mg) : FnR P w K mg base CX0 4 (d_Game_hint.at_ K) (sp_hint K) := by
  refine fnr0 W.f_Game_hint sc_Game_hint (fun vs H Q E h => ?_) (fun _ _ _ _ _ _ us hl => match us, hl with | [_], _ => rfl) (fun cdv A outer s H vs Q E hr h => ?_)
  · obtain ⟨p, r, rfl, ⟨dx, ft, ct, pl, ud, hp, hc⟩, hr1, q⟩ := h
    rfl
  · obtain ⟨p, r, rfl, ⟨dx, ft, ct, pl, ud, hp, hc⟩, hr1, q⟩ := h
    refine ⟨_, (pss_cons (ps_if (pt_cmpR op_gt (pe_callB call_len_seq (by rfl) W.z_len PySem.boot_len (pa_cons (pe_fld (pv 0) rfl) pa_nil)) (pe_glob (v := .int 60) rfl W.i_MOST_BEST.choose_spec ⟨_, rfl⟩) (nomark _)) (pss_one (ps_never)) pss_nil)
      (pss_cons (ps_set (i := 1) sc_Game_hint.nd rfl (by first | exact Or.inl rfl | exact Or.inr rfl) (pe_c (c_best_of W) (hr.mono (by omega)) pass0 (pa_cons (pe_fld (pv 0) rfl) pa_nil)))
      (pss_one (ps_ret (pe_ifExp (pt_cmpR (op_neD hr.units) (pv 1) (pe_lst pa_nil) (nomark _)) (pe_ix (show IxR _ (rIxL K) from ix_list) (pv 1) pe_int (fun _ _ => rfl)) pe_non))))), ?_⟩
    have hV := vrB_Vr hr1
    refine ⟨.ref p, rfl, p, CG K, dx, _, _, rfl, hp, W.c_Game, W.n_Game_cards, rfl, ct, _, rfl, .inr (SqT.of hc), _, 60, rfl, rfl, _, rfl, iteN (by rw [len_map, decide_eq_true_eq]; have := hV.most; omega) ?_⟩
    refine ⟨.ref p, rfl, p, CG K, dx, _, _, rfl, hp, W.c_Game, W.n_Game_cards, rfl, ct, r, rfl, hc, hr1, fun H1 b xs ss e1 hb hb1 hA hh => ?_⟩
    refine ⟨.ref b, rfl, Nat.zero_le _, fun l hl => ?_⟩
    have e2 := e1.trans (same_new (o := .lst []) hl)
    have hA2 := hA.mono fun v c k => k.same (same_new (o := HO.lst []) hl)
    have hb2 := same_new (o := .lst []) hl _ _ hb1
    refine ⟨.list (ss.map encS), .list [], .lst (SqL.of hb2) (dp_steps hA2), .lst (SqL.of upd_same) .nil, sh_steps _, sh_nil, _, rfl, ?_⟩
    rw [eqv_none]
    cases ss with
    | nil =>
      refine iteN (by decide) ((q _ e2).1 ?_)
      rw [← hh]
      rfl
    | cons s ss =>
      have hx : ∃ x, xs[0]? = some x := by
        have h1 := hA2.1
        cases xs with
        | nil => cases h1
        | cons x xs => exact ⟨x, rfl⟩
      obtain ⟨x, hx⟩ := hx
      refine iteP (by simp) ⟨.ref b, rfl, b, _, 0, x, rfl, rfl, SqL.of hb2, atI_gen (j := 0) rfl hx, (q _ e2).2 x s (by rw [← hh]; rfl) (hA2.2 0 x s hx rfl)⟩
end
end Tc
namespace Tc
open PySem PySem.Spec PyProof.Rows L2 He He5 Mi
/-- what an own exception carries -/
def XdAt (H : Hp) (d : Option Addr) (f : Str) (v : V) : Prop := ∃ a, d = some a ∧ H a = some (.xd [(f, v)])
theorem walk_en_nat {xs : List V} : ∀ i (H : Hp) x H', (∃ T y, x = V.ref T ∧ H T = none ∧ H' = upd H T (.tup [.int (i : Nat), y]) ∧ xs[i]? = some y) → i < xs.length → Same H H' ∧ ∃ j, (List.range xs.length)[i]? = some j ∧ ∃ T y, x = V.ref T ∧ H' T = some (.tup [nV j, y]) ∧ xs[j]? = some y := fun i H x H' h hi => by
  obtain ⟨T, y, rfl, hT, rfl, hy⟩ := h
  exact ⟨same_new hT, i, List.getElem?_range hi, T, y, rfl, upd_same, hy⟩
theorem dec_opt (a b : Str) : decide (V.str a = V.str b) = decide (some a = some b) := by
  by_cases h : a = b
  · simp [h]
  · simp [h]
theorem al_takeD {α β : Type} {R : α → β → Prop} {vs : List α} {cs : List β} (n : Nat) (h : Al R vs cs) : Al R (vs.take n) (cs.take n) := by
  refine ⟨by rw [List.length_take, List.length_take, h.1], fun i v c e1 e2 => ?_⟩
  by_cases k : i < n
  · rw [List.getElem?_take, if_pos k] at e1 e2
    exact h.2 i v c e1 e2
  · rw [List.getElem?_take, if_neg k] at e1
    cases e1
theorem al_dropD {α β : Type} {R : α → β → Prop} {vs : List α} {cs : List β} (n : Nat) (h : Al R vs cs) : Al R (vs.drop n) (cs.drop n) := by
  refine ⟨by rw [List.length_drop, List.length_drop, h.1], fun i v c e1 e2 => ?_⟩
  rw [List.getElem?_drop] at e1 e2
  exact h.2 (n + i) v c e1 e2
/-- what is read where the user's waiting steps are asked for -/
theorem old_undone {K : PySem.W.Frag} {Z : List Addr} {H : Hp} {p dx ft ct pl ud : Addr} {kvs : List (L2.Key × V)} {d : Ud} {u : Str} {σ : L2.St} {Q : VK} (c : Cls K (CG K)) (nu : NoAttr K (CG K) "undone") (h0 : σ[0]? = some (some (.ref p))) (h1 : σ[1]? = some (some (.str u)))
    (hp : H p = some (.ins (CG K) dx (gFs ft ct pl ud))) (hu : H ud = some (.dK kvs)) (au : Al (UdAt Z H) kvs d)
    (q : ∀ H5 m xs, Same H H5 → H5 m = some (.lst xs) → Al (StpAt H5) xs ((gGet d u).getD []) → Q (.ref m) H5) :
    tIf (tB (tDIn (tVar 1) (tFld K (tVar 0) "undone"))) (tDGet (tFld K (tVar 0) "undone") (tVar 1)) (tLst tNil) σ H Q := by
  have hg := al_get (u := u) au
  refine ⟨.str u, h1, .ref p, h0, p, CG K, dx, _, _, rfl, hp, c, nu, rfl, ud, valV kvs (.inr u), rfl, DGet.k (k := .inr u) hu, _, rfl, ?_⟩
  cases e : gGet d u with
  | none =>
    rw [e] at hg q
    dsimp only at hg
    rw [hg]
    exact iteN (by decide) ⟨Nat.zero_le _, fun m hm => q _ m [] (same_new hm) upd_same Al.nil⟩
  | some ss =>
    rw [e] at hg q
    obtain ⟨v, hv, _, m, xs, rfl, _, hm, hA⟩ := hg
    rw [hv]
    refine iteP rfl ⟨.ref p, h0, p, CG K, dx, _, _, rfl, hp, c, nu, rfl, .str u, h1, ud, .ref m, rfl, ?_, q H m xs (Same.refl _) hm hA⟩
    rw [← hv]
    exact DGet.k (k := .inr u) hu
section
variable {P : Program} {w : World} {K : PySem.W.Frag} {mg : Str → Option Value} {base : Heap}
def sp_undo (K : PySem.W.Frag) : Sp := fun vs H Q E => ∃ (p : Addr) (u : Str) (g : Gs) (Z : List Addr) (n : Nat), vs = [.ref p, .str u] ∧ nmOk u ∧ GameAt K Z H p g ∧ ZOk Z H ∧ g.Ok n ∧ n ≤ 900 ∧
  (∀ g', g.undo u = some g' → ∀ H', Sx p H H' → GameAt K Z H' p g' → Q .non H') ∧
  (g.undo u = none → ∀ H' d, Same H H' → XdAt H' d "user" (.str u) → E (.ref (ga K "NothingToUndo")) d H')
abbrev N_Game_undo : List Str := ["self", "user", "places", "last", "index", "player", "step"]
theorem sc_Game_undo : FnScope N_Game_undo ["self", "user"] d_Game_undo.scope := ⟨rfl, rfl, rfl, by decide +kernel, rfl, by decide +kernel, by decide +kernel⟩
theorem ok_Game_undo (W : Wd w K mg) : FnR P w K mg base (L2.CX P w) 4 (d_Game_undo.at_ K) (sp_undo K) := by
  refine fnr W.f_Game_undo sc_Game_undo (fun vs H Q E h => ?_) (fun _ _ _ _ _ _ us hl => match us, hl with | [_, _], _ => rfl) (fun cdv A outer s H vs Q E hr h => ?_)
  · obtain ⟨p, u, g, Z, n, rfl, hu, ⟨dx, ft, ct, pl, ud, ps, kvs, G⟩, hZ, hO, hn, q1, q2⟩ := h
    rfl
  · obtain ⟨p, u, g, Z, n, rfl, hu, ⟨dx, ft, ct, pl, ud, ps, kvs, G⟩, hZ, hO, hn, q1, q2⟩ := h
    refine ⟨_, (pss_cons (ps_expr (pe_c (c_check_name W) (hr.mono (by omega)) pass0 (pa_cons (pv 1) pa_nil)))
      (pss_cons (ps_setLc (i := 2) (own := [("index", 4), ("player", 5), ("step", 6)]) (g := gTup K 2 (gCons (gName 4) (gCons (gTup K 2 (gCons (gName 5) (gCons (gName 6) gNil))) gNil))) rfl sc_Game_undo.nd rfl rfl (sw_true rfl rfl rfl (by decide +kernel)) (pi_enum (by rfl) W.z_enumerate (pa_cons (pe_fld (pv 0) rfl) pa_nil)) (blkOk_by (own := [("index", 4), ("player", 5), ("step", 6)]) (N := N_Game_undo) (sc := d_Game_undo.scope) (by decide +kernel)) (fun _ _ _ _ _ => (pg_tup rfl (pgs_cons (pg_name (i := 4) sc_Game_undo.nd rfl (by first | exact Or.inl rfl | exact Or.inr rfl)) (pgs_cons (pg_tup rfl (pgs_cons (pg_name (i := 5) sc_Game_undo.nd rfl (by first | exact Or.inl rfl | exact Or.inr rfl)) (pgs_cons (pg_name (i := 6) sc_Game_undo.nd rfl (by first | exact Or.inl rfl | exact Or.inr rfl)) pgs_nil))) pgs_nil)))) (fun _ _ _ _ _ => (pts_one (pt_cmpR op_eq (pv 5) (pv 1) (nomark _)))) (fun _ _ _ _ _ => (pv 4)))
      (pss_cons (ps_if (pt_cmpR (op_eqD hr.units) (pv 2) (pe_lst pa_nil) (nomark _)) (pss_one (ps_raiseX rfl F.excBase_LookupError W.x_NU (ok_NU_init W) (hr.mono (by omega)) W.g_NothingToUndo (takes_of rfl rfl rfl rfl) (pa_cons (pv 1) pa_nil))) pss_nil)
      (pss_cons (ps_set (i := 3) sc_Game_undo.nd rfl (by first | exact Or.inl rfl | exact Or.inr rfl) (pe_ix (show IxR _ (rIxT K) from ix_tup) (pe_ix (show IxR _ (rIxL K) from ix_list) (pe_fld (pv 0) rfl) (pe_ix (show IxR _ (rIxL K) from ix_list) (pv 2) (pe_un un_neg pe_int) (fun _ _ => rfl)) (fun _ _ => rfl)) pe_int (fun _ _ => rfl)))
      (pss_cons (ps_fld (pv 0) (pe_dstar (pe_fld (pv 0) rfl) (pps_cons (pv 1) (pe_lst (StX.pa_star (pe_ifExp (pt_cmp (pc_din (hu_of hr) (pv 1) (pe_fld (pv 0) rfl))) (pe_dget (hu_of hr) (pe_fld (pv 0) rfl) (pv 1) (fun _ _ => rfl)) (pe_lst pa_nil)) (pa_cons (pv 3) pa_nil))) pps_nil)) rfl)
      (pss_one (ps_expr (pe_methR (pv 0) W.c_Game W.m_Game_go_to (ok_Game_go_to W) (hr.mono (by omega)) pass0 (pa_cons (pe_lst (StX.pa_star (pe_slice sl_list (pe_fld (pv 0) rfl) po_none (po_some (pe_ix (show IxR _ (rIxL K) from ix_list) (pv 2) (pe_un un_neg pe_int) (fun _ _ => rfl)))) (StX.pa_star (pe_slice sl_list (pe_fld (pv 0) rfl) (po_some (pe_op op_add (pe_ix (show IxR _ (rIxL K) from ix_list) (pv 2) (pe_un un_neg pe_int) (fun _ _ => rfl)) pe_int)) po_none) pa_nil))) pa_nil))))))))), ?_⟩
    refine ⟨.str u, rfl, u, rfl, hu, fun H1 e1 => ?_⟩
    have hsz : ps.length ≤ 1000 := by rw [G.al.1]; have := hO.pn; omega
    refine ⟨.ref p, rfl, p, CG K, dx, _, _, rfl, e1 _ _ G.hp, W.c_Game, W.n_Game_played, rfl, pl, ps, rfl, SqL.of (e1 _ _ G.hl), fun D hD => lc_enc (wen (K := K) (a := pl) (xs := ps)) (xs := List.range ps.length) (Ex := fun j x H' => ∃ T y, x = V.ref T ∧ H' T = some (.tup [nV j, y]) ∧ ps[j]? = some y)
      (fun i => decide (((g.played[i]?).map (·.1)) = some u)) nV (List.length_range).symm walk_en_nat (fun H' e => SqL.of (e _ _ (e1 _ _ G.hl))) (by rw [List.length_range]; exact hsz) hD (fun j x H2 Yc Nn hj hS hE h1 h2 => ?_) fun H2 e2 hD2 => ?_⟩
    · obtain ⟨T, y, rfl, hT, hy⟩ := hE
      have hjl : j < g.played.length := by
        rw [← G.al.1]
        exact List.mem_range.mp hj
      have hgj : g.played[j]? = some g.played[j] := List.getElem?_eq_getElem hjl
      rw [hgj] at h1 h2
      obtain ⟨t, st, rfl, ht, hst⟩ := G.al.2 j y g.played[j] hy hgj
      refine ⟨T, _, rfl, SqT.of hT, rfl, _, _, rfl, _, _, rfl, t, _, rfl, SqT.of (hS _ _ (e1 _ _ ht)), rfl, _, _, rfl, _, _, rfl, rfl, rfl, rfl, ?_⟩
      refine ⟨_, rfl, _, rfl, rfl, _, rfl, ?_⟩
      rw [dec_opt]
      refine ite2 (fun h => ?_) fun h => ?_
      · exact ⟨_, rfl, h1 _ (Same.refl _) h⟩
      · exact h2 _ (Same.refl _) (Bool.eq_false_iff.mpr h)
    have hidx : (List.range ps.length).filter (fun i => decide (((g.played[i]?).map (·.1)) = some u)) = plIdx g.played u := by rw [G.al.1]; rfl
    rw [hidx] at hD2
    have e12 := e1.trans e2
    refine ⟨.ref D, rfl, Nat.zero_le _, fun l0 hl0 => ?_⟩
    have e3 := e12.trans (same_new (o := .lst []) hl0)
    have hD3 := same_new (o := HO.lst []) hl0 _ _ hD2
    have hl3 : upd H2 l0 (HO.lst []) l0 = some (.lst []) := upd_same
    generalize upd H2 l0 (HO.lst []) = H3 at *
    rw [map_nV] at hD3
    refine ⟨.list (((plIdx g.played u).map fun p : Nat => (p : Int)).map PyData.int), .list [], .lst (SqL.of hD3) (dp_ints _), .lst (SqL.of hl3) .nil, sh_listI _, sh_nil, _, rfl, ?_⟩
    rw [eqv_none]
    rcases split_last (plIdx g.played u) with h0 | ⟨is, i, h0⟩
    · refine iteP (by rw [h0]; rfl) ⟨.str u, rfl, .str u, rfl, fun d hd => q2 (undo_none h0) _ _ (e3.trans (same_new hd)) ⟨d, rfl, upd_same⟩⟩
    refine iteN (by rw [h0]; simp) ?_
    have him : i ∈ plIdx g.played u := by rw [h0]; simp
    obtain ⟨s0, hs0⟩ := plIdx_get him
    have hil := plIdx_lt him
    have hx : ∃ x, ps[i]? = some x := ⟨ps[i]'(by rw [G.al.1]; exact hil), List.getElem?_eq_getElem _⟩
    obtain ⟨x, hx⟩ := hx
    obtain ⟨t, st, rfl, ht, hst⟩ := G.al.2 i x (u, s0) hx hs0
    rw [h0, List.map_append, List.map_append] at hD3
    have hlast : atI ((is.map fun p : Nat => (p : Int)).map V.int ++ ([i].map fun p : Nat => (p : Int)).map V.int) (-1) = some (nV i) := atI_last _ _
    refine ⟨.ref p, rfl, p, CG K, dx, _, _, rfl, e3 _ _ G.hp, W.c_Game, W.n_Game_played, rfl, .ref D, rfl, 1, rfl, D, _, -1, nV i, rfl, rfl, SqL.of hD3, hlast, pl, ps, i, .ref t, rfl, rfl, SqL.of (e3 _ _ G.hl), atI_gen rfl hx, t, _, 1, st, rfl, rfl, SqT.of (e3 _ _ ht), rfl, ?_⟩
    have hu' := undo_some h0 hs0
    refine fun D2 hD2 => ⟨.ref p, rfl, p, CG K, dx, _, _, rfl, (upd_ne (ne_of_none (e3 _ _ G.hp) hD2)).trans (e3 _ _ G.hp), W.c_Game, W.n_Game_undone, rfl, ud, kvs, rfl, (upd_ne (ne_of_none (e3 _ _ G.hu) hD2)).trans (e3 _ _ G.hu), ne_of_none (e3 _ _ G.hu) hD2, upd_same, fun q0 hq hnd => ?_⟩
    rw [upd_upd] at hq ⊢
    have hqD : q0 ≠ D2 := fun e => by rw [e, upd_same] at hq; cases hq
    have hqH : H3 q0 = none := by rw [upd_ne hqD] at hq; exact hq
    have e4 : Same H3 (upd (upd H3 D2 (HO.dK kvs)) q0 (HO.dK [])) := same_mut (same_new hD2) hqH
    have hq4 : upd (upd H3 D2 (HO.dK kvs)) q0 (HO.dK []) q0 = some (.dK []) := upd_same
    have hD4 : upd (upd H3 D2 (HO.dK kvs)) q0 (HO.dK []) D2 = some (.dK kvs) := (upd_ne (Ne.symm hqD)).trans upd_same
    generalize upd (upd H3 D2 (HO.dK kvs)) q0 (HO.dK []) = H4 at *
    have e04 := e3.trans e4
    refine ⟨.str u, rfl, old_undone (Z := Z) (d := g.undone) W.c_Game W.n_Game_undone rfl rfl (e04 _ _ G.hp) (e04 _ _ G.hu) (G.au.mono fun x c k => k.fr (Fr.of_same (F := []) e04) fun f hf => absurd hf List.not_mem_nil) fun H5 m xs e5 hm hA => ?_⟩
    have hro := redo_ok hO u
    have hxl : (xs ++ [st]).length ≤ sizeLine := by
      rw [List.length_append, hA.1]
      exact Nat.le_of_lt (small1k (n := ((gGet g.undone u).getD []).length + 1) (by have := hro.2; omega))
    refine ⟨m, xs, rfl, .inr (SqL.of hm), st, rfl, hxl, fun l hl => ?_⟩
    have hkl : kvs.length + 1 ≤ sizeLine := by
      have := small1k (n := kvs.length) (by rw [G.au.1]; have := hO.kn; omega)
      omega
    have e05 := e04.trans e5
    have hlq : l ≠ q0 := fun e => by rw [e, e5 _ _ hq4] at hl; cases hl
    have hlD : l ≠ D2 := fun e => by rw [e, e5 _ _ hD4] at hl; cases hl
    have hlH : H l = none := e05.free hl
    refine ⟨(upd_ne (Ne.symm hlq)).trans (e5 _ _ hq4), (upd_ne (Ne.symm hlD)).trans (e5 _ _ hD4), hqD, hkl, .inr u, .ref l, rfl, ?_⟩
    have hDH : H D2 = none := e3.free hD2
    have hqH0 : H q0 = none := e3.free hqH
    generalize hH6 : upd (upd (upd H5 l (HO.lst (xs ++ [st]))) q0 (HO.dK [(Sum.inr u, V.ref l)])) D2 (HO.dK (putK kvs (Sum.inr u) (V.ref l))) = H6
    have e6 : Same H H6 := by
      rw [← hH6]
      exact same_mut (same_mut (same_mut e05 hlH) hqH0) hDH
    have hD6 : H6 D2 = some (.dK (putK kvs (.inr u) (.ref l))) := by rw [← hH6, upd_same]
    have hl6 : H6 l = some (.lst (xs ++ [st])) := by rw [← hH6, upd_ne hlD, upd_ne hlq, upd_same]
    have hA6 : Al (StpAt H6) (xs ++ [st]) ((gGet g.undone u).getD [] ++ [s0]) := by
      refine (hA.mono fun x c k => ?_).snoc (hst.same e6)
      obtain ⟨b, k1, k2⟩ := k
      refine ⟨b, k1, ?_⟩
      rw [← hH6, upd_ne (fun e => by rw [e, e5 _ _ hD4] at k2; cases k2), upd_ne (fun e => by rw [e, e5 _ _ hq4] at k2; cases k2), upd_ne (ne_of_none k2 hl)]
      exact k2
    have hD36 : H6 D = some (.lst ((is.map fun p : Nat => (p : Int)).map V.int ++ ([i].map fun p : Nat => (p : Int)).map V.int)) := by
      have k2 := e5 _ _ (e4 _ _ hD3)
      rw [← hH6, upd_ne (fun e => by rw [e, e5 _ _ hD4] at k2; cases k2), upd_ne (fun e => by rw [e, e5 _ _ hq4] at k2; cases k2), upd_ne (ne_of_none k2 hl)]
      exact k2
    clear hH6 hq hl hq4 hD4
    refine ⟨.ref p, rfl, p, CG K, dx, _, rfl, e6 _ _ G.hp, W.c_Game, W.n_Game_undone, gl5 _ _ _ _, ?_⟩
    rw [put_ud]
    have hlp : pl ≠ p := fun e => by have := G.hl; rw [e, G.hp] at this; cases this
    have hDp : D ≠ p := fun e => by rw [e, e6 _ _ G.hp] at hD36; cases hD36
    have hftp : ft ≠ p := fun e => by have := G.hf; rw [e, G.hp] at this; cases this
    have hpl7 : upd H6 p (.ins (CG K) dx (gFs ft ct pl D2)) pl = some (.lst ps) := (upd_ne hlp).trans (e6 _ _ G.hl)
    have hD7 : upd H6 p (.ins (CG K) dx (gFs ft ct pl D2)) D = some (.lst ((is.map fun p : Nat => (p : Int)).map V.int ++ ([i].map fun p : Nat => (p : Int)).map V.int)) := (upd_ne hDp).trans hD36
    have hil2 : i ≤ ps.length := by rw [G.al.1]; omega
    have hil3 : i + 1 ≤ ps.length := by rw [G.al.1]; omega
    refine ⟨.ref p, rfl, p, dx, _, rfl, upd_same, rfl, .ref p, rfl, p, CG K, dx, _, _, rfl, upd_same, W.c_Game, W.n_Game_played, rfl, .ref D, rfl, 1, rfl, D, _, -1, nV i, rfl, rfl, SqL.of hD7, hlast, _, rfl, pl, ps, rfl, SqL.of hpl7, fun l1 hl1 => ?_⟩
    rw [cut_take hil2]
    have e8 := same_new (o := .lst (ps.take i)) hl1
    have hl1' : upd (upd H6 p (.ins (CG K) dx (gFs ft ct pl D2))) l1 (.lst (ps.take i)) l1 = some (.lst (ps.take i)) := upd_same
    generalize hH8 : upd (upd H6 p (.ins (CG K) dx (gFs ft ct pl D2))) l1 (.lst (ps.take i)) = H8 at *
    refine ⟨l1, _, rfl, .inr (SqL.of hl1'), .ref p, rfl, p, CG K, dx, _, _, rfl, e8 _ _ upd_same, W.c_Game, W.n_Game_played, rfl, .ref D, rfl, 1, rfl, D, _, -1, nV i, rfl, rfl, SqL.of (e8 _ _ hD7), hlast, _, _, rfl, rfl, _, rfl, pl, ps, rfl, SqL.of (e8 _ _ hpl7), fun l2 hl2 => ?_⟩
    rw [show (i : Int) + 1 = ((i + 1 : Nat) : Int) by omega, cut_drop hil3]
    refine ⟨l2, _, rfl, .inr (SqL.of upd_same), ?_⟩
    have hll : (ps.take i ++ (ps.drop (i + 1) ++ [])).length ≤ sizeLine := by
      rw [List.append_nil, List.length_append, List.length_take, List.length_drop]
      exact Nat.le_of_lt (small1k (by omega))
    refine ⟨hll, fun L hL => ?_⟩
    rw [List.append_nil]
    have e9 : Same H8 (upd H8 l2 (.lst (ps.drop (i + 1)))) := same_new hl2
    generalize upd H8 l2 (.lst (ps.drop (i + 1))) = H9 at *
    have e7 : Sx p H6 (upd H6 p (.ins (CG K) dx (gFs ft ct pl D2))) := fun b o hb hn => (upd_ne hn).trans hb
    have e10 : Same H9 (upd H9 L (.lst (ps.take i ++ ps.drop (i + 1)))) := same_new hL
    have e3' : Sx p H6 (upd H9 L (.lst (ps.take i ++ ps.drop (i + 1)))) := fun b o hb hn => e10 _ _ (e9 _ _ (e8 _ _ (e7 b o hb hn)))
    have hp10 : upd H9 L (.lst (ps.take i ++ ps.drop (i + 1))) p = some (.ins (CG K) dx (gFs ft ct pl D2)) := e10 _ _ (e9 _ _ (e8 _ _ upd_same))
    have fr0 : Fr [p] H (upd H9 L (.lst (ps.take i ++ ps.drop (i + 1)))) := (Fr.of_same e6).trans (e3'.fr (e6 _ _ G.hp))
    have hL6 : H6 L = none := by
      have h1 := e8.free (e9.free hL)
      have hLp : L ≠ p := fun e => by rw [e, upd_same] at h1; cases h1
      rw [upd_ne hLp] at h1
      exact h1
    have A10 : Al (PlAt (upd H9 L (.lst (ps.take i ++ ps.drop (i + 1))))) (ps.take i ++ ps.drop (i + 1)) (g.played.take i ++ g.played.drop (i + 1)) := al_app (al_takeD i (G.al.mono fun x c k => k.fr fr0)) (al_dropD (i + 1) (G.al.mono fun x c k => k.fr fr0))
    have hok' := hO.undo hu'
    refine ⟨p, L, dx, ft, ct, pl, D2, _, g.first, _, rfl, hp10, e3' _ _ (e6 _ _ G.hf) hftp, hO.row, upd_same, A10, hok'.pl, fun H' ct' hx hp' hc' => ?_⟩
    exact q1 _ hu' H' (fun b o hb hn => hx b o (e3' b o (e6 _ _ hb) hn) hn) (game_end G e6 hDH hD6 hZ (al_put (G.au.mono fun x c k => k.fr (Fr.of_same (F := []) e6) fun f hf => absurd hf List.not_mem_nil) ⟨rfl, l, _, rfl, hZ.new hlH, hl6, hA6⟩) e3' hp10 hL6 upd_same A10 hx hp' hc')
end
end Tc
namespace Tc
open PySem PySem.Spec PyProof.Rows L2 He He5 Mi
theorem cut_last (xs : List V) (x : V) : cutV (xs ++ [x]) none (some (-1)) = xs := by
  unfold cutV
  have e : HT.sIx (xs ++ [x]).length (xs ++ [x]).length (some (-1)) = xs.length := by
    unfold HT.sIx
    rw [List.length_append]
    simp
    omega
  rw [HT.sIx_none, e]
  simp
section
variable {P : Program} {w : World} {K : PySem.W.Frag} {mg : Str → Option Value} {base : Heap}
def sp_redo (K : PySem.W.Frag) : Sp := fun vs H Q E => ∃ (p : Addr) (u : Str) (g : Gs) (Z : List Addr) (n : Nat), vs = [.ref p, .str u] ∧ nmOk u ∧ GameAt K Z H p g ∧ ZOk Z H ∧ g.Ok n ∧ n ≤ 900 ∧
  (∀ g', g.redo u = some g' → ∀ H', Sx p H H' → GameAt K Z H' p g' → Q .non H') ∧
  (g.redo u = none → ∀ H' d, Same H H' → XdAt H' d "user" (.str u) → E (.ref (ga K "NothingToRedo")) d H')
abbrev N_Game_redo : List Str := ["self", "user", "waiting"]
theorem sc_Game_redo : FnScope N_Game_redo ["self", "user"] d_Game_redo.scope := ⟨rfl, rfl, rfl, by decide +kernel, rfl, by decide +kernel, by decide +kernel⟩
theorem ok_Game_redo (W : Wd w K mg) : FnR P w K mg base (L2.CX P w) 4 (d_Game_redo.at_ K) (sp_redo K) := by
  refine fnr W.f_Game_redo sc_Game_redo (fun vs H Q E h => ?_) (fun _ _ _ _ _ _ us hl => match us, hl with | [_, _], _ => rfl) (fun cdv A outer s H vs Q E hr h => ?_)
  · obtain ⟨p, u, g, Z, n, rfl, hu, ⟨dx, ft, ct, pl, ud, ps, kvs, G⟩, hZ, hO, hn, q1, q2⟩ := h
    rfl
  · obtain ⟨p, u, g, Z, n, rfl, hu, ⟨dx, ft, ct, pl, ud, ps, kvs, G⟩, hZ, hO, hn, q1, q2⟩ := h
    refine ⟨_, (pss_cons (ps_expr (pe_c (c_check_name W) (hr.mono (by omega)) pass0 (pa_cons (pv 1) pa_nil)))
      (pss_cons (ps_set (i := 2) sc_Game_redo.nd rfl (by first | exact Or.inl rfl | exact Or.inr rfl) (pe_ifExp (pt_cmp (pc_din (hu_of hr) (pv 1) (pe_fld (pv 0) rfl))) (pe_dget (hu_of hr) (pe_fld (pv 0) rfl) (pv 1) (fun _ _ => rfl)) (pe_lst pa_nil)))
      (pss_cons (ps_if (pt_cmpR (op_eqD hr.units) (pv 2) (pe_lst pa_nil) (nomark _)) (pss_one (ps_raiseX rfl F.excBase_LookupError W.x_NR (ok_NR_init W) (hr.mono (by omega)) W.g_NothingToRedo (takes_of rfl rfl rfl rfl) (pa_cons (pv 1) pa_nil))) pss_nil)
      (pss_cons (ps_fld (pv 0) (pe_dstar (pe_fld (pv 0) rfl) (pps_cons (pv 1) (pe_slice sl_list (pv 2) po_none (po_some (pe_un un_neg pe_int))) pps_nil)) rfl)
      (pss_one (ps_expr (pe_methR (pv 0) W.c_Game W.m_Game_go_to (ok_Game_go_to W) (hr.mono (by omega)) pass0 (pa_cons (pe_lst (StX.pa_star (pe_fld (pv 0) rfl) (pa_cons (pe_tup (pa_cons (pv 1) (pa_cons (pe_ix (show IxR _ (rIxL K) from ix_list) (pv 2) (pe_un un_neg pe_int) (fun _ _ => rfl)) pa_nil))) pa_nil))) pa_nil)))))))), ?_⟩
    refine ⟨.str u, rfl, u, rfl, hu, fun H1 e1 => ?_⟩
    refine old_undone (Z := Z) (d := g.undone) W.c_Game W.n_Game_undone rfl rfl (e1 _ _ G.hp) (e1 _ _ G.hu) (G.au.mono fun x c k => k.fr (Fr.of_same (F := []) e1) fun f hf => absurd hf List.not_mem_nil) fun H2 m xs e2 hm hA => ?_
    have e02 := e1.trans e2
    refine ⟨.ref m, rfl, Nat.zero_le _, fun l0 hl0 => ?_⟩
    have e3 := e02.trans (same_new (o := .lst []) hl0)
    have hm3 := same_new (o := HO.lst []) hl0 _ _ hm
    have hA3 := hA.mono fun x c k => k.same (same_new (o := HO.lst []) hl0)
    have hl3 : upd H2 l0 (HO.lst []) l0 = some (.lst []) := upd_same
    generalize upd H2 l0 (HO.lst []) = H3 at *
    refine ⟨.list (((gGet g.undone u).getD []).map encS), .list [], .lst (SqL.of hm3) (dp_steps hA3), .lst (SqL.of hl3) .nil, sh_steps _, sh_nil, _, rfl, ?_⟩
    rw [eqv_none]
    rcases split_last ((gGet g.undone u).getD []) with h0 | ⟨is, s0, h0⟩
    · refine iteP (by rw [h0]; rfl) ⟨.str u, rfl, .str u, rfl, fun d hd => q2 (redo_none h0) _ _ (e3.trans (same_new hd)) ⟨d, rfl, upd_same⟩⟩
    refine iteN (by rw [h0]; simp) ?_
    have hro := redo_ok hO u
    rw [h0] at hA3 hro
    have hxs : ∃ xs' x, xs = xs' ++ [x] := by
      rcases split_last xs with e | e
      · have := hA3.1
        rw [e, List.length_append] at this
        simp at this
      · exact e
    obtain ⟨xs', st, rfl⟩ := hxs
    have hl' : xs'.length = is.length := by
      have := hA3.1
      rw [List.length_append, List.length_append] at this
      simpa using this
    have hst3 : StpAt H3 st s0 := hA3.2 xs'.length st s0 (by simp) (by rw [hl']; simp)
    have hA3' : Al (StpAt H3) xs' is := ⟨hl', fun i v c e1 e2 => hA3.2 i v c (by rw [List.getElem?_append_left (List.getElem?_eq_some_iff.mp e1).1]; exact e1) (by rw [List.getElem?_append_left (List.getElem?_eq_some_iff.mp e2).1]; exact e2)⟩
    have hs0 : s0.ok g.first.length = true := hro.1 s0 (by simp)
    have hu' := redo_some h0
    refine fun D2 hD2 => ⟨.ref p, rfl, p, CG K, dx, _, _, rfl, (upd_ne (ne_of_none (e3 _ _ G.hp) hD2)).trans (e3 _ _ G.hp), W.c_Game, W.n_Game_undone, rfl, ud, kvs, rfl, (upd_ne (ne_of_none (e3 _ _ G.hu) hD2)).trans (e3 _ _ G.hu), ne_of_none (e3 _ _ G.hu) hD2, upd_same, fun q0 hq hnd => ?_⟩
    rw [upd_upd] at hq ⊢
    have hqD : q0 ≠ D2 := fun e => by rw [e, upd_same] at hq; cases hq
    have hqH : H3 q0 = none := by rw [upd_ne hqD] at hq; exact hq
    have e4 : Same H3 (upd (upd H3 D2 (HO.dK kvs)) q0 (HO.dK [])) := same_mut (same_new hD2) hqH
    have hq4 : upd (upd H3 D2 (HO.dK kvs)) q0 (HO.dK []) q0 = some (.dK []) := upd_same
    have hD4 : upd (upd H3 D2 (HO.dK kvs)) q0 (HO.dK []) D2 = some (.dK kvs) := (upd_ne (Ne.symm hqD)).trans upd_same
    generalize upd (upd H3 D2 (HO.dK kvs)) q0 (HO.dK []) = H4 at *
    have e04 := e3.trans e4
    refine ⟨.str u, rfl, .ref m, rfl, 1, rfl, _, rfl, m, _, rfl, SqL.of (e4 _ _ hm3), fun l hl => ?_⟩
    rw [cut_last]
    have hkl : kvs.length + 1 ≤ sizeLine := by
      have := small1k (n := kvs.length) (by rw [G.au.1]; have := hO.kn; omega)
      omega
    have hlq : l ≠ q0 := fun e => by rw [e, hq4] at hl; cases hl
    have hlD : l ≠ D2 := fun e => by rw [e, hD4] at hl; cases hl
    have hlH : H l = none := e04.free hl
    refine ⟨(upd_ne (Ne.symm hlq)).trans hq4, (upd_ne (Ne.symm hlD)).trans hD4, hqD, hkl, .inr u, .ref l, rfl, ?_⟩
    have hDH : H D2 = none := e3.free hD2
    have hqH0 : H q0 = none := e3.free hqH
    generalize hH6 : upd (upd (upd H4 l (HO.lst xs')) q0 (HO.dK [(Sum.inr u, V.ref l)])) D2 (HO.dK (putK kvs (Sum.inr u) (V.ref l))) = H6
    have e36 : Same H3 H6 := by
      rw [← hH6]
      exact same_mut (same_mut (same_mut e4 (e4.free hl)) hqH) hD2
    have e6 := e3.trans e36
    have hD6 : H6 D2 = some (.dK (putK kvs (.inr u) (.ref l))) := by rw [← hH6, upd_same]
    have hl6 : H6 l = some (.lst xs') := by rw [← hH6, upd_ne hlD, upd_ne hlq, upd_same]
    have hA6 : Al (StpAt H6) xs' is := hA3'.mono fun x c k => k.same e36
    clear hH6 hq hl hq4 hD4
    refine ⟨.ref p, rfl, p, CG K, dx, _, rfl, e6 _ _ G.hp, W.c_Game, W.n_Game_undone, gl5 _ _ _ _, ?_⟩
    rw [put_ud]
    have hlp : pl ≠ p := fun e => by have := G.hl; rw [e, G.hp] at this; cases this
    have hmp : m ≠ p := fun e => by rw [e, e3 _ _ G.hp] at hm3; cases hm3
    have hftp : ft ≠ p := fun e => by have := G.hf; rw [e, G.hp] at this; cases this
    have hlast : atI (xs' ++ [st]) (-1) = some st := atI_last _ _
    refine ⟨.ref p, rfl, p, dx, _, rfl, upd_same, rfl, .ref p, rfl, p, CG K, dx, _, _, rfl, upd_same, W.c_Game, W.n_Game_played, rfl, pl, ps, rfl, .inr (SqL.of ((upd_ne hlp).trans (e6 _ _ G.hl))), ?_⟩
    refine ⟨.str u, rfl, .ref m, rfl, 1, rfl, m, _, -1, st, rfl, rfl, SqL.of ((upd_ne hmp).trans (e36 _ _ hm3)), hlast, by show 2 ≤ sizeLine; decide, fun t ht => ?_⟩
    have htp : t ≠ p := fun e => by rw [e, upd_same] at ht; cases ht
    have ht1 : H6 t = none := by rw [upd_ne htp] at ht; exact ht
    have hpl : (ps ++ [V.ref t]).length ≤ sizeLine := by
      rw [List.length_append]
      have h1 := small1k (n := ps.length + 1) (by rw [G.al.1]; have := hO.pn; omega)
      exact Nat.le_of_lt h1
    refine ⟨hpl, fun L hL => ?_⟩
    have hLt : L ≠ t := fun e => by rw [e, upd_same] at hL; cases hL
    have hLp : L ≠ p := fun e => by rw [e, upd_ne (Ne.symm htp), upd_same] at hL; cases hL
    have hL1 : H6 L = none := by rw [upd_ne hLt, upd_ne hLp] at hL; exact hL
    generalize hH7 : upd (upd (upd H6 p (HO.ins (CG K) dx (gFs ft ct pl D2))) t (HO.tup [V.str u, st])) L (HO.lst (ps ++ [V.ref t])) = H7
    have e7 : Sx p H6 H7 := fun b o hb hn => by
      rw [← hH7, upd_ne (ne_of_none hb hL1), upd_ne (ne_of_none hb ht1), upd_ne hn]
      exact hb
    have hp7 : H7 p = some (.ins (CG K) dx (gFs ft ct pl D2)) := by rw [← hH7, upd_ne (Ne.symm hLp), upd_ne (Ne.symm htp), upd_same]
    have hL7 : H7 L = some (.lst (ps ++ [V.ref t])) := by rw [← hH7, upd_same]
    have ht7 : H7 t = some (.tup [V.str u, st]) := by rw [← hH7, upd_ne (Ne.symm hLt), upd_same]
    have fr7 : Fr [p] H H7 := (Fr.of_same e6).trans (e7.fr (e6 _ _ G.hp))
    have A7 : Al (PlAt H7) (ps ++ [.ref t]) (g.played ++ [(u, s0)]) := (G.al.mono fun x c k => k.fr fr7).snoc ⟨t, st, rfl, ht7, (hst3.same e36).fr (e7.fr (e6 _ _ G.hp))⟩
    refine ⟨p, L, dx, ft, ct, pl, D2, ps ++ [.ref t], g.first, g.played ++ [(u, s0)], rfl, hp7, e7 _ _ (e6 _ _ G.hf) hftp, hO.row, hL7, A7, (hO.play u hs0).pl, fun H' ct' hx hp' hc' => ?_⟩
    exact q1 _ hu' H' (fun b o hb hn => hx b o (e7 b o (e6 _ _ hb) hn) hn) (game_end G e6 hDH hD6 hZ (al_put (G.au.mono fun x c k => k.fr (Fr.of_same (F := []) e6) fun f hf => absurd hf List.not_mem_nil) ⟨rfl, l, _, rfl, hZ.new hlH, hl6, hA6⟩) e7 hp7 hL1 hL7 A7 hx hp' hc')
end
end Tc
namespace Tc
open PySem PySem.Spec PyProof.Rows L2 He He5
open Sem (wp)
/-! ### zip of a text and a list -/
/-- the text's signs and the list at b, in new pairs -/
def Itsz (K : PySem.W.Frag) (x : Str) (b : Addr) : It :=
  ⟨fun i H => ∃ (ys : List V) (y : V), SqL K H b ys ∧ i < x.cps.size ∧ ys[i]? = some y,
    fun i H v H' => ∃ T c y, v = .ref T ∧ H T = none ∧ H' = upd H T (.tup [.str ⟨#[c]⟩, y]) ∧ x.cps[i]? = some c ∧ ∀ ys, SqL K H b ys → ys[i]? = some y,
    fun i H => ∃ ys : List V, SqL K H b ys ∧ i ≤ x.cps.size ∧ i ≤ ys.length ∧ (i = x.cps.size ∨ i = ys.length)⟩
theorem turn_zipS {P : Program} {w : World} {K : PySem.W.Frag} {elts : List Expr} {kk : Nat} {tpos : Pos} {b z TI TO i1 i2 : Addr} {x : Str} {t : Tok} (D : ZipSep2 z TI TO i1 i2 [i1] [i2, b]) :
    Turn P w K (.Tuple elts kk tpos) (Itsz K x b) [z, TI, TO, i1, i2] z (fun i h => IsZip h z TI TO .none ∧ IsTupOf2 h TI (.ref i1) (.ref i2) ∧ (∃ x y, IsTupOf2 h TO x y) ∧ h.IsStrIter i1 "str_ascii_iterator" x t i ∧ h.IsListIter i2 b i) where
  mem := by simp
  obj := fun i h st c hc => by
    obtain ⟨hz, hTI, ⟨x, y, hTO⟩, ⟨o1, e1, _, d1⟩, ⟨o2, e2, _, d2⟩⟩ := st
    have e' : c = z ∨ c = TI ∨ c = TO ∨ c = i1 ∨ c = i2 := by simpa using hc
    rcases e' with q | q | q | q | q
    · rw [q]; exact ⟨_, hz, fun v q => nomatch q⟩
    · rw [q]; exact ⟨_, hTI, fun v q => nomatch q⟩
    · rw [q]; exact ⟨_, hTO, fun v q => nomatch q⟩
    · rw [q]; exact ⟨o1, e1, fun v q => by rw [d1] at q; cases q⟩
    · rw [q]; exact ⟨o2, e2, fun v q => by rw [d2] at q; cases q⟩
  keep := fun i h h' st k => by
    obtain ⟨hz, hTI, ⟨x, y, hTO⟩, ⟨o1, ho1, r1⟩, h2⟩ := st
    exact ⟨k z (by simp) _ hz, k TI (by simp) _ hTI, ⟨x, y, k TO (by simp) _ hTO⟩, ⟨o1, k i1 (by simp) o1 ho1, r1⟩, h2.at fun o q => k i2 (by simp) o q⟩
  item := by
    intro X hP hw hK hc i pins s σ H E I hf st hg
    subst hP hw hK
    obtain ⟨hz, hTI, ⟨x0, y0, hTO⟩, h1, h2⟩ := st
    obtain ⟨ys, y, hqy, hx, hy⟩ := hg
    obtain ⟨its2, rv2, p2, _⟩ := I.list hqy
    obtain ⟨u2, hu2, ru2⟩ := rv2.get hy
    have hzl : z < s.heap.objs.size := Heap.lt_size hz
    have hbi : b ≠ i2 := fun e => by
      obtain ⟨o1, e1, c1, _⟩ := p2.isList
      obtain ⟨o2, e2, c2, _⟩ := h2
      rw [e, e2] at e1
      cases e1
      rw [c2] at c1
      exact absurd (Value.type.inj c1) (by decide)
    have hl2 : i < its2.toArray.size := by
      have h3 := (List.getElem?_eq_some_iff.mp hu2).1
      simpa using h3
    refine wpAny_pyNext_zipD2_item D (Draws.strAscii (prog := X.prog) (w := X.w) (A := X.A.in1) (I.ok.hd hc) i1 x t) (Draws.list (prog := X.prog) (w := X.w) (A := X.A.in1) (I.ok.hd hc) i2 b hbi its2.toArray) hz hTI hTO h1 ⟨h2, p2.isList⟩ hx hl2
      fun a1 a2 h' tk hP1 hP2 z' TO' h1' h2' hT hsz hk => ?_
    obtain ⟨c, tt, hc1, rfl⟩ := hP1
    have ea : a2 = u2 := by
      have h4 : its2.toArray[i]? = some u2 := by simpa using hu2
      exact Option.some.inj (hP2.symm.trans h4)
    subst ea
    refine ⟨_, rfl, wpAny_letOwnedTupleGo_zip (s := { s with heap := h', toks := tk }) z' fun h'' z'' sb => ?_⟩
    have hT2 : h''.get? s.heap.objs.size = some { cls := .type "tuple", data := .seq #[.str ⟨#[c]⟩ tt, a2] } := (sb.2 _ (Nat.ne_of_gt hzl)).trans hT
    have new : ObjOk X.prog X.w (upd H s.heap.objs.size (.tup [.str ⟨#[c]⟩, y])) h'' s.heap.objs.size (.tup [.str ⟨#[c]⟩, y]) :=
      ⟨by show 2 ≤ sizeLine; decide, [.str ⟨#[c]⟩ tt, a2], .cons ⟨_, rfl⟩ (.cons ru2 .nil), ⟨_, hT2, rfl, _, rfl⟩⟩
    have I1 : Inv X pins σ (upd H s.heap.objs.size (.tup [.str ⟨#[c]⟩, y])) { s with heap := h'', toks := tk } :=
      I.turnedNew (t' := tk) (ch := [z, TI, TO, i1, i2]) (fun c o hb q => (sb.2 c (fun q' => hb (by simp [q']))).trans (hk c o (fun q' => hb (by simp [q'])) (fun q' => hb (by simp [q'])) (fun q' => hb (by simp [q'])) (fun q' => hb (by simp [q'])) q)) hf (Nat.le_refl _) new
    refine ⟨.ref s.heap.objs.size, _, I1, rfl, ⟨_, c, y, rfl, I.hok.fresh (Nat.le_refl _), rfl, hc1, fun l hl => by rw [I.list_inj hl hqy]; exact hy⟩, ⟨z'', ?_, ⟨.str ⟨#[c]⟩ tt, a2, ?_⟩, ?_, ?_⟩, fun c hcm => ?_⟩
    · exact (sb.2 _ D.TIz).trans (hk _ _ D.TIz D.TITO D.TIi1 D.TIi2 hTI)
    · exact (sb.2 _ D.TOz).trans TO'
    · obtain ⟨o1, ho1, r1⟩ := h1'
      exact ⟨o1, (sb.2 _ D.zi1.symm).trans ho1, r1⟩
    · exact h2'.1.at fun o q => (sb.2 _ D.zi2.symm).trans q
    · have hlt : c < s.heap.objs.size := by
        have e' : c = z ∨ c = TI ∨ c = TO ∨ c = i1 ∨ c = i2 := by simpa using hcm
        rcases e' with q | q | q | q | q
        · rw [q]; exact hzl
        · rw [q]; exact Heap.lt_size hTI
        · rw [q]; exact Heap.lt_size hTO
        · rw [q]; obtain ⟨_, e1, _⟩ := h1; exact Heap.lt_size e1
        · rw [q]; obtain ⟨_, e2, _⟩ := h2; exact Heap.lt_size e2
      rw [upd_ne (Nat.ne_of_lt hlt)]
      exact (hf c hcm).1
  done := by
    intro X hP hw hK hc i pins s σ H E I hf st hg
    subst hP hw hK
    obtain ⟨hz, hTI, ⟨x0, y0, hTO⟩, h1, h2⟩ := st
    obtain ⟨ys, hqy, hl1, hl2, hend⟩ := hg
    obtain ⟨its2, rv2, p2, _⟩ := I.list hqy
    have l2 := rv2.length
    have hbi : b ≠ i2 := fun e => by
      obtain ⟨o1, e1, c1, _⟩ := p2.isList
      obtain ⟨o2, e2, c2, _⟩ := h2
      rw [e, e2] at e1
      cases e1
      rw [c2] at c1
      exact absurd (Value.type.inj c1) (by decide)
    exact wpAny_pyNext_zipD2_end D (Draws.strAscii (prog := X.prog) (w := X.w) (A := X.A.in1) (I.ok.hd hc) i1 x t) (Draws.list (prog := X.prog) (w := X.w) (A := X.A.in1) (I.ok.hd hc) i2 b hbi its2.toArray) hz hTI hTO h1 ⟨h2, p2.isList⟩ hl1
      (by simp; omega) (by simp; omega) fun h' tk hk => ⟨rfl, I.turnedL (t' := tk) (ch := [z, TI, TO, i1, i2]) (fun c o hb q =>
      hk c o (fun q' => hb (by simp [q'])) (fun q' => hb (by simp [q'])) (fun q' => hb (by simp [q'])) (fun q' => hb (by simp [q'])) q) hf⟩
  self := fun A i s Q E st h => wpAny_pyIter_zip st.1 h
theorem zsep (n b : Nat) (h : b < n) : ZipSep2 (n + 4) (n + 2) (n + 3) n (n + 1) [n] [n + 1, b] := by
  have ne : ∀ {x y : Nat}, x ≠ y → (show Addr from x) ≠ (show Addr from y) := fun h => h
  have nm1 : ∀ {x y : Nat}, x ≠ y → (show Addr from x) ∉ [(show Addr from y)] := fun h hm => h (List.mem_singleton.mp hm)
  have nm2 : ∀ {x y z : Nat}, x ≠ y → x ≠ z → (show Addr from x) ∉ [(show Addr from y), (show Addr from z)] := fun h h2 hm => by
    rcases List.mem_cons.mp hm with e | e
    · exact h e
    · exact h2 (List.mem_singleton.mp e)
  exact ⟨ne (by omega), ne (by omega), ne (by omega), ne (by omega), by simp, nm1 (by omega), nm1 (by omega), ne (by omega), by simp, nm2 (by omega) (by omega), nm2 (by omega) (by omega), nm2 (by omega) (by omega), nm1 (by omega)⟩
def iZipS (K : PySem.W.Frag) (ta : TA) : TI := fun σ H R => ta σ H fun vs H1 => ∃ x b ys, vs = [.str x, .ref b] ∧ strIterType x = "str_ascii_iterator" ∧ SqL K H1 b ys ∧ R (Itsz K x b) H1
theorem pi_zipS {X : Cx} {e e2 : Expr} {ta : TA} {p pos tpos : Pos} {elts : List Expr} {kk : Nat} (hg : Gl X "zip") (hm : X.mg "zip" = none) (ha : PA X [e, e2] ta)
    (hs : starEach [e, e2] X.env = (false, eval e X.env) :: starEach [e2] X.env := by rfl) (hpl : (backTo pos (starEach [e2] X.env)).any (·.1) = false := by rfl) :
    PI X (.Tuple elts kk tpos) (.Call (.Name "zip" p) [e, e2] [] pos) (iZipS X.K ta) := by
  refine ⟨fun pins s σ H R I h => ?_⟩
  refine Call_ (ld_blt I hg hm PyProof.Rows.boot_zip (PyProof.Rows.callWith_type1 (thn (ha.run pos pins s σ H _ I h) fun us s1 ⟨vs, H1, I1, r1, q1⟩ => ?_) hs hpl))
  obtain ⟨x, b, ys, ex, hty, hqy, q⟩ := q1
  subst ex
  cases r1 with
  | cons r rr =>
    cases rr with
    | cons r' rr =>
      cases rr
      obtain ⟨t, rfl⟩ := r
      cases r'
      obtain ⟨its2, rv2, p2, _⟩ := I1.list hqy
      have lb : b < s1.heap.objs.size := p2.lt
      refine zip_begins2 (begins_text x t) (begins_list b its2.toArray) True.intro p2.isList fun h' hz hTI hTO h1 h2 hsz hk => wpAny_pyIter_zip hz ?_
      rw [hty] at h1
      have I2 : Inv X pins σ H1 { s1 with heap := h' } := I1.kept (t' := s1.toks) hk
      refine ⟨s1.heap.objs.size + 4, [s1.heap.objs.size + 4, s1.heap.objs.size + 2, s1.heap.objs.size + 3, s1.heap.objs.size, s1.heap.objs.size + 1], _, _, H1, rfl, I2, turn_zipS (x := x) (t := t) (zsep s1.heap.objs.size b lb),
        ⟨hz, hTI, ⟨_, _, hTO⟩, ⟨_, h1, rfl, rfl⟩, ⟨_, h2, rfl, rfl⟩⟩, fun c hcm => ?_, q⟩
      have e' : c = s1.heap.objs.size + 4 ∨ c = s1.heap.objs.size + 2 ∨ c = s1.heap.objs.size + 3 ∨ c = s1.heap.objs.size ∨ c = s1.heap.objs.size + 1 := by simpa using hcm
      have hle : s1.heap.objs.size ≤ c := by
        rcases e' with z | z | z | z | z
        · rw [z]; exact Nat.le_add_right _ _
        · rw [z]; exact Nat.le_add_right _ _
        · rw [z]; exact Nat.le_add_right _ _
        · rw [z]; exact Nat.le_refl _
        · rw [z]; exact Nat.le_add_right _ _
      exact I1.fpOk hle (I1.hok.fresh hle)
theorem walk_zipS {K : PySem.W.Frag} {x : Str} {b : Addr} {ys : List V} (hn : ys.length = x.cps.size) : Walk (Itsz K x b) ys.length (fun H => SqL K H b ys) (fun i H v H' => ∃ T c y, v = .ref T ∧ H T = none ∧ H' = upd H T (.tup [.str ⟨#[c]⟩, y]) ∧ x.cps[i]? = some c ∧ ys[i]? = some y) :=
  ⟨fun i _ hi q => ⟨ys, ys[i], q, by omega, by simp [hi]⟩, fun _ q => ⟨ys, q, by omega, Nat.le_refl _, .inr rfl⟩, fun _ _ _ _ _ q y => let ⟨T, c, v, e1, e2, e3, e4, e5⟩ := y; ⟨T, c, v, e1, e2, e3, e4, e5 ys q⟩⟩
end Tc
namespace Tc
open PySem PySem.Spec PyProof.Rows L2 He He5
open Sem (wp)
section
variable {X : Cx} {pos : Pos}
/-- (a, *b) = a list of one item or more -/
def gStar1 (K : PySem.W.Frag) (t : TGs) : TG := fun v σ H Q => ∃ a x xs, v = .ref a ∧ SqL K H a (x :: xs) ∧ xs.length ≤ 1000 ∧ ∀ D, H D = none → t [x, .ref D] σ (upd H D (.lst xs)) Q
theorem pg_star1 {elts names : List Expr} {k : Nat} {t : TGs} (hc : X.calm = true) (h : PGs X names t) (hlen : (assignEach elts X.env).length = 2 := by rfl) (hstar : (assignEach elts X.env).findIdx? (·.1) = some 1 := by rfl)
    (hm : (assignEach elts X.env).map (·.2) = (assignEach names X.env).map (·.2) := by rfl) : PG X (.Tuple elts k pos) (gStar1 X.K t) := by
  refine ⟨fun pins s σ H v u Q I r hw => ?_⟩
  obtain ⟨a, x, xs, e1, hq, hl, hw⟩ := hw
  subst e1
  cases r
  obtain ⟨its, rv, hp, hz⟩ := I.list hq
  cases rv with
  | @cons _ y _ ys r rr =>
    have hys : ys.length = xs.length := by rw [rr.length]
    have hl0 : s.heap.IsList a (y :: ys).toArray := hp.isList
    have hlt : a ≠ s.heap.objs.size := by obtain ⟨o, ho, _⟩ := hl0; exact Nat.ne_of_lt (Heap.lt_size ho)
    have hh := I.ok.hd hc
    rw [assign_Tuple]
    refine wpAny_bind (wpAny_standAt ?_)
    unfold unpack
    rw [hlen, hstar]
    refine wpAny_bind (wpAny_holding ?_)
    unfold unpackItems
    refine wpAny_bind ?_
    unfold notIterableAtAll
    refine wpAny_bind (wpAny_specialOf hl0.typeIs slot_list_iter.lookup ?_)
    refine wpAny_pure ?_
    simp only [Bool.false_eq_true, if_false]
    refine wpAny_bind (wpAny_holding (wpAny_pyIter_list hl0 ?_))
    refine wpAny_bind (wpAny_holding (PySem.W.kun_draw hlt 1 0 _ _ ⟨_, Heap.get?_push_size _ rfl, rfl, rfl⟩ (hl0.push _) (by simp) fun h₁ hit₁ hs₁ => ?_))
    have hl₁ : h₁.IsList a (y :: ys).toArray := (hl0.push _).extBut hs₁.extBut hlt
    rw [Nat.zero_add] at hit₁
    have hit₁' := hit₁
    obtain ⟨oi, hoi, _⟩ := hit₁'
    have hl₁' := hl₁
    obtain ⟨ol, hol, _⟩ := hl₁'
    rw [List.drop_zero]
    have hfl : ((y :: ys).toArray.toList.take 1).length = 1 := by simp
    have hft : (y :: ys).toArray.toList.take 1 = [y] := by simp
    rw [if_neg (show ¬ (((y :: ys).toArray.toList.take 1).length < 1) by rw [hfl]; omega)]
    refine wpAny_bind (wpAny_holding (PySem.W.kun_collect (s := { s with heap := h₁ }) (T := "list_iterator") (.inr (.inr (.inl rfl))) (Walks.list (A := X.A.in1) hh s.heap.objs.size a hlt (y :: ys).toArray) (fun j u st => st.1.typeIs) (k := 1) (by simp) ⟨hit₁, hl₁⟩ (Heap.lt_size hoi) (Heap.lt_size hol) (fun h₂ tk hk => ?_) (by rw [sizeLine_eq]; simp; omega)))
    have hd : (y :: ys).toArray.toList.drop 1 = ys := by simp
    rw [hd]
    rw [if_neg (show ¬ (ys.length < 2 - 1 - 1) by omega)]
    rw [hft]
    have hkeep : ∀ b o, s.heap.get? b = some o → h₂.get? b = some o := fun b o e => hk b o (Nat.ne_of_lt (Heap.lt_size e)) (hs₁.extBut b o (Nat.ne_of_lt (Heap.lt_size e)) (Heap.get?_push_of_some _ e))
    have hlen2 : ys.length ≤ sizeLine := by rw [hys]; exact Nat.le_of_lt (Nat.lt_of_le_of_lt hl (by decide))
    have I1 : Inv X pins σ H { s with heap := h₂, toks := tk } := I.kept hkeep
    show wpAny _ _ (newList (ys.take (ys.length - 0)) >>= fun d => pure ([y] ++ [d] ++ ys.drop (ys.length - 0))) _ _ _
    rw [Nat.sub_zero, List.take_length, List.drop_length]
    refine wpAny_bind (wpAny_newList (wpAny_pure ?_) hlen2)
    rw [hm]
    have hf : H h₂.objs.size = none := I1.hok.fresh (Nat.le_refl _)
    have I2 : Inv X pins σ (upd H h₂.objs.size (.lst xs)) { s with heap := h₂.push { cls := .type "list", data := .seq ys.toArray }, toks := tk } :=
      I1.laid (t' := tk) (fun b u e => Heap.get?_push_of_some _ e) (Nat.le_refl _) ⟨by rw [← hys]; exact hlen2, ys, 0, rr, Heap.get?_push_size _ rfl⟩
    exact h.run pins _ σ _ [x, .ref h₂.objs.size] _ Q I2 (.cons r (.cons rfl .nil)) (hw _ hf)
/-! ### match -/
abbrev TC := V → TS
structure PCs (X : Cx) (cs : List MatchCase) (first : Bool) (t : TC) : Prop where
  run : ∀ (pins : List (Addr × Obj)) (s : Shared) (σ : L2.St) (H : Hp) (v : V) (u : Value) (D : Ends), Inv X pins σ H s → RelV v u → t v D σ H → wpAny (model X.prog X.w) X.A (matchCases cs X.env u first) (SP X pins D) X.xe s
def tMatch (te : TE) (t : TC) : TS := fun D σ H => te σ H fun x H1 => t x D σ H1
theorem ps_match {subject : Expr} {cases : List MatchCase} {te : TE} {t : TC} (he : PE X subject te) (hs : PCs X cases true t) : PS X (.Match subject cases pos) (tMatch te t) := by
  refine ⟨fun pins s σ H D I h => ?_⟩
  exact wpAny_Match (thn (he.run pins s σ H _ I h) fun u s1 ⟨x, H1, I1, r1, q1⟩ => hs.run pins s1 σ H1 x u D I1 r1 q1)
theorem wild_case {rest : List MatchCase} {body : List Stmt} {first : Bool} {t : TS} (hb : PSs X body t) : PCs X (⟨.MatchAs none none pos, none, body⟩ :: rest) first (fun _ => t) := by
  refine ⟨fun pins s σ H v u D I r h => ?_⟩
  refine wpAny_matchCases_cons (wpAny_matchPattern_Capture ?_)
  exact wpAny_assignInOrder_none (hb.run pins s σ H D I h)
/-- case [z, n1, ..] -/
def tCase1 (K : PySem.W.Frag) (z : Str) (i : Nat) (t : TS) (nx : TC) : TC := fun v D σ H => ∃ a y ys, v = .ref a ∧ SqL K H a (.str y :: ys) ∧ ys.length ≤ 1000 ∧
  (∀ x, y = z → ys = [x] → t D (σ.set i (some x)) H) ∧ (¬ (y = z ∧ ys.length = 1) → nx v D σ H)
def tCase2 (K : PySem.W.Frag) (z : Str) (i j : Nat) (t : TS) (nx : TC) : TC := fun v D σ H => ∃ a y ys, v = .ref a ∧ SqL K H a (.str y :: ys) ∧ ys.length ≤ 1000 ∧
  (∀ x x2, y = z → ys = [x, x2] → t D ((σ.set i (some x)).set j (some x2)) H) ∧ (¬ (y = z ∧ ys.length = 2) → nx v D σ H)
/-- the captures bind what they are given -/
theorem caps {pins : List (Addr × Obj)} {s : Shared} {σ : L2.St} {H : Hp} {i : Nat} {n : Str} {x : V} {u : Value} {bs : List (Str × Value)} {Qf : Unit → Shared → Prop}
    (I : Inv X pins σ H s) (hN : X.N.Nodup) (hi : X.N[i]? = some n) (hx : Loc X.env.scope n) (hf : X.fn n = true ∨ X.env.scope.names.lookup n = some .local) (r : RelV x u)
    (h : ∀ s', Inv X pins (σ.set i (some x)) H s' → wpAny (model X.prog X.w) X.A (assignInOrder (bs.map fun (n, _) => bindName X.env n) (bs.map (·.2))) Qf X.xe s') :
    wpAny (model X.prog X.w) X.A (assignInOrder (((n, u) :: bs).map fun (n, _) => bindName X.env n) (((n, u) :: bs).map (·.2))) Qf X.xe s :=
  wpAny_assignInOrder_more (wpAny_bindName (store_ok I hN hi hx r (fun s' I' => h s' I') hf))
theorem unp_list {M : Program} {w : World} {A : Around} {E : Value → Shared → Prop} {s : Shared} {l : Addr} {items : Array Value} {n : Nat} {Q : List Value → Shared → Prop} (hh : A.handled = none) (hl : s.heap.IsList l items) (hn : items.size = n)
    (hQ : ∀ h', Heap.ExtBut s.heap.objs.size s.heap h' → Q items.toList { s with heap := h' }) : wpAny (model M w) A (unpackItems (.ref l) n none) Q E s := by
  subst hn
  exact PySem.W.kun_itemsOf hh hl hQ
theorem two_of {l : List V} (h : l.length = 2) : ∃ a b, l = [a, b] := by
  match l, h with
  | [a, b], _ => exact ⟨a, b, rfl⟩
theorem lt63 {n : Nat} (h : n ≤ 1001) : (n : Int) < 2 ^ 63 := by omega
theorem case1 {z n : Str} {i j : Nat} {vp mp np : Pos} {rest : List MatchCase} {body : List Stmt} {first : Bool} {t : TS} {nx : TC} (hc : X.calm = true) (hN : X.N.Nodup) (hi : X.N[i]? = some n) (hx : Loc X.env.scope n)
    (hb : PSs X body t) (hr : PCs X rest false nx) (hf : X.fn n = true ∨ X.env.scope.names.lookup n = some .local := by first | exact .inl rfl | exact .inr rfl) :
    PCs X (⟨.MatchSequence [.MatchValue (.Constant (.str z) j vp) mp, .MatchAs none (some n) np] pos, none, body⟩ :: rest) first (tCase1 X.K z i t nx) := by
  refine ⟨fun pins s σ H v u D I r h => ?_⟩
  obtain ⟨a, y, ys, e, hq, hl, k1, k2⟩ := h
  have rv0 := r
  subst e
  cases r
  obtain ⟨its, rv, hp, hz⟩ := I.list hq
  cases rv with
  | @cons _ u0 _ us r0 rr =>
    have hys : us.length = ys.length := by rw [rr.length]
    obtain ⟨t0, rfl⟩ := r0
    have hl0 : s.heap.IsList a (Value.str y t0 :: us).toArray := hp.isList
    have hfit : (((Value.str y t0 :: us).toArray.size : Nat) : Int) < 2 ^ 63 := lt63 (by simp; omega)
    refine wpAny_matchCases_cons ?_
    by_cases hn : ys.length = 1
    · refine matchSeq_list_hit hl0 hfit (by simp; omega) (unp_list (I.ok.hd hc) hl0 (by simp; omega) fun h' hx' => ?_)
      have I1 : Inv X pins σ H { s with heap := h', toks := s.toks + 1 + 1 } := I.kept fun b o e => hx' b o (Nat.ne_of_lt (Heap.lt_size e)) e
      refine wpAny_matchEach_cons (wpAny_matchPattern_Value (Calls.Constant_str ?_))
      have I2 := I1.tok (s.toks + 1 + 1 + 1)
      refine thn (op_eq pins _ σ H (.str y) (.str z) _ _ (fun b H2 => b = .bl (decide (y = z)) ∧ H2 = H) I2 ⟨_, rfl⟩ ⟨_, rfl⟩ ⟨rfl, by simp⟩) fun c s2 ⟨b, H2, I3, rb, eb, eH⟩ => ?_
      subst eb
      subst eH
      cases rb
      refine wpAny_truthy_bool ?_
      by_cases hyz : y = z
      · rw [decide_eq_true hyz]
        obtain ⟨x1, rfl⟩ := List.length_eq_one_iff.mp hn
        clear hys
        cases rr with
        | @cons _ u1 _ us2 r1 rr2 =>
          cases rr2
          refine wpAny_matchEach_cons (wpAny_matchPattern_Capture (wpAny_matchEach_nil ?_))
          refine caps I3 hN hi hx hf r1 fun s3 I4 => wpAny_assignInOrder_none ?_
          exact hb.run pins s3 _ H2 D I4 (k1 x1 hyz rfl)
      · rw [decide_eq_false hyz]
        exact hr.run pins s2 σ H2 _ _ D I3 rv0 (k2 fun z => hyz z.1)
    · refine matchSeq_list_miss hl0 hfit (by simp; omega) ?_
      exact hr.run pins _ σ H _ _ D (I.tok _) rv0 (k2 fun z => hn z.2)
theorem case2 {z n n2 : Str} {i i2 j : Nat} {vp mp np np2 : Pos} {rest : List MatchCase} {body : List Stmt} {first : Bool} {t : TS} {nx : TC} (hc : X.calm = true) (hN : X.N.Nodup) (hi : X.N[i]? = some n) (hx : Loc X.env.scope n) (hi2 : X.N[i2]? = some n2) (hx2 : Loc X.env.scope n2)
    (hb : PSs X body t) (hr : PCs X rest false nx) (hf : X.fn n = true ∨ X.env.scope.names.lookup n = some .local := by first | exact .inl rfl | exact .inr rfl) (hf2 : X.fn n2 = true ∨ X.env.scope.names.lookup n2 = some .local := by first | exact .inl rfl | exact .inr rfl) :
    PCs X (⟨.MatchSequence [.MatchValue (.Constant (.str z) j vp) mp, .MatchAs none (some n) np, .MatchAs none (some n2) np2] pos, none, body⟩ :: rest) first (tCase2 X.K z i i2 t nx) := by
  refine ⟨fun pins s σ H v u D I r h => ?_⟩
  obtain ⟨a, y, ys, e, hq, hl, k1, k2⟩ := h
  have rv0 := r
  subst e
  cases r
  obtain ⟨its, rv, hp, hz⟩ := I.list hq
  cases rv with
  | @cons _ u0 _ us r0 rr =>
    have hys : us.length = ys.length := by rw [rr.length]
    obtain ⟨t0, rfl⟩ := r0
    have hl0 : s.heap.IsList a (Value.str y t0 :: us).toArray := hp.isList
    have hfit : (((Value.str y t0 :: us).toArray.size : Nat) : Int) < 2 ^ 63 := lt63 (by simp; omega)
    refine wpAny_matchCases_cons ?_
    by_cases hn : ys.length = 2
    · refine matchSeq_list_hit hl0 hfit (by simp; omega) (unp_list (I.ok.hd hc) hl0 (by simp; omega) fun h' hx' => ?_)
      have I1 : Inv X pins σ H { s with heap := h', toks := s.toks + 1 + 1 } := I.kept fun b o e => hx' b o (Nat.ne_of_lt (Heap.lt_size e)) e
      refine wpAny_matchEach_cons (wpAny_matchPattern_Value (Calls.Constant_str ?_))
      have I2 := I1.tok (s.toks + 1 + 1 + 1)
      refine thn (op_eq pins _ σ H (.str y) (.str z) _ _ (fun b H2 => b = .bl (decide (y = z)) ∧ H2 = H) I2 ⟨_, rfl⟩ ⟨_, rfl⟩ ⟨rfl, by simp⟩) fun c s2 ⟨b, H2, I3, rb, eb, eH⟩ => ?_
      subst eb
      subst eH
      cases rb
      refine wpAny_truthy_bool ?_
      by_cases hyz : y = z
      · rw [decide_eq_true hyz]
        obtain ⟨x1, x2, rfl⟩ := two_of hn
        clear hys
        cases rr with
        | @cons _ u1 _ us2 r1 rr2 =>
         cases rr2 with
         | @cons _ u2 _ us3 r2 rr3 =>
          cases rr3
          refine wpAny_matchEach_cons (wpAny_matchPattern_Capture (wpAny_matchEach_cons (wpAny_matchPattern_Capture (wpAny_matchEach_nil ?_))))
          refine caps I3 hN hi hx hf r1 fun s3 I4 => caps I4 hN hi2 hx2 hf2 r2 fun s4 I5 => wpAny_assignInOrder_none ?_
          exact hb.run pins s4 _ H2 D I5 (k1 x1 x2 hyz rfl)
      · rw [decide_eq_false hyz]
        exact hr.run pins s2 σ H2 _ _ D I3 rv0 (k2 fun z => hyz z.1)
    · refine matchSeq_list_miss hl0 hfit (by simp; omega) ?_
      exact hr.run pins _ σ H _ _ D (I.tok _) rv0 (k2 fun z => hn z.2)
end
end Tc
namespace Tc
open PySem PySem.Spec PyProof.Rows L2 He He5 Mi
/-! ### texts of numbers -/
abbrev digS : Str := "0123456789"
def isDig (s : Str) : Bool := !(Builtin.Str.occurrences digS s 0 digS.length 1).isEmpty
def badC (s : Str) : Bool := decide (s = "") || !((cpsStr s).all isDig)
def okC (s : Str) : Bool := decide (s = "0") || !(Txt.startswith s "0")
def cntS (s : Str) : Option Int := if badC s = true then none else if okC s = true then PySem.intText? s else none
def cntOk (s : Str) : Bool := decide (s.cps.size ≤ 100) && decide (s.length ≤ 100) && (badC s || !(okC s) || (PySem.intText? s).isSome)
def oI : Option Int → V
  | none => .non
  | some i => .int i
theorem dec_str (a b : Str) : decide (V.str a = V.str b) = decide (a = b) := by
  by_cases h : a = b
  · simp [h]
  · simp [h]
def intS (s : Str) : Option Int := if Txt.startswith s "-" = true then match cntS (cutS s (some 1) none) with
    | none => none
    | some n => if n = 0 then none else some (-n)
  else cntS s
def intOk (s : Str) : Bool := decide (s.length ≤ 100) && if Txt.startswith s "-" = true then cntOk (cutS s (some 1) none) else cntOk s
section
variable {P : Program} {w : World} {K : PySem.W.Frag} {mg : Str → Option Value} {base : Heap}
def sp_parse_count : Sp := fun vs H Q _ => ∃ s : Str, vs = [.str s] ∧ cntOk s = true ∧ ∀ H', Same H H' → Q (oI (cntS s)) H'
abbrev N_parse_count : List Str := ["text", "sign"]
theorem sc_parse_count : FnScope N_parse_count ["text"] d_parse_count.scope := ⟨rfl, rfl, rfl, by decide +kernel, rfl, by decide +kernel, by decide +kernel⟩
theorem ok_parse_count (W : Wd w K mg) : FnR P w K mg base CX0 1 (d_parse_count.at_ K) sp_parse_count := by
  refine fnr0 W.f_parse_count sc_parse_count (fun vs H Q E h => ?_) (fun _ _ _ _ _ _ us hl => match us, hl with | [_], _ => rfl) (fun cdv A outer s H vs Q E hr h => ?_)
  · obtain ⟨s, rfl, hk, q⟩ := h
    rfl
  · obtain ⟨s, rfl, hk, q⟩ := h
    refine ⟨_, (pss_cons (ps_if (PW.pt (pw_or (pt_cmpR op_eq (pv 0) pe_str (nomark _)) (pw_or1 (pt_not (pt_val (pe_callB (cr_all rfl) (by rfl) W.z_all (by decide +kernel) (pa_cons (pe_lc (own := [("sign", 1)]) (g := gName 1) rfl sc_parse_count.nd (pi_str (pv 0)) (blkOk_by (own := [("sign", 1)]) (N := N_parse_count) (sc := d_parse_count.scope) (by decide +kernel)) (fun _ _ _ _ _ => (pg_name (i := 1) sc_parse_count.nd rfl (by first | exact Or.inl rfl | exact Or.inr rfl))) (fun _ _ _ _ _ => pts_nil) (fun _ _ _ _ _ => (pe_cmpR op_in_str (pv 1) pe_str rfl))) pa_nil))))))) (pss_one (ps_ret pe_non)) pss_nil)
      (pss_one (ps_ret (pe_ifExp (PW.pt (pw_or (pt_cmpR op_eq (pv 0) pe_str (nomark _)) (pw_or1 (pt_not (pt_val (pe_m1 PySem.F.slot_str_startswith PySem.F.type_str_startswith mt_startswith (pv 0) pe_str)))))) (pe_callTy call_int_str (by rfl) W.z_int boot_int (pa_cons (pv 0) pa_nil)) pe_non)))), ?_⟩
    simp only [cntOk, Bool.and_eq_true, decide_eq_true_eq] at hk
    obtain ⟨⟨hz, hl⟩, hk⟩ := hk
    refine ⟨.str s, rfl, rfl, _, rfl, ite2 (fun h0 => ?_) fun h0 => ?_⟩
    · have e : cntS s = none := by
        rw [dec_str] at h0
        unfold cntS badC
        rw [h0]
        rfl
      rw [e] at q
      exact iteP rfl (q _ (Same.refl _))
    have h0 : decide (s = "") = false := by
      rw [dec_str] at h0
      exact Bool.eq_false_iff.mpr h0
    refine ⟨.str s, rfl, s, rfl, fun D hD => lc_enc (walk_str (z := s)) (xs := cpsStr s) (Ex := fun c x _ => x = V.str c) (fun _ => true) (fun c => V.bl (isDig c)) (cpsStr_len s).symm yStr (fun _ _ => True.intro) (by rw [cpsStr_len]; omega) hD (fun y x H2 Yc Nn hy hS hE k1 k2 => ?_) fun H2 e2 hD2 => ?_⟩
    · subst hE
      exact ⟨rfl, .str y, rfl, y, digS, rfl, rfl, k1 _ (Same.refl _) rfl⟩
    have hbs : (((cpsStr s).filter fun _ => true).map fun c => V.bl (isDig c)) = ((cpsStr s).map isDig).map V.bl := by
      rw [List.filter_eq_self.mpr (fun _ _ => rfl), List.map_map]
      rfl
    rw [hbs] at hD2
    have ha : ((cpsStr s).map isDig).all id = (cpsStr s).all isDig := by
      rw [List.all_map]
      rfl
    have hb : badC s = !((cpsStr s).all isDig) := by
      unfold badC
      rw [h0, Bool.false_or]
    refine ⟨D, _, rfl, SqL.of hD2, _, rfl, ite2 (fun h1 => ?_) fun h1 => ?_⟩ <;> rw [ha, ← hb] at h1
    · have e : cntS s = none := by
        unfold cntS
        rw [if_pos h1]
      rw [e] at q
      exact q _ e2
    have h1' : badC s = false := Bool.eq_false_iff.mpr h1
    have fin : okC s = true → tCB (fun xs H Q => ∃ a n, xs = [V.str a] ∧ PySem.intText? a = some n ∧ a.length ≤ 640 ∧ Q (V.int n) H) (tCons (tVar 0) tNil) (L2.start N_parse_count [V.str s]) H2 Q := fun h2 => by
      rw [h1', h2] at hk
      obtain ⟨n, hn⟩ := Option.isSome_iff_exists.mp (show (PySem.intText? s).isSome = true from hk)
      have e : cntS s = some n := by
        unfold cntS
        rw [if_neg h1, if_pos h2, hn]
      rw [e] at q
      exact ⟨.str s, rfl, s, n, rfl, hn, by omega, q _ e2⟩
    refine ⟨.str s, rfl, rfl, _, rfl, ite2 (fun h2 => ?_) fun h2 => ?_⟩
    · rw [dec_str] at h2
      refine iteP rfl (fin ?_)
      unfold okC
      rw [h2]
      rfl
    · rw [dec_str] at h2
      refine ⟨.str s, rfl, ⟨s, rfl⟩, s, "0", rfl, rfl, _, rfl, ite2 (fun h3 => fin ?_) fun h3 => ?_⟩
      · unfold okC
        rw [h3, Bool.or_true]
      · have e : cntS s = none := by
          unfold cntS okC
          rw [if_neg h1, Bool.eq_false_iff.mpr h2, Bool.eq_false_iff.mpr h3]
          rfl
        rw [e] at q
        exact q _ e2
theorem c_parse_count (W : Wd w K mg) : Cal P w K mg base CX0 1 "parse_count" (d_parse_count.at_ K) sp_parse_count := ⟨ok_parse_count W, W.g_parse_count, W.f_parse_count.kp⟩
def sp_parse_integer : Sp := fun vs H Q _ => ∃ s : Str, vs = [.str s] ∧ intOk s = true ∧ ∀ H', Same H H' → Q (oI (intS s)) H'
abbrev N_parse_integer : List Str := ["text", "number"]
theorem sc_parse_integer : FnScope N_parse_integer ["text"] d_parse_integer.scope := ⟨rfl, rfl, rfl, by decide +kernel, rfl, by decide +kernel, by decide +kernel⟩
theorem ok_parse_integer (W : Wd w K mg) : FnR P w K mg base CX0 2 (d_parse_integer.at_ K) sp_parse_integer := by
  refine fnr0 W.f_parse_integer sc_parse_integer (fun vs H Q E h => ?_) (fun _ _ _ _ _ _ us hl => match us, hl with | [_], _ => rfl) (fun cdv A outer s H vs Q E hr h => ?_)
  · obtain ⟨s, rfl, hk, q⟩ := h
    rfl
  · obtain ⟨s, rfl, hk, q⟩ := h
    refine ⟨_, (pss_cons (ps_if (pt_not (pt_val (pe_m1 PySem.F.slot_str_startswith PySem.F.type_str_startswith mt_startswith (pv 0) pe_str))) (pss_one (ps_ret (pe_c (c_parse_count W) (hr.mono (by omega)) pass0 (pa_cons (pv 0) pa_nil)))) pss_nil)
      (pss_cons (ps_set (i := 1) sc_parse_integer.nd rfl (by first | exact Or.inl rfl | exact Or.inr rfl) (pe_c (c_parse_count W) (hr.mono (by omega)) pass0 (pa_cons (pe_slice sl_str (pv 0) (po_some pe_int) po_none) pa_nil)))
      (pss_one (ps_ret (pe_ifExp (PW.pt (pw_or (pt_cmpR op_isN (pv 1) pe_non (nomark _)) (pw_or1 (pt_cmpR op_eq (pv 1) pe_int (nomark _))))) pe_non (pe_un un_neg (pv 1))))))), ?_⟩
    simp only [intOk, Bool.and_eq_true, decide_eq_true_eq] at hk
    obtain ⟨hl, hk⟩ := hk
    refine ⟨.str s, rfl, ⟨s, rfl⟩, s, "-", rfl, rfl, _, rfl, ?_⟩
    cases hs : Txt.startswith s "-" with
    | false =>
      have e : intS s = cntS s := by
        unfold intS
        rw [hs]
        rfl
      rw [hs] at hk
      rw [e] at q
      exact iteP rfl ⟨.str s, rfl, s, rfl, hk, q⟩
    | true =>
      rw [hs] at hk
      refine iteN (by decide) ⟨.str s, rfl, 1, rfl, s, rfl, Nat.le_of_lt (small1k (by omega)), _, rfl, hk, fun H1 e1 => ?_⟩
      cases hc : cntS (cutS s (some 1) none) with
      | none =>
        have e : intS s = none := by
          unfold intS
          rw [hs, hc]
          rfl
        rw [e] at q
        exact ⟨.non, rfl, rfl, _, rfl, iteP (decide_eq_true rfl) (iteP rfl (q _ e1))⟩
      | some n =>
        have e : intS s = if n = 0 then none else some (-n) := by
          unfold intS
          rw [hs, hc]
          rfl
        rw [e] at q
        refine ⟨.int n, rfl, rfl, _, rfl, iteN (by simp) ⟨.int n, rfl, rfl, _, rfl, ite2 (fun h => ?_) fun h => ?_⟩⟩
        · have h : n = 0 := V.int.inj (of_decide_eq_true h)
          rw [if_pos h] at q
          exact q _ e1
        · have h : ¬ n = 0 := fun z => h (decide_eq_true (by rw [z]))
          rw [if_neg h] at q
          exact ⟨.int n, rfl, n, rfl, q _ e1⟩
theorem c_parse_integer (W : Wd w K mg) : Cal P w K mg base CX0 2 "parse_integer" (d_parse_integer.at_ K) sp_parse_integer := ⟨ok_parse_integer W, W.g_parse_integer, W.f_parse_integer.kp⟩
end
end Tc
namespace Tc
open PySem PySem.Spec PyProof.Rows L2 He He5 Mi
/-! ### texts of steps -/
def shortS (s : Str) : Bool := decide (s.cps.size ≤ 100) && decide (s.length ≤ 100)
/-- what the program's parts find in a step's text -/
def stOk (s : Stp) : Bool := shortS (stepText s) && match s with
  | .turn i => Txt.endswith (stepText s) "!" && decide (cutS (stepText s) none (some (-1)) = tI i) && cntOk (tI i) && decide (cntS (tI i) = some (i : Int)) && decide (i ≠ 0)
  | .exch i j => !(Txt.endswith (stepText s) "!") && decide (Txt.split (stepText s) "/" = [tI i, tI j]) && cntOk (tI i) && cntOk (tI j) && decide (cntS (tI i) = some (i : Int)) && decide (cntS (tI j) = some (j : Int)) && decide (i ≠ 0) && decide (j ≠ 0)
  | .cross i j => !(Txt.endswith (stepText s) "!") && decide (Txt.split (stepText s) "/" = [stepText s]) && cntOk (stepText s) && decide (cntS (stepText s) = none) && decide (Txt.split (stepText s) "*" = [tI i, tI j]) && cntOk (tI i) && cntOk (tI j) && decide (cntS (tI i) = some (i : Int)) && decide (cntS (tI j) = some (j : Int)) && decide (i ≠ 0) && decide (j ≠ 0)
theorem chk_st : ((stepsOf 4).all stOk) = true := by decide +kernel
theorem st_ok {s : Stp} (h : s ∈ stepsOf 4) : stOk s = true := List.all_eq_true.mp chk_st s h
theorem chk_st0 : (shortS "0!" && Txt.endswith "0!" "!" && decide (cutS "0!" none (some (-1)) = "0") && cntOk "0" && decide (cntS "0" = some 0)) = true := by decide +kernel
section
variable {P : Program} {w : World} {K : PySem.W.Frag} {mg : Str → Option Value} {base : Heap}
def sp_parse_step : Sp := fun vs H Q _ => (∃ s ∈ stepsOf 4, vs = [.str (stepText s)] ∧ ∀ H' v, Same H H' → StpAt H' v s → Q v H') ∨ (vs = [.str "0!"] ∧ ∀ H', Same H H' → Q .non H')
abbrev N_parse_step : List Str := ["text", "place", "sign", "word", "places", "part"]
theorem sc_parse_step : FnScope N_parse_step ["text"] d_parse_step.scope := ⟨rfl, rfl, rfl, by decide +kernel, rfl, by decide +kernel, by decide +kernel⟩
theorem ok_parse_step (W : Wd w K mg) : FnR P w K mg base CX0 2 (d_parse_step.at_ K) sp_parse_step := by
  refine fnr0 W.f_parse_step sc_parse_step (fun vs H Q E h => ?_) (fun _ _ _ _ _ _ us hl => match us, hl with | [_], _ => rfl) (fun cdv A outer s H vs Q E hr h => ?_)
  · rcases h with ⟨s, _, rfl, _⟩ | ⟨rfl, _⟩ <;> rfl
  · have h0 := h
    refine ⟨_, (pss_cons (ps_if (pt_val (pe_m1 PySem.F.slot_str_endswith PySem.F.type_str_endswith mt_endswith (pv 0) pe_str)) (pss_cons (ps_set (i := 1) sc_parse_step.nd rfl (by first | exact Or.inl rfl | exact Or.inr rfl) (pe_c (c_parse_count W) (hr.mono (by omega)) pass0 (pa_cons (pe_slice sl_str (pv 0) po_none (po_some (pe_un un_neg pe_int))) pa_nil)))
      (pss_one (ps_ret (pe_ifExp (PW.pt (pw_or (pt_cmpR op_isN (pv 1) pe_non (nomark _)) (pw_or1 (pt_cmpR op_eq (pv 1) pe_int (nomark _))))) pe_non (pe_tup (pa_cons pe_str (pa_cons (pv 1) pa_nil))))))) pss_nil)
      (pss_cons (ps_for PassesOwn.never rfl (pi_list (pe_lst (pa_cons (pe_tup (pa_cons pe_str (pa_cons pe_str pa_nil))) (pa_cons (pe_tup (pa_cons pe_str (pa_cons pe_str pa_nil))) pa_nil)))) (pg_tup rfl (pgs_cons (pg_name (i := 2) sc_parse_step.nd rfl (by first | exact Or.inl rfl | exact Or.inr rfl)) (pgs_cons (pg_name (i := 3) sc_parse_step.nd rfl (by first | exact Or.inl rfl | exact Or.inr rfl)) pgs_nil))) (pss_cons (ps_setLc (i := 4) (own := [("part", 5)]) (g := gName 5) rfl sc_parse_step.nd rfl rfl (sw_true rfl rfl rfl (by decide +kernel)) (pi_list (pe_split (pv 0) (pv 2))) (blkOk_by (own := [("part", 5)]) (N := N_parse_step) (sc := d_parse_step.scope) (by decide +kernel)) (fun _ _ _ _ _ => (pg_name (i := 5) sc_parse_step.nd rfl (by first | exact Or.inl rfl | exact Or.inr rfl))) (fun _ _ _ _ _ => pts_nil) (fun _ _ _ _ _ => (pe_c (c_parse_count W) (hr.mono (by omega)) pass0 (pa_cons (pv 5) pa_nil))))
      (pss_one (ps_if (PW.pt (pw_and (pt_cmpR op_eq (pe_callB call_len_seq (by rfl) W.z_len PySem.boot_len (pa_cons (pv 4) pa_nil)) pe_int (nomark _)) (pw_and (pt_cmpR op_notIn_seq pe_non (pv 4) rfl) (pw_and1 (pt_cmpR op_notIn_seq pe_int (pv 4) rfl))))) (pss_one (ps_ret (pe_tup (pa_cons (pv 3) (StX.pa_star (pv 4) pa_nil))))) pss_nil))))
      (pss_one (ps_ret pe_non)))), ?_⟩
    clear h0
    rcases h with ⟨s, hs, rfl, q⟩ | ⟨rfl, q⟩
    · have hk := st_ok hs
      have hsh : shortS (stepText s) = true := by
        unfold stOk at hk
        exact (Bool.and_eq_true_iff.mp hk).1
      have hlen : (stepText s).length ≤ 100 := by
        unfold shortS at hsh
        exact of_decide_eq_true (Bool.and_eq_true_iff.mp hsh).2
      cases s with
      | turn i =>
        simp only [stOk, Bool.and_eq_true, decide_eq_true_eq] at hk
        obtain ⟨_, ⟨⟨⟨h1, h2⟩, h3⟩, h4⟩, h5⟩ := hk
        refine ⟨.str (stepText (.turn i)), rfl, ⟨_, rfl⟩, _, "!", rfl, rfl, _, rfl, iteP h1 ?_⟩
        refine ⟨.str (stepText (.turn i)), rfl, 1, rfl, _, rfl, _, rfl, Nat.le_of_lt (small1k (by omega)), tI i, by rw [h2], h3, fun H1 e1 => ?_⟩
        rw [h4]
        refine ⟨.int (i : Int), rfl, rfl, _, rfl, iteN (by simp) ⟨.int (i : Int), rfl, rfl, _, rfl, iteN (by simp; omega) ⟨.int (i : Int), rfl, by show 2 ≤ sizeLine; decide, fun t ht => q _ _ (e1.trans (same_new ht)) ⟨t, rfl, upd_same⟩⟩⟩⟩
      | exch i j =>
        simp only [stOk, Bool.and_eq_true, decide_eq_true_eq] at hk
        obtain ⟨_, ⟨⟨⟨⟨⟨⟨h1, h2⟩, h3⟩, h4⟩, h5⟩, h6⟩, h7⟩, h8⟩ := hk
        refine ⟨.str (stepText (.exch i j)), rfl, ⟨_, rfl⟩, _, "!", rfl, rfl, _, rfl, iteN (fun z => by rw [z] at h1; cases h1) ?_⟩
        have hlen2 : (stepText (.exch i j)).length + 2 ≤ sizeLine := Nat.le_of_lt (small1k (by omega))
        refine ⟨by show 2 ≤ sizeLine; decide, fun t1 ht1 => ⟨by show 2 ≤ sizeLine; decide, fun t2 ht2 => ⟨by show 2 ≤ sizeLine; decide, fun L hL => ?_⟩⟩⟩
        have e1 := ((same_new (o := .tup [.str "/", .str "exchange"]) ht1).trans (same_new (o := .tup [.str "*", .str "cross"]) ht2)).trans (same_new (o := .lst [.ref t1, .ref t2]) hL)
        have k1 := ((same_new (o := .tup [.str "*", .str "cross"]) ht2).trans (same_new (o := .lst [.ref t1, .ref t2]) hL)) _ _ (upd_same (H := H) (a := t1) (o := HO.tup [.str "/", .str "exchange"]))
        have k2 := (same_new (o := .lst [.ref t1, .ref t2]) hL) _ _ (upd_same (a := t2) (o := HO.tup [.str "*", .str "cross"]))
        have kL := upd_same (H := upd (upd H t1 (.tup [.str "/", .str "exchange"])) t2 (.tup [.str "*", .str "cross"])) (a := L) (o := .lst [.ref t1, .ref t2])
        generalize upd (upd (upd H t1 (.tup [.str "/", .str "exchange"])) t2 (.tup [.str "*", .str "cross"])) L (.lst [.ref t1, .ref t2]) = H1 at *
        refine ⟨L, rfl, ⟨_, SqL.of kL⟩, for_list (K := K) (a := L) (xs := [.ref t1, .ref t2]) (fun i0 σ Hk => i0 = 0 ∧ σ = L2.start N_parse_step [V.str (stepText (.exch i j))] ∧ Same H1 Hk) ⟨rfl, rfl, Same.refl _⟩ (fun i0 σ Hk _ h => SqL.of (h.2.2 _ _ kL)) (fun i0 x σ Hk hx hI => ?_) (fun σ Hk hI => absurd hI.1 (by simp))⟩
        obtain ⟨rfl, rfl, eK⟩ := hI
        cases hx
        refine ⟨t1, _, rfl, SqT.of (eK _ _ k1), rfl, _, _, rfl, _, _, rfl, rfl, ?_⟩
        refine ⟨.str (stepText (.exch i j)), rfl, ⟨_, rfl⟩, .str "/", rfl, _, "/", rfl, rfl, by decide, hlen2, ?_⟩
        rw [h2]
        refine fun p hp => ⟨p, rfl, ⟨_, SqL.of upd_same⟩, fun D hD => lc_enc (wl (xs := [tI (i : Int), tI (j : Int)]) (enc := V.str)) (Ex := fun y x _ => x = V.str y) (fun _ => true) (fun y => oI (cntS y)) rfl yat (fun H' e => SqL.of (e _ _ upd_same)) (by simp) hD (fun y x H2 Yc Nn hy hS hE m1 m2 => ?_) fun H2 e2 hD2 => ?_⟩
        · subst hE
          refine ⟨rfl, .str y, rfl, y, rfl, ?_, fun H' e => m1 _ e rfl⟩
          simp only [List.mem_cons, List.not_mem_nil, or_false] at hy
          rcases hy with rfl | rfl
          · exact h3
          · exact h4
        have e02 := (eK.trans (same_new (o := .lst ([tI (i : Int), tI (j : Int)].map V.str)) hp)).trans e2
        simp only [List.filter_cons, List.filter_nil, if_true, List.map_cons, List.map_nil, h5, h6, oI] at hD2
        refine ⟨.ref D, rfl, D, _, rfl, .inl (SqL.of hD2), rfl, _, rfl, iteP (decide_eq_true rfl) ⟨.ref D, rfl, D, _, rfl, .inl (SqL.of hD2), rfl, rfl, _, rfl, iteP (by simp [inV, eqV]) ⟨.ref D, rfl, D, _, rfl, .inl (SqL.of hD2), rfl, rfl, _, rfl, iteP (by simp [inV, eqV]; omega) ?_⟩⟩⟩
        exact ⟨.str "exchange", rfl, .ref D, rfl, D, _, rfl, .inr (SqL.of hD2), by show 3 ≤ sizeLine; decide, fun t ht => q _ _ ((e1.trans e02).trans (same_new ht)) ⟨t, rfl, upd_same⟩⟩
      | cross i j =>
        simp only [stOk, Bool.and_eq_true, decide_eq_true_eq] at hk
        obtain ⟨_, ⟨⟨⟨⟨⟨⟨⟨⟨⟨h1, h2⟩, h2a⟩, hnone⟩, h2b⟩, h3⟩, h4⟩, h5⟩, h6⟩, h7⟩, h8⟩ := hk
        refine ⟨.str (stepText (.cross i j)), rfl, ⟨_, rfl⟩, _, "!", rfl, rfl, _, rfl, iteN (fun z => by rw [z] at h1; cases h1) ?_⟩
        have hlen2 : (stepText (.cross i j)).length + 2 ≤ sizeLine := Nat.le_of_lt (small1k (by omega))
        refine ⟨by show 2 ≤ sizeLine; decide, fun t1 ht1 => ⟨by show 2 ≤ sizeLine; decide, fun t2 ht2 => ⟨by show 2 ≤ sizeLine; decide, fun L hL => ?_⟩⟩⟩
        have e1 := ((same_new (o := .tup [.str "/", .str "exchange"]) ht1).trans (same_new (o := .tup [.str "*", .str "cross"]) ht2)).trans (same_new (o := .lst [.ref t1, .ref t2]) hL)
        have k1 := ((same_new (o := .tup [.str "*", .str "cross"]) ht2).trans (same_new (o := .lst [.ref t1, .ref t2]) hL)) _ _ (upd_same (H := H) (a := t1) (o := HO.tup [.str "/", .str "exchange"]))
        have k2 := (same_new (o := .lst [.ref t1, .ref t2]) hL) _ _ (upd_same (a := t2) (o := HO.tup [.str "*", .str "cross"]))
        have kL := upd_same (H := upd (upd H t1 (.tup [.str "/", .str "exchange"])) t2 (.tup [.str "*", .str "cross"])) (a := L) (o := .lst [.ref t1, .ref t2])
        generalize upd (upd (upd H t1 (.tup [.str "/", .str "exchange"])) t2 (.tup [.str "*", .str "cross"])) L (.lst [.ref t1, .ref t2]) = H1 at *
        refine ⟨L, rfl, ⟨_, SqL.of kL⟩, for_list (K := K) (a := L) (xs := [.ref t1, .ref t2]) (fun i0 σ Hk => (i0 = 0 ∨ i0 = 1) ∧ (∃ y2 y3 y4, σ = [some (.str (stepText (.cross i j))), none, y2, y3, y4, none]) ∧ Same H1 Hk) ⟨.inl rfl, ⟨_, _, _, rfl⟩, Same.refl _⟩ (fun i0 σ Hk _ h => SqL.of (h.2.2 _ _ kL)) (fun i0 x σ Hk hx hI => ?_) (fun σ Hk hI => absurd hI.1 (by simp))⟩
        obtain ⟨h0, ⟨y2, y3, y4, rfl⟩, eK⟩ := hI
        rcases h0 with rfl | rfl
        · cases hx
          refine ⟨t1, _, rfl, SqT.of (eK _ _ k1), rfl, _, _, rfl, _, _, rfl, rfl, ?_⟩
          refine ⟨.str (stepText (.cross i j)), rfl, ⟨_, rfl⟩, .str "/", rfl, _, "/", rfl, rfl, by decide, hlen2, ?_⟩
          rw [h2]
          refine fun p hp => ⟨p, rfl, ⟨_, SqL.of upd_same⟩, fun D hD => lc_enc (wl (xs := [stepText (.cross i j)]) (enc := V.str)) (Ex := fun y x _ => x = V.str y) (fun _ => true) (fun y => oI (cntS y)) rfl yat (fun H' e => SqL.of (e _ _ upd_same)) (by simp) hD (fun y x H2 Yc Nn hy hS hE m1 m2 => ?_) fun H2 e2 hD2 => ?_⟩
          · subst hE
            refine ⟨rfl, .str y, rfl, y, rfl, ?_, fun H' e => m1 _ e rfl⟩
            simp only [List.mem_cons, List.not_mem_nil, or_false] at hy
            subst hy
            exact h2a
          have e02 := (eK.trans (same_new (o := .lst ([stepText (.cross i j)].map V.str)) hp)).trans e2
          simp only [List.filter_cons, List.filter_nil, if_true, List.map_cons, List.map_nil, hnone, oI] at hD2
          refine ⟨.ref D, rfl, D, _, rfl, .inl (SqL.of hD2), rfl, _, rfl, iteN (by simp) ?_⟩
          exact ⟨.inr rfl, ⟨_, _, _, rfl⟩, e02⟩
        · cases hx
          refine ⟨t2, _, rfl, SqT.of (eK _ _ k2), rfl, _, _, rfl, _, _, rfl, rfl, ?_⟩
          refine ⟨.str (stepText (.cross i j)), rfl, ⟨_, rfl⟩, .str "*", rfl, _, "*", rfl, rfl, by decide, hlen2, ?_⟩
          rw [h2b]
          refine fun p hp => ⟨p, rfl, ⟨_, SqL.of upd_same⟩, fun D hD => lc_enc (wl (xs := [tI (i : Int), tI (j : Int)]) (enc := V.str)) (Ex := fun y x _ => x = V.str y) (fun _ => true) (fun y => oI (cntS y)) rfl yat (fun H' e => SqL.of (e _ _ upd_same)) (by simp) hD (fun y x H2 Yc Nn hy hS hE m1 m2 => ?_) fun H2 e2 hD2 => ?_⟩
          · subst hE
            refine ⟨rfl, .str y, rfl, y, rfl, ?_, fun H' e => m1 _ e rfl⟩
            simp only [List.mem_cons, List.not_mem_nil, or_false] at hy
            rcases hy with rfl | rfl
            · exact h3
            · exact h4
          have e02 := (eK.trans (same_new (o := .lst ([tI (i : Int), tI (j : Int)].map V.str)) hp)).trans e2
          simp only [List.filter_cons, List.filter_nil, if_true, List.map_cons, List.map_nil, h5, h6, oI] at hD2
          refine ⟨.ref D, rfl, D, _, rfl, .inl (SqL.of hD2), rfl, _, rfl, iteP (decide_eq_true rfl) ⟨.ref D, rfl, D, _, rfl, .inl (SqL.of hD2), rfl, rfl, _, rfl, iteP (by simp [inV, eqV]) ⟨.ref D, rfl, D, _, rfl, .inl (SqL.of hD2), rfl, rfl, _, rfl, iteP (by simp [inV, eqV]; omega) ?_⟩⟩⟩
          exact ⟨.str "cross", rfl, .ref D, rfl, D, _, rfl, .inr (SqL.of hD2), by show 3 ≤ sizeLine; decide, fun t ht => q _ _ ((e1.trans e02).trans (same_new ht)) ⟨t, rfl, upd_same⟩⟩
    · have hk := chk_st0
      simp only [Bool.and_eq_true, decide_eq_true_eq] at hk
      obtain ⟨⟨⟨⟨h0, h1⟩, h2⟩, h3⟩, h4⟩ := hk
      refine ⟨.str "0!", rfl, ⟨_, rfl⟩, _, "!", rfl, rfl, _, rfl, iteP h1 ?_⟩
      refine ⟨.str "0!", rfl, 1, rfl, _, rfl, _, rfl, by show 2 ≤ sizeLine; decide, "0", by rw [h2], h3, fun H1 e1 => ?_⟩
      rw [h4]
      exact ⟨.int 0, rfl, rfl, _, rfl, iteN (by simp) ⟨.int 0, rfl, rfl, _, rfl, iteP (decide_eq_true rfl) (q _ e1)⟩⟩
theorem c_parse_step (W : Wd w K mg) : Cal P w K mg base CX0 2 "parse_step" (d_parse_step.at_ K) sp_parse_step := ⟨ok_parse_step W, W.g_parse_step, W.f_parse_step.kp⟩
end
end Tc
namespace Tc
open PySem PySem.Spec PyProof.Rows L2 He He5 Mi
/-! ### arguments -/
inductive Arg where
  | u (s : Str) | st (s : Stp) | row (r : Mi.Row) | bad
def ArgAt (K : PySem.W.Frag) (H : Hp) (v : V) : Arg → Prop
  | .u s => v = .str s
  | .st s => StpAt H v s
  | .row r => ArrAt K H v r
  | .bad => v = .non
theorem ArgAt.same {K : PySem.W.Frag} {H H' : Hp} (e : Same H H') {v : V} {a : Arg} (h : ArgAt K H v a) : ArgAt K H' v a := by
  cases a with
  | u s => exact h
  | st s => exact StpAt.same e h
  | row r => exact ArrAt.same e h
  | bad => exact h
/-- a text of a row -/
def rowWord (w : Str) (r : Mi.Row) : Prop := Txt.split w "," = r.map tI ∧ shortS w = true ∧ (∀ x ∈ r, intOk (tI x) = true ∧ intS (tI x) = some x) ∧ 1 ≤ r.length ∧ r.length ≤ 50
theorem chk_comma : (allRows.all fun r => decide (Txt.split (rowComma r) "," = r.map tI) && shortS (rowComma r)) = true := by decide +kernel
theorem chk_small : (([-4, -3, -2, -1, 1, 2, 3, 4] : List Int).all fun x => intOk (tI x) && decide (intS (tI x) = some x)) = true := by decide +kernel
theorem small_ok {x : Int} (h1 : 1 ≤ x.natAbs) (h2 : x.natAbs ≤ 4) : intOk (tI x) = true ∧ intS (tI x) = some x := by
  have hm : x ∈ ([-4, -3, -2, -1, 1, 2, 3, 4] : List Int) := by
    have : x = -4 ∨ x = -3 ∨ x = -2 ∨ x = -1 ∨ x = 1 ∨ x = 2 ∨ x = 3 ∨ x = 4 := by omega
    simpa using this
  have h := List.all_eq_true.mp chk_small x hm
  rw [Bool.and_eq_true, decide_eq_true_eq] at h
  exact h
theorem rowWord_ok {r : Mi.Row} (h : vrB r = true) : rowWord (rowComma r) r := by
  have hV := vrB_Vr h
  have h1 := List.all_eq_true.mp chk_comma r (vrB_mem h)
  rw [Bool.and_eq_true, decide_eq_true_eq] at h1
  exact ⟨h1.1, h1.2, fun x hx => small_ok (hV.each x hx).1 (Nat.le_trans (hV.each x hx).2 hV.most), hV.pos, Nat.le_trans hV.most (by decide)⟩
theorem chk_11 : (decide (Txt.split "1,1" "," = ([1, 1] : List Int).map tI) && shortS "1,1") = true := by decide +kernel
theorem rowWord_11 : rowWord "1,1" [1, 1] := by
  have h1 := chk_11
  rw [Bool.and_eq_true, decide_eq_true_eq] at h1
  refine ⟨h1.1, h1.2, fun x hx => ?_, by decide, by decide⟩
  have : x = 1 := by simpa using hx
  rw [this]
  exact small_ok (by decide) (by decide)
/-- what an argument is -/
def argOf (kind word : Str) (a : Arg) : Prop := (kind = "u" ∧ shortS word = true ∧ a = if isNm word then .u word else .bad) ∨
  (kind = "s" ∧ ((∃ s ∈ stepsOf 4, word = stepText s ∧ a = .st s) ∨ (word = "0!" ∧ a = .bad))) ∨
  (kind = "a" ∧ ∃ r, rowWord word r ∧ a = if isRow r then .row r else .bad)
section
variable {P : Program} {w : World} {K : PySem.W.Frag} {mg : Str → Option Value} {base : Heap}
def sp_parse_argument (K : PySem.W.Frag) : Sp := fun vs H Q _ => ∃ (kind word : Str) (a : Arg), vs = [.str kind, .str word] ∧ argOf kind word a ∧ ∀ H' v, Same H H' → ArgAt K H' v a → Q v H'
abbrev N_parse_argument : List Str := ["kind", "word", "cards", "part"]
theorem sc_parse_argument : FnScope N_parse_argument ["kind", "word"] d_parse_argument.scope := ⟨rfl, rfl, rfl, by decide +kernel, rfl, by decide +kernel, by decide +kernel⟩
theorem ok_parse_argument (W : Wd w K mg) : FnR P w K mg base CX0 5 (d_parse_argument.at_ K) (sp_parse_argument K) := by
  refine fnr0 W.f_parse_argument sc_parse_argument (fun vs H Q E h => ?_) (fun _ _ _ _ _ _ us hl => match us, hl with | [_, _], _ => rfl) (fun cdv A outer s H vs Q E hr h => ?_)
  · obtain ⟨kind, word, a, rfl, ha, q⟩ := h
    rfl
  · obtain ⟨kind, word, a, rfl, ha, q⟩ := h
    refine ⟨_, (pss_cons (ps_if (pt_cmpR op_eq (pv 0) pe_str (nomark _)) (pss_one (ps_ret (pe_ifExp (pt_val (pe_c (c_is_name W) (hr.mono (by omega)) pass0 (pa_cons (pv 1) pa_nil))) (pv 1) pe_non))) pss_nil)
      (pss_cons (ps_if (pt_cmpR op_eq (pv 0) pe_str (nomark _)) (pss_one (ps_ret (pe_c (c_parse_step W) (hr.mono (by omega)) pass0 (pa_cons (pv 1) pa_nil)))) pss_nil)
      (pss_cons (ps_setLc (i := 2) (own := [("part", 3)]) (g := gName 3) rfl sc_parse_argument.nd rfl rfl (sw_true rfl rfl rfl (by decide +kernel)) (pi_list (pe_split (pv 1) pe_str)) (blkOk_by (own := [("part", 3)]) (N := N_parse_argument) (sc := d_parse_argument.scope) (by decide +kernel)) (fun _ _ _ _ _ => (pg_name (i := 3) sc_parse_argument.nd rfl (by first | exact Or.inl rfl | exact Or.inr rfl))) (fun _ _ _ _ _ => pts_nil) (fun _ _ _ _ _ => (pe_c (c_parse_integer W) (hr.mono (by omega)) pass0 (pa_cons (pv 3) pa_nil))))
      (pss_one (ps_ret (pe_ifExp (pt_val (pe_smeth (pe_glob (v := .ref (CA K)) rfl W.g_Arrangement rfl) W.rd_Arr W.sm_is_row (ok_Arrangement_is_row W) (hr.mono (by omega)) pass0 (pa_cons (pv 2) pa_nil))) (StX.pe_makeR W.k_Arrangement (ok_Arrangement_init W) (hr.mono (by omega)) rfl W.g_Arrangement pass0 (pa_cons (pv 2) pa_nil)) pe_non)))))), ?_⟩
    rcases ha with ⟨rfl, hw, rfl⟩ | ⟨rfl, hs⟩ | ⟨rfl, r, hw, rfl⟩
    · simp only [shortS, Bool.and_eq_true, decide_eq_true_eq] at hw
      refine ⟨.str "u", rfl, rfl, _, rfl, iteP (by decide +kernel) ⟨.str word, rfl, word, rfl, by omega, by omega, fun H1 e1 => ?_⟩⟩
      cases hn : isNm word with
      | true =>
        rw [hn] at q
        exact ⟨_, rfl, iteP rfl ⟨.str word, rfl, q _ _ e1 rfl⟩⟩
      | false =>
        rw [hn] at q
        exact ⟨_, rfl, iteN (by decide) (q _ _ e1 rfl)⟩
    · refine ⟨.str "s", rfl, rfl, _, rfl, iteN (by decide +kernel) ⟨.str "s", rfl, rfl, _, rfl, iteP (by decide +kernel) ?_⟩⟩
      rcases hs with ⟨s, hs, rfl, rfl⟩ | ⟨rfl, rfl⟩
      · exact ⟨.str (stepText s), rfl, .inl ⟨s, hs, rfl, fun H1 v e1 hv => q _ _ e1 hv⟩⟩
      · exact ⟨.str "0!", rfl, .inr ⟨rfl, fun H1 e1 => q _ _ e1 rfl⟩⟩
    · obtain ⟨h1, h2, h3, h4, h5⟩ := hw
      simp only [shortS, Bool.and_eq_true, decide_eq_true_eq] at h2
      refine ⟨.str "a", rfl, rfl, _, rfl, iteN (by decide +kernel) ⟨.str "a", rfl, rfl, _, rfl, iteN (by decide +kernel) ?_⟩⟩
      refine ⟨.str word, rfl, ⟨_, rfl⟩, _, ",", rfl, rfl, by decide, Nat.le_of_lt (small1k (by omega)), ?_⟩
      rw [h1]
      refine fun p hp => ⟨p, rfl, ⟨_, SqL.of upd_same⟩, fun D hD => lc_enc (wl (xs := r) (enc := fun x => V.str (tI x))) (Ex := fun x y _ => y = V.str (tI x)) (fun _ => true) V.int rfl yat (fun H' e => ?_) (by omega) hD (fun x y H2 Yc Nn hy hS hE m1 m2 => ?_) fun H2 e2 hD2 => ?_⟩
      · have := e _ _ (upd_same (H := H) (a := p) (o := HO.lst ((r.map tI).map V.str)))
        rw [List.map_map] at this
        exact SqL.of this
      · subst hE
        refine ⟨rfl, .str (tI x), rfl, tI x, rfl, (h3 x hy).1, fun H' e => ?_⟩
        rw [(h3 x hy).2]
        exact m1 _ e rfl
      rw [List.filter_eq_self.mpr (fun _ _ => rfl)] at hD2
      have e02 := (same_new (o := .lst ((r.map tI).map V.str)) hp).trans e2
      refine ⟨rfl, .ref D, rfl, .ref D, r, rfl, ⟨D, rfl, .inl hD2⟩, h4, h5, fun H3 e3 => ?_⟩
      have hD3 := e3 _ _ hD2
      have e03 := e02.trans e3
      cases hi : isRow r with
      | false =>
        rw [hi] at q
        exact ⟨_, rfl, iteN (by decide) (q _ _ e03 rfl)⟩
      | true =>
        rw [hi] at q
        refine ⟨_, rfl, iteP rfl ⟨.ref D, rfl, fun x ax hx hax hne => ?_⟩⟩
        refine ⟨x, ax, .ref D, r, rfl, upd_same, ⟨D, rfl, .inl ?_⟩, hi, h4, h5, fun H' k1 k2 => ⟨rfl, q H' _ (fun b o hb => ?_) ?_⟩⟩
        · rw [upd_ne (ne_of_none hD3 hx), upd_ne (ne_of_none hD3 hax)]
          exact hD3
        · have hb3 := e03 _ _ hb
          have n1 : b ≠ x := ne_of_none hb3 hx
          have n2 : b ≠ ax := ne_of_none hb3 hax
          exact k1 b o (by rw [upd_ne n1, upd_ne n2]; exact hb3) n1
        · obtain ⟨tt, k1, k2⟩ := k2
          exact ⟨x, ax, tt, rfl, k1, k2⟩
theorem c_parse_argument (W : Wd w K mg) : Cal P w K mg base CX0 5 "parse_argument" (d_parse_argument.at_ K) (sp_parse_argument K) := ⟨ok_parse_argument W, W.g_parse_argument, W.f_parse_argument.kp⟩
end
end Tc
namespace Tc
open PySem PySem.Spec PyProof.Rows L2 He He5 Mi
def Arg.isBad : Arg → Bool
  | .bad => true
  | _ => false
theorem argAt_non {K : PySem.W.Frag} {H : Hp} {v : V} {a : Arg} (h : ArgAt K H v a) : decide (v = V.non) = a.isBad := by
  cases a with
  | u s =>
    have h : v = .str s := h
    rw [h]
    simp [Arg.isBad]
  | st s =>
    obtain ⟨b, h, _⟩ := h
    rw [h]
    simp [Arg.isBad]
  | row r =>
    obtain ⟨b, _, _, h, _⟩ := h
    rw [h]
    simp [Arg.isBad]
  | bad =>
    have h : v = .non := h
    rw [h]
    simp [Arg.isBad]
theorem argAt_mut {K : PySem.W.Frag} {H : Hp} {D : Addr} {zs ws : List V} (hD : H D = some (.lst zs)) {v : V} {a : Arg} (h : ArgAt K H v a) : ArgAt K (upd H D (.lst ws)) v a := by
  cases a with
  | u s => exact h
  | st s => exact StpAt.mut hD h
  | row r =>
    obtain ⟨p, dx, t, h1, h2, h3⟩ := h
    refine ⟨p, dx, t, h1, (upd_ne fun e => by rw [e, hD] at h2; cases h2).trans h2, (upd_ne fun e => by rw [e, hD] at h3; cases h3).trans h3⟩
  | bad => exact h
theorem Wd.cmdV {w : World} {K : PySem.W.Frag} {mg : Str → Option Value} (W : Wd w K mg) {x ks : Str} (h : (x, ks) ∈ cmdTab) : ∃ u, PySem.W.nsIn K (ga K "COMMANDS") x = some (some u) ∧ RelV (.str ks) u := by
  have h1 := W.v
  unfold cmdB at h1
  have h2 := (Bool.and_eq_true_iff.mp h1).1
  exact He.valsB_ok h2 (q := (x, Dv.str ks)) (List.mem_map.mpr ⟨(x, ks), h, rfl⟩)
theorem Wd.cmdN {w : World} {K : PySem.W.Frag} {mg : Str → Option Value} (W : Wd w K mg) : PySem.W.nsIn K (ga K "COMMANDS") "" = some none := by
  have h1 := W.v
  unfold cmdB at h1
  have h2 := (Bool.and_eq_true_iff.mp h1).2
  split at h2
  · assumption
  · cases h2
theorem Wd.cmdK {w : World} {K : PySem.W.Frag} {mg : Str → Option Value} (W : Wd w K mg) {x ks : Str} (h : (x, ks) ∈ cmdTab) : KDct K w (ga K "COMMANDS") x (.str ks) := by
  obtain ⟨u, h1, h2⟩ := W.cmdV h
  obtain ⟨es, n, D⟩ := W.t
  exact ⟨es, n, u, D.at_, D.lit, h1, h2⟩
/-- the text is a command's word with its arguments, or what is lacking -/
inductive CmdOf (s : Str) : Option (Str × List Arg) → Prop
  | none_ {words : List Str} : Txt.split s " " = ("" : Str) :: words → words.length ≤ 10 → CmdOf s none
  | many {word ks : Str} {words : List Str} : Txt.split s " " = word :: words → (word, ks) ∈ cmdTab → ks.length ≠ words.length → words.length ≤ 10 → CmdOf s none
  | args {word ks : Str} {words : List Str} {args : List Arg} : Txt.split s " " = word :: words → (word, ks) ∈ cmdTab → ks.cps.size = words.length → ks.length = words.length → words.length ≤ 10 → strIterType ks = "str_ascii_iterator" → args.length = words.length →
      (∀ (j c : Nat) (wd : Str) (a : Arg), ks.cps[j]? = some c → words[j]? = some wd → args[j]? = some a → argOf ⟨#[c]⟩ wd a) → CmdOf s (if args.any Arg.isBad then none else some (word, args))
theorem zip_snd {α β : Type} : ∀ (vs : List α) (cs : List β), vs.length = cs.length → (vs.zip cs).map (·.2) = cs
  | [], [], _ => rfl
  | v :: vs, c :: cs, h => by rw [List.zip_cons_cons, List.map_cons, zip_snd vs cs (Nat.succ.inj h)]
/-- a parsed command -/
def CmdAt (K : PySem.W.Frag) (H : Hp) (v : V) (c : Str × List Arg) : Prop := ∃ t l xs, v = .ref t ∧ H t = some (.tup [.str c.1, .ref l]) ∧ H l = some (.lst xs) ∧ Al (ArgAt K H) xs c.2
theorem tabLen : (cmdTab.all fun p => decide (p.2.length ≤ 10)) = true := by decide +kernel
theorem tab_len {x ks : Str} (h : (x, ks) ∈ cmdTab) : ks.length ≤ 10 := of_decide_eq_true (List.all_eq_true.mp tabLen _ h)
section
variable {P : Program} {w : World} {K : PySem.W.Frag} {mg : Str → Option Value} {base : Heap}
def sp_parse_command (K : PySem.W.Frag) : Sp := fun vs H Q E => ∃ v, vs = [v] ∧
  ((v = .non ∧ ∀ H' d, Same H H' → XdAt H' d "value" v → E (.ref (ga K "InvalidCommand")) d H') ∨
   ∃ s c, v = .str s ∧ shortS s = true ∧ CmdOf s c ∧ (c = none → ∀ H' d, Same H H' → XdAt H' d "value" v → E (.ref (ga K "InvalidCommand")) d H') ∧ ∀ c', c = some c' → ∀ H' v', Same H H' → CmdAt K H' v' c' → Q v' H')
abbrev N_parse_command : List Str := ["line", "word", "words", "arguments", "kind", "item", "argument"]
theorem sc_parse_command : FnScope N_parse_command ["line"] d_parse_command.scope := ⟨rfl, rfl, rfl, by decide +kernel, rfl, by decide +kernel, by decide +kernel⟩
theorem ok_parse_command (W : Wd w K mg) : FnR P w K mg base (L2.CX P w) 6 (d_parse_command.at_ K) (sp_parse_command K) := by
  refine fnr W.f_parse_command sc_parse_command (fun vs H Q E h => ?_) (fun _ _ _ _ _ _ us hl => match us, hl with | [_], _ => rfl) (fun cdv A outer s H vs Q E hr h => ?_)
  · obtain ⟨v, rfl, h⟩ := h
    rfl
  · obtain ⟨v, rfl, h⟩ := h
    refine ⟨_, (pss_cons (ps_if (pt_not (pt_val (pe_callB call_isi (by rfl) W.z_isinstance boot_isinstance (pa_cons (pv 0) (pa_cons (pe_bltn (v := .ty "str") (u := .type "str") (by rfl) W.z_str (by decide +kernel) rfl) pa_nil))))) (pss_one (ps_raiseX rfl F.excBase_ValueError W.x_IC (ok_IC_init W) (hr.mono (by omega)) W.g_InvalidCommand (takes_of rfl rfl rfl rfl) (pa_cons (pv 0) pa_nil))) pss_nil)
      (pss_cons (ps_asg (pe_split (pv 0) pe_str) (pg_star1 rfl (pgs_cons (pg_name (i := 1) sc_parse_command.nd rfl (by first | exact Or.inl rfl | exact Or.inr rfl)) (pgs_cons (pg_name (i := 2) sc_parse_command.nd rfl (by first | exact Or.inl rfl | exact Or.inr rfl)) pgs_nil))))
      (pss_cons (ps_if (PW.pt (pw_or (pt_cmpR (op_notIn_kd W.t.choose_spec.choose_spec) (pv 1) (pe_glob (v := .ref (ga K "COMMANDS")) rfl W.g_COMMANDS rfl) rfl) (pw_or1 (pt_cmpR op_ne (pe_callB call_len_str (by rfl) W.z_len PySem.boot_len (pa_cons (pe_ix (show IxR _ (rIxD K w) from ix_kdict) (pe_glob (v := .ref (ga K "COMMANDS")) rfl W.g_COMMANDS rfl) (pv 1) (fun _ _ => rfl)) pa_nil)) (pe_callB call_len_seq (by rfl) W.z_len PySem.boot_len (pa_cons (pv 2) pa_nil)) (nomark _))))) (pss_one (ps_raiseX rfl F.excBase_ValueError W.x_IC (ok_IC_init W) (hr.mono (by omega)) W.g_InvalidCommand (takes_of rfl rfl rfl rfl) (pa_cons (pv 0) pa_nil))) pss_nil)
      (pss_cons (ps_setLc (i := 3) (own := [("kind", 4), ("item", 5)]) (g := gTup K 2 (gCons (gName 4) (gCons (gName 5) gNil))) rfl sc_parse_command.nd rfl rfl (sw_true rfl rfl rfl (by decide +kernel)) (pi_zipS (by rfl) W.z_zip (pa_cons (pe_ix (show IxR _ (rIxD K w) from ix_kdict) (pe_glob (v := .ref (ga K "COMMANDS")) rfl W.g_COMMANDS rfl) (pv 1) (fun _ _ => rfl)) (pa_cons (pv 2) pa_nil))) (blkOk_by (own := [("kind", 4), ("item", 5)]) (N := N_parse_command) (sc := d_parse_command.scope) (by decide +kernel)) (fun _ _ _ _ _ => (pg_tup rfl (pgs_cons (pg_name (i := 4) sc_parse_command.nd rfl (by first | exact Or.inl rfl | exact Or.inr rfl)) (pgs_cons (pg_name (i := 5) sc_parse_command.nd rfl (by first | exact Or.inl rfl | exact Or.inr rfl)) pgs_nil)))) (fun _ _ _ _ _ => pts_nil) (fun _ _ _ _ _ => (pe_c (c_parse_argument W) (hr.mono (by omega)) pass0 (pa_cons (pv 4) (pa_cons (pv 5) pa_nil)))))
      (pss_cons (ps_if (pt_val (pe_callB (cr_any rfl) (by rfl) W.z_any (by decide +kernel) (pa_cons (pe_lc (own := [("argument", 6)]) (g := gName 6) rfl sc_parse_command.nd (pi_list (pv 3)) (blkOk_by (own := [("argument", 6)]) (N := N_parse_command) (sc := d_parse_command.scope) (by decide +kernel)) (fun _ _ _ _ _ => (pg_name (i := 6) sc_parse_command.nd rfl (by first | exact Or.inl rfl | exact Or.inr rfl))) (fun _ _ _ _ _ => pts_nil) (fun _ _ _ _ _ => (pe_cmpR op_isN (pv 6) pe_non (nomark _)))) pa_nil))) (pss_one (ps_raiseX rfl F.excBase_ValueError W.x_IC (ok_IC_init W) (hr.mono (by omega)) W.g_InvalidCommand (takes_of rfl rfl rfl rfl) (pa_cons (pv 0) pa_nil))) pss_nil)
      (pss_one (ps_ret (pe_tup (pa_cons (pv 1) (pa_cons (pv 3) pa_nil)))))))))), ?_⟩
    rcases h with ⟨rfl, q⟩ | ⟨s, c, rfl, hsh, hc, q1, q2⟩
    · refine ⟨.non, rfl, .non, .ty "str", .type "NoneType", .type "str", false, rfl, .ty _, .base .non, kit_ty (by decide +kernel), false, rfl, iteP rfl ?_⟩
      exact ⟨.non, rfl, .non, rfl, fun d hd => q _ _ (same_new hd) ⟨d, rfl, upd_same⟩⟩
    simp only [shortS, Bool.and_eq_true, decide_eq_true_eq] at hsh
    refine ⟨.str s, rfl, .str s, .ty "str", .type "str", .type "str", true, rfl, .ty _, .base (.str s), kit_ty (by decide +kernel), true, rfl, iteN (by decide) ?_⟩
    refine ⟨.str s, rfl, ⟨_, rfl⟩, _, " ", rfl, rfl, by decide, Nat.le_of_lt (small1k (by omega)), ?_⟩
    have pre : ∀ (word : Str) (words : List Str) (p D : Addr), H p = none → upd H p (.lst ((word :: words).map V.str)) D = none → Same H (upd (upd H p (.lst ((word :: words).map V.str))) D (.lst (words.map V.str))) := fun word words p D h1 h2 => (same_new h1).trans (same_new h2)
    cases hc with
    | @none_ words hsp hwl =>
      rw [hsp]
      refine fun p hp => ⟨p, .str "", words.map V.str, rfl, SqL.of upd_same, by rw [List.length_map]; omega, fun D hD => ⟨_, _, rfl, _, _, rfl, rfl, ?_⟩⟩
      exact ⟨.str "", rfl, "", none, rfl, rfl, W.cmdN, _, rfl, iteP rfl (iteP rfl ⟨.str s, rfl, .str s, rfl, fun d hd => q1 rfl _ _ ((pre _ _ _ _ hp hD).trans (same_new hd)) ⟨d, rfl, upd_same⟩⟩)⟩
    | @many word ks words hsp hm hne hwl =>
      obtain ⟨u, hu, _⟩ := W.cmdV hm
      have hkl := tab_len hm
      rw [hsp]
      refine fun p hp => ⟨p, .str word, words.map V.str, rfl, SqL.of upd_same, by rw [List.length_map]; omega, fun D hD => ⟨_, _, rfl, _, _, rfl, rfl, ?_⟩⟩
      refine ⟨.str word, rfl, word, some u, rfl, rfl, hu, _, rfl, iteN (by simp) ⟨.str word, rfl, _, word, .str ks, rfl, rfl, W.cmdK hm, ks, rfl, Nat.le_of_lt (small1k (by omega)), .ref D, rfl, D, _, rfl, .inl (SqL.of upd_same), rfl, _, rfl, iteP ?_ ?_⟩⟩
      · rw [List.length_map]
        simp
        omega
      · exact ⟨.str s, rfl, .str s, rfl, fun d hd => q1 rfl _ _ ((pre _ _ _ _ hp hD).trans (same_new hd)) ⟨d, rfl, upd_same⟩⟩
    | @args word ks words args hsp hm hk1 hk2 hwl hty hal hargs =>
      obtain ⟨u, hu, _⟩ := W.cmdV hm
      have hkl := tab_len hm
      rw [hsp]
      refine fun p hp => ⟨p, .str word, words.map V.str, rfl, SqL.of upd_same, by rw [List.length_map]; omega, fun D hD => ⟨_, _, rfl, _, _, rfl, rfl, ?_⟩⟩
      have e1 := pre _ _ _ _ hp hD
      have hD1 := upd_same (H := upd H p (.lst ((word :: words).map V.str))) (a := D) (o := .lst (words.map V.str))
      generalize upd (upd H p (.lst ((word :: words).map V.str))) D (.lst (words.map V.str)) = H1 at *
      refine ⟨.str word, rfl, word, some u, rfl, rfl, hu, _, rfl, iteN (by simp) ⟨.str word, rfl, _, word, .str ks, rfl, rfl, W.cmdK hm, ks, rfl, Nat.le_of_lt (small1k (by omega)), .ref D, rfl, D, _, rfl, .inl (SqL.of hD1), rfl, _, rfl, iteN ?_ ?_⟩⟩
      · rw [List.length_map]
        simp
        omega
      refine ⟨.str word, rfl, _, word, .str ks, rfl, rfl, W.cmdK hm, .ref D, rfl, ks, D, words.map V.str, rfl, hty, SqL.of hD1, fun L hL => lc_gen (walk_zipS (K := K) (x := ks) (b := D) (ys := words.map V.str) (by rw [List.length_map, hk1])) (xs := List.range words.length)
        (Ex := fun j x H' => ∃ T c wd, x = V.ref T ∧ H' T = some (.tup [.str ⟨#[c]⟩, .str wd]) ∧ ks.cps[j]? = some c ∧ words[j]? = some wd) (fun _ => true) (fun H v j => ∀ a, args[j]? = some a → ArgAt K H v a) (fun H H' v j e k a ha => (k a ha).same e) (fun H zs ws v j hz k a ha => argAt_mut hz (k a ha))
        (by rw [List.length_map, List.length_range]) (fun i H x H' hy hi => ?_) (fun H' e => SqL.of (e _ _ hD1)) (by rw [List.length_range]; omega) hL (fun j x H2 Yc Nn hj hS hE m1 m2 => ?_) fun H2 zs e2 hL2 hA2 => ?_⟩
      · obtain ⟨T, c, y, rfl, hT, rfl, h1, h2⟩ := hy
        rw [List.getElem?_map] at h2
        cases hw : words[i]? with
        | none => rw [hw] at h2; cases h2
        | some wd =>
          rw [hw] at h2
          cases h2
          exact ⟨same_new hT, i, List.getElem?_range (by rw [List.length_map] at hi; exact hi), T, c, wd, rfl, upd_same, h1, hw⟩
      · obtain ⟨T, c, wd, rfl, hT, h1, h2⟩ := hE
        have hjl : j < args.length := by
          rw [hal]
          exact List.mem_range.mp hj
        have hja : args[j]? = some args[j] := List.getElem?_eq_getElem hjl
        refine ⟨T, _, rfl, SqT.of hT, rfl, _, _, rfl, _, _, rfl, rfl, rfl, ?_⟩
        refine ⟨.str ⟨#[c]⟩, rfl, .str wd, rfl, ⟨#[c]⟩, wd, args[j], rfl, hargs j c wd _ h1 h2 hja, fun H3 v e3 hv => m1 H3 v e3 rfl fun a ha => ?_⟩
        rw [hja] at ha
        cases ha
        exact hv
      rw [List.filter_eq_self.mpr (fun _ _ => rfl)] at hA2
      have hzl : zs.length = args.length := by rw [hA2.1, List.length_range, hal]
      have hA : Al (ArgAt K H2) zs args := ⟨hzl, fun i v a h1 h2 => hA2.2 i v i h1 (List.getElem?_range (by rw [← hal]; exact (List.getElem?_eq_some_iff.mp h2).1)) a h2⟩
      refine ⟨.ref L, rfl, L, rfl, ⟨_, SqL.of hL2⟩, fun M hM => lc_enc (walk_list (K := K) (a := L) (xs := zs)) (xs := zs.zip args) (Ex := fun y x _ => x = y.1 ∧ decide (y.1 = V.non) = y.2.isBad) (fun _ => true) (fun y => V.bl y.2.isBad) (al_len hA) (al_walk (hA.mono fun v a k => argAt_non k)) (fun H' e => SqL.of (e _ _ hL2)) (by rw [List.length_zip]; omega) hM (fun y x H3 Yc Nn hy hS hE m1 m2 => ?_) fun H3 e3 hM3 => ?_⟩
      · obtain ⟨rfl, hb⟩ := hE
        refine ⟨rfl, _, rfl, rfl, ?_⟩
        rw [hb]
        exact m1 _ (Same.refl _) rfl
      rw [List.filter_eq_self.mpr (fun _ _ => rfl)] at hM3
      have hbl : (zs.zip args).map (fun y => V.bl y.2.isBad) = (args.map Arg.isBad).map V.bl := by
        have h1 : args = (zs.zip args).map (·.2) := (zip_snd zs args hzl).symm
        conv => rhs; rw [h1]
        rw [List.map_map, List.map_map]
        rfl
      rw [hbl] at hM3
      have hany : (args.map Arg.isBad).any id = args.any Arg.isBad := by
        rw [List.any_map]
        rfl
      have e13 := (e1.trans e2).trans e3
      have hL3 := e3 _ _ hL2
      refine ⟨M, _, rfl, SqL.of hM3, _, rfl, ?_⟩
      cases hb : args.any Arg.isBad with
      | true =>
        rw [hb] at q1
        refine iteP (hany.trans hb) ⟨.str s, rfl, .str s, rfl, fun d hd => q1 rfl _ _ (e13.trans (same_new hd)) ⟨d, rfl, upd_same⟩⟩
      | false =>
        rw [hb] at q2
        refine iteN (by rw [hany, hb]; decide) ⟨.str word, rfl, .ref L, rfl, by show 2 ≤ sizeLine; decide, fun t ht => ?_⟩
        exact q2 _ rfl _ _ (e13.trans (same_new ht)) ⟨t, L, zs, rfl, upd_same, same_new ht _ _ hL3, hA.mono fun v a k => (k.same e3).same (same_new ht)⟩
theorem c_parse_command (W : Wd w K mg) : Cal P w K mg base (L2.CX P w) 6 "parse_command" (d_parse_command.at_ K) (sp_parse_command K) := ⟨ok_parse_command W, W.g_parse_command, W.f_parse_command.kp⟩
end
end Tc
namespace Tc
open PySem PySem.Spec PyProof.Rows L2 He He5 Mi
abbrev CC (K : PySem.W.Frag) : Addr := ga K "Console"
/-! ### queries -/
def qText (w : Str) (r : Mi.Row) : Str := if w = "row" then rowText r else if w = "hint" then (match hint r with
    | none => "."
    | some s => stepText s)
  else if w = "remaining" then tI (fewest r) else if w = "disorders" then tI (dis r) else if w = "order" then tI (ord r) else tI (words r)
def numOk (r : Mi.Row) : Bool := decide ((fewest r).natAbs ≤ 1000) && decide ((dis r).natAbs ≤ 1000)
theorem chk_num : (allRows.all numOk) = true := by decide +kernel
theorem num_ok {r : Mi.Row} (h : vrB r = true) : numOk r = true := List.all_eq_true.mp chk_num r (vrB_mem h)
theorem ok4 {s : Stp} {n : Nat} (h : s.ok n = true) (hn : n ≤ 4) : s.ok 4 = true := by
  cases s <;> simp [Stp.ok] at h ⊢ <;> omega
theorem hint4 {r : Mi.Row} (h : vrB r = true) {s : Stp} (e : hint r = some s) : s ∈ stepsOf 4 := stepsOf_mem (ok4 (hint_some h e).2 (vrB_Vr h).most)
theorem ord_big {r : Mi.Row} (h : vrB r = true) : (ord r).natAbs ≤ 4 ^ 17 := by
  have h1 := (ord_parts h).1 (cycs r).length (Nat.le_refl _)
  rw [List.take_length] at h1
  have h2 : 0 < ord r := h1.1
  have h3 : ord r < 1000000 := h1.2
  omega
section
variable {P : Program} {w : World} {K : PySem.W.Frag} {mg : Str → Option Value} {base : Heap}
def sp_query (K : PySem.W.Frag) : Sp := fun vs H Q _ => ∃ (c dx p : Addr) (wd : Str) (r : Mi.Row), vs = [.ref c, .str wd] ∧ H c = some (.ins (CC K) dx [("game", .ref p)]) ∧ CurAt K H p r ∧ vrB r = true ∧ ∀ H', Same H H' → Q (.str (qText wd r)) H'
abbrev N_Console_query : List Str := ["self", "word", "step"]
theorem sc_Console_query : FnScope N_Console_query ["self", "word"] d_Console_query.scope := ⟨rfl, rfl, rfl, by decide +kernel, rfl, by decide +kernel, by decide +kernel⟩
theorem ok_Console_query (W : Wd w K mg) : FnR P w K mg base CX0 24 (d_Console_query.at_ K) (sp_query K) := by
  refine fnr0 W.f_Console_query sc_Console_query (fun vs H Q E h => ?_) (fun _ _ _ _ _ _ us hl => match us, hl with | [_, _], _ => rfl) (fun cdv A outer s H vs Q E hr h => ?_)
  · obtain ⟨c, dx, p, wd, r, rfl, hc, hC, hr1, q⟩ := h
    rfl
  · obtain ⟨c, dx, p, wd, r, rfl, hc, hC, hr1, q⟩ := h
    refine ⟨_, (pss_cons (ps_if (pt_cmpR op_eq (pv 1) pe_str (nomark _)) (pss_one (ps_ret (pe_c (c_format_arrangement W) (hr.mono (by omega)) pass0 (pa_cons (pe_propR (pe_fld (pv 0) rfl) W.c_Game W.p_Game_row (ok_Game_row W) (hr.mono (by omega))) pa_nil)))) pss_nil)
      (pss_cons (ps_if (pt_cmpR op_eq (pv 1) pe_str (nomark _)) (pss_cons (ps_set (i := 2) sc_Console_query.nd rfl (by first | exact Or.inl rfl | exact Or.inr rfl) (pe_methR0 (pe_fld (pv 0) rfl) W.c_Game W.m_Game_hint (ok_Game_hint W) (hr.mono (by omega)) pass0))
      (pss_one (ps_ret (pe_ifExp (pt_cmpR op_isN (pv 2) pe_non (nomark _)) pe_str (pe_c (c_format_step W) (hr.mono (by omega)) pass0 (pa_cons (pv 2) pa_nil)))))) pss_nil)
      (pss_cons (ps_if (pt_cmpR op_eq (pv 1) pe_str (nomark _)) (pss_one (ps_ret (pe_callTy call_str_int (by rfl) W.z_str boot_str (pa_cons (pe_propR (pe_fld (pv 0) rfl) W.c_Game W.p_Game_rem (ok_Game_remaining W) (hr.mono (by omega))) pa_nil)))) pss_nil)
      (pss_cons (ps_if (pt_cmpR op_eq (pv 1) pe_str (nomark _)) (pss_one (ps_ret (pe_callTy call_str_int (by rfl) W.z_str boot_str (pa_cons (pe_c (c_disorders W) (hr.mono (by omega)) pass0 (pa_cons (pe_propR (pe_fld (pv 0) rfl) W.c_Game W.p_Game_row (ok_Game_row W) (hr.mono (by omega))) pa_nil)) pa_nil)))) pss_nil)
      (pss_one (ps_ret (pe_callTy call_str_int (by rfl) W.z_str boot_str (pa_cons (pe_ifExp (pt_cmpR op_eq (pv 1) pe_str (nomark _)) (pe_c (c_order W) (hr.mono (by omega)) pass0 (pa_cons (pe_propR (pe_fld (pv 0) rfl) W.c_Game W.p_Game_row (ok_Game_row W) (hr.mono (by omega))) pa_nil)) (pe_c (c_count_words W) (hr.mono (by omega)) pass0 (pa_cons (pe_propR (pe_fld (pv 0) rfl) W.c_Game W.p_Game_row (ok_Game_row W) (hr.mono (by omega))) pa_nil))) pa_nil)))))))), ?_⟩
    obtain ⟨gdx, ft, ct, pl, ud, hp, hct⟩ := id hC
    have hV := vrB_Vr hr1
    have hn := num_ok hr1
    simp only [numOk, Bool.and_eq_true, decide_eq_true_eq] at hn
    have ff : ∀ {H' : Hp}, Same H H' → H' c = some (.ins (CC K) dx [("game", .ref p)]) := fun e => e _ _ hc
    refine ⟨.str wd, rfl, rfl, _, rfl, ite2 (fun h0 => ?_) fun h0 => ?_⟩ <;> rw [dec_str, decide_eq_true_eq] at h0
    · have e : qText wd r = rowText r := by
        unfold qText
        rw [if_pos h0]
      rw [e] at q
      exact ⟨.ref c, rfl, c, CC K, dx, _, _, rfl, hc, W.c_Console, W.n_Console_game, rfl, p, gdx, _, rfl, hp, p, r, rfl, hC, hr1, fun H1 v e1 hv => ⟨v, r, rfl, hv, hV, fun H2 e2 => q _ (e1.trans e2)⟩⟩
    refine ⟨.str wd, rfl, rfl, _, rfl, ite2 (fun h1 => ?_) fun h1 => ?_⟩ <;> rw [dec_str, decide_eq_true_eq] at h1
    · have e : qText wd r = (match hint r with
          | none => "."
          | some s => stepText s) := by
        unfold qText
        rw [if_neg h0, if_pos h1]
      rw [e] at q
      refine ⟨.ref c, rfl, c, CC K, dx, _, _, rfl, hc, W.c_Console, W.n_Console_game, rfl, p, gdx, _, rfl, hp, rfl, p, r, rfl, hC, hr1, fun H1 e1 => ⟨fun hn => ?_, fun v s hs hst => ?_⟩⟩
      · rw [hn] at q
        exact ⟨.non, rfl, rfl, _, rfl, iteP (decide_eq_true rfl) (q _ e1)⟩
      · rw [hs] at q
        have hs4 : s ∈ stepsOf 4 := hint4 hr1 hs
        obtain ⟨b, rfl, hb⟩ := id hst
        exact ⟨.ref b, rfl, rfl, _, rfl, iteN (by simp) ⟨.ref b, rfl, .ref b, s, rfl, hst, hs4, fun H2 e2 => q _ (e1.trans e2)⟩⟩
    refine ⟨.str wd, rfl, rfl, _, rfl, ite2 (fun h2 => ?_) fun h2 => ?_⟩ <;> rw [dec_str, decide_eq_true_eq] at h2
    · have e : qText wd r = tI (fewest r) := by
        unfold qText
        rw [if_neg h0, if_neg h1, if_pos h2]
      rw [e] at q
      exact ⟨.ref c, rfl, c, CC K, dx, _, _, rfl, hc, W.c_Console, W.n_Console_game, rfl, p, gdx, _, rfl, hp, p, r, rfl, hC, hV, fun H1 e1 => ⟨_, rfl, log_ok hn.1, q _ e1⟩⟩
    refine ⟨.str wd, rfl, rfl, _, rfl, ite2 (fun h3 => ?_) fun h3 => ?_⟩ <;> rw [dec_str, decide_eq_true_eq] at h3
    · have e : qText wd r = tI (dis r) := by
        unfold qText
        rw [if_neg h0, if_neg h1, if_neg h2, if_pos h3]
      rw [e] at q
      exact ⟨.ref c, rfl, c, CC K, dx, _, _, rfl, hc, W.c_Console, W.n_Console_game, rfl, p, gdx, _, rfl, hp, p, r, rfl, hC, hr1, fun H1 v e1 hv => ⟨v, r, rfl, hv, hV, fun H2 e2 => ⟨_, rfl, log_ok hn.2, q _ (e1.trans e2)⟩⟩⟩
    refine ⟨.str wd, rfl, rfl, _, rfl, ite2 (fun h4 => ?_) fun h4 => ?_⟩ <;> rw [dec_str, decide_eq_true_eq] at h4
    · have e : qText wd r = tI (ord r) := by
        unfold qText
        rw [if_neg h0, if_neg h1, if_neg h2, if_neg h3, if_pos h4]
      rw [e] at q
      exact ⟨.ref c, rfl, c, CC K, dx, _, _, rfl, hc, W.c_Console, W.n_Console_game, rfl, p, gdx, _, rfl, hp, p, r, rfl, hC, hr1, fun H1 v e1 hv => ⟨v, r, rfl, hv, hr1, fun H2 e2 => ⟨_, rfl, log_big (ord_big hr1), q _ (e1.trans e2)⟩⟩⟩
    · have e : qText wd r = tI (words r) := by
        unfold qText
        rw [if_neg h0, if_neg h1, if_neg h2, if_neg h3, if_neg h4]
      rw [e] at q
      have hw := words_bound hr1
      exact ⟨.ref c, rfl, c, CC K, dx, _, _, rfl, hc, W.c_Console, W.n_Console_game, rfl, p, gdx, _, rfl, hp, p, r, rfl, hC, hr1, fun H1 v e1 hv => ⟨v, r, rfl, hv, hr1, fun H2 e2 => ⟨_, rfl, log_big (by have h5 := hw.1; have h6 := hw.2; omega), q _ (e1.trans e2)⟩⟩⟩
end
end Tc
namespace Tc
open PySem PySem.Spec PyProof.Rows L2 He He5 Mi
/-! ### consoles -/
structure ConP (K : PySem.W.Frag) (Z : List Addr) (H : Hp) (c p : Addr) (g : Gs) : Prop where
  at_ : ∃ dx, H c = some (.ins (CC K) dx [("game", .ref p)])
  cz : c ∉ Z
  game : GameAt K Z H p g
theorem ConP.ne {K : PySem.W.Frag} {Z : List Addr} {H : Hp} {c p : Addr} {g : Gs} (h : ConP K Z H c p g) : p ≠ c := fun e => by
  obtain ⟨dx, h1⟩ := h.at_
  obtain ⟨_, _, _, _, _, _, _, G⟩ := h.game
  have h2 := G.hp
  rw [e, h1] at h2
  injection (Option.some.inj h2) with _ _ h3
  have := congrArg List.length h3
  cases this
theorem ConP.same {K : PySem.W.Frag} {Z : List Addr} {H H' : Hp} {c p : Addr} {g : Gs} (h : ConP K Z H c p g) (e : Same H H') : ConP K Z H' c p g := ⟨let ⟨dx, h1⟩ := h.at_; ⟨dx, e _ _ h1⟩, h.cz, h.game.same e⟩
section
variable {P : Program} {w : World} {K : PySem.W.Frag} {mg : Str → Option Value} {base : Heap}
def sp_Console_init (K : PySem.W.Frag) : Sp := fun vs H Q _ => ∃ (c dx : Addr) (Z : List Addr), vs = [.ref c] ∧ H c = some (.ins (CC K) dx []) ∧ c ∉ Z ∧ ZOk Z H ∧
  ∀ H' p, Sx c H H' → H p = none → ConP K Z H' c p ⟨[1], [], []⟩ → Q .non H'
abbrev N_Console_init : List Str := ["self"]
theorem sc_Console_init : FnScope N_Console_init ["self"] d_Console_init.scope := ⟨rfl, rfl, rfl, by decide +kernel, rfl, by decide +kernel, by decide +kernel⟩
theorem ok_Console_init (W : Wd w K mg) : FnR P w K mg base CX0 8 (d_Console_init.at_ K) (sp_Console_init K) := by
  refine fnr0 W.f_Console_init sc_Console_init (fun vs H Q E h => ?_) (fun _ _ _ _ _ _ us hl => match us, hl with | [_], _ => rfl) (fun cdv A outer s H vs Q E hr h => ?_)
  · obtain ⟨c, dx, Z, rfl, hc, hcZ, hZ, q⟩ := h
    rfl
  · obtain ⟨c, dx, Z, rfl, hc, hcZ, hZ, q⟩ := h
    refine ⟨_, (pss_one (ps_fld (pv 0) (StX.pe_makeR W.k_Game (ok_Game_init W) (hr.mono (by omega)) rfl W.g_Game pass0 (pa_cons (ClX.pe_cmeth (pe_glob (v := .ref (CA K)) rfl W.g_Arrangement rfl) W.rd_Arr W.cm_sorted (ok_Arrangement_sorted_row W) (hr.mono (by omega)) pass0 (pa_cons pe_int pa_nil)) pa_nil)) rfl)), ?_⟩
    refine ⟨rfl, rfl, fun H1 v e1 hv => fun x ax hx hax hne => ?_⟩
    have hxa : x ≠ ax := fun e => hne e.symm
    have hxH : H x = none := e1.free hx
    have haH : H ax = none := e1.free hax
    have e2 : Same H1 (upd (upd H1 ax (HO.own x)) x (HO.ins (CG K) ax [])) := same_mut (same_new hax) hx
    have e02 := e1.trans e2
    have hxc : x ≠ c := fun e => by rw [e, hc] at hxH; cases hxH
    refine ⟨x, ax, v, [1], Z, rfl, upd_same, hv.same e2, hZ.new hxH, hZ.same e02, fun H' hS hG => ⟨rfl, ?_⟩⟩
    have hc' : H' c = some (.ins (CC K) dx []) := hS c _ (e02 _ _ hc) (Ne.symm hxc)
    refine ⟨.ref c, rfl, c, CC K, dx, [], rfl, hc', W.c_Console, W.n_Console_game, by decide, ?_⟩
    have hS2 : Sx c H' (upd H' c (.ins (CC K) dx [("game", .ref x)])) := fun b o hb hn => (upd_ne hn).trans hb
    refine q _ x (fun b o hb hn => ?_) hxH ⟨⟨dx, upd_same⟩, hcZ, hG.fr (hS2.fr hc') (ins1 hc') (fun hm => hxc (List.mem_singleton.mp hm))⟩
    exact hS2 b o (hS b o (e02 _ _ hb) (ne_of_none hb hxH)) hn
theorem al0 {α β : Type} {R : α → β → Prop} {xs : List α} (h : Al R xs []) : xs = [] := List.eq_nil_of_length_eq_zero h.1
theorem al1 {α β : Type} {R : α → β → Prop} {xs : List α} {a : β} (h : Al R xs [a]) : ∃ x, xs = [x] ∧ R x a := by
  obtain ⟨x, rfl⟩ := List.length_eq_one_iff.mp h.1
  exact ⟨x, rfl, h.2 0 x a rfl rfl⟩
theorem al2 {α β : Type} {R : α → β → Prop} {xs : List α} {a b : β} (h : Al R xs [a, b]) : ∃ x y, xs = [x, y] ∧ R x a ∧ R y b := by
  match xs, h with
  | [x, y], h => exact ⟨x, y, rfl, h.2 0 x a rfl rfl, h.2 1 y b rfl rfl⟩
  | [], h => exact absurd h.1 (by simp)
  | [x], h => exact absurd h.1 (by simp)
  | x :: y :: z :: l, h => exact absurd h.1 (by simp)
inductive Ln where
  | bad | new (r : Mi.Row) | mv (u : Str) (s : Stp) | un (u : Str) | re (u : Str) | qu (w : Str)
inductive CmdLn : Option (Str × List Arg) → Ln → Prop
  | bad : CmdLn none .bad
  | new (r : Mi.Row) : vrB r = true → CmdLn (some ("new", [.row r])) (.new r)
  | mv (u : Str) (s : Stp) : nmOk u → CmdLn (some ("move", [.u u, .st s])) (.mv u s)
  | un (u : Str) : nmOk u → CmdLn (some ("undo", [.u u])) (.un u)
  | re (u : Str) : nmOk u → CmdLn (some ("redo", [.u u])) (.re u)
  | qu (w : Str) : CmdLn (some (w, [])) (.qu w)
def LnOf (v : V) (l : Ln) : Prop := (v = .non ∧ l = .bad) ∨ ∃ s c, v = .str s ∧ shortS s = true ∧ CmdOf s c ∧ CmdLn c l
def sp_run (K : PySem.W.Frag) : Sp := fun vs H Q E => ∃ (c p : Addr) (v : V) (l : Ln) (g : Gs) (Z : List Addr) (n : Nat), vs = [.ref c, v] ∧ LnOf v l ∧ ConP K Z H c p g ∧ ZOk Z H ∧ g.Ok n ∧ n ≤ 900 ∧
  match l with
  | .bad => ∀ H' d, Same H H' → XdAt H' d "value" v → E (.ref (ga K "InvalidCommand")) d H'
  | .new r => ∀ H' p', Sx c H H' → H p' = none → ConP K Z H' c p' ⟨r, [], []⟩ → Q (.str "ok") H'
  | .mv u s => s.ok g.first.length = true ∧ ∀ H', Sx p H H' → ConP K Z H' c p (g.play u s) → Q (.str "ok") H'
  | .un u => (∀ g', g.undo u = some g' → ∀ H', Sx p H H' → ConP K Z H' c p g' → Q (.str "ok") H') ∧ (g.undo u = none → ∀ H' d, Same H H' → XdAt H' d "user" (.str u) → E (.ref (ga K "NothingToUndo")) d H')
  | .re u => (∀ g', g.redo u = some g' → ∀ H', Sx p H H' → ConP K Z H' c p g' → Q (.str "ok") H') ∧ (g.redo u = none → ∀ H' d, Same H H' → XdAt H' d "user" (.str u) → E (.ref (ga K "NothingToRedo")) d H')
  | .qu w => ∀ H', Same H H' → Q (.str (qText w g.cur)) H'
theorem ConP.sx {K : PySem.W.Frag} {Z : List Addr} {H H' : Hp} {c p : Addr} {g g' : Gs} (h : ConP K Z H c p g) (e : Sx p H H') (hG : GameAt K Z H' p g') : ConP K Z H' c p g' := ⟨let ⟨dx, h1⟩ := h.at_; ⟨dx, e _ _ h1 (Ne.symm h.ne)⟩, h.cz, hG⟩
abbrev N_Console_run : List Str := ["self", "line", "word", "arguments", "start", "user", "step"]
theorem sc_Console_run : FnScope N_Console_run ["self", "line"] d_Console_run.scope := ⟨rfl, rfl, rfl, by decide +kernel, rfl, by decide +kernel, by decide +kernel⟩
theorem ok_Console_run (W : Wd w K mg) : FnR P w K mg base (L2.CX P w) 26 (d_Console_run.at_ K) (sp_run K) := by
  refine fnr W.f_Console_run sc_Console_run (fun vs H Q E h => ?_) (fun _ _ _ _ _ _ us hl => match us, hl with | [_, _], _ => rfl) (fun cdv A outer s H vs Q E hr h => ?_)
  · obtain ⟨c, p, v, l, g, Z, n, rfl, hl, hC, hZ, hO, hn, h⟩ := h
    rfl
  · obtain ⟨c, p, v, l, g, Z, n, rfl, hl, hC, hZ, hO, hn, h⟩ := h
    refine ⟨_, (pss_cons (ps_asg (pe_c (c_parse_command W) (hr.mono (by omega)) (passes_call (takes_of rfl rfl rfl rfl) (fun _ _ _ _ h => h)) (pa_cons (pv 1) pa_nil)) (pg_tup rfl (pgs_cons (pg_name (i := 2) sc_Console_run.nd rfl (by first | exact Or.inl rfl | exact Or.inr rfl)) (pgs_cons (pg_name (i := 3) sc_Console_run.nd rfl (by first | exact Or.inl rfl | exact Or.inr rfl)) pgs_nil))))
      (pss_cons (ps_match (pe_lst (pa_cons (pv 2) (StX.pa_star (pv 3) pa_nil))) (case1 (i := 4) rfl sc_Console_run.nd rfl (by first | exact Or.inl rfl | exact Or.inr rfl) (pss_one (ps_fld (pv 0) (StX.pe_makeR W.k_Game (ok_Game_init W) (hr.mono (by omega)) rfl W.g_Game pass0 (pa_cons (pv 4) pa_nil)) rfl))
      (case2 (i := 5) (i2 := 6) rfl sc_Console_run.nd rfl (by first | exact Or.inl rfl | exact Or.inr rfl) rfl (by first | exact Or.inl rfl | exact Or.inr rfl) (pss_one (ps_expr (pe_methR (pe_fld (pv 0) rfl) W.c_Game W.m_Game_move (ok_Game_move W) (hr.mono (by omega)) pass0 (pa_cons (pv 5) (pa_cons (pv 6) pa_nil)))))
      (case1 (i := 5) rfl sc_Console_run.nd rfl (by first | exact Or.inl rfl | exact Or.inr rfl) (pss_one (ps_expr (pe_methR (pe_fld (pv 0) rfl) W.c_Game W.m_Game_undo (ok_Game_undo W) (hr.mono (by omega)) (passes_call (takes_of rfl rfl rfl rfl) (fun _ _ _ _ h => h)) (pa_cons (pv 5) pa_nil))))
      (case1 (i := 5) rfl sc_Console_run.nd rfl (by first | exact Or.inl rfl | exact Or.inr rfl) (pss_one (ps_expr (pe_methR (pe_fld (pv 0) rfl) W.c_Game W.m_Game_redo (ok_Game_redo W) (hr.mono (by omega)) (passes_call (takes_of rfl rfl rfl rfl) (fun _ _ _ _ h => h)) (pa_cons (pv 5) pa_nil))))
      (wild_case (pss_one (ps_ret (pe_methR (pv 0) W.c_Console W.m_Console_query (ok_Console_query W) (hr.mono (by omega)) pass0 (pa_cons (pv 2) pa_nil))))))))))
      (pss_one (ps_ret pe_str)))), ?_⟩
    obtain ⟨⟨dx, hc⟩, hcz, hG⟩ := id hC
    obtain ⟨gdx, ft, ct, pl, ud, hp, hct⟩ := hG.curAt
    rcases hl with ⟨rfl, rfl⟩ | ⟨s, cc, rfl, hsh, hcmd, hcl⟩
    · exact ⟨.non, rfl, .non, rfl, .inl ⟨rfl, h⟩⟩
    · refine ⟨.str s, rfl, .str s, rfl, .inr ⟨s, cc, rfl, hsh, hcmd, fun hcc => ?_, fun c' hcc H1 v' e1 hv => ?_⟩⟩
      · subst hcc
        cases hcl
        exact h
      subst hcc
      obtain ⟨t, la, xs, rfl, ht, hla, hA⟩ := hv
      cases hcl with
      | new r hr1 =>
        obtain ⟨x1, rfl, hx1⟩ := al1 hA
        refine ⟨t, _, rfl, SqT.of ht, rfl, _, _, rfl, _, _, rfl, rfl, ?_⟩
        refine ⟨.str "new", rfl, .ref la, rfl, la, _, rfl, .inr (SqL.of hla), by show 2 ≤ sizeLine; decide, fun M hM => ?_⟩
        have e2 : Same H1 (upd H1 M (.lst (.str "new" :: ([x1] ++ [])))) := same_new hM
        have e02 := e1.trans e2
        refine ⟨M, "new", [x1], rfl, SqL.of upd_same, by simp, fun x hz hx => ?_, fun hn => absurd ⟨rfl, rfl⟩ hn⟩
        cases hx
        generalize upd H1 M (.lst (.str "new" :: ([x1] ++ []))) = H2 at *
        refine ⟨x1, rfl, fun x ax hx hax hne => ?_⟩
        have hxH : H x = none := e02.free hx
        have e3 : Same H2 (upd (upd H2 ax (HO.own x)) x (HO.ins (CG K) ax [])) := same_mut (same_new hax) hx
        have e03 := e02.trans e3
        have hxc : x ≠ c := fun e => by rw [e, hc] at hxH; cases hxH
        refine ⟨x, ax, x1, r, Z, rfl, upd_same, (hx1.same e2).same e3, hZ.new hxH, hZ.same e03, fun H' hS hG' => ⟨rfl, ?_⟩⟩
        have hc' : H' c = some (.ins (CC K) dx [("game", .ref p)]) := hS c _ (e03 _ _ hc) (Ne.symm hxc)
        refine ⟨.ref c, rfl, c, CC K, dx, _, rfl, hc', W.c_Console, W.n_Console_game, (by decide : 1 < 1000), ?_⟩
        have hS2 : Sx c H' (upd H' c (.ins (CC K) dx [("game", .ref x)])) := fun b o hb hn => (upd_ne hn).trans hb
        exact h _ x (fun b o hb hn => hS2 b o (hS b o (e03 _ _ hb) (ne_of_none hb hxH)) hn) hxH ⟨⟨dx, upd_same⟩, hcz, hG'.fr (hS2.fr hc') (ins1 hc') (fun hm => hxc (List.mem_singleton.mp hm))⟩
      | mv u st hu =>
        obtain ⟨x1, x2, rfl, hx1, hx2⟩ := al2 hA
        obtain ⟨hok, h⟩ := h
        cases hx1
        refine ⟨t, _, rfl, SqT.of ht, rfl, _, _, rfl, _, _, rfl, rfl, ?_⟩
        refine ⟨.str "move", rfl, .ref la, rfl, la, _, rfl, .inr (SqL.of hla), by show 3 ≤ sizeLine; decide, fun M hM => ?_⟩
        have e2 : Same H1 (upd H1 M (.lst (.str "move" :: ([.str u, x2] ++ [])))) := same_new hM
        have e02 := e1.trans e2
        refine ⟨M, "move", [.str u, x2], rfl, SqL.of upd_same, by simp, fun x hz hx => absurd hz (by decide +kernel), fun _ => ⟨M, "move", [.str u, x2], rfl, SqL.of upd_same, by simp, fun x y hz hx => ?_, fun hn => absurd ⟨rfl, rfl⟩ hn⟩⟩
        cases hx
        generalize upd H1 M (.lst (.str "move" :: ([.str u, x2] ++ []))) = H2 at *
        refine ⟨.ref c, rfl, c, CC K, dx, _, _, rfl, e02 _ _ hc, W.c_Console, W.n_Console_game, rfl, p, gdx, _, rfl, e02 _ _ hp, rfl, .str u, rfl, x2, rfl, u, hu, p, u, x2, st, g, Z, n, rfl, hG.same e02, hZ.same e02, hO, hn, StpAt.same e2 hx2, hok, fun H' hS hG' => ?_⟩
        have hS' : Sx p H H' := fun b o hb hne => hS b o (e02 _ _ hb) hne
        exact h H' hS' (hC.sx hS' hG')
      | un u hu =>
        obtain ⟨x1, rfl, hx1⟩ := al1 hA
        cases hx1
        obtain ⟨ha, hb⟩ := h
        refine ⟨t, _, rfl, SqT.of ht, rfl, _, _, rfl, _, _, rfl, rfl, ?_⟩
        refine ⟨.str "undo", rfl, .ref la, rfl, la, _, rfl, .inr (SqL.of hla), by show 2 ≤ sizeLine; decide, fun M hM => ?_⟩
        have e2 : Same H1 (upd H1 M (.lst (.str "undo" :: ([.str u] ++ [])))) := same_new hM
        have e02 := e1.trans e2
        refine ⟨M, "undo", [.str u], rfl, SqL.of upd_same, by simp, fun x hz hx => absurd hz (by decide +kernel), fun _ => ⟨M, "undo", [.str u], rfl, SqL.of upd_same, by simp, fun x x2 hz hx => absurd hz (by decide +kernel), fun _ => ⟨M, "undo", [.str u], rfl, SqL.of upd_same, by simp, fun x hz hx => ?_, fun hn => absurd ⟨rfl, rfl⟩ hn⟩⟩⟩
        cases hx
        generalize upd H1 M (.lst (.str "undo" :: ([.str u] ++ []))) = H2 at *
        refine ⟨.ref c, rfl, c, CC K, dx, _, _, rfl, e02 _ _ hc, W.c_Console, W.n_Console_game, rfl, p, gdx, _, rfl, e02 _ _ hp, rfl, .str u, rfl, p, u, g, Z, n, rfl, hu, hG.same e02, hZ.same e02, hO, hn, fun g' hg' H' hS hG' => ?_, fun hg' H' d e3 hd => hb hg' H' d (e02.trans e3) hd⟩
        have hS' : Sx p H H' := fun b o hb hne => hS b o (e02 _ _ hb) hne
        exact ha g' hg' H' hS' (hC.sx hS' hG')
      | re u hu =>
        obtain ⟨x1, rfl, hx1⟩ := al1 hA
        cases hx1
        obtain ⟨ha, hb⟩ := h
        refine ⟨t, _, rfl, SqT.of ht, rfl, _, _, rfl, _, _, rfl, rfl, ?_⟩
        refine ⟨.str "redo", rfl, .ref la, rfl, la, _, rfl, .inr (SqL.of hla), by show 2 ≤ sizeLine; decide, fun M hM => ?_⟩
        have e2 : Same H1 (upd H1 M (.lst (.str "redo" :: ([.str u] ++ [])))) := same_new hM
        have e02 := e1.trans e2
        refine ⟨M, "redo", [.str u], rfl, SqL.of upd_same, by simp, fun x hz hx => absurd hz (by decide +kernel), fun _ => ⟨M, "redo", [.str u], rfl, SqL.of upd_same, by simp, fun x x2 hz hx => absurd hz (by decide +kernel), fun _ => ⟨M, "redo", [.str u], rfl, SqL.of upd_same, by simp, fun x hz hx => absurd hz (by decide +kernel), fun _ => ⟨M, "redo", [.str u], rfl, SqL.of upd_same, by simp, fun x hz hx => ?_, fun hn => absurd ⟨rfl, rfl⟩ hn⟩⟩⟩⟩
        cases hx
        generalize upd H1 M (.lst (.str "redo" :: ([.str u] ++ []))) = H2 at *
        refine ⟨.ref c, rfl, c, CC K, dx, _, _, rfl, e02 _ _ hc, W.c_Console, W.n_Console_game, rfl, p, gdx, _, rfl, e02 _ _ hp, rfl, .str u, rfl, p, u, g, Z, n, rfl, hu, hG.same e02, hZ.same e02, hO, hn, fun g' hg' H' hS hG' => ?_, fun hg' H' d e3 hd => hb hg' H' d (e02.trans e3) hd⟩
        have hS' : Sx p H H' := fun b o hb hne => hS b o (e02 _ _ hb) hne
        exact ha g' hg' H' hS' (hC.sx hS' hG')
      | qu wd =>
        obtain rfl := al0 hA
        refine ⟨t, _, rfl, SqT.of ht, rfl, _, _, rfl, _, _, rfl, rfl, ?_⟩
        refine ⟨.str wd, rfl, .ref la, rfl, la, _, rfl, .inr (SqL.of hla), by show 1 ≤ sizeLine; decide, fun M hM => ?_⟩
        have e2 : Same H1 (upd H1 M (.lst (.str wd :: ([] ++ [])))) := same_new hM
        have e02 := e1.trans e2
        refine ⟨M, wd, [], rfl, SqL.of upd_same, by simp, fun x hz hx => absurd hx (by simp), fun _ => ⟨M, wd, [], rfl, SqL.of upd_same, by simp, fun x x2 hz hx => absurd hx (by simp), fun _ => ⟨M, wd, [], rfl, SqL.of upd_same, by simp, fun x hz hx => absurd hx (by simp), fun _ => ⟨M, wd, [], rfl, SqL.of upd_same, by simp, fun x hz hx => absurd hx (by simp), fun _ => ?_⟩⟩⟩⟩
        exact ⟨.ref c, rfl, c, dx, _, rfl, e02 _ _ hc, rfl, .str wd, rfl, c, dx, p, wd, g.cur, rfl, e02 _ _ hc, ⟨gdx, ft, ct, pl, ud, e02 _ _ hp, e02 _ _ hct⟩, hO.cur.1, fun H' e3 => h H' (e02.trans e3)⟩
end
end Tc
namespace Tc
open PySem PySem.Spec PyProof.Rows L2 He He5 Mi
/-! ### the law's pool of draws -/
def PoolAt (H : Hp) (p : Addr) : Prop := ∃ a b : Int, H p = some (.lst [.int a, .int b]) ∧ 0 ≤ b ∧ b < 2147483648
section
variable {P : Program} {w : World} {K : PySem.W.Frag} {mg : Str → Option Value} {base : Heap}
def sp_l_pool (K : PySem.W.Frag) : Sp := fun vs H Q _ => ∃ (a : Addr) (ns : List Int) (k : Nat), vs = [.ref a, .int (k : Int)] ∧ SqL K H a (ns.map V.int) ∧ k ≤ 100 ∧ ∀ H' p, Same H H' → H p = none → PoolAt H' p → Q (.ref p) H'
abbrev N_l_pool : List Str := ["_law_script", "_law_k", "_law_cell", "_law_mixed"]
theorem sc_l_pool : FnScope N_l_pool ["_law_script", "_law_k"] d_l_pool.scope := ⟨rfl, rfl, rfl, by decide +kernel, rfl, by decide +kernel, by decide +kernel⟩
theorem ok_l_pool (W : Wd w K mg) : FnR P w K mg base CX0 1 (d_l_pool.at_ K) (sp_l_pool K) := by
  refine fnr0 W.f_l_pool sc_l_pool (fun vs H Q E h => ?_) (fun _ _ _ _ _ _ us hl => match us, hl with | [_, _], _ => rfl) (fun cdv A outer s H vs Q E hr h => ?_)
  · obtain ⟨a, ns, k, rfl, ha, hk, q⟩ := h
    rfl
  · obtain ⟨a, ns, k, rfl, ha, hk, q⟩ := h
    refine ⟨_, (pss_cons (ps_set (i := 2) sc_l_pool.nd rfl (by first | exact Or.inl rfl | exact Or.inr rfl) pe_int)
      (Evl.pss_cut (ps_if (pt_cmpR op_lt (pv 1) (pe_callB call_len_seq (by rfl) W.z_len PySem.boot_len (pa_cons (pv 0) pa_nil)) (nomark _)) (pss_one (ps_set (i := 2) sc_l_pool.nd rfl (by first | exact Or.inl rfl | exact Or.inr rfl) (pe_callB call_abs (by rfl) W.z_abs boot_abs (pa_cons (pe_ix (show IxR _ (rIxL K) from ix_list) (pv 0) (pv 1) (fun _ _ => rfl)) pa_nil)))) pss_nil)
      (pss_cons (ps_set (i := 3) sc_l_pool.nd rfl (by first | exact Or.inl rfl | exact Or.inr rfl) (pe_op op_mod (pe_op op_mul (pe_op op_add (pe_op op_add (pe_op op_add (pe_op op_mod (pv 2) pe_int) (pe_op op_mul (pe_op op_mul pe_int (pv 1)) (pv 1))) (pe_op op_mul pe_int (pv 1))) pe_int) pe_int) pe_int))
      (pss_one (ps_ret (pe_lst (pa_cons (pe_op op_mul (pv 2) (pe_callTy call_int1 (by rfl) W.z_int boot_int (pa_cons (pe_cmpR op_ge (pv 2) (pe_op op_pow pe_int pe_int) (nomark _)) pa_nil))) (pa_cons (pe_op op_mod (pe_op op_mul (pv 3) (pv 3)) pe_int) pa_nil)))))))), ?_⟩
    refine ⟨fun σ H' => ∃ c : Int, σ = [some (.ref a), some (.int (k : Int)), some (.int c), none] ∧ H' = H, ?_, ?_⟩
    · refine ⟨.int (k : Int), rfl, .ref a, rfl, a, _, rfl, .inl ha, _, _, rfl, rfl, _, rfl, ite2 (fun h => ?_) fun h => ?_⟩
      · have h1 := of_decide_eq_true h
        have h2 : k < ns.length := by
          rw [List.length_map] at h1
          omega
        have h3 : (ns.map V.int)[k]? = some (.int ns[k]) := by
          rw [List.getElem?_map, List.getElem?_eq_getElem h2]
          rfl
        exact ⟨.ref a, rfl, .int (k : Int), rfl, a, _, (k : Int), _, rfl, rfl, ha, atI_nat h3, _, rfl, _, rfl, rfl⟩
      · exact ⟨0, rfl, rfl⟩
    · rintro σ H1 ⟨c, rfl, rfl⟩
      have hm : ∀ x : Int, 0 ≤ x % 2147483647 ∧ x % 2147483647 < 2147483647 := fun x => by omega
      have hm2 : ∀ x : Int, 0 ≤ x % 2147483629 ∧ x % 2147483629 < 2147483629 := fun x => by omega
      have hk2 : (0 : Int) ≤ 7919 * (k : Int) ∧ 7919 * (k : Int) ≤ 7919 * 100 := by omega
      refine ⟨.int c, rfl, c, _, rfl, rfl, (by decide : (0 : Int) < 2147483629), .int (k : Int), rfl, _, _, rfl, rfl, .inl ⟨by decide, by decide⟩, .int (k : Int), rfl, _, _, rfl, rfl, .inr ⟨by omega, by omega⟩, _, _, rfl, rfl, .int (k : Int), rfl, _, _, rfl, rfl, .inl ⟨by decide, by decide⟩, _, _, rfl, rfl, _, _, rfl, rfl, _, _, rfl, rfl, .inr ⟨by decide, by decide⟩, _, _, rfl, rfl, (by decide : (0 : Int) < 2147483647), ?_⟩
      have hx := hm ((c % 2147483629 + 7919 * (k : Int) * (k : Int) + 31 * (k : Int) + 17) * 48271)
      have hb := hm2
      refine ⟨.int c, rfl, .int c, rfl, 10, 18, rfl, rfl, ⟨by decide, by decide, by decide⟩, _, _, rfl, rfl, .inr ⟨_, rfl, _, _, rfl, rfl, .inr ?_, .int _, rfl, .int _, rfl, _, _, rfl, rfl, .inl ⟨by have := hx.1; omega, by have := hx.2; omega⟩, _, _, rfl, rfl, (by decide : (0 : Int) < 2147483629), by show 2 ≤ sizeLine; decide, fun p hp => ?_⟩⟩
      · split <;> exact ⟨by decide, by decide⟩
      · exact q _ p (same_new hp) hp ⟨_, _, upd_same, (hb _).1, Int.lt_trans (hb _).2 (by decide)⟩
theorem c_l_pool (W : Wd w K mg) : Cal P w K mg base CX0 1 "_law_pool" (d_l_pool.at_ K) (sp_l_pool K) := ⟨ok_l_pool W, W.g_l_pool, W.f_l_pool.kp⟩
def sp_l_take : Sp := fun vs H Q _ => ∃ (p : Addr) (n : Int), vs = [.ref p, .int n] ∧ PoolAt H p ∧ 0 < n ∧ n < 1073741824 ∧ ∀ H' r, Sx p H H' → PoolAt H' p → 0 ≤ r → r < n → Q (.int r) H'
abbrev N_l_take : List Str := ["_law_pool_here", "_law_count", "_law_result"]
theorem sc_l_take : FnScope N_l_take ["_law_pool_here", "_law_count"] d_l_take.scope := ⟨rfl, rfl, rfl, by decide +kernel, rfl, by decide +kernel, by decide +kernel⟩
theorem ok_l_take (W : Wd w K mg) : FnR P w K mg base CX0 1 (d_l_take.at_ K) sp_l_take := by
  refine fnr0 W.f_l_take sc_l_take (fun vs H Q E h => ?_) (fun _ _ _ _ _ _ us hl => match us, hl with | [_, _], _ => rfl) (fun cdv A outer s H vs Q E hr h => ?_)
  · obtain ⟨p, n, rfl, ⟨a, b, hp, hb0, hb1⟩, hn0, hn1, q⟩ := h
    rfl
  · obtain ⟨p, n, rfl, ⟨a, b, hp, hb0, hb1⟩, hn0, hn1, q⟩ := h
    refine ⟨_, (pss_cons (ps_if (pt_cmpR op_gt (pe_ix (show IxR _ (rIxL K) from ix_list) (pv 0) pe_int (fun _ _ => rfl)) pe_int (nomark _)) (pss_cons (ps_set (i := 2) sc_l_take.nd rfl (by first | exact Or.inl rfl | exact Or.inr rfl) (pe_op op_mod (pe_ix (show IxR _ (rIxL K) from ix_list) (pv 0) pe_int (fun _ _ => rfl)) (pv 1)))
      (pss_cons (ps_asg (pe_op op_fdiv (pe_ix (show IxR _ (rIxL K) from ix_list) (pv 0) pe_int (fun _ _ => rfl)) (pv 1)) (pg_sub (pv 0) pe_int set_list))
      (pss_one (ps_ret (pv 2))))) pss_nil)
      (pss_cons (ps_asg (pe_op op_mod (pe_op op_add (pe_op op_mul (pe_ix (show IxR _ (rIxL K) from ix_list) (pv 0) pe_int (fun _ _ => rfl)) pe_int) pe_int) pe_int) (pg_sub (pv 0) pe_int set_list))
      (pss_one (ps_ret (pe_op op_mod (pe_op op_fdiv (pe_op op_mod (pe_op op_mul (pe_ix (show IxR _ (rIxL K) from ix_list) (pv 0) pe_int (fun _ _ => rfl)) (pe_ix (show IxR _ (rIxL K) from ix_list) (pv 0) pe_int (fun _ _ => rfl))) pe_int) pe_int) (pv 1)))))), ?_⟩
    have hm : ∀ x : Int, 0 ≤ x % n ∧ x % n < n := fun x => ⟨Int.emod_nonneg x (Int.ne_of_gt hn0), Int.emod_lt_of_pos x hn0⟩
    refine ⟨.ref p, rfl, p, _, 0, .int a, rfl, rfl, SqL.of hp, rfl, _, _, rfl, rfl, _, rfl, ite2 (fun h => ?_) fun h => ?_⟩
    · refine ⟨.ref p, rfl, p, _, 0, .int a, rfl, rfl, SqL.of hp, rfl, .int n, rfl, _, _, rfl, rfl, hn0, .ref p, rfl, p, _, 0, .int a, rfl, rfl, SqL.of hp, rfl, .int n, rfl, _, _, rfl, rfl, ⟨hn0, hn1⟩, .ref p, rfl, p, _, 0, 0, rfl, rfl, hp, rfl, .int (a % n), rfl, ?_⟩
      exact q _ _ (fun c o hc hn => (upd_ne hn).trans hc) ⟨_, _, upd_same, hb0, hb1⟩ (hm a).1 (hm a).2
    · have hb : ∀ x : Int, 0 ≤ x % 2147483647 ∧ x % 2147483647 < 2147483647 := fun x => by omega
      have hx := hb (b * 48271 + 12345)
      refine ⟨.ref p, rfl, p, _, 1, .int b, rfl, rfl, SqL.of hp, rfl, _, _, rfl, rfl, .inr ⟨by decide, by decide⟩, _, _, rfl, rfl, _, _, rfl, rfl, (by decide : (0 : Int) < 2147483647), ?_⟩
      refine ⟨.ref p, rfl, p, _, 1, 1, rfl, rfl, hp, rfl, ?_⟩
      have h1 : upd H p (.lst [.int a, .int ((b * 48271 + 12345) % 2147483647)]) p = some (.lst [.int a, .int ((b * 48271 + 12345) % 2147483647)]) := upd_same
      refine ⟨.ref p, rfl, p, _, 1, .int ((b * 48271 + 12345) % 2147483647), rfl, rfl, SqL.of h1, rfl, .ref p, rfl, p, _, 1, .int ((b * 48271 + 12345) % 2147483647), rfl, rfl, SqL.of h1, rfl, _, _, rfl, rfl, .inl ⟨by have := hx.1; omega, by have := hx.2; omega⟩, _, _, rfl, rfl, (by decide : (0 : Int) < 2147483629), _, _, rfl, rfl, ⟨by decide, by decide⟩, .int n, rfl, _, _, rfl, rfl, hn0, ?_⟩
      exact q _ _ (fun c o hc hn => (upd_ne hn).trans hc) ⟨_, _, h1, hx.1, Int.lt_trans hx.2 (by decide)⟩ (hm _).1 (hm _).2
theorem c_l_take (W : Wd w K mg) : Cal P w K mg base CX0 1 "_law_take" (d_l_take.at_ K) sp_l_take := ⟨ok_l_take W, W.g_l_take, W.f_l_take.kp⟩
end
end Tc
namespace Tc
open PySem PySem.Spec PyProof.Rows L2 He He5 Mi
theorem er_perm {α : Type} : ∀ (l : List α) (i : Nat) (x : α), l[i]? = some x → l.Perm (x :: l.eraseIdx i)
  | [], i, x, h => by simp at h
  | a :: t, 0, x, h => by
    have h : a = x := Option.some.inj h
    rw [h]
    exact List.Perm.refl _
  | a :: t, i + 1, x, h => ((er_perm t i x h).cons a).trans (List.Perm.swap x a _)
/-- the rest and the drawn cards -/
structure Dr (n : Nat) (rest : List Nat) (res : Mi.Row) : Prop where
  len : rest.length + res.length = n
  nd : (rest ++ res.map Int.natAbs).Nodup
  each : ∀ x ∈ rest ++ res.map Int.natAbs, 1 ≤ x ∧ x ≤ n
theorem Dr.start (n : Nat) : Dr n ((List.range n).map (· + 1)) [] := by
  refine ⟨by simp, ?_, fun x hx => ?_⟩
  · rw [List.map_nil, List.append_nil]
    exact (List.pairwise_map.mpr (List.nodup_range.imp fun {a b} h => by omega) : (List.map (· + 1) (List.range n)).Pairwise (· ≠ ·))
  · rw [List.map_nil, List.append_nil] at hx
    obtain ⟨y, hy, rfl⟩ := List.mem_map.mp hx
    have := List.mem_range.mp hy
    omega
theorem Dr.step {n : Nat} {rest : List Nat} {res : Mi.Row} (h : Dr n rest res) {k y : Nat} (hk : rest[k]? = some y) {x : Int} (hx : x.natAbs = y) : Dr n (rest.eraseIdx k) (res ++ [x]) := by
  have hp := er_perm rest k y hk
  have hq : (rest ++ res.map Int.natAbs).Perm (rest.eraseIdx k ++ (res ++ [x]).map Int.natAbs) := by
    rw [List.map_append, List.map_cons, List.map_nil, hx]
    refine (hp.append_right _).trans ?_
    rw [← List.append_assoc]
    exact (List.perm_append_comm (l₁ := [y]) (l₂ := rest.eraseIdx k ++ res.map Int.natAbs))
  have hkl : k < rest.length := (List.getElem?_eq_some_iff.mp hk).1
  refine ⟨?_, hq.nodup_iff.mp h.nd, fun z hz => h.each z (hq.mem_iff.mpr hz)⟩
  rw [List.length_eraseIdx_of_lt hkl, List.length_append]
  have := h.len
  simp
  omega
theorem Dr.done {n : Nat} {res : Mi.Row} (h : Dr n [] res) (h1 : 1 ≤ n) (h4 : n ≤ 4) : vrB res = true ∧ res.length = n := by
  have hl : res.length = n := by have := h.len; simp at this; exact this
  refine ⟨?_, hl⟩
  unfold vrB
  rw [Bool.and_eq_true, Bool.and_eq_true, Bool.and_eq_true, decide_eq_true_eq, decide_eq_true_eq, decide_eq_true_eq, List.all_eq_true]
  refine ⟨⟨⟨by omega, by omega⟩, fun x hx => ?_⟩, h.nd⟩
  have := h.each x.natAbs (List.mem_map.mpr ⟨x, hx, rfl⟩)
  rw [Bool.and_eq_true, decide_eq_true_eq, decide_eq_true_eq, hl]
  exact this
theorem rg_nV (n : Nat) : rgV 1 ((n : Int) + 1) = ((List.range n).map (· + 1)).map nV := by
  rw [rg_nat, ← map_nV]
theorem er_map {α β : Type} (f : α → β) : ∀ (l : List α) (k : Nat), (l.map f).eraseIdx k = (l.eraseIdx k).map f
  | [], k => by simp
  | a :: t, 0 => by simp
  | a :: t, k + 1 => by simp [er_map f t k]
section
variable {P : Program} {w : World} {K : PySem.W.Frag} {mg : Str → Option Value} {base : Heap}
def sp_l_cards : Sp := fun vs H Q _ => ∃ (p : Addr) (n : Nat), vs = [.ref p, .int (n : Int)] ∧ PoolAt H p ∧ 1 ≤ n ∧ n ≤ 4 ∧ ∀ H' t r, Sx p H H' → PoolAt H' p → H' t = some (.tup (r.map V.int)) → vrB r = true → r.length = n → Q (.ref t) H'
abbrev N_l_cards : List Str := ["_law_pool_here", "_law_many", "_law_rest", "_law_result", "_law_turn", "_law_card"]
theorem sc_l_cards : FnScope N_l_cards ["_law_pool_here", "_law_many"] d_l_cards.scope := ⟨rfl, rfl, rfl, by decide +kernel, rfl, by decide +kernel, by decide +kernel⟩
theorem ok_l_cards (W : Wd w K mg) : FnR P w K mg base CX0 3 (d_l_cards.at_ K) sp_l_cards := by
  refine fnr0 W.f_l_cards sc_l_cards (fun vs H Q E h => ?_) (fun _ _ _ _ _ _ us hl => match us, hl with | [_, _], _ => rfl) (fun cdv A outer s H vs Q E hr h => ?_)
  · obtain ⟨p, n, rfl, hP, h1, h4, q⟩ := h
    rfl
  · obtain ⟨p, n, rfl, hP, h1, h4, q⟩ := h
    refine ⟨_, (pss_cons (ps_par (i := 2) (j := 3) (by rfl) sc_l_cards.nd rfl rfl (by decide) rfl rfl (pa_cons (pe_listRg rfl (by rfl) W.z_list (prg_2 (by rfl) W.z_range pe_int (pe_op op_add (pv 1) pe_int))) (pa_cons (pe_lst pa_nil) pa_nil)) (by rfl))
      (pss_cons (ps_for PassesOwn.never rfl (pi_range1 rfl W.z_range (pa_cons (pv 1) pa_nil)) (pg_name (i := 4) sc_l_cards.nd rfl (by first | exact Or.inl rfl | exact Or.inr rfl)) (pss_cons (ps_set (i := 5) sc_l_cards.nd rfl (by first | exact Or.inl rfl | exact Or.inr rfl) (pe_bm PySem.F.plainAttrs_list PySem.F.slot_list_pop PySem.F.type_list_pop mt_popAt (pv 2) (pa_cons (pe_c (c_l_take W) (hr.mono (by omega)) pass0 (pa_cons (pv 0) (pa_cons (pe_callB call_len_seq (by rfl) W.z_len PySem.boot_len (pa_cons (pv 2) pa_nil)) pa_nil))) pa_nil)))
      (pss_one (ps_expr (pe_bm PySem.F.plainAttrs_list PySem.F.slot_list_append PySem.F.type_list_append mt_append (pv 3) (pa_cons (pe_ix (show IxR _ (rIxL K) from ix_list) (pe_lst (pa_cons (pv 5) (pa_cons (pe_op op_sub pe_int (pv 5)) pa_nil))) (pe_c (c_l_take W) (hr.mono (by omega)) pass0 (pa_cons (pv 0) (pa_cons pe_int pa_nil))) (fun _ _ => rfl)) pa_nil))))))
      (pss_one (ps_ret (pe_callTy call_tuple_of (by rfl) W.z_tuple boot_tuple (pa_cons (pv 3) pa_nil)))))), ?_⟩
    have hH : ∃ o, H p = some o := let ⟨a, b, h, _⟩ := hP; ⟨_, h⟩
    obtain ⟨o0, hpo⟩ := hH
    refine ⟨.int (n : Int), rfl, (n : Int), 1, rfl, rfl, 1, _, rfl, rfl, ⟨by decide, by decide, by omega, by omega, by omega⟩, fun D hD => ⟨Nat.zero_le _, fun o ho => ?_⟩⟩
    rw [rg_nV]
    have hDo : D ≠ o := fun e => by rw [e, upd_same] at ho; cases ho
    have hDH := hD
    have hoH : H o = none := by rw [upd_ne (Ne.symm hDo)] at ho; exact ho
    have hDp : D ≠ p := Ne.symm (ne_of_none hpo hDH)
    have hop : o ≠ p := Ne.symm (ne_of_none hpo hoH)
    have e0 : Same H (upd (upd H D (HO.lst (((List.range n).map (· + 1)).map nV))) o (HO.lst [])) := same_mut (same_new hD) hoH
    refine ⟨_, _, rfl, ?_⟩
    refine ⟨.int (n : Int), rfl, (n : Int), rfl, by omega, by omega, ?_⟩
    rw [Int.toNat_natCast]
    refine for_range (lo := 0) (n := n) (fun i σ Hk => ∃ rest res y4 y5, σ = [some (.ref p), some (.int (n : Int)), some (.ref D), some (.ref o), y4, y5] ∧ Sx p H Hk ∧ PoolAt Hk p ∧ Hk D = some (.lst (rest.map nV)) ∧ Hk o = some (.lst (res.map V.int)) ∧ Dr n rest res ∧ res.length = i)
      ⟨_, [], _, _, rfl, same_sx e0, let ⟨a, b, k1, k2⟩ := hP; ⟨a, b, e0 _ _ k1, k2⟩, (upd_ne hDo).trans upd_same, upd_same, Dr.start n, rfl⟩ (fun i σ Hk hi hI => ?_) (fun σ Hk hI => ?_)
    · obtain ⟨rest, res, y4, y5, rfl, eK, hPk, hDk, hok, hd, hl⟩ := hI
      have hrl : rest.length = n - i := by have := hd.len; omega
      refine ⟨.ref D, rfl, .inl ⟨rfl, _, .inl (.inl hDk)⟩, .ref p, rfl, .ref D, rfl, D, _, rfl, .inl (SqL.of hDk), p, _, rfl, hPk, by rw [List.length_map]; omega, by rw [List.length_map]; omega, fun H2 r1 e2 hP2 hr0 hr1 => ?_⟩
      rw [List.length_map] at hr1
      have hD2 := e2 _ _ hDk hDp
      have ho2 := e2 _ _ hok hop
      have hk : r1.toNat < rest.length := by omega
      have hy : rest[r1.toNat]? = some rest[r1.toNat] := List.getElem?_eq_getElem hk
      refine ⟨D, _, r1, r1.toNat, nV rest[r1.toNat], rfl, rfl, hD2, by omega, by omega, ?_, ?_, ?_⟩
      · rw [List.length_map]
        exact (ixN_seq (ixN_ok hr0 hr1)).1
      · rw [List.getElem?_map, hy]
        rfl
      rw [er_map]
      generalize rest[r1.toNat] = y at hy
      have e3 : Sx p H (upd H2 D (.lst ((rest.eraseIdx r1.toNat).map nV))) := fun b ob hb hn => by
        rw [upd_ne (ne_of_none hb hDH)]
        exact e2 b ob (eK b ob hb hn) hn
      have hP3 : PoolAt (upd H2 D (.lst ((rest.eraseIdx r1.toNat).map nV))) p := let ⟨a, b, k1, k2⟩ := hP2; ⟨a, b, (upd_ne (Ne.symm hDp)).trans k1, k2⟩
      have hD3 := upd_same (H := H2) (a := D) (o := .lst ((rest.eraseIdx r1.toNat).map nV))
      have ho3 := (upd_ne (o := .lst ((rest.eraseIdx r1.toNat).map nV)) (Ne.symm hDo)).trans ho2
      generalize upd H2 D (.lst ((rest.eraseIdx r1.toNat).map nV)) = H3 at *
      refine ⟨.ref o, rfl, .inl ⟨rfl, _, .inl (.inl ho3)⟩, nV y, rfl, nV y, rfl, 0, (y : Int), rfl, rfl, by show 2 ≤ sizeLine; decide, fun L hL => ?_⟩
      have e4 := same_new (o := .lst [nV y, .int (0 - (y : Int))]) hL
      have hL4 := upd_same (H := H3) (a := L) (o := .lst [nV y, .int (0 - (y : Int))])
      have hpk : ∃ ob, H3 p = some ob := let ⟨a, b, k1, k2⟩ := hP3; ⟨_, k1⟩
      obtain ⟨ob, hpk⟩ := hpk
      have hLp : L ≠ p := Ne.symm (ne_of_none hpk hL)
      have hLo : L ≠ o := Ne.symm (ne_of_none ho3 hL)
      have hP4 : PoolAt (upd H3 L (.lst [nV y, .int (0 - (y : Int))])) p := let ⟨a, b, k1, k2⟩ := hP3; ⟨a, b, e4 _ _ k1, k2⟩
      have hD4 := e4 _ _ hD3
      have ho4 := e4 _ _ ho3
      generalize upd H3 L (.lst [nV y, .int (0 - (y : Int))]) = H4 at *
      refine ⟨.ref p, rfl, p, 2, rfl, hP4, by decide, by decide, fun H5 r2 e5 hP5 hr20 hr21 => ?_⟩
      have e35 : Sx p H H5 := fun b ob hb hn => e5 b ob (e4 _ _ (e3 b ob hb hn)) hn
      have hL5 := e5 _ _ hL4 hLp
      have hx : ∃ x : Int, atI [nV y, .int (0 - (y : Int))] r2 = some (.int x) ∧ x.natAbs = y := by
        have : r2 = 0 ∨ r2 = 1 := by omega
        rcases this with rfl | rfl
        · exact ⟨(y : Int), rfl, by omega⟩
        · exact ⟨0 - (y : Int), rfl, by omega⟩
      obtain ⟨x, hx1, hx2⟩ := hx
      have ho5 := e5 _ _ ho4 hop
      have hD5 := e5 _ _ hD4 hDp
      refine ⟨L, _, r2, .int x, rfl, rfl, SqL.of hL5, hx1, o, _, .int x, rfl, rfl, ho5, ?_, ?_⟩
      · rw [List.length_map]
        exact small1k (by omega)
      have hmap : res.map V.int ++ [V.int x] = (res ++ [x]).map V.int := by rw [List.map_append]; rfl
      rw [hmap]
      refine ⟨rest.eraseIdx r1.toNat, res ++ [x], _, _, rfl, fun b ob hb hn => ?_, let ⟨a, b, k1, k2⟩ := hP5; ⟨a, b, (upd_ne (Ne.symm hop)).trans k1, k2⟩, (upd_ne hDo).trans hD5, upd_same, hd.step hy hx2, by rw [List.length_append]; show _ + 1 = _; omega⟩
      rw [upd_ne (ne_of_none hb hoH)]
      exact e35 b ob hb hn
    · obtain ⟨rest, res, y4, y5, rfl, eK, hPk, hDk, hok, hd, hl⟩ := hI
      have hre : rest = [] := by
        have := hd.len
        exact List.eq_nil_of_length_eq_zero (by omega)
      subst hre
      have hv := hd.done h1 h4
      refine ⟨.ref o, rfl, o, _, rfl, .inl ⟨SqL.of hok, fun t ht => ?_⟩⟩
      refine q _ t res (fun b ob hb hn => same_new ht _ _ (eK b ob hb hn)) (let ⟨a, b, k1, k2⟩ := hPk; ⟨a, b, same_new ht _ _ k1, k2⟩) upd_same hv.1 hv.2
theorem c_l_cards (W : Wd w K mg) : Cal P w K mg base CX0 3 "_law_cards" (d_l_cards.at_ K) sp_l_cards := ⟨ok_l_cards W, W.g_l_cards, W.f_l_cards.kp⟩
end
end Tc
namespace Tc
open PySem PySem.Spec PyProof.Rows L2 He He5 Mi
section
variable {P : Program} {w : World} {K : PySem.W.Frag} {mg : Str → Option Value} {base : Heap}
theorem PoolAt.same {H H' : Hp} {p : Addr} (h : PoolAt H p) (e : Same H H') : PoolAt H' p := let ⟨a, b, k1, k2⟩ := h; ⟨a, b, e _ _ k1, k2⟩
theorem PoolAt.some {H : Hp} {p : Addr} (h : PoolAt H p) : ∃ o, H p = some o := let ⟨_, _, k1, _⟩ := h; ⟨_, k1⟩
def sp_l_step : Sp := fun vs H Q _ => ∃ (p : Addr) (n : Nat), vs = [.ref p, .int (n : Int)] ∧ PoolAt H p ∧ 1 ≤ n ∧ n ≤ 4 ∧ ∀ H' v s, Sx p H H' → PoolAt H' p → StpAt H' v s → s.ok n = true → Q v H'
abbrev N_l_step : List Str := ["_law_pool_here", "_law_many", "_law_first", "_law_second"]
theorem sc_l_step : FnScope N_l_step ["_law_pool_here", "_law_many"] d_l_step.scope := ⟨rfl, rfl, rfl, by decide +kernel, rfl, by decide +kernel, by decide +kernel⟩
theorem ok_l_step (W : Wd w K mg) : FnR P w K mg base CX0 3 (d_l_step.at_ K) sp_l_step := by
  refine fnr0 W.f_l_step sc_l_step (fun vs H Q E h => ?_) (fun _ _ _ _ _ _ us hl => match us, hl with | [_, _], _ => rfl) (fun cdv A outer s H vs Q E hr h => ?_)
  · obtain ⟨p, n, rfl, hP, h1, h4, q⟩ := h
    rfl
  · obtain ⟨p, n, rfl, hP, h1, h4, q⟩ := h
    refine ⟨_, (pss_cons (ps_set (i := 2) sc_l_step.nd rfl (by first | exact Or.inl rfl | exact Or.inr rfl) (pe_op op_add pe_int (pe_c (c_l_take W) (hr.mono (by omega)) pass0 (pa_cons (pv 0) (pa_cons (pv 1) pa_nil)))))
      (pss_cons (ps_if (PW.pt (pw_or (pt_cmpR op_eq (pv 1) pe_int (nomark _)) (pw_or1 (pt_cmpR op_eq (pe_c (c_l_take W) (hr.mono (by omega)) pass0 (pa_cons (pv 0) (pa_cons pe_int pa_nil))) pe_int (nomark _))))) (pss_one (ps_ret (pe_tup (pa_cons pe_str (pa_cons (pv 2) pa_nil))))) pss_nil)
      (pss_cons (ps_set (i := 3) sc_l_step.nd rfl (by first | exact Or.inl rfl | exact Or.inr rfl) (pe_op op_add pe_int (pe_op op_mod (pe_op op_add (pv 2) (pe_c (c_l_take W) (hr.mono (by omega)) pass0 (pa_cons (pv 0) (pa_cons (pe_op op_sub (pv 1) pe_int) pa_nil)))) (pv 1))))
      (pss_one (ps_ret (pe_tup (pa_cons (pe_ix (show IxR _ (rIxL K) from ix_list) (pe_lst (pa_cons pe_str (pa_cons pe_str pa_nil))) (pe_c (c_l_take W) (hr.mono (by omega)) pass0 (pa_cons (pv 0) (pa_cons pe_int pa_nil))) (fun _ _ => rfl)) (pa_cons (pv 2) (pa_cons (pv 3) pa_nil))))))))), ?_⟩
    refine ⟨.ref p, rfl, .int (n : Int), rfl, p, _, rfl, hP, by omega, by omega, fun H1 f e1 hP1 hf0 hf1 => ⟨1, f, rfl, rfl, ?_⟩⟩
    have turn : ∀ H', Sx p H1 H' → PoolAt H' p → ∀ t, H' t = none → Q (.ref t) (upd H' t (.tup [.str "turn", .int (1 + f)])) := fun H' e hP' t ht => by
      have et := same_new (o := .tup [.str "turn", .int (1 + f)]) ht
      refine q _ _ (.turn (1 + f).toNat) ((e1.trans e).trans (same_sx et)) (hP'.same et) ⟨t, rfl, ?_⟩ ?_
      · rw [upd_same]
        show some (HO.tup [V.str "turn", V.int (1 + f)]) = some (HO.tup [V.str "turn", V.int (((1 + f).toNat : Nat) : Int)])
        rw [show (((1 + f).toNat : Nat) : Int) = 1 + f by omega]
      · simp [Stp.ok]
        omega
    refine ⟨.int (n : Int), rfl, rfl, _, rfl, ite2 (fun hn => ?_) fun hn => ?_⟩
    · exact iteP rfl ⟨.int (1 + f), rfl, by show 2 ≤ sizeLine; decide, fun t ht => turn H1 (fun b o h _ => h) hP1 t ht⟩
    have hn2 : 2 ≤ n := by
      by_cases h : n = 1
      · exact absurd (decide_eq_true (by rw [h]; rfl)) hn
      · omega
    refine ⟨.ref p, rfl, p, 3, rfl, hP1, by decide, by decide, fun H2 r e2 hP2 hr0 hr1 => ⟨rfl, _, rfl, ite2 (fun hr => ?_) fun hr => ?_⟩⟩
    · exact ⟨.int (1 + f), rfl, by show 2 ≤ sizeLine; decide, fun t ht => turn H2 e2 hP2 t ht⟩
    refine ⟨.int (1 + f), rfl, .ref p, rfl, .int (n : Int), rfl, (n : Int), 1, rfl, rfl, p, _, rfl, hP2, by omega, by omega, fun H3 g e3 hP3 hg0 hg1 => ⟨_, _, rfl, rfl, .int (n : Int), rfl, _, _, rfl, rfl, by show (0 : Int) < n; omega, 1, _, rfl, rfl, ?_⟩⟩
    have e03 := (e1.trans e2).trans e3
    have hmod : 0 ≤ (1 + f + g) % (n : Int) ∧ (1 + f + g) % (n : Int) < n ∧ (1 + f + g) % (n : Int) ≠ f := by
      have h0 := Int.emod_nonneg (1 + f + g) (show (n : Int) ≠ 0 by omega)
      have h2 := Int.emod_lt_of_pos (1 + f + g) (show (0 : Int) < n by omega)
      refine ⟨h0, h2, fun h => ?_⟩
      by_cases hlt : 1 + f + g < n
      · rw [Int.emod_eq_of_lt (by omega) hlt] at h
        omega
      · have : (1 + f + g) % (n : Int) = (1 + f + g - n) % (n : Int) := by rw [Int.sub_emod_right]
        rw [this, Int.emod_eq_of_lt (by omega) (by omega)] at h
        omega
    refine ⟨by show 2 ≤ sizeLine; decide, fun L hL => ?_⟩
    have e4 := same_new (o := .lst [.str "exchange", .str "cross"]) hL
    have hL4 := upd_same (H := H3) (a := L) (o := .lst [.str "exchange", .str "cross"])
    obtain ⟨ob, hpk⟩ := hP3.some
    have hLp : L ≠ p := Ne.symm (ne_of_none hpk hL)
    have hP4 := hP3.same e4
    generalize upd H3 L (.lst [.str "exchange", .str "cross"]) = H4 at *
    refine ⟨.ref p, rfl, p, 2, rfl, hP4, by decide, by decide, fun H5 r2 e5 hP5 hr20 hr21 => ?_⟩
    have hL5 := e5 _ _ hL4 hLp
    have e05 : Sx p H H5 := fun b o hb hn => e5 b o (e4 _ _ (e03 b o hb hn)) hn
    have c1 : (((1 + f).toNat : Nat) : Int) = 1 + f := by omega
    have c2 : (((1 + (1 + f + g) % (n : Int)).toNat : Nat) : Int) = 1 + (1 + f + g) % (n : Int) := by omega
    have hx : ∃ (z : Str) (s : Stp), atI [V.str "exchange", V.str "cross"] r2 = some (.str z) ∧ Stp.vs s = [.str z, .int (1 + f), .int (1 + (1 + f + g) % (n : Int))] ∧ s.ok n = true := by
      have : r2 = 0 ∨ r2 = 1 := by omega
      rcases this with rfl | rfl
      · refine ⟨"exchange", .exch (1 + f).toNat (1 + (1 + f + g) % (n : Int)).toNat, rfl, ?_, ?_⟩
        · show [V.str "exchange", V.int _, V.int _] = _
          rw [c1, c2]
        · simp [Stp.ok]
          omega
      · refine ⟨"cross", .cross (1 + f).toNat (1 + (1 + f + g) % (n : Int)).toNat, rfl, ?_, ?_⟩
        · show [V.str "cross", V.int _, V.int _] = _
          rw [c1, c2]
        · simp [Stp.ok]
          omega
    obtain ⟨z, s, hz, hs, hok⟩ := hx
    refine ⟨L, _, r2, .str z, rfl, rfl, SqL.of hL5, hz, .int (1 + f), rfl, .int _, rfl, by show 3 ≤ sizeLine; decide, fun t ht => ?_⟩
    have et := same_new (o := .tup [.str z, .int (1 + f), .int (1 + (1 + f + g) % (n : Int))]) ht
    exact q _ _ s (e05.trans (same_sx et)) (hP5.same et) ⟨t, rfl, by rw [hs]; exact upd_same⟩ hok
theorem c_l_step (W : Wd w K mg) : Cal P w K mg base CX0 3 "_law_step" (d_l_step.at_ K) sp_l_step := ⟨ok_l_step W, W.g_l_step, W.f_l_step.kp⟩
def sp_l_new_model : Sp := fun vs H Q _ => ∃ t, vs = [.ref t] ∧ ∀ H' m l w, Same H H' → H m = none → H l = none → H w = none → m ≠ l → m ≠ w → l ≠ w → H' m = some (.dK [(.inr "first", .ref t), (.inr "played", .ref l), (.inr "waiting", .ref w)]) → H' l = some (.lst []) → H' w = some (.dK []) → Q (.ref m) H'
abbrev N_l_new_model : List Str := ["_law_cards_here"]
theorem sc_l_new_model : FnScope N_l_new_model ["_law_cards_here"] d_l_new_model.scope := ⟨rfl, rfl, rfl, by decide +kernel, rfl, by decide +kernel, by decide +kernel⟩
theorem ok_l_new_model (W : Wd w K mg) : FnR P w K mg base CX0 1 (d_l_new_model.at_ K) sp_l_new_model := by
  refine fnr0 W.f_l_new_model sc_l_new_model (fun vs H Q E h => ?_) (fun _ _ _ _ _ _ us hl => match us, hl with | [_], _ => rfl) (fun cdv A outer s H vs Q E hr h => ?_)
  · obtain ⟨t, rfl, q⟩ := h
    rfl
  · obtain ⟨t, rfl, q⟩ := h
    refine ⟨_, (pss_one (ps_ret (pe_disp (pps_cons pe_str (pv 0) (pps_cons pe_str (pe_lst pa_nil) (pps_cons pe_str pe_dnewK pps_nil))) (by rfl) (by rfl) (fun z => by cases z) (by decide)))), ?_⟩
    refine fun m hm => ?_
    refine ⟨.ref t, rfl, Nat.zero_le _, fun l hl => fun w hw => ?_⟩
    have hml : m ≠ l := fun e => by rw [← e, upd_same] at hl; cases hl
    have hlH : H l = none := by rw [upd_ne (Ne.symm hml)] at hl; exact hl
    have hwl : w ≠ l := fun e => by rw [e, upd_same] at hw; cases hw
    have hwm : w ≠ m := fun e => by rw [e, upd_ne hml, upd_same] at hw; cases hw
    have hwH : H w = none := by rw [upd_ne hwl, upd_ne hwm] at hw; exact hw
    refine ⟨(upd_ne (Ne.symm hwm)).trans ((upd_ne hml).trans upd_same), [(.inr "first", .ref t), (.inr "played", .ref l), (.inr "waiting", .ref w)], rfl, (by decide : 3 ≤ 15), ?_⟩
    refine q _ m l w (same_mut (same_mut (same_mut (same_new hm) hlH) hwH) hm) hm hlH hwH hml (Ne.symm hwm) (Ne.symm hwl) ?_ ((upd_ne (Ne.symm hml)).trans ((upd_ne (Ne.symm hwl)).trans upd_same)) ((upd_ne hwm).trans upd_same)
    rw [upd_same]
    rfl
theorem c_l_new_model (W : Wd w K mg) : Cal P w K mg base CX0 1 "_law_new_model" (d_l_new_model.at_ K) sp_l_new_model := ⟨ok_l_new_model W, W.g_l_new_model, W.f_l_new_model.kp⟩
end
end Tc
namespace Tc
open PySem PySem.Spec PyProof.Rows L2 He He5 Mi
/-! ### the law's models -/
def mFs (t l w : Addr) : List (L2.Key × V) := [(.inr "first", .ref t), (.inr "played", .ref l), (.inr "waiting", .ref w)]
structure ModP (Z : List Addr) (H : Hp) (m w : Addr) (g : Gs) (t l : Addr) (ps : List V) (kvs : List (L2.Key × V)) : Prop where
  hm : H m = some (.dK (mFs t l w))
  ht : H t = some (.tup (g.first.map V.int))
  lz : l ∉ Z
  hl : H l = some (.lst ps)
  al : Al (PlAt H) ps g.played
  hw : H w = some (.dK kvs)
  au : Al (UdAt Z H) kvs g.undone
  mw : m ≠ w
def ModAt (Z : List Addr) (H : Hp) (m w : Addr) (g : Gs) : Prop := ∃ t l ps kvs, ModP Z H m w g t l ps kvs
theorem ModP.fr {Z F : List Addr} {H H' : Hp} {m w : Addr} {g : Gs} {t l : Addr} {ps : List V} {kvs : List (L2.Key × V)} (h : ModP Z H m w g t l ps kvs) (e : Fr F H H') (hF : ∀ f ∈ F, f ∈ Z ∨ ∃ C dx fs, H f = some (.ins C dx fs)) (hm : m ∉ F) (hw : w ∉ F) : ModP Z H' m w g t l ps kvs := by
  refine ⟨e.1 _ _ h.hm hm, e.2 _ _ h.ht, h.lz, e.1 _ _ h.hl fun hf => ?_, h.al.mono fun v c k => k.fr e, e.1 _ _ h.hw hw, h.au.mono fun v c k => k.fr e hF, h.mw⟩
  rcases hF _ hf with z | ⟨C, dx, fs, z⟩
  · exact h.lz z
  · have := h.hl
    rw [z] at this
    cases this
theorem ModAt.fr {Z F : List Addr} {H H' : Hp} {m w : Addr} {g : Gs} (h : ModAt Z H m w g) (e : Fr F H H') (hF : ∀ f ∈ F, f ∈ Z ∨ ∃ C dx fs, H f = some (.ins C dx fs)) (hm : m ∉ F) (hw : w ∉ F) : ModAt Z H' m w g :=
  let ⟨t, l, ps, kvs, h⟩ := h; ⟨t, l, ps, kvs, h.fr e hF hm hw⟩
theorem ModAt.same {Z : List Addr} {H H' : Hp} {m w : Addr} {g : Gs} (h : ModAt Z H m w g) (e : Same H H') : ModAt Z H' m w g := h.fr (F := []) (Fr.of_same e) (fun f hf => absurd hf List.not_mem_nil) List.not_mem_nil List.not_mem_nil
theorem get_first (t l w : Addr) : valV (mFs t l w) (.inr "first") = some (.ref t) := by rfl
theorem get_played (t l w : Addr) : valV (mFs t l w) (.inr "played") = some (.ref l) := by rfl
theorem get_waiting (t l w : Addr) : valV (mFs t l w) (.inr "waiting") = some (.ref w) := by rfl
theorem put_played (t l w l' : Addr) : putK (mFs t l w) (.inr "played") (.ref l') = mFs t l' w := by rfl
theorem dg {H : Hp} {a : Addr} {kvs : List (L2.Key × V)} {k : Str} {v : V} (e : H a = some (.dK kvs)) (h : valV kvs (.inr k) = some v) : DGet H a (.str k) (some v) := by
  rw [← h]
  exact DGet.k (k := .inr k) e
theorem Fr.up {H : Hp} {m : Addr} {o o' : HO} (h : H m = some o) (hn : ∀ xs, o ≠ .tup xs) : Fr [m] H (upd H m o') := ⟨fun b x hb hn => (upd_ne fun e => hn (List.mem_singleton.mpr e)).trans hb, fun b xs hb => (upd_ne fun e => by
  rw [e, h] at hb
  exact hn xs (Option.some.inj hb)).trans hb⟩
section
variable {P : Program} {w : World} {K : PySem.W.Frag} {mg : Str → Option Value} {base : Heap}
def sp_l_now : Sp := fun vs H Q _ => ∃ (m wt : Addr) (g : Gs) (Z : List Addr) (n : Nat), vs = [.ref m] ∧ ModAt Z H m wt g ∧ g.Ok n ∧ ∀ H' t, Same H H' → H' t = some (.tup (g.cur.map V.int)) → Q (.ref t) H'
abbrev N_l_now : List Str := ["_law_model", "_law_cards_here", "_law_user", "_law_step_here"]
theorem sc_l_now : FnScope N_l_now ["_law_model"] d_l_now.scope := ⟨rfl, rfl, rfl, by decide +kernel, rfl, by decide +kernel, by decide +kernel⟩
theorem ok_l_now (W : Wd w K mg) : FnR P w K mg base CX0 2 (d_l_now.at_ K) sp_l_now := by
  refine fnr0 W.f_l_now sc_l_now (fun vs H Q E h => ?_) (fun _ _ _ _ _ _ us hl => match us, hl with | [_], _ => rfl) (fun cdv A outer s H vs Q E hr h => ?_)
  · obtain ⟨m, wt, g, Z, n, rfl, ⟨t, l, ps, kvs, M⟩, hO, q⟩ := h
    rfl
  · obtain ⟨m, wt, g, Z, n, rfl, ⟨t, l, ps, kvs, M⟩, hO, q⟩ := h
    refine ⟨_, (pss_cons (ps_set (i := 1) sc_l_now.nd rfl (by first | exact Or.inl rfl | exact Or.inr rfl) (pe_dget (hu_of hr) (pv 0) pe_str (fun _ _ => rfl)))
      (pss_cons (ps_for PassesOwn.never rfl (pi_list (pe_dget (hu_of hr) (pv 0) pe_str (fun _ _ => rfl))) (pg_tup rfl (pgs_cons (pg_name (i := 2) sc_l_now.nd rfl (by first | exact Or.inl rfl | exact Or.inr rfl)) (pgs_cons (pg_name (i := 3) sc_l_now.nd rfl (by first | exact Or.inl rfl | exact Or.inr rfl)) pgs_nil))) (pss_one (ps_set (i := 1) sc_l_now.nd rfl (by first | exact Or.inl rfl | exact Or.inr rfl) (pe_c (c_l_done W) (hr.mono (by omega)) pass0 (pa_cons (pv 1) (pa_cons (pv 3) pa_nil))))))
      (pss_one (ps_ret (pv 1))))), ?_⟩
    refine ⟨.ref m, rfl, m, .ref t, rfl, dg M.hm (get_first _ _ _), ?_⟩
    refine ⟨.ref m, rfl, m, .ref l, rfl, dg M.hm (get_played _ _ _), l, rfl, ⟨_, SqL.of M.hl⟩, for_list (K := K) (a := l) (xs := ps) (fun i σ Hk => ∃ a y2 y3, σ = [some (.ref m), some (.ref a), y2, y3] ∧ Same H Hk ∧ Hk a = some (.tup ((curOf g.first (g.played.take i)).map V.int)))
      ⟨t, _, _, rfl, Same.refl _, M.ht⟩ (fun i σ Hk _ h => ?_) (fun i x σ Hk hx hI => ?_) (fun σ Hk hI => ?_)⟩
    · obtain ⟨_, _, _, _, e, _⟩ := h
      exact SqL.of (e _ _ M.hl)
    · obtain ⟨a, y2, y3, rfl, eK, hak⟩ := hI
      have hi : i < g.played.length := by
        rw [← M.al.1]
        exact (List.getElem?_eq_some_iff.mp hx).1
      have he : g.played[i]? = some g.played[i] := List.getElem?_eq_getElem hi
      obtain ⟨t1, st, rfl, ht, hst⟩ := M.al.2 i x g.played[i] hx he
      have hcv := curOf_ok hO.row (g.played.take i) fun e hm => hO.pl e (List.mem_of_mem_take hm)
      refine ⟨t1, _, rfl, SqT.of (eK _ _ ht), rfl, _, _, rfl, _, _, rfl, rfl, ?_⟩
      refine ⟨.ref a, rfl, st, rfl, a, st, _, g.played[i].2, rfl, hak, vrB_Vr hcv.1, hst.same eK, by rw [hcv.2]; exact hO.pl _ (List.getElem_mem hi), fun H' p e hn hp => ?_⟩
      refine ⟨_, _, _, rfl, eK.trans e, ?_⟩
      rw [curOf_snoc g.first g.played i he]
      exact hp
    · obtain ⟨a, y2, y3, rfl, eK, hak⟩ := hI
      rw [M.al.1, List.take_length] at hak
      exact ⟨.ref a, rfl, q _ a eK hak⟩
theorem c_l_now (W : Wd w K mg) : Cal P w K mg base CX0 2 "_law_now" (d_l_now.at_ K) sp_l_now := ⟨ok_l_now W, W.g_l_now, W.f_l_now.kp⟩
def sp_l_play : Sp := fun vs H Q _ => ∃ (m wt : Addr) (u : Str) (v : V) (s : Stp) (g : Gs) (Z : List Addr) (n : Nat), vs = [.ref m, .str u, v] ∧ ModAt Z H m wt g ∧ m ∈ Z ∧ wt ∈ Z ∧ ZOk Z H ∧ g.Ok n ∧ n ≤ 900 ∧ StpAt H v s ∧
  ∀ H', Fr [m, wt] H H' → ModAt Z H' m wt (g.play u s) → Q .non H'
abbrev N_l_play : List Str := ["_law_model", "_law_user", "_law_step_here"]
theorem sc_l_play : FnScope N_l_play ["_law_model", "_law_user", "_law_step_here"] d_l_play.scope := ⟨rfl, rfl, rfl, by decide +kernel, rfl, by decide +kernel, by decide +kernel⟩
theorem ok_l_play (W : Wd w K mg) : FnR P w K mg base CX0 1 (d_l_play.at_ K) sp_l_play := by
  refine fnr0 W.f_l_play sc_l_play (fun vs H Q E h => ?_) (fun _ _ _ _ _ _ us hl => match us, hl with | [_, _, _], _ => rfl) (fun cdv A outer s H vs Q E hr h => ?_)
  · obtain ⟨m, wt, u, v, s, g, Z, n, rfl, ⟨t, l, ps, kvs, M⟩, hmZ, hwZ, hZ, hO, hn, hs, q⟩ := h
    rfl
  · obtain ⟨m, wt, u, v, s, g, Z, n, rfl, ⟨t, l, ps, kvs, M⟩, hmZ, hwZ, hZ, hO, hn, hs, q⟩ := h
    refine ⟨_, (pss_cons (ps_dput (hu_of hr) (pv 0) pe_str (pe_op op_cat (pe_dget (hu_of hr) (pv 0) pe_str (fun _ _ => rfl)) (pe_lst (pa_cons (pe_tup (pa_cons (pv 1) (pa_cons (pv 2) pa_nil))) pa_nil))) rfl)
      (pss_one (ps_dput (hu_of hr) (pe_dget (hu_of hr) (pv 0) pe_str (fun _ _ => rfl)) (pv 1) (pe_lst pa_nil) rfl))), ?_⟩
    refine ⟨.ref m, rfl, m, .ref l, rfl, dg M.hm (get_played _ _ _), .str u, rfl, v, rfl, by show 2 ≤ sizeLine; decide, fun t1 ht1 => ⟨by show 1 ≤ sizeLine; decide, fun L1 hL1 => ?_⟩⟩
    have e1 : Same H (upd (upd H t1 (.tup [.str u, v])) L1 (.lst [.ref t1])) := (same_new ht1).trans (same_new hL1)
    have ht2 := same_new (o := .lst [.ref t1]) hL1 _ _ (upd_same (H := H) (a := t1) (o := .tup [.str u, v]))
    have hL2 := upd_same (H := upd H t1 (.tup [.str u, v])) (a := L1) (o := .lst [.ref t1])
    generalize upd (upd H t1 (.tup [.str u, v])) L1 (.lst [.ref t1]) = H1 at *
    have hpl : ps.length + 1 ≤ 1000 := by rw [M.al.1]; have := hO.pn; omega
    refine ⟨l, L1, ps, _, rfl, rfl, e1 _ _ M.hl, hL2, Nat.le_of_lt (small1k hpl), fun l2 hl2 => ?_⟩
    have e2 := e1.trans (same_new (o := .lst (ps ++ [.ref t1])) hl2)
    have hl2' := upd_same (H := H1) (a := l2) (o := .lst (ps ++ [.ref t1]))
    have ht3 := same_new (o := .lst (ps ++ [.ref t1])) hl2 _ _ ht2
    have hl2H := e1.free hl2
    generalize upd H1 l2 (.lst (ps ++ [.ref t1])) = H2 at *
    refine ⟨.ref m, rfl, m, _, rfl, DPut.k (k := .inr "played") (e2 _ _ M.hm) (by show 3 < sizeLine; decide), ?_⟩
    rw [put_played]
    have f3 : Fr [m] H2 (upd H2 m (.dK (mFs t l2 wt))) := Fr.up (e2 _ _ M.hm) (fun xs h => nomatch h)
    have hm3 := upd_same (H := H2) (a := m) (o := .dK (mFs t l2 wt))
    have hml2 : m ≠ l2 := ne_of_none M.hm hl2H
    have f03 : Fr [m] H (upd H2 m (.dK (mFs t l2 wt))) := (Fr.of_same e2).trans f3
    have hl3 := f3.1 _ _ hl2' (fun hm => hml2 (List.mem_singleton.mp hm).symm)
    have ht4 := f3.2 _ _ ht3
    generalize upd H2 m (.dK (mFs t l2 wt)) = H3 at *
    refine ⟨Nat.zero_le _, fun l3 hl3n => ?_⟩
    have e4 := same_new (o := .lst []) hl3n
    have hl34 := upd_same (H := H3) (a := l3) (o := .lst [])
    have f04 : Fr [m] H (upd H3 l3 (.lst [])) := f03.trans (Fr.of_same e4)
    have hw4 := f04.1 _ _ M.hw (fun hm => M.mw (List.mem_singleton.mp hm).symm)
    have hl3H : H l3 = none := by
      cases h : H l3 with
      | none => rfl
      | some o =>
        by_cases hm : l3 ∈ [m]
        · rw [List.mem_singleton.mp hm, hm3] at hl3n
          cases hl3n
        · rw [f03.1 _ _ h hm] at hl3n
          cases hl3n
    have hm4 := e4 _ _ hm3
    have hl4 := e4 _ _ hl3
    have ht5 := e4 _ _ ht4
    generalize upd H3 l3 (.lst []) = H4 at *
    refine ⟨.ref m, rfl, m, .ref wt, rfl, dg hm4 (get_waiting _ _ _), .str u, rfl, wt, _, rfl, DPut.k (k := .inr u) hw4 (small1k (by rw [M.au.1]; have := hO.kn; omega)), ?_⟩
    have f5 : Fr [wt] H4 (upd H4 wt (.dK (putK kvs (.inr u) (.ref l3)))) := Fr.up hw4 (fun xs h => nomatch h)
    have f05 : Fr [m, wt] H (upd H4 wt (.dK (putK kvs (.inr u) (.ref l3)))) := (f04.more fun x hx => by rw [List.mem_singleton.mp hx]; exact List.mem_cons_self ..).trans (f5.more fun x hx => by rw [List.mem_singleton.mp hx]; simp)
    have hwl2 : wt ≠ l2 := ne_of_none M.hw hl2H
    have hwl3 : wt ≠ l3 := ne_of_none M.hw hl3H
    have hF : ∀ f ∈ [m, wt], f ∈ Z ∨ ∃ C dx fs, H f = some (.ins C dx fs) := fun f hf => by
      rcases List.mem_cons.mp hf with e | e
      · rw [e]
        exact .inl hmZ
      · rw [List.mem_singleton.mp e]
        exact .inl hwZ
    refine q _ f05 ⟨t, l2, ps ++ [.ref t1], _, ⟨f5.1 _ _ hm4 fun hm => M.mw (List.mem_singleton.mp hm), f05.2 _ _ M.ht, hZ.new hl2H, f5.1 _ _ hl4 fun hm => hwl2 (List.mem_singleton.mp hm).symm, (M.al.mono fun x c k => k.fr f05).snoc ⟨t1, v, rfl, f5.2 _ _ ht5, hs.fr f05⟩, upd_same, ?_, M.mw⟩⟩
    exact al_put (M.au.mono fun x c k => k.fr f05 hF) ⟨rfl, l3, [], rfl, hZ.new hl3H, f5.1 _ _ hl34 fun hm => hwl3 (List.mem_singleton.mp hm).symm, Al.nil⟩
theorem c_l_play (W : Wd w K mg) : Cal P w K mg base CX0 1 "_law_play" (d_l_play.at_ K) sp_l_play := ⟨ok_l_play W, W.g_l_play, W.f_l_play.kp⟩
end
end Tc
namespace Tc
open PySem PySem.Spec PyProof.Rows L2 He He5 Mi
theorem wait_get {Z : List Addr} {H : Hp} {m wt t l : Addr} {kvs : List (L2.Key × V)} {d : Ud} {u : Str} {σ : L2.St} {Q : VK} (h0 : σ[0]? = some (some (.ref m))) (h1 : σ[1]? = some (some (.str u)))
    (hm : H m = some (.dK (mFs t l wt))) (hw : H wt = some (.dK kvs)) (au : Al (UdAt Z H) kvs d)
    (q : ∀ H5 b xs, Same H H5 → H5 b = some (.lst xs) → Al (StpAt H5) xs ((gGet d u).getD []) → Q (.ref b) H5) :
    tDGet2 (tDGet (tVar 0) (tC (.str "waiting"))) (tVar 1) (tLst tNil) σ H Q := by
  have hg := al_get (u := u) au
  refine ⟨.ref m, h0, m, .ref wt, rfl, dg hm (get_waiting _ _ _), wt, rfl, .inl ⟨kvs, .inl hw⟩, .str u, h1, Nat.zero_le _, fun z hz => ⟨valV kvs (.inr u), DGet.k (k := .inr u) (same_new hz _ _ hw), ?_⟩⟩
  cases e : gGet d u with
  | none =>
    rw [e] at hg q
    dsimp only at hg
    rw [hg]
    exact q _ z [] (same_new hz) upd_same Al.nil
  | some ss =>
    rw [e] at hg q
    obtain ⟨v, hv, _, b, xs, rfl, _, hb, hA⟩ := hg
    rw [hv]
    exact q _ b xs (same_new hz) (same_new hz _ _ hb) (hA.mono fun v c k => k.same (same_new hz))
section
variable {P : Program} {w : World} {K : PySem.W.Frag} {mg : Str → Option Value} {base : Heap}
def sp_l_back : Sp := fun vs H Q _ => ∃ (m wt : Addr) (u : Str) (g : Gs) (Z : List Addr) (n : Nat), vs = [.ref m, .str u] ∧ ModAt Z H m wt g ∧ m ∈ Z ∧ wt ∈ Z ∧ ZOk Z H ∧ g.Ok n ∧ n ≤ 900 ∧
  (∀ g', g.undo u = some g' → ∀ H', Fr [m, wt] H H' → ModAt Z H' m wt g' → Q .non H') ∧ (g.undo u = none → ∀ H' t, Same H H' → H' t = some (.tup [.str "undo", .str u]) → Q (.ref t) H')
abbrev N_l_back : List Str := ["_law_model", "_law_user", "_law_places", "_law_last", "_law_place", "_law_item"]
theorem sc_l_back : FnScope N_l_back ["_law_model", "_law_user"] d_l_back.scope := ⟨rfl, rfl, rfl, by decide +kernel, rfl, by decide +kernel, by decide +kernel⟩
theorem ok_l_back (W : Wd w K mg) : FnR P w K mg base CX0 1 (d_l_back.at_ K) sp_l_back := by
  refine fnr0 W.f_l_back sc_l_back (fun vs H Q E h => ?_) (fun _ _ _ _ _ _ us hl => match us, hl with | [_, _], _ => rfl) (fun cdv A outer s H vs Q E hr h => ?_)
  · obtain ⟨m, wt, u, g, Z, n, rfl, ⟨t, l, ps, kvs, M⟩, hmZ, hwZ, hZ, hO, hn, q1, q2⟩ := h
    rfl
  · obtain ⟨m, wt, u, g, Z, n, rfl, ⟨t, l, ps, kvs, M⟩, hmZ, hwZ, hZ, hO, hn, q1, q2⟩ := h
    refine ⟨_, (pss_cons (ps_setLc (i := 2) (own := [("_law_place", 4), ("_law_item", 5)]) (g := gTup K 2 (gCons (gName 4) (gCons (gName 5) gNil))) rfl sc_l_back.nd rfl rfl (sw_true rfl rfl rfl (by decide +kernel)) (pi_enum (by rfl) W.z_enumerate (pa_cons (pe_dget (hu_of hr) (pv 0) pe_str (fun _ _ => rfl)) pa_nil)) (blkOk_by (own := [("_law_place", 4), ("_law_item", 5)]) (N := N_l_back) (sc := d_l_back.scope) (by decide +kernel)) (fun _ _ _ _ _ => (pg_tup rfl (pgs_cons (pg_name (i := 4) sc_l_back.nd rfl (by first | exact Or.inl rfl | exact Or.inr rfl)) (pgs_cons (pg_name (i := 5) sc_l_back.nd rfl (by first | exact Or.inl rfl | exact Or.inr rfl)) pgs_nil)))) (fun _ _ _ _ _ => (pts_one (pt_cmpR op_eq (pe_ix (show IxR _ (rIxT K) from ix_tup) (pv 5) pe_int (fun _ _ => rfl)) (pv 1) (nomark _)))) (fun _ _ _ _ _ => (pv 4)))
      (pss_cons (ps_if (pt_cmpR (op_eqD hr.units) (pv 2) (pe_lst pa_nil) (nomark _)) (pss_one (ps_ret (pe_tup (pa_cons pe_str (pa_cons (pv 1) pa_nil))))) pss_nil)
      (pss_cons (ps_set (i := 3) sc_l_back.nd rfl (by first | exact Or.inl rfl | exact Or.inr rfl) (pe_ix (show IxR _ (rIxT K) from ix_tup) (pe_ix (show IxR _ (rIxL K) from ix_list) (pe_dget (hu_of hr) (pv 0) pe_str (fun _ _ => rfl)) (pe_ix (show IxR _ (rIxL K) from ix_list) (pv 2) (pe_un un_neg pe_int) (fun _ _ => rfl)) (fun _ _ => rfl)) pe_int (fun _ _ => rfl)))
      (pss_cons (ps_dput (hu_of hr) (pv 0) pe_str (pe_op op_cat (pe_slice sl_list (pe_dget (hu_of hr) (pv 0) pe_str (fun _ _ => rfl)) po_none (po_some (pe_ix (show IxR _ (rIxL K) from ix_list) (pv 2) (pe_un un_neg pe_int) (fun _ _ => rfl)))) (pe_slice sl_list (pe_dget (hu_of hr) (pv 0) pe_str (fun _ _ => rfl)) (po_some (pe_op op_add (pe_ix (show IxR _ (rIxL K) from ix_list) (pv 2) (pe_un un_neg pe_int) (fun _ _ => rfl)) pe_int)) po_none)) rfl)
      (pss_cons (ps_dput (hu_of hr) (pe_dget (hu_of hr) (pv 0) pe_str (fun _ _ => rfl)) (pv 1) (pe_op op_cat (pe_dget2 (hu_of hr) (pe_dget (hu_of hr) (pv 0) pe_str (fun _ _ => rfl)) (pv 1) (pe_lst pa_nil) ⟨rfl, rfl, rfl, rfl⟩) (pe_lst (pa_cons (pv 3) pa_nil))) rfl)
      (pss_one (ps_ret pe_non))))))), ?_⟩
    have hsz : ps.length ≤ 1000 := by rw [M.al.1]; have := hO.pn; omega
    refine ⟨.ref m, rfl, m, .ref l, rfl, dg M.hm (get_played _ _ _), l, ps, rfl, SqL.of M.hl, fun D hD => lc_enc (wen (K := K) (a := l) (xs := ps)) (xs := List.range ps.length) (Ex := fun j x H' => ∃ T y, x = V.ref T ∧ H' T = some (.tup [nV j, y]) ∧ ps[j]? = some y)
      (fun i => decide (((g.played[i]?).map (·.1)) = some u)) nV (List.length_range).symm walk_en_nat (fun H' e => SqL.of (e _ _ M.hl)) (by rw [List.length_range]; exact hsz) hD (fun j x H2 Yc Nn hj hS hE h1 h2 => ?_) fun H2 e2 hD2 => ?_⟩
    · obtain ⟨T, y, rfl, hT, hy⟩ := hE
      have hjl : j < g.played.length := by
        rw [← M.al.1]
        exact List.mem_range.mp hj
      have hgj : g.played[j]? = some g.played[j] := List.getElem?_eq_getElem hjl
      rw [hgj] at h1 h2
      obtain ⟨t1, st, rfl, ht, hst⟩ := M.al.2 j y g.played[j] hy hgj
      refine ⟨T, _, rfl, SqT.of hT, rfl, _, _, rfl, _, _, rfl, rfl, rfl, ?_⟩
      refine ⟨.ref t1, rfl, t1, _, 0, _, rfl, rfl, SqT.of (hS _ _ ht), rfl, .str u, rfl, rfl, _, rfl, ?_⟩
      rw [dec_opt]
      refine ite2 (fun h => ?_) fun h => ?_
      · exact ⟨_, rfl, h1 _ (Same.refl _) h⟩
      · exact h2 _ (Same.refl _) (Bool.eq_false_iff.mpr h)
    have hidx : (List.range ps.length).filter (fun i => decide (((g.played[i]?).map (·.1)) = some u)) = plIdx g.played u := by rw [M.al.1]; rfl
    rw [hidx] at hD2
    refine ⟨.ref D, rfl, Nat.zero_le _, fun l0 hl0 => ?_⟩
    have e3 := e2.trans (same_new (o := .lst []) hl0)
    have hD3 := same_new (o := HO.lst []) hl0 _ _ hD2
    have hl3 : upd H2 l0 (HO.lst []) l0 = some (.lst []) := upd_same
    generalize upd H2 l0 (HO.lst []) = H3 at *
    rw [map_nV] at hD3
    refine ⟨.list (((plIdx g.played u).map fun p : Nat => (p : Int)).map PyData.int), .list [], .lst (SqL.of hD3) (dp_ints _), .lst (SqL.of hl3) .nil, sh_listI _, sh_nil, _, rfl, ?_⟩
    rw [eqv_none]
    rcases split_last (plIdx g.played u) with h0 | ⟨is, i, h0⟩
    · refine iteP (by rw [h0]; rfl) ⟨.str u, rfl, by show 2 ≤ sizeLine; decide, fun tt htt => q2 (undo_none h0) _ tt (e3.trans (same_new htt)) upd_same⟩
    refine iteN (by rw [h0]; simp) ?_
    have him : i ∈ plIdx g.played u := by rw [h0]; simp
    obtain ⟨s0, hs0⟩ := plIdx_get him
    have hil := plIdx_lt him
    have hx : ∃ x, ps[i]? = some x := ⟨ps[i]'(by rw [M.al.1]; exact hil), List.getElem?_eq_getElem _⟩
    obtain ⟨x, hx⟩ := hx
    obtain ⟨t1, st, rfl, ht, hst⟩ := M.al.2 i x (u, s0) hx hs0
    rw [h0, List.map_append, List.map_append] at hD3
    have hlast : atI ((is.map fun p : Nat => (p : Int)).map V.int ++ ([i].map fun p : Nat => (p : Int)).map V.int) (-1) = some (nV i) := atI_last _ _
    refine ⟨.ref m, rfl, m, .ref l, rfl, dg (e3 _ _ M.hm) (get_played _ _ _), .ref D, rfl, 1, rfl, D, _, -1, nV i, rfl, rfl, SqL.of hD3, hlast, l, ps, i, .ref t1, rfl, rfl, SqL.of (e3 _ _ M.hl), atI_gen rfl hx, t1, _, 1, st, rfl, rfl, SqT.of (e3 _ _ ht), rfl, ?_⟩
    have hu' := undo_some h0 hs0
    have hil2 : i ≤ ps.length := by rw [M.al.1]; omega
    have hil3 : i + 1 ≤ ps.length := by rw [M.al.1]; omega
    refine ⟨.ref m, rfl, m, .ref l, rfl, dg (e3 _ _ M.hm) (get_played _ _ _), .ref D, rfl, 1, rfl, D, _, -1, nV i, rfl, rfl, SqL.of hD3, hlast, _, rfl, l, ps, rfl, SqL.of (e3 _ _ M.hl), fun l1 hl1 => ?_⟩
    rw [cut_take hil2]
    have e4 := same_new (o := .lst (ps.take i)) hl1
    have hl14 := upd_same (H := H3) (a := l1) (o := .lst (ps.take i))
    have e04 := e3.trans e4
    have hD4 := e4 _ _ hD3
    generalize upd H3 l1 (.lst (ps.take i)) = H4 at *
    refine ⟨.ref m, rfl, m, .ref l, rfl, dg (e04 _ _ M.hm) (get_played _ _ _), .ref D, rfl, 1, rfl, D, _, -1, nV i, rfl, rfl, SqL.of hD4, hlast, _, _, rfl, rfl, _, rfl, l, ps, rfl, SqL.of (e04 _ _ M.hl), fun l2 hl2 => ?_⟩
    rw [show (i : Int) + 1 = ((i + 1 : Nat) : Int) by omega, cut_drop hil3]
    have e5 := same_new (o := .lst (ps.drop (i + 1))) hl2
    have hl25 := upd_same (H := H4) (a := l2) (o := .lst (ps.drop (i + 1)))
    have hl15 := e5 _ _ hl14
    have e05 := e04.trans e5
    generalize upd H4 l2 (.lst (ps.drop (i + 1))) = H5 at *
    refine ⟨l1, l2, _, _, rfl, rfl, hl15, hl25, by rw [List.length_take, List.length_drop]; exact Nat.le_of_lt (small1k (by omega)), fun l5 hl5 => ?_⟩
    have e6 := e05.trans (same_new (o := .lst (ps.take i ++ ps.drop (i + 1))) hl5)
    have hl56 := upd_same (H := H5) (a := l5) (o := .lst (ps.take i ++ ps.drop (i + 1)))
    have hl5H := e05.free hl5
    generalize upd H5 l5 (.lst (ps.take i ++ ps.drop (i + 1))) = H6 at *
    refine ⟨.ref m, rfl, m, _, rfl, DPut.k (k := .inr "played") (e6 _ _ M.hm) (by show 3 < sizeLine; decide), ?_⟩
    rw [put_played]
    have f7 : Fr [m] H6 (upd H6 m (.dK (mFs t l5 wt))) := Fr.up (e6 _ _ M.hm) (fun xs h => nomatch h)
    have hm7 := upd_same (H := H6) (a := m) (o := .dK (mFs t l5 wt))
    have hml5 : m ≠ l5 := ne_of_none M.hm hl5H
    have f07 : Fr [m] H (upd H6 m (.dK (mFs t l5 wt))) := (Fr.of_same e6).trans f7
    have hl57 := f7.1 _ _ hl56 (fun hm => hml5 (List.mem_singleton.mp hm).symm)
    have hw7 := f07.1 _ _ M.hw (fun hm => M.mw (List.mem_singleton.mp hm).symm)
    generalize upd H6 m (.dK (mFs t l5 wt)) = H7 at *
    have hFm : ∀ f ∈ [m], f ∈ Z ∨ ∃ C dx fs, H f = some (.ins C dx fs) := fun f hf => by
      rw [List.mem_singleton.mp hf]
      exact .inl hmZ
    dsimp only [tSeq, sDPut, tOp]
    refine wait_get (Z := Z) (d := g.undone) (u := u) rfl rfl hm7 hw7 (M.au.mono fun x c k => k.fr f07 hFm) fun H8 b xs e8 hb hA => ?_
    refine ⟨st, rfl, by show 1 ≤ sizeLine; decide, fun l9 hl9 => ?_⟩
    have e9 := e8.trans (same_new (o := .lst [st]) hl9)
    have hb9 := same_new (o := .lst [st]) hl9 _ _ hb
    have hA9 := hA.mono fun x c k => k.same (same_new (o := .lst [st]) hl9)
    have hl99 := upd_same (H := H8) (a := l9) (o := .lst [st])
    generalize upd H8 l9 (.lst [st]) = H9 at *
    have hro := redo_ok hO u
    refine ⟨b, l9, xs, _, rfl, rfl, hb9, hl99, by rw [hA9.1]; exact Nat.le_of_lt (small1k (by show _ + 1 ≤ _; have := hro.2; omega)), fun lx hlx => ?_⟩
    have e10 := e9.trans (same_new (o := .lst (xs ++ [st])) hlx)
    have hlx10 := upd_same (H := H9) (a := lx) (o := .lst (xs ++ [st]))
    have hA10 := hA9.mono fun x c k => k.same (same_new (o := .lst (xs ++ [st])) hlx)
    have hlx7 : H7 lx = none := e9.free hlx
    generalize upd H9 lx (.lst (xs ++ [st])) = H10 at *
    have f10 : Fr [m] H H10 := f07.trans (Fr.of_same e10)
    have hlxH : H lx = none := by
      cases h : H lx with
      | none => rfl
      | some o =>
        by_cases hm : lx ∈ [m]
        · rw [List.mem_singleton.mp hm, hm7] at hlx7
          cases hlx7
        · rw [f07.1 _ _ h hm] at hlx7
          cases hlx7
    have hw10 := e10 _ _ hw7
    have hm10 := e10 _ _ hm7
    refine ⟨.ref m, rfl, m, .ref wt, rfl, dg hm10 (get_waiting _ _ _), .str u, rfl, wt, _, rfl, DPut.k (k := .inr u) hw10 (small1k (by rw [M.au.1]; have := hO.kn; omega)), ?_⟩
    have f11 : Fr [wt] H10 (upd H10 wt (.dK (putK kvs (.inr u) (.ref lx)))) := Fr.up hw10 (fun xs h => nomatch h)
    have f011 : Fr [m, wt] H (upd H10 wt (.dK (putK kvs (.inr u) (.ref lx)))) := (f10.more fun x hx => by rw [List.mem_singleton.mp hx]; exact List.mem_cons_self ..).trans (f11.more fun x hx => by rw [List.mem_singleton.mp hx]; simp)
    have hwl5 : wt ≠ l5 := ne_of_none M.hw hl5H
    have hwlx : wt ≠ lx := ne_of_none M.hw hlxH
    have hF : ∀ f ∈ [m, wt], f ∈ Z ∨ ∃ C dx fs, H f = some (.ins C dx fs) := fun f hf => by
      rcases List.mem_cons.mp hf with e | e
      · rw [e]
        exact .inl hmZ
      · rw [List.mem_singleton.mp e]
        exact .inl hwZ
    refine q1 _ hu' _ f011 ⟨t, l5, ps.take i ++ ps.drop (i + 1), _, ⟨f11.1 _ _ hm10 fun hm => M.mw (List.mem_singleton.mp hm), f011.2 _ _ M.ht, hZ.new hl5H, f11.1 _ _ (e10 _ _ hl57) fun hm => hwl5 (List.mem_singleton.mp hm).symm,
      al_app (al_takeD i (M.al.mono fun x c k => k.fr f011)) (al_dropD (i + 1) (M.al.mono fun x c k => k.fr f011)), upd_same, ?_, M.mw⟩⟩
    exact al_put (M.au.mono fun x c k => k.fr f011 hF) ⟨rfl, lx, xs ++ [st], rfl, hZ.new hlxH, f11.1 _ _ hlx10 fun hm => hwlx (List.mem_singleton.mp hm).symm, (hA10.mono fun x c k => k.fr f11).snoc (hst.fr f011)⟩
theorem c_l_back (W : Wd w K mg) : Cal P w K mg base CX0 1 "_law_back" (d_l_back.at_ K) sp_l_back := ⟨ok_l_back W, W.g_l_back, W.f_l_back.kp⟩
end
end Tc
namespace Tc
open PySem PySem.Spec PyProof.Rows L2 He He5 Mi
theorem fr_free {m x : Addr} {H H' : Hp} {o : HO} (f : Fr [m] H H') (hm : H' m = some o) (hx : H' x = none) : H x = none := by
  cases h : H x with
  | none => rfl
  | some ob =>
    by_cases hxm : x ∈ [m]
    · rw [List.mem_singleton.mp hxm, hm] at hx
      cases hx
    · rw [f.1 _ _ h hxm] at hx
      cases hx
section
variable {P : Program} {w : World} {K : PySem.W.Frag} {mg : Str → Option Value} {base : Heap}
def sp_l_again : Sp := fun vs H Q _ => ∃ (m wt : Addr) (u : Str) (g : Gs) (Z : List Addr) (n : Nat), vs = [.ref m, .str u] ∧ ModAt Z H m wt g ∧ m ∈ Z ∧ wt ∈ Z ∧ ZOk Z H ∧ g.Ok n ∧ n ≤ 900 ∧
  (∀ g', g.redo u = some g' → ∀ H', Fr [m, wt] H H' → ModAt Z H' m wt g' → Q .non H') ∧ (g.redo u = none → ∀ H' t, Same H H' → H' t = some (.tup [.str "redo", .str u]) → Q (.ref t) H')
abbrev N_l_again : List Str := ["_law_model", "_law_user", "_law_some"]
theorem sc_l_again : FnScope N_l_again ["_law_model", "_law_user"] d_l_again.scope := ⟨rfl, rfl, rfl, by decide +kernel, rfl, by decide +kernel, by decide +kernel⟩
theorem ok_l_again (W : Wd w K mg) : FnR P w K mg base CX0 1 (d_l_again.at_ K) sp_l_again := by
  refine fnr0 W.f_l_again sc_l_again (fun vs H Q E h => ?_) (fun _ _ _ _ _ _ us hl => match us, hl with | [_, _], _ => rfl) (fun cdv A outer s H vs Q E hr h => ?_)
  · obtain ⟨m, wt, u, g, Z, n, rfl, ⟨t, l, ps, kvs, M⟩, hmZ, hwZ, hZ, hO, hn, q1, q2⟩ := h
    rfl
  · obtain ⟨m, wt, u, g, Z, n, rfl, ⟨t, l, ps, kvs, M⟩, hmZ, hwZ, hZ, hO, hn, q1, q2⟩ := h
    refine ⟨_, (pss_cons (ps_set (i := 2) sc_l_again.nd rfl (by first | exact Or.inl rfl | exact Or.inr rfl) (pe_dget2 (hu_of hr) (pe_dget (hu_of hr) (pv 0) pe_str (fun _ _ => rfl)) (pv 1) (pe_lst pa_nil) ⟨rfl, rfl, rfl, rfl⟩))
      (pss_cons (ps_if (pt_cmpR (op_eqD hr.units) (pv 2) (pe_lst pa_nil) (nomark _)) (pss_one (ps_ret (pe_tup (pa_cons pe_str (pa_cons (pv 1) pa_nil))))) pss_nil)
      (pss_cons (ps_dput (hu_of hr) (pe_dget (hu_of hr) (pv 0) pe_str (fun _ _ => rfl)) (pv 1) (pe_slice sl_list (pv 2) po_none (po_some (pe_un un_neg pe_int))) rfl)
      (pss_cons (ps_dput (hu_of hr) (pv 0) pe_str (pe_op op_cat (pe_dget (hu_of hr) (pv 0) pe_str (fun _ _ => rfl)) (pe_lst (pa_cons (pe_tup (pa_cons (pv 1) (pa_cons (pe_ix (show IxR _ (rIxL K) from ix_list) (pv 2) (pe_un un_neg pe_int) (fun _ _ => rfl)) pa_nil))) pa_nil))) rfl)
      (pss_one (ps_ret pe_non)))))), ?_⟩
    dsimp only [tSeq, tAsg]
    refine wait_get (Z := Z) (d := g.undone) (u := u) rfl rfl M.hm M.hw M.au fun H1 b xs e1 hb hA => ?_
    refine ⟨.ref b, rfl, Nat.zero_le _, fun l0 hl0 => ?_⟩
    have e3 := e1.trans (same_new (o := .lst []) hl0)
    have hb3 := same_new (o := HO.lst []) hl0 _ _ hb
    have hA3 := hA.mono fun x c k => k.same (same_new (o := HO.lst []) hl0)
    have hl3 : upd H1 l0 (HO.lst []) l0 = some (.lst []) := upd_same
    generalize upd H1 l0 (HO.lst []) = H3 at *
    refine ⟨.list (((gGet g.undone u).getD []).map encS), .list [], .lst (SqL.of hb3) (dp_steps hA3), .lst (SqL.of hl3) .nil, sh_steps _, sh_nil, _, rfl, ?_⟩
    rw [eqv_none]
    rcases split_last ((gGet g.undone u).getD []) with h0 | ⟨is, s0, h0⟩
    · refine iteP (by rw [h0]; rfl) ⟨.str u, rfl, by show 2 ≤ sizeLine; decide, fun tt htt => q2 (redo_none h0) _ tt (e3.trans (same_new htt)) upd_same⟩
    refine iteN (by rw [h0]; simp) ?_
    have hro := redo_ok hO u
    rw [h0] at hA3 hro
    have hxs : ∃ xs' x, xs = xs' ++ [x] := by
      rcases split_last xs with e | e
      · have := hA3.1
        rw [e, List.length_append] at this
        simp at this
      · exact e
    obtain ⟨xs', st, rfl⟩ := hxs
    have hl' : xs'.length = is.length := by
      have := hA3.1
      rw [List.length_append, List.length_append] at this
      simpa using this
    have hst3 : StpAt H3 st s0 := hA3.2 xs'.length st s0 (by simp) (by rw [hl']; simp)
    have hA3' : Al (StpAt H3) xs' is := ⟨hl', fun i v c e1 e2 => hA3.2 i v c (by rw [List.getElem?_append_left (List.getElem?_eq_some_iff.mp e1).1]; exact e1) (by rw [List.getElem?_append_left (List.getElem?_eq_some_iff.mp e2).1]; exact e2)⟩
    have hs0 : s0.ok g.first.length = true := hro.1 s0 (by simp)
    have hu' := redo_some h0
    refine ⟨.ref b, rfl, 1, rfl, _, rfl, b, _, rfl, SqL.of hb3, fun l4 hl4 => ?_⟩
    rw [cut_last]
    have e34 := same_new (o := .lst xs') hl4
    have hl44 := upd_same (H := H3) (a := l4) (o := .lst xs')
    have hl4H := e3.free hl4
    have hb4 := e34 _ _ hb3
    have hA4 := hA3'.mono fun x c k => k.same e34
    have hst4 := hst3.same e34
    have e4 := e3.trans e34
    generalize upd H3 l4 (.lst xs') = H4 at *
    refine ⟨.ref m, rfl, m, .ref wt, rfl, dg (e4 _ _ M.hm) (get_waiting _ _ _), .str u, rfl, wt, _, rfl, DPut.k (k := .inr u) (e4 _ _ M.hw) (small1k (by rw [M.au.1]; have := hO.kn; omega)), ?_⟩
    have f5 : Fr [wt] H4 (upd H4 wt (.dK (putK kvs (.inr u) (.ref l4)))) := Fr.up (e4 _ _ M.hw) (fun xs h => nomatch h)
    have f05 : Fr [wt] H (upd H4 wt (.dK (putK kvs (.inr u) (.ref l4)))) := (Fr.of_same e4).trans f5
    have hw5 := upd_same (H := H4) (a := wt) (o := .dK (putK kvs (.inr u) (.ref l4)))
    have hwl4 : wt ≠ l4 := ne_of_none M.hw hl4H
    have hl45 := f5.1 _ _ hl44 fun hm => hwl4 (List.mem_singleton.mp hm).symm
    have hm5 := f05.1 _ _ M.hm fun hm => M.mw (List.mem_singleton.mp hm)
    have hbw : b ≠ wt := fun e => by
      have := e4 _ _ M.hw
      rw [← e, hb4] at this
      cases this
    have hlw : l ≠ wt := fun e => by have := M.hl; rw [e, M.hw] at this; cases this
    have hb5 := f5.1 _ _ hb4 fun hm => hbw (List.mem_singleton.mp hm)
    have hl5 := f05.1 _ _ M.hl fun hm => hlw (List.mem_singleton.mp hm)
    have hA5 := hA4.mono fun x c k => k.fr f5
    have hst5 := hst4.fr f5
    generalize upd H4 wt (.dK (putK kvs (.inr u) (.ref l4))) = H5 at *
    have hlast : atI (xs' ++ [st]) (-1) = some st := atI_last _ _
    refine ⟨.ref m, rfl, m, .ref l, rfl, dg hm5 (get_played _ _ _), .str u, rfl, .ref b, rfl, 1, rfl, b, _, -1, st, rfl, rfl, SqL.of hb5, hlast, by show 2 ≤ sizeLine; decide, fun t1 ht1 => ⟨by show 1 ≤ sizeLine; decide, fun L1 hL1 => ?_⟩⟩
    have e6 : Same H5 (upd (upd H5 t1 (.tup [.str u, st])) L1 (.lst [.ref t1])) := (same_new ht1).trans (same_new hL1)
    have ht6 := same_new (o := .lst [.ref t1]) hL1 _ _ (upd_same (H := H5) (a := t1) (o := .tup [.str u, st]))
    have hL6 := upd_same (H := upd H5 t1 (.tup [.str u, st])) (a := L1) (o := .lst [.ref t1])
    generalize upd (upd H5 t1 (.tup [.str u, st])) L1 (.lst [.ref t1]) = H6 at *
    have hpl : ps.length + 1 ≤ 1000 := by rw [M.al.1]; have := hO.pn; omega
    refine ⟨l, L1, ps, _, rfl, rfl, e6 _ _ hl5, hL6, Nat.le_of_lt (small1k hpl), fun l7 hl7 => ?_⟩
    have e7 := e6.trans (same_new (o := .lst (ps ++ [.ref t1])) hl7)
    have hl77 := upd_same (H := H6) (a := l7) (o := .lst (ps ++ [.ref t1]))
    have ht7 := same_new (o := .lst (ps ++ [.ref t1])) hl7 _ _ ht6
    have hl75 := e6.free hl7
    have hl7H := fr_free f05 hw5 hl75
    generalize upd H6 l7 (.lst (ps ++ [.ref t1])) = H7 at *
    refine ⟨.ref m, rfl, m, _, rfl, DPut.k (k := .inr "played") (e7 _ _ hm5) (by show 3 < sizeLine; decide), ?_⟩
    rw [put_played]
    have f8 : Fr [m] H7 (upd H7 m (.dK (mFs t l7 wt))) := Fr.up (e7 _ _ hm5) (fun xs h => nomatch h)
    have f58 : Fr [m] H5 (upd H7 m (.dK (mFs t l7 wt))) := (Fr.of_same e7).trans f8
    have f08 : Fr [m, wt] H (upd H7 m (.dK (mFs t l7 wt))) := (f05.more fun x hx => by rw [List.mem_singleton.mp hx]; simp).trans (f58.more fun x hx => by rw [List.mem_singleton.mp hx]; simp)
    have hml7 : m ≠ l7 := ne_of_none M.hm hl7H
    have hml4 : m ≠ l4 := ne_of_none M.hm hl4H
    have hF : ∀ f ∈ [m, wt], f ∈ Z ∨ ∃ C dx fs, H f = some (.ins C dx fs) := fun f hf => by
      rcases List.mem_cons.mp hf with e | e
      · rw [e]
        exact .inl hmZ
      · rw [List.mem_singleton.mp e]
        exact .inl hwZ
    refine q1 _ hu' _ f08 ⟨t, l7, ps ++ [.ref t1], _, ⟨upd_same, f08.2 _ _ M.ht, hZ.new hl7H, f8.1 _ _ hl77 fun hm => hml7 (List.mem_singleton.mp hm).symm, (M.al.mono fun x c k => k.fr f08).snoc ⟨t1, st, rfl, f8.2 _ _ ht7, hst5.fr f58⟩, f58.1 _ _ hw5 fun hm => M.mw (List.mem_singleton.mp hm).symm, ?_, M.mw⟩⟩
    exact al_put (M.au.mono fun x c k => k.fr f08 hF) ⟨rfl, l4, xs', rfl, hZ.new hl4H, f58.1 _ _ hl45 fun hm => hml4 (List.mem_singleton.mp hm).symm, hA5.mono fun x c k => k.fr f58⟩
theorem c_l_again (W : Wd w K mg) : Cal P w K mg base CX0 1 "_law_again" (d_l_again.at_ K) sp_l_again := ⟨ok_l_again W, W.g_l_again, W.f_l_again.kp⟩
end
end Tc
namespace Tc
open PySem PySem.Spec PyProof.Rows L2 He He5 Mi
/-! ### actions -/
inductive Act where
  | mv (u : Str) (s : Stp) | un (u : Str) | re (u : Str)
def users8 : List Str := ["ann", "bob", "abcdefgh", "z", "ijklmnop", "qrstuvwx", "yz", "m"]
def users9 : List Str := ["ann", "bob", "abcdefgh", "z", "ijklmnop", "qrstuvwx", "yz", "m", "zed"]
def ActAt (H : Hp) (v : V) : Act → Prop
  | .mv u s => ∃ t st, v = .ref t ∧ H t = some (.tup [.str "move", .str u, st]) ∧ StpAt H st s
  | .un u => ∃ t, v = .ref t ∧ H t = some (.tup [.str "undo", .str u])
  | .re u => ∃ t, v = .ref t ∧ H t = some (.tup [.str "redo", .str u])
def Act.user : Act → Str
  | .mv u _ => u
  | .un u => u
  | .re u => u
def Act.ok (n : Nat) : Act → Prop
  | .mv u s => u ∈ users8 ∧ s.ok n = true
  | .un u => u ∈ users8
  | .re u => u ∈ users8
section
variable {P : Program} {w : World} {K : PySem.W.Frag} {mg : Str → Option Value} {base : Heap}
def sp_l_action : Sp := fun vs H Q _ => ∃ (p m t l wt : Addr) (f : Mi.Row), vs = [.ref p, .ref m] ∧ PoolAt H p ∧ H m = some (.dK (mFs t l wt)) ∧ H t = some (.tup (f.map V.int)) ∧ vrB f = true ∧ ∀ H' v a, Sx p H H' → PoolAt H' p → ActAt H' v a → a.ok f.length → Q v H'
abbrev N_l_action : List Str := ["_law_pool_here", "_law_model", "_law_names", "_law_user", "_law_kind", "_law_many"]
theorem sc_l_action : FnScope N_l_action ["_law_pool_here", "_law_model"] d_l_action.scope := ⟨rfl, rfl, rfl, by decide +kernel, rfl, by decide +kernel, by decide +kernel⟩
theorem ok_l_action (W : Wd w K mg) : FnR P w K mg base CX0 4 (d_l_action.at_ K) sp_l_action := by
  refine fnr0 W.f_l_action sc_l_action (fun vs H Q E h => ?_) (fun _ _ _ _ _ _ us hl => match us, hl with | [_, _], _ => rfl) (fun cdv A outer s H vs Q E hr h => ?_)
  · obtain ⟨p, m, t, l, wt, f, rfl, hP, hm, ht, hf, q⟩ := h
    rfl
  · obtain ⟨p, m, t, l, wt, f, rfl, hP, hm, ht, hf, q⟩ := h
    refine ⟨_, (pss_cons (ps_set (i := 2) sc_l_action.nd rfl (by first | exact Or.inl rfl | exact Or.inr rfl) (pe_lst (pa_cons pe_str (pa_cons pe_str (pa_cons pe_str (pa_cons pe_str (pa_cons pe_str (pa_cons pe_str (pa_cons pe_str (pa_cons pe_str pa_nil))))))))))
      (pss_cons (ps_set (i := 3) sc_l_action.nd rfl (by first | exact Or.inl rfl | exact Or.inr rfl) (pe_ix (show IxR _ (rIxL K) from ix_list) (pv 2) (pe_c (c_l_take W) (hr.mono (by omega)) pass0 (pa_cons (pv 0) (pa_cons (pe_ix (show IxR _ (rIxL K) from ix_list) (pe_lst (pa_cons pe_int (pa_cons pe_int pa_nil))) (pe_c (c_l_take W) (hr.mono (by omega)) pass0 (pa_cons (pv 0) (pa_cons pe_int pa_nil))) (fun _ _ => rfl)) pa_nil))) (fun _ _ => rfl)))
      (pss_cons (ps_par (i := 4) (j := 5) (by rfl) sc_l_action.nd rfl rfl (by decide) rfl rfl (pa_cons (pe_c (c_l_take W) (hr.mono (by omega)) pass0 (pa_cons (pv 0) (pa_cons pe_int pa_nil))) (pa_cons (pe_callB call_len_seq (by rfl) W.z_len PySem.boot_len (pa_cons (pe_dget (hu_of hr) (pv 1) pe_str (fun _ _ => rfl)) pa_nil)) pa_nil)) (by rfl))
      (pss_cons (ps_if (pt_cmpR op_lt (pv 4) pe_int (nomark _)) (pss_one (ps_ret (pe_tup (pa_cons pe_str (pa_cons (pv 3) pa_nil))))) pss_nil)
      (pss_one (ps_ret (pe_ifExp (pt_cmpR op_lt (pv 4) pe_int (nomark _)) (pe_tup (pa_cons pe_str (pa_cons (pv 3) pa_nil))) (pe_tup (pa_cons pe_str (pa_cons (pv 3) (pa_cons (pe_c (c_l_step W) (hr.mono (by omega)) pass0 (pa_cons (pv 0) (pa_cons (pv 5) pa_nil))) pa_nil))))))))))), ?_⟩
    have hV := vrB_Vr hf
    have hmp : m ≠ p := fun e => by
      obtain ⟨a, b, k, _⟩ := hP
      rw [← e, hm] at k
      cases k
    have htp : t ≠ p := fun e => by
      obtain ⟨a, b, k, _⟩ := hP
      rw [← e, ht] at k
      cases k
    refine ⟨by show 8 ≤ sizeLine; decide, fun N hN => ?_⟩
    have e1 := same_new (o := .lst (users8.map V.str)) hN
    have hN1 := upd_same (H := H) (a := N) (o := .lst (users8.map V.str))
    obtain ⟨ob, hpo⟩ := hP.some
    have hNp : N ≠ p := Ne.symm (ne_of_none hpo hN)
    show tSeq _ _ _ _ (upd H N (.lst (users8.map V.str)))
    have hP1 := hP.same e1
    generalize upd H N (.lst (users8.map V.str)) = H1 at *
    refine ⟨.ref N, rfl, .ref p, rfl, by show 2 ≤ sizeLine; decide, fun L hL => ?_⟩
    have e2 := same_new (o := .lst [.int 2, .int 8]) hL
    have hL2 := upd_same (H := H1) (a := L) (o := .lst [.int 2, .int 8])
    obtain ⟨ob1, hpo1⟩ := hP1.some
    have hLp : L ≠ p := Ne.symm (ne_of_none hpo1 hL)
    have hP2 := hP1.same e2
    have hN2 := e2 _ _ hN1
    generalize upd H1 L (.lst [.int 2, .int 8]) = H2 at *
    refine ⟨.ref p, rfl, p, 2, rfl, hP2, by decide, by decide, fun H3 r e3 hP3 hr0 hr1 => ?_⟩
    have hL3 := e3 _ _ hL2 hLp
    have hN3 := e3 _ _ hN2 hNp
    have hx : ∃ x : Int, atI [V.int 2, V.int 8] r = some (.int x) ∧ 0 < x ∧ x ≤ 8 := by
      have : r = 0 ∨ r = 1 := by omega
      rcases this with rfl | rfl
      · exact ⟨2, rfl, by decide, by decide⟩
      · exact ⟨8, rfl, by decide, by decide⟩
    obtain ⟨x, hx1, hx2, hx3⟩ := hx
    refine ⟨L, _, r, .int x, rfl, rfl, SqL.of hL3, hx1, p, x, rfl, hP3, hx2, by omega, fun H4 r2 e4 hP4 hr20 hr21 => ?_⟩
    have hN4 := e4 _ _ hN3 hNp
    have hu : ∃ u, atI (users8.map V.str) r2 = some (.str u) ∧ u ∈ users8 := by
      have hl : r2.toNat < users8.length := by
        show r2.toNat < 8
        omega
      refine ⟨users8[r2.toNat], ?_, List.getElem_mem hl⟩
      refine atI_gen (j := r2.toNat) (by omega) ?_
      rw [List.getElem?_map, List.getElem?_eq_getElem hl]
      rfl
    obtain ⟨u, hu1, hu2⟩ := hu
    refine ⟨N, _, r2, .str u, rfl, rfl, SqL.of hN4, hu1, ?_⟩
    have e04 : Sx p H H4 := fun b o hb hn => e4 b o (e3 b o (e2 _ _ (e1 _ _ hb)) hn) hn
    refine ⟨.ref p, rfl, p, 8, rfl, hP4, by decide, by decide, fun H5 k e5 hP5 hk0 hk1 => ?_⟩
    have e05 := e04.trans e5
    refine ⟨.ref m, rfl, m, .ref t, rfl, dg (e05 _ _ hm hmp) (get_first _ _ _), t, _, rfl, .inr (SqT.of (e05 _ _ ht htp)), _, _, rfl, ?_⟩
    rw [len_map]
    refine ⟨_, rfl, _, _, rfl, rfl, _, rfl, ite2 (fun h => ?_) fun h => ?_⟩
    · refine ⟨.str u, rfl, by show 2 ≤ sizeLine; decide, fun tt htt => q _ _ (.un u) (e05.trans (same_sx (same_new htt))) (hP5.same (same_new htt)) ⟨tt, rfl, upd_same⟩ hu2⟩
    refine ⟨_, rfl, _, _, rfl, rfl, _, rfl, ite2 (fun h => ?_) fun h => ?_⟩
    · refine ⟨.str u, rfl, by show 2 ≤ sizeLine; decide, fun tt htt => q _ _ (.re u) (e05.trans (same_sx (same_new htt))) (hP5.same (same_new htt)) ⟨tt, rfl, upd_same⟩ hu2⟩
    · refine ⟨.str u, rfl, .ref p, rfl, .int (f.length : Int), rfl, p, f.length, rfl, hP5, hV.pos, hV.most, fun H6 v s e6 hP6 hst hok => ⟨by show 3 ≤ sizeLine; decide, fun tt htt => ?_⟩⟩
      exact q _ _ (.mv u s) ((e05.trans e6).trans (same_sx (same_new htt))) (hP6.same (same_new htt)) ⟨tt, v, rfl, upd_same, hst.same (same_new htt)⟩ ⟨hu2, hok⟩
theorem c_l_action (W : Wd w K mg) : Cal P w K mg base CX0 4 "_law_action" (d_l_action.at_ K) sp_l_action := ⟨ok_l_action W, W.g_l_action, W.f_l_action.kp⟩
end
end Tc
namespace Tc
open PySem PySem.Spec PyProof.Rows L2 He He5 Mi
/-! ### lines -/
def cmdT : Act → Str
  | .mv u s => ((("move" : Str) ++ " ") ++ u) ++ (" " ++ stepText s)
  | .un u => ((("undo" : Str) ++ " ") ++ u) ++ ""
  | .re u => ((("redo" : Str) ++ " ") ++ u) ++ ""
def Act.ln : Act → Ln
  | .mv u s => .mv u s
  | .un u => .un u
  | .re u => .re u
def usOk (u : Str) : Bool := decide (u.cps.size ≤ 1000) && decide (u.length ≤ 1000) && isNm u && shortS u
theorem chk_us : (users9.all usOk) = true := by decide +kernel
theorem us_ok {u : Str} (h : u ∈ users9) : nmOk u ∧ shortS u = true := by
  have h1 := List.all_eq_true.mp chk_us u h
  simp only [usOk, Bool.and_eq_true, decide_eq_true_eq] at h1
  exact ⟨⟨h1.1.1.1, h1.1.1.2, h1.1.2⟩, h1.2⟩
theorem us89 {u : Str} (h : u ∈ users8) : u ∈ users9 := by
  have h1 : u ∈ users8 ++ [("zed" : Str)] := List.mem_append_left _ h
  exact h1
def lineOk (t : Str) (ws : List Str) : Bool := shortS t && decide (Txt.split t " " = ws)
theorem chk_mv0 : ((users8.take 3).all fun u => (stepsOf 4).all fun s => lineOk (cmdT (.mv u s)) ["move", u, stepText s]) = true := by decide +kernel
theorem chk_mv1 : (((users8.drop 3).take 3).all fun u => (stepsOf 4).all fun s => lineOk (cmdT (.mv u s)) ["move", u, stepText s]) = true := by decide +kernel
theorem chk_mv2 : (((users8.drop 3).drop 3).all fun u => (stepsOf 4).all fun s => lineOk (cmdT (.mv u s)) ["move", u, stepText s]) = true := by decide +kernel
theorem chk_mv : (users8.all fun u => (stepsOf 4).all fun s => lineOk (cmdT (.mv u s)) ["move", u, stepText s]) = true := all_cut 3 chk_mv0 (all_cut 3 chk_mv1 (chk_mv2))
theorem chk_un : (users8.all fun u => lineOk (cmdT (.un u)) ["undo", u] && lineOk (cmdT (.re u)) ["redo", u]) = true := by decide +kernel
theorem chk_zed : ((stepsOf 4).all fun s => lineOk (("move zed " : Str) ++ stepText s) ["move", "zed", stepText s]) = true := by decide +kernel
theorem chk_new0 : ((allRows.take 74).all fun r => lineOk ("new " ++ rowComma r) ["new", rowComma r]) = true := by decide +kernel
theorem chk_new1 : (((allRows.drop 74).take 74).all fun r => lineOk ("new " ++ rowComma r) ["new", rowComma r]) = true := by decide +kernel
theorem chk_new2 : ((((allRows.drop 74).drop 74).take 74).all fun r => lineOk ("new " ++ rowComma r) ["new", rowComma r]) = true := by decide +kernel
theorem chk_new3 : (((((allRows.drop 74).drop 74).drop 74).take 74).all fun r => lineOk ("new " ++ rowComma r) ["new", rowComma r]) = true := by decide +kernel
theorem chk_new4 : ((((((allRows.drop 74).drop 74).drop 74).drop 74).take 74).all fun r => lineOk ("new " ++ rowComma r) ["new", rowComma r]) = true := by decide +kernel
theorem chk_new5 : ((((((allRows.drop 74).drop 74).drop 74).drop 74).drop 74).all fun r => lineOk ("new " ++ rowComma r) ["new", rowComma r]) = true := by decide +kernel
theorem chk_new : (allRows.all fun r => lineOk ("new " ++ rowComma r) ["new", rowComma r]) = true := all_cut 74 chk_new0 (all_cut 74 chk_new1 (all_cut 74 chk_new2 (all_cut 74 chk_new3 (all_cut 74 chk_new4 (chk_new5)))))
def qWords : List Str := ["row", "remaining", "disorders", "order", "hint", "words"]
theorem chk_qu : (qWords.all fun q => lineOk q [q] && (cmdTab.any fun p => decide (p = (q, ("" : Str))))) = true := by decide +kernel
theorem line_ok {t : Str} {ws : List Str} (h : lineOk t ws = true) : shortS t = true ∧ Txt.split t " " = ws := by
  simp only [lineOk, Bool.and_eq_true, decide_eq_true_eq] at h
  exact h
theorem asc : strIterType "us" = "str_ascii_iterator" ∧ strIterType "u" = "str_ascii_iterator" ∧ strIterType "a" = "str_ascii_iterator" ∧ strIterType "" = "str_ascii_iterator" := by decide +kernel
theorem kz : ("us" : Str).cps.size = 2 ∧ ("us" : Str).length = 2 ∧ ("u" : Str).cps.size = 1 ∧ ("u" : Str).length = 1 ∧ ("a" : Str).cps.size = 1 ∧ ("a" : Str).length = 1 := by decide +kernel
theorem tab_mem {x ks : Str} (h : (cmdTab.any fun p => decide (p = (x, ks))) = true) : (x, ks) ∈ cmdTab := by
  obtain ⟨p, h1, h2⟩ := List.any_eq_true.mp h
  rw [← of_decide_eq_true h2]
  exact h1
theorem ln_mv {t u : Str} {s : Stp} (h : lineOk t ["move", u, stepText s] = true) (hu : u ∈ users9) (hs : s ∈ stepsOf 4) : LnOf (.str t) (.mv u s) := by
  obtain ⟨h1, h2⟩ := line_ok h
  obtain ⟨hn, hsh⟩ := us_ok hu
  refine .inr ⟨t, some ("move", [.u u, .st s]), rfl, h1, ?_, .mv u s hn⟩
  refine CmdOf.args (ks := "us") (words := [u, stepText s]) (args := [.u u, .st s]) h2 (tab_mem (by decide +kernel)) kz.1 kz.2.1 (by show 2 ≤ 10; decide) asc.1 rfl fun j c wd a e1 e2 e3 => ?_
  match j, e1, e2, e3 with
  | 0, e1, e2, e3 =>
    cases e2
    cases e3
    have e1 : some (117 : Nat) = some c := e1
    cases e1
    exact .inl ⟨by decide +kernel, hsh, by rw [hn.2.2]; rfl⟩
  | 1, e1, e2, e3 =>
    cases e2
    cases e3
    have e1 : some (115 : Nat) = some c := e1
    cases e1
    exact .inr (.inl ⟨by decide +kernel, .inl ⟨s, hs, rfl, rfl⟩⟩)
theorem ln_un {t u : Str} (h : lineOk t ["undo", u] = true) (hu : u ∈ users9) : LnOf (.str t) (.un u) := by
  obtain ⟨h1, h2⟩ := line_ok h
  obtain ⟨hn, hsh⟩ := us_ok hu
  refine .inr ⟨t, some ("undo", [.u u]), rfl, h1, ?_, .un u hn⟩
  refine CmdOf.args (ks := "u") (words := [u]) (args := [.u u]) h2 (tab_mem (by decide +kernel)) kz.2.2.1 kz.2.2.2.1 (by show 1 ≤ 10; decide) asc.2.1 rfl fun j c wd a e1 e2 e3 => ?_
  match j, e1, e2, e3 with
  | 0, e1, e2, e3 =>
    cases e2
    cases e3
    have e1 : some (117 : Nat) = some c := e1
    cases e1
    exact .inl ⟨by decide +kernel, hsh, by rw [hn.2.2]; rfl⟩
theorem ln_re {t u : Str} (h : lineOk t ["redo", u] = true) (hu : u ∈ users9) : LnOf (.str t) (.re u) := by
  obtain ⟨h1, h2⟩ := line_ok h
  obtain ⟨hn, hsh⟩ := us_ok hu
  refine .inr ⟨t, some ("redo", [.u u]), rfl, h1, ?_, .re u hn⟩
  refine CmdOf.args (ks := "u") (words := [u]) (args := [.u u]) h2 (tab_mem (by decide +kernel)) kz.2.2.1 kz.2.2.2.1 (by show 1 ≤ 10; decide) asc.2.1 rfl fun j c wd a e1 e2 e3 => ?_
  match j, e1, e2, e3 with
  | 0, e1, e2, e3 =>
    cases e2
    cases e3
    have e1 : some (117 : Nat) = some c := e1
    cases e1
    exact .inl ⟨by decide +kernel, hsh, by rw [hn.2.2]; rfl⟩
theorem st4_ok {s : Stp} {n : Nat} (h : s.ok n = true) (hn : n ≤ 4) : s ∈ stepsOf 4 := stepsOf_mem (ok4 h hn)
theorem ln_act {a : Act} {n : Nat} (h : a.ok n) (hn : n ≤ 4) : LnOf (.str (cmdT a)) a.ln := by
  cases a with
  | mv u s => exact ln_mv (List.all_eq_true.mp (List.all_eq_true.mp chk_mv u h.1) s (st4_ok h.2 hn)) (us89 h.1) (st4_ok h.2 hn)
  | un u => exact ln_un (Bool.and_eq_true_iff.mp (List.all_eq_true.mp chk_un u h)).1 (us89 h)
  | re u => exact ln_re (Bool.and_eq_true_iff.mp (List.all_eq_true.mp chk_un u h)).2 (us89 h)
theorem ln_zed {s : Stp} (h : s ∈ stepsOf 4) : LnOf (.str (("move zed " : Str) ++ stepText s)) (.mv "zed" s) := ln_mv (List.all_eq_true.mp chk_zed s h) (by decide +kernel) h
theorem ln_new {r : Mi.Row} (h : vrB r = true) : LnOf (.str ("new " ++ rowComma r)) (.new r) := by
  obtain ⟨h1, h2⟩ := line_ok (List.all_eq_true.mp chk_new r (vrB_mem h))
  refine .inr ⟨_, some ("new", [.row r]), rfl, h1, ?_, .new r h⟩
  refine CmdOf.args (ks := "a") (words := [rowComma r]) (args := [.row r]) h2 (tab_mem (by decide +kernel)) kz.2.2.2.2.1 kz.2.2.2.2.2 (by show 1 ≤ 10; decide) asc.2.2.1 rfl fun j c wd a e1 e2 e3 => ?_
  match j, e1, e2, e3 with
  | 0, e1, e2, e3 =>
    cases e2
    cases e3
    have e1 : some (97 : Nat) = some c := e1
    cases e1
    exact .inr (.inr ⟨by decide +kernel, r, rowWord_ok h, by rw [isRow_ok h]; rfl⟩)
theorem ln_qu {q : Str} (h : q ∈ qWords) : LnOf (.str q) (.qu q) := by
  obtain ⟨h1, h2⟩ := Bool.and_eq_true_iff.mp (List.all_eq_true.mp chk_qu q h)
  obtain ⟨h3, h4⟩ := line_ok h1
  refine .inr ⟨q, some (q, []), rfl, h3, ?_, .qu q⟩
  exact CmdOf.args (ks := "") (words := []) (args := []) h4 (tab_mem h2) rfl rfl (by decide) asc.2.2.2 rfl fun j c wd a e1 e2 e3 => by cases e2
/-- the lines that are no commands -/
def badV : List V := [.str "", .str "row ", .str "move ann", .str "new 1,1", .str "undo 1", .str "hint .", .str "move ann 0!", .non]
theorem chk_bad : (lineOk "" [""] && lineOk "row " ["row", ""] && lineOk "move ann" ["move", "ann"] && lineOk "new 1,1" ["new", "1,1"] && lineOk "undo 1" ["undo", "1"] && lineOk "hint ." ["hint", "."] && lineOk "move ann 0!" ["move", "ann", "0!"]) = true := by decide +kernel
theorem ln_many {t word ks : Str} {ws : List Str} (h : lineOk t (word :: ws) = true) (hm : (cmdTab.any fun p => decide (p = (word, ks))) = true) (hk : ks.length ≠ ws.length) (hl : ws.length ≤ 10) : LnOf (.str t) .bad :=
  let ⟨h1, h2⟩ := line_ok h; .inr ⟨t, none, rfl, h1, CmdOf.many h2 (tab_mem hm) hk hl, .bad⟩
theorem nm1 : isNm "1" = false := by decide +kernel
theorem row11 : isRow [1, 1] = false := by decide +kernel
theorem ln_bad {v : V} (h : v ∈ badV) : LnOf v .bad := by
  have hk := chk_bad
  simp only [Bool.and_eq_true] at hk
  obtain ⟨⟨⟨⟨⟨⟨h1, h2⟩, h3⟩, h4⟩, h5⟩, h6⟩, h7⟩ := hk
  simp only [badV, List.mem_cons, List.not_mem_nil, or_false] at h
  rcases h with rfl | rfl | rfl | rfl | rfl | rfl | rfl | rfl
  · obtain ⟨a1, a2⟩ := line_ok h1
    exact .inr ⟨_, none, rfl, a1, CmdOf.none_ a2 (by decide), .bad⟩
  · exact ln_many (ks := "") h2 (by decide +kernel) (by decide +kernel) (by decide)
  · exact ln_many (ks := "us") h3 (by decide +kernel) (by decide +kernel) (by decide)
  · obtain ⟨a1, a2⟩ := line_ok h4
    refine .inr ⟨_, none, rfl, a1, ?_, .bad⟩
    refine CmdOf.args (ks := "a") (words := ["1,1"]) (args := [.bad]) a2 (tab_mem (by decide +kernel)) (by decide +kernel) (by decide +kernel) (by decide) asc.2.2.1 rfl fun j c wd a e1 e2 e3 => ?_
    match j, e1, e2, e3 with
    | 0, e1, e2, e3 =>
      cases e2
      cases e3
      have e1 : some (97 : Nat) = some c := e1
      cases e1
      exact .inr (.inr ⟨by decide +kernel, [1, 1], rowWord_11, by rw [row11]; rfl⟩)
  · obtain ⟨a1, a2⟩ := line_ok h5
    refine .inr ⟨_, none, rfl, a1, ?_, .bad⟩
    refine CmdOf.args (ks := "u") (words := ["1"]) (args := [.bad]) a2 (tab_mem (by decide +kernel)) (by decide +kernel) (by decide +kernel) (by decide) asc.2.1 rfl fun j c wd a e1 e2 e3 => ?_
    match j, e1, e2, e3 with
    | 0, e1, e2, e3 =>
      cases e2
      cases e3
      have e1 : some (117 : Nat) = some c := e1
      cases e1
      exact .inl ⟨by decide +kernel, by decide +kernel, by rw [nm1]; rfl⟩
  · exact ln_many (ks := "") h6 (by decide +kernel) (by decide +kernel) (by decide)
  · obtain ⟨a1, a2⟩ := line_ok h7
    obtain ⟨hn, hsh⟩ := us_ok (u := "ann") (by decide +kernel)
    refine .inr ⟨_, none, rfl, a1, ?_, .bad⟩
    refine CmdOf.args (ks := "us") (words := ["ann", "0!"]) (args := [.u "ann", .bad]) a2 (tab_mem (by decide +kernel)) (by decide +kernel) (by decide +kernel) (by decide) asc.1 rfl fun j c wd a e1 e2 e3 => ?_
    match j, e1, e2, e3 with
    | 0, e1, e2, e3 =>
      cases e2
      cases e3
      have e1 : some (117 : Nat) = some c := e1
      cases e1
      exact .inl ⟨by decide +kernel, hsh, by rw [hn.2.2]; rfl⟩
    | 1, e1, e2, e3 =>
      cases e2
      cases e3
      have e1 : some (115 : Nat) = some c := e1
      cases e1
      exact .inr (.inl ⟨by decide +kernel, .inr ⟨rfl, rfl⟩⟩)
  · exact .inl ⟨rfl, rfl⟩
end Tc
namespace Tc
open PySem PySem.Spec PyProof.Rows L2 He He5
/-! ### a try with several except clauses, some of which name the exception -/
def offI (i : Option Nat) (σ : L2.St) : L2.St := match i with
  | none => σ
  | some i => σ.set i none
def onI (i : Option Nat) (a : Addr) (σ : L2.St) : L2.St := match i with
  | none => σ
  | some i => σ.set i (some (.ref a))
/-- what the clauses wish of an exception of the body, one after the other -/
def wMix (K : PySem.W.Frag) (Wout : WX) (D : Ends) : List (Value × Option Nat × (Addr → Value → Option Addr → TS)) → WX
  | [] => Wout
  | (c, i, ts) :: r => fun cls d σ H => ∃ b, PySem.W.exmOne K cls c = some b ∧ (b = true → ∀ a, H a = none → ts a cls d { nx := fun σ' H' => D.nx (offI i σ') H', rt := D.rt, bk := fun σ' H' => D.bk (offI i σ') H', ct := fun σ' H' => D.ct (offI i σ') H' } (onI i a σ) H) ∧
      (b = false → wMix K Wout D r cls d σ H)
inductive HdsMix (X : Cx) : List ExceptHandler → List (Value × Option Nat × (Addr → Value → Option Addr → TS)) → Prop
  | nil : HdsMix X [] []
  | cons {x : Str} {c : Value} {ts : Addr → Value → Option Addr → TS} {b₀ : Stmt} {suite : List Stmt} {np pos' : Pos} {hds : List ExceptHandler} {l : List (Value × Option Nat × (Addr → Value → Option Addr → TS))} (hc : Names X x c)
      (hsu : ∀ (a : Addr) (oe : Obj) (cls : Value) (d : Option Addr) (pn : List (Addr × Obj)), Zc cls d oe → (∃ vs, oe.data = .fields vs) → PSs (X.suite a ((a, oe) :: pn)) (b₀ :: suite) (ts a cls d)) (r : HdsMix X hds l) :
      HdsMix X (.ExceptHandler (some (.Name x np)) none (b₀ :: suite) pos' :: hds) ((c, none, ts) :: l)
  | as_ {x n : Str} {i : Nat} {c : Value} {ts : Addr → Value → Option Addr → TS} {b₀ : Stmt} {suite : List Stmt} {np pos' : Pos} {hds : List ExceptHandler} {l : List (Value × Option Nat × (Addr → Value → Option Addr → TS))} (hc : Names X x c)
      (hN : X.N.Nodup) (hi : X.N[i]? = some n) (hln : X.env.kindOf n = some .local)
      (hsu : ∀ (a : Addr) (oe : Obj) (cls : Value) (d : Option Addr) (pn : List (Addr × Obj)), Zc cls d oe → (∃ vs, oe.data = .fields vs) → PSs (X.suite a ((a, oe) :: pn)) (b₀ :: suite) (ts a cls d)) (r : HdsMix X hds l) :
      HdsMix X (.ExceptHandler (some (.Name x np)) (some n) (b₀ :: suite) pos' :: hds) ((c, some i, ts) :: l)
section
variable {X : Cx} {body : List Stmt} {h₀ : ExceptHandler} {hds : List ExceptHandler} {l : List (Value × Option Nat × (Addr → Value → Option Addr → TS))} {pos : Pos} {tb : WX → TS} {Wout : WX}
theorem ps_try_mix (hs : X.stack = X.env :: X.outer) (hf : X.env.frame = some X.env.locals) (tk : Takes X Wout)
    (hb : ∀ (W : WX) (pn : List (Addr × Obj)) (xe : Value → Shared → Prop), Takes (X.tr pn xe) W → PassesOwn (model X.prog X.w) X.A X.env xe → PSs (X.tr pn xe) body (tb W))
    (hh : HdsMix X (h₀ :: hds) l) : PS X (.Try body (h₀ :: hds) [] [] pos) (fun D σ H => tb (wMix X.K Wout D l) D σ H) := by
  refine ⟨fun pins s σ H D I h => ?_⟩
  have ok := I.ok
  have hfr : X.A.frames = some (X.env :: X.outer) := by rw [ok.frames, hs]
  refine wpAny_Try_except ?_
  refine wpAny_mono ((hb (wMix X.K Wout D l) (X.pn ++ pins) (fun e s₁ => wpAny (model X.prog X.w) X.A (noteFrame e X.env) (fun _ s₂ => wpAny (model X.prog X.w) X.A (setFlight e none) (fun _ s₃ =>
    wpAny (model X.prog X.w) X.A (handleBy e X.env (h₀ :: hds)) (SP X pins D) X.xe s₃) X.xe s₂) X.xe s₁) (fun u s' xx => ?_) PassesOwn.looking).run [] s σ H D (I.toTry _) h) (fun f s1 hsp => ?_) (fun e s1 he => he)
  · -- the catch
    obtain ⟨a, B, sI, pins', σ', H', cls, d, rfl, J', nb, up, sky, na, os, ag, w⟩ := xx
    have J : Inv X pins σ' H' sI := J'.ofTry ok
    have sky' : Sky B (X.env :: X.outer) a (Zc cls d) X.env.locals s'.heap := by rw [← hs]; exact sky
    show wpAny (model X.prog X.w) X.A (noteFrame (.ref a) X.env) _ _ _
    refine Sky.land Zc.steady hfr hf sky' fun h3 fl3 up3 => ?_
    have J3 : Inv X pins σ' H' { s' with heap := h3 } := J.landed nb fl3.1 (up.trans up3) os ag
    obtain ⟨oe3, vs3, he3, hz3, hd3⟩ := fl3.there
    have notFr : ∀ {h : Heap} {o : Obj} {vs : Array Value}, h.FunFrames B (X.env :: X.outer) → h.get? a = some o → o.data = .fields vs → a ∉ frs (X.env :: X.outer) := fun {h o vs} ff e dd hm => by
      obtain ⟨_, o', e', hnf⟩ := ff.mem hm
      rw [e] at e'; cases e'
      exact hnf _ dd
    have nfr := notFr fl3.2.2.1 he3 hd3
    have nL : a ≠ X.env.locals := fun z => nfr (List.mem_filterMap.mpr ⟨X.env, List.mem_cons_self, by rw [hf, z]⟩)
    have nF : a ∉ X.fs := fun hm => by
      obtain ⟨e, he, q⟩ := List.mem_filterMap.mp hm
      exact nfr (List.mem_filterMap.mpr ⟨e, List.mem_cons_of_mem _ he, q⟩)
    have S3 := J3.suite he3 hd3 na nL nF
    have LT : PySem.W.Looks (model X.prog X.w) h3 (typeOf (.ref a)) cls := fun A Q E s k q => wpAny_typeOf_ref (k _ _ he3) (by rw [hz3.1]; exact q)
    have test : ∀ {x : Str} {c : Value} {np : Pos} {Q : Value → Shared → Prop} {E : Value → Shared → Prop}, Names X x c → Q c { s' with heap := h3 } → wpAny (model X.prog X.w) (X.A.mark (some (.ref a))) (eval (.Name x np) X.env) Q E { s' with heap := h3 } := fun {x c np Q E} hc q => by
      obtain ⟨hg, hdbg, hm | ⟨hm, hv, hnn⟩⟩ := hc
      · exact ld_glob (X := X.suite a ((a, oe3) :: (X.pn ++ pins))) S3 hg hm q hdbg
      · exact ld_blt (X := X.suite a ((a, oe3) :: (X.pn ++ pins))) S3 hg hm hv q hnn hdbg
    have go : ∀ {hds' : List ExceptHandler} {l' : List (Value × Option Nat × (Addr → Value → Option Addr → TS))}, HdsMix X hds' l' → wMix X.K Wout D l' cls d σ' H' →
        wpAny (model X.prog X.w) X.A (handleBy (.ref a) X.env hds') (SP X pins D) X.xe { s' with heap := h3 } := by
      intro hds' l' hk
      induction hk with
      | nil =>
        intro w
        refine wpAny_handleBy_nil ?_
        obtain ⟨k1, k2, k3, oe, vs, T, oT, ts', he, hz, hd, h1, hr⟩ := id fl3
        unfold PySem.passOn
        refine wpAny_bind (wpAny_field he hd h1 ?_)
        rw [if_neg (show ¬ ((Value.ref T == Value.none) = true) from by simp)]
        have fin : wpAny (model X.prog X.w) X.A (setFlight (.ref a) X.env.frame) (fun _ s4 => wpAny (model X.prog X.w) X.A (throw (.ref a) : Sem Flow) (SP X pins D) X.xe s4) X.xe { s' with heap := h3 } := by
          rw [hf]
          refine HandSPX.setFlight_upZ fl3 fun h4 hh4 up4 => wpAny_throw (tk _ _ ?_)
          exact ⟨a, B, sI, pins, σ', H', cls, d, rfl, J, nb, (up.trans up3).trans up4, .inr (.inr (by rw [hs]; exact hh4)), na, os, ag, w⟩
        first
          | exact wpAny_bind (wpAny_pure (wpAny_bind fin))
          | exact wpAny_bind fin
      | @cons x c ts b₀ suite np pos' hds2 l2 hc hsu r ih =>
        intro w
        obtain ⟨b, hb1, hyes, hno⟩ := w
        refine wpAny_handleBy_cons (codeAny_handlers_test ?_) (by intro q; cases q)
        have LM := PySem.W.exm_one (M := model X.prog X.w) (J3.kIn) LT hb1
        refine test hc (LM.here ?_)
        cases b with
        | true =>
          refine codeAny_handlers_suite ?_
          refine HandSPX.lands_againZ fl3 fun h4 fl4 up4 => ?_
          have J4 : Inv X pins σ' H' { s' with heap := h4 } := J.landed nb fl4.1 ((up.trans up3).trans up4) os ag
          obtain ⟨oe4, vs4, he4, hz4, hd4⟩ := fl4.there
          have S4 := J4.suite he4 hd4 na nL nF
          refine wpAny_mono ((hsu a oe4 cls d (X.pn ++ pins) hz4 ⟨_, hd4⟩).run [] _ _ H' _ S4 (hyes rfl a na)) (fun f s6 hsp => ?_) (fun _ _ z => False.elim z)
          cases f with
          | next =>
            obtain ⟨σ6, H6, S6, q6⟩ := hsp
            exact ⟨_, _, S6.unsuite ok, q6⟩
          | brk =>
            obtain ⟨σ6, H6, S6, q6⟩ := hsp
            exact ⟨_, _, S6.unsuite ok, q6⟩
          | cont =>
            obtain ⟨σ6, H6, S6, q6⟩ := hsp
            exact ⟨_, _, S6.unsuite ok, q6⟩
          | ret u =>
            obtain ⟨v6, σ6, H6, S6, r6, q6⟩ := hsp
            exact ⟨_, _, _, S6.unsuite ok, r6, q6⟩
        | false =>
          show wpAny _ X.A (handleBy (.ref a) X.env hds2) _ _ _
          exact ih (hno rfl)
      | @as_ x n i c ts b₀ suite np pos' hds2 l2 hc hN hi hln hsu r ih =>
        intro w
        obtain ⟨b, hb1, hyes, hno⟩ := w
        have hloc : Loc X.env.scope n := .inl hln
        refine wpAny_handleBy_cons (codeAny_handlers_test ?_) (by intro q; cases q)
        have LM := PySem.W.exm_one (M := model X.prog X.w) (J3.kIn) LT hb1
        refine test hc (LM.here ?_)
        cases b with
        | true =>
          refine codeAny_handlers_suite_as ?_
          refine HandSPX.lands_againZ fl3 fun h4 fl4 up4 => ?_
          have J4 : Inv X pins σ' H' { s' with heap := h4 } := J.landed nb fl4.1 ((up.trans up3).trans up4) os ag
          obtain ⟨oe4, vs4, he4, hz4, hd4⟩ := fl4.there
          have S4 := J4.suite he4 hd4 na nL nF
          refine store_ok (X := X.suite a ((a, oe4) :: (X.pn ++ pins))) (v := .ref a) S4 hN hi hloc rfl (fun s5 S5 => ?_) (.inr hln)
          refine wpAny_mono ((hsu a oe4 cls d (X.pn ++ pins) hz4 ⟨_, hd4⟩).run [] s5 _ H' _ S5 (hyes rfl a na)) (fun f s6 hsp => ?_) (fun _ _ z => False.elim z)
          have end_ : ∀ {σ6 : L2.St} {H6 : Hp} {Q : Shared → Prop}, Inv (X.suite a ((a, oe4) :: (X.pn ++ pins))) [] σ6 H6 s6 → (∀ s7, Inv X pins (σ6.set i none) H6 s7 → Q s7) →
              wpAny (model X.prog X.w) X.A (do bindName X.env n .none; unbindBehindTheSuite X.env n pos') (fun _ s7 => Q s7) X.xe s6 := fun {σ6 H6 Q} S6 hq => gone_ok (S6.unsuite ok) hN hi hln hq
          cases f with
          | next =>
            obtain ⟨σ6, H6, S6, q6⟩ := hsp
            exact end_ S6 fun s7 J7 => ⟨_, _, J7, q6⟩
          | brk =>
            obtain ⟨σ6, H6, S6, q6⟩ := hsp
            exact end_ S6 fun s7 J7 => ⟨_, _, J7, q6⟩
          | cont =>
            obtain ⟨σ6, H6, S6, q6⟩ := hsp
            exact end_ S6 fun s7 J7 => ⟨_, _, J7, q6⟩
          | ret u =>
            obtain ⟨v6, σ6, H6, S6, r6, q6⟩ := hsp
            exact end_ S6 fun s7 J7 => ⟨_, _, _, J7, r6, q6⟩
        | false =>
          show wpAny _ X.A (handleBy (.ref a) X.env hds2) _ _ _
          exact ih (hno rfl)
    exact go hh w
  · cases f with
    | next =>
      obtain ⟨σ', H', J', q⟩ := hsp
      exact wpAny_execs_nil ⟨σ', H', J'.ofTry ok, q⟩
    | brk =>
      obtain ⟨σ', H', J', q⟩ := hsp
      exact ⟨σ', H', J'.ofTry ok, q⟩
    | cont =>
      obtain ⟨σ', H', J', q⟩ := hsp
      exact ⟨σ', H', J'.ofTry ok, q⟩
    | ret u =>
      obtain ⟨v, σ', H', J', r, q⟩ := hsp
      exact ⟨v, σ', H', J'.ofTry ok, r, q⟩
end
end Tc
namespace Tc
open PySem PySem.Spec PyProof.Rows L2 He He5
/-! ### promises told only of calls around which no text of a container is being made -/
def FnG (P : Program) (w : World) (K : PySem.W.Frag) (mg : Str → Option Value) (base : Heap) (CX : CXT) (k : Nat) (f : Addr) (sp : Sp) : Prop :=
  ∀ (A : Around) (outer : List Env) (s : Shared) (H : Hp) (us : List Value) (vs : List V) (Q : VK) (E : XK), A.guards = some [] → Room k A → Env0 P w K mg base A outer s H → Vals vs us → sp vs H Q E →
    codeAny (model P w) A (.call (.ref f) ⟨us, []⟩) (CR CX outer P w H s Q E) s
section
variable {P : Program} {w : World} {K : PySem.W.Frag} {mg : Str → Option Value} {base : Heap}
theorem fng {CX : CXT} {d : DefA} {N ps : List Str} {k : Nat} {sp : Sp} (F : FnDf K d) (S : FnScope N ps d.scope) (len : ∀ vs H Q E, sp vs H Q E → vs.length = ps.length)
    (bnd : ∀ (kV doc pm : Value) (an : Option Addr) (cdv ct : Value) (us : List Value), us.length = ps.length → bindArgs (PySem.W.fnOf d.name d.qual d.params d.body d.scope .none kV doc pm an cdv ct) ⟨us, []⟩ = pure (ps.zip us))
    (body : ∀ (cdv : Value) (A : Around) (outer : List Env) (s : Shared) (H : Hp) (vs : List V) (Q : VK) (E : XK), (A.deeper (envOfC d.qual d.scope s.heap.objs.size (d.at_ K) cdv)).guards = some [] → Room k (A.deeper (envOfC d.qual d.scope s.heap.objs.size (d.at_ K) cdv)) → sp vs H Q E →
      ∃ t, PSs (cxOf CX P w K mg base N d.qual d.scope (d.at_ K) cdv A outer s H E) d.body t ∧ t { nx := fun _ H' => Q .non H', rt := Q } (start N vs) H) : FnG P w K mg base CX (k + 1) (d.at_ K) sp := by
  obtain ⟨fd, F⟩ := F
  have B := F.bindsN bnd
  obtain ⟨oc, od, dV, kV, doc, pm, an, cdv, ct, osl, rfl, lk, hcd, _, _⟩ := F.ex
  intro A outer s H us vs Q E hgu hr e0 r hsp
  have hl := len _ _ _ _ hsp
  have hul : us.length = ps.length := by rw [← r.length]; exact hl
  have KX : K.In s.heap := e0.mod.kin.keeps fun b o e => (e0.bs b o e).1
  have lim : s.heap.NoLimit := e0.mod.nolimit.keeps fun b o e => (e0.bs b o e).1
  have hkind : ∀ y ∈ ps.zip us, d.scope.names.lookup y.1 = some .local ∨ (d.scope.names.lookup y.1 = some .cell ∧ ((cellsFrom (s.heap.objs.size + 1) d.scope.names []).lookup y.1).isSome = true) := fun ⟨n, v⟩ hy => by
    rcases S.par n (List.of_mem_zip hy).1 with q | q
    · exact .inl q
    · exact .inr ⟨q, PySem.W.cellsFrom_some _ _ _ (.inl q)⟩
  have hb := B s us KX (by rw [List.append_nil]; exact hul)
  rw [List.append_nil] at hb
  refine codeAny_call_function hr.depth (KX _ _ lk) rfl S.co S.gen rfl (PySem.W.codeRec_of KX hcd) (hb _ _ _ _ ?_)
  refine wpAny_newFunctionEnv_cells S.kind hkind fun env he s1 x => ?_
  subst he
  refine ⟨lim.keeps x.toInCall.keep, codeAny_func ?_⟩
  obtain ⟨t, ht, hq⟩ := body cdv A outer s H vs Q E hgu (hr.deeper _) hsp
  have I : Inv (cxOf CX P w K mg base N d.qual d.scope (d.at_ K) cdv A outer s H E) [] (start N vs) H s1 := inv_start S hr.hd e0 hl r x
  refine wpAny_mono (ht.run [] s1 (start N vs) H _ I hq) (fun fl s' hs => ?_) fun e s' hs => hs
  have fin : ∀ {σ' : L2.St} {H' : Hp} {v : V} {u : Value}, Inv (cxOf CX P w K mg base N d.qual d.scope (d.at_ K) cdv A outer s H E) [] σ' H' s' → RelV v u → Q v H' → CE outer P w H s Q u s' :=
    fun {σ' H' v u} J rv q => ⟨v, H', J.os, J.bare, J.base, J.hok, rv, q⟩
  cases fl with
  | ret u =>
    obtain ⟨v, σ', H', J, rv, q⟩ := hs
    exact fin J rv q
  | next =>
    obtain ⟨σ', H', J, q⟩ := hs
    exact fin (v := V.non) (u := Value.none) J rfl q
  | brk =>
    obtain ⟨_, _, _, q⟩ := hs
    exact False.elim q
  | cont =>
    obtain ⟨_, _, _, q⟩ := hs
    exact False.elim q
theorem fng0 {d : DefA} {N ps : List Str} {k : Nat} {sp : Sp} (F : FnDf K d) (S : FnScope N ps d.scope) (len : ∀ vs H Q E, sp vs H Q E → vs.length = ps.length)
    (bnd : ∀ (kV doc pm : Value) (an : Option Addr) (cdv ct : Value) (us : List Value), us.length = ps.length → bindArgs (PySem.W.fnOf d.name d.qual d.params d.body d.scope .none kV doc pm an cdv ct) ⟨us, []⟩ = pure (ps.zip us))
    (body : ∀ (cdv : Value) (A : Around) (outer : List Env) (s : Shared) (H : Hp) (vs : List V) (Q : VK) (E : XK), (A.deeper (envOfC d.qual d.scope s.heap.objs.size (d.at_ K) cdv)).guards = some [] → Room k (A.deeper (envOfC d.qual d.scope s.heap.objs.size (d.at_ K) cdv)) → sp vs H Q E →
      ∃ t, PSs (cxOf CX0 P w K mg base N d.qual d.scope (d.at_ K) cdv A outer s H E).nox d.body t ∧ t { nx := fun _ H' => Q .non H', rt := Q } (start N vs) H) : FnG P w K mg base CX0 (k + 1) (d.at_ K) sp :=
  fng F S len bnd fun cdv A outer s H vs Q E hg hr h => let ⟨t, h1, h2⟩ := body cdv A outer s H vs Q E hg hr h; ⟨t, h1.nox, h2⟩
end
section
variable {X : Cx} {k : Nat} {f : Addr} {sp : Sp} {x : Str} {e : Expr} {es : List Expr} {t : TA} {p pos : Pos}
/-- f(..), f promised only where no text of a container is being made -/
theorem pe_cG (F : FnG X.prog X.w X.K X.mg X.base CX0 k f sp) (gm : X.mg x = some (.ref f)) (kp : PySem.W.keepIn X.K (.ref f) = true) (hgu : X.A.guards = some []) (hr : Room k X.A) (ha : PA X (e :: es) t) (hg : Gl X x := by rfl) (hdb : (x == ("__debug__" : Str)) = false := by decide)
    (he : starEach (e :: es) X.env = (false, eval e X.env) :: starEach es X.env := by rfl) (hpl : (backTo pos (starEach es X.env)).any (·.1) = false := by rfl) : PE X (.Call (.Name x p) (e :: es) [] pos) (tCR sp E0 t) := by
  refine ⟨fun pins s σ H Q I h => ?_⟩
  refine wpAny_Call_Name_kw (ld_glob I hg gm ?_ hdb)
  refine PySem.W.callWith_K (h₀ := X.base) I.ok.mod.kin kp (thn (ha.run pos pins s σ H _ I h) fun us s1 ⟨vs, H1, I1, r, q⟩ => ⟨I1.kIn, ?_⟩) he hpl
  refine wpAny_call (codeAny_mono (F X.A X.stack s1 H1 us vs Q E0 hgu hr I1.env0 r q) fun r s' hq => ?_)
  cases r with
  | error e => exact False.elim hq
  | ok fl =>
    cases fl with
    | ret u => exact I1.after hq
    | next => exact False.elim hq
    | brk => exact False.elim hq
    | cont => exact False.elim hq
/-- repr(x), x a text or a tuple of texts -/
def rReprS (K : PySem.W.Frag) : List V → Hp → VK → Prop := fun xs H Q => ∃ (v : V) (d : PyData), xs = [v] ∧ Dp K H v d ∧ ((∃ y, v = .str y ∧ d = .str y) ∨ ∃ a, v = .ref a) ∧ d.showable = true ∧ d.hasDict = false ∧ d.depth ≤ 10 ∧ d.shown.length ≤ sizeLine ∧ Q (.str d.shown) H
theorem call_reprG (hgu : X.A.guards = some []) (hr : Room k X.A) : CallR X (.builtin "repr") (rReprS X.K) := by
  have hu := hr.un
  intro pins s σ H xs us Q I r h
  obtain ⟨v, d, rfl, hd, hv, hs, hh, hdep, hz, q⟩ := h
  obtain ⟨u, rfl, ru⟩ := vals1 r
  rcases hv with ⟨y, rfl, rfl⟩ | ⟨a, rfl⟩
  · obtain ⟨t, rfl⟩ := ru
    rw [PyData.shown_str] at hz q
    exact PySem.P.repr_of_str ⟨.str _, H, I.tok _, ⟨_, rfl⟩, q⟩ hz
  · obtain rfl : u = Value.ref a := ru
    obtain ⟨as, rd⟩ := Dp.reads I d _ _ hd rfl
    refine repr_of_reads' rd hs (fun z => by rw [hh] at z; cases z) hgu (by omega) (fun b o e => e) (fun h' u tk hk => ?_) hz
    exact ⟨.str _, H, I.kept (t' := tk) hk, ⟨u, rfl⟩, q⟩
end
end Tc
namespace Tc
open PySem PySem.Spec PyProof.Rows L2 He He5 Mi
/-! ### what a line does -/
inductive Out where
  | txt (s : Str) | undo (u : Str) | redo (u : Str)
def outG (g : Gs) : Ln → Out × Gs
  | .bad => (.txt "invalid", g)
  | .new r => (.txt "ok", ⟨r, [], []⟩)
  | .mv u s => (.txt "ok", g.play u s)
  | .un u => match g.undo u with
    | none => (.undo u, g)
    | some g' => (.txt "ok", g')
  | .re u => match g.redo u with
    | none => (.redo u, g)
    | some g' => (.txt "ok", g')
  | .qu w => (.txt (qText w g.cur), g)
def OutAt (H : Hp) (v : V) : Out → Prop
  | .txt s => v = .str s
  | .undo u => ∃ t, v = .ref t ∧ H t = some (.tup [.str "undo", .str u])
  | .redo u => ∃ t, v = .ref t ∧ H t = some (.tup [.str "redo", .str u])
theorem ExC.xf {K : PySem.W.Frag} {C : Addr} {bmB : List Value} {newId : String} {f : Str} {fI : Addr} (T : ExC K C bmB newId f fI) : XfC K C := ⟨T.ga, T.gg, T.exC, T.hd⟩
theorem ConP.frS {K : PySem.W.Frag} {Z : List Addr} {H H' : Hp} {c p : Addr} {g : Gs} (h : ConP K Z H c p g) (e : Same H H') : Fr [c, p] H H' := (Fr.of_same e)
section
variable {P : Program} {w : World} {K : PySem.W.Frag} {mg : Str → Option Value} {base : Heap}
def lnPre (g : Gs) : Ln → Prop
  | .mv _ s => s.ok g.first.length = true
  | _ => True
def isQ : Ln → Bool
  | .qu _ => true
  | .bad => true
  | _ => false
def sp_l_run (K : PySem.W.Frag) : Sp := fun vs H Q _ => ∃ (c p : Addr) (v : V) (l : Ln) (g : Gs) (Z : List Addr) (n : Nat), vs = [.ref c, v] ∧ LnOf v l ∧ ConP K Z H c p g ∧ ZOk Z H ∧ g.Ok n ∧ n ≤ 900 ∧ lnPre g l ∧
  ∀ H' v' p', Fr [c, p] H H' → (p' = p ∨ H p' = none) → ConP K Z H' c p' (outG g l).2 → OutAt H' v' (outG g l).1 → (isQ l = true → Same H H' ∧ p' = p) → Q v' H'
abbrev N_l_run : List Str := ["_law_console", "_law_line", "e"]
theorem sc_l_run : FnScope N_l_run ["_law_console", "_law_line"] d_l_run.scope := ⟨rfl, rfl, rfl, by decide +kernel, rfl, by decide +kernel, by decide +kernel⟩
theorem ok_l_run (W : Wd w K mg) : FnR P w K mg base CX0 28 (d_l_run.at_ K) (sp_l_run K) := by
  refine fnr0 W.f_l_run sc_l_run (fun vs H Q E h => ?_) (fun _ _ _ _ _ _ us hl => match us, hl with | [_, _], _ => rfl) (fun cdv A outer s H vs Q E hr h => ?_)
  · obtain ⟨c, p, v, l, g, Z, n, rfl, _⟩ := h
    rfl
  obtain ⟨c, p, v, l, g, Z, n, rfl, hl, hC, hZ, hO, hn, hpre, q⟩ := h
  refine ⟨_, pss_one (ps_try_mix (tb := fun W' => tRet (tMRS (CC K) "run" (sp_run K) (WE W') (tVar 0) (tCons (tVar 1) tNil))) (Wout := fun _ _ _ _ => False) rfl rfl L2.takes0
    (fun W' pn xe tk _ => pss_one (ps_ret (pe_methRS (pv 0) W.c_Console W.m_Console_run (ok_Console_run W) (hr.mono (by omega)) (fun σ => passAt tk σ) (pa_cons (pv 1) pa_nil))))
    (.cons (ts := fun _ _ _ => tRet (tC (.str "invalid"))) ⟨rfl, by decide, Or.inl W.g_InvalidCommand⟩ (fun a oe cls d pn hz hf => pss_one (ps_ret pe_str))
    (.as_ (i := 2) (ts := fun _ _ _ => tNever) ⟨rfl, by decide, Or.inl W.g_InvalidStep⟩ sc_l_run.nd rfl rfl (fun a oe cls d pn hz hf => pss_one ps_never)
    (.as_ (i := 2) ⟨rfl, by decide, Or.inl W.g_NothingToUndo⟩ sc_l_run.nd rfl rfl (fun a oe cls d pn hz hf => pss_one (ps_ret (pe_tup (pa_cons pe_str (pa_cons (pe_xf W.x_NU.xf W.x_NU.no hz hf (pv 2)) pa_nil)))))
    (.as_ (i := 2) ⟨rfl, by decide, Or.inl W.g_NothingToRedo⟩ sc_l_run.nd rfl rfl (fun a oe cls d pn hz hf => pss_one (ps_ret (pe_tup (pa_cons pe_str (pa_cons (pe_xf W.x_NR.xf W.x_NR.no hz hf (pv 2)) pa_nil)))))
    (.as_ (i := 2) (ts := fun _ _ _ => tNever) ⟨rfl, by decide, Or.inl W.g_LimitExceeded⟩ sc_l_run.nd rfl rfl (fun a oe cls d pn hz hf => pss_one ps_never) .nil)))))), ?_⟩
  obtain ⟨cdx, hc⟩ := hC.at_
  obtain ⟨_, _, _, _, _, _, _, G⟩ := id hC.game
  refine ⟨.ref c, rfl, c, cdx, _, rfl, hc, rfl, v, rfl, c, p, v, l, g, Z, n, rfl, hl, hC, hZ, hO, hn, ?_⟩
  have frP : ∀ {H' : Hp}, Sx p H H' → Fr [c, p] H H' := fun e => (e.fr G.hp).more fun x hx => by rw [List.mem_singleton.mp hx]; simp
  cases l with
  | bad => exact fun H' d e x => ⟨true, W.x_InvalidCommand_InvalidCommand, fun _ a ha => q H' _ p (Fr.of_same e) (.inl rfl) (hC.same e) rfl (fun _ => ⟨e, rfl⟩), fun z => by cases z⟩
  | new r => exact fun H' p' hS hp' hC' => q H' _ p' ((hS.fr hc).more fun x hx => by rw [List.mem_singleton.mp hx]; simp) (.inr hp') hC' rfl (fun z => by cases z)
  | mv u s => exact ⟨hpre, fun H' hS hC' => q H' _ p (frP hS) (.inl rfl) hC' rfl (fun z => by cases z)⟩
  | un u =>
    refine ⟨fun g' hg H' hS hC' => q H' _ p (frP hS) (.inl rfl) (by simp only [outG, hg]; exact hC') (by simp only [outG, hg]; rfl) (fun z => by cases z), fun hg H' d e x => ?_⟩
    obtain ⟨dd, rfl, hd⟩ := x
    refine ⟨false, W.x_NothingToUndo_InvalidCommand, (fun z => nomatch z), fun _ => ⟨false, W.x_NothingToUndo_InvalidStep, (fun z => nomatch z), fun _ => ⟨true, W.x_NothingToUndo_NothingToUndo, fun _ a ha => ?_, fun z => by cases z⟩⟩⟩
    refine ⟨.ref a, rfl, rfl, rfl, dd, _, .str u, rfl, hd, rfl, by show 2 ≤ sizeLine; decide, fun t ht => ?_⟩
    have et := e.trans (same_new (o := .tup [.str "undo", .str u]) ht)
    exact q _ _ p (Fr.of_same et) (.inl rfl) (by simp only [outG, hg]; exact hC.same et) (by simp only [outG, hg]; exact ⟨t, rfl, upd_same⟩) (fun z => by cases z)
  | re u =>
    refine ⟨fun g' hg H' hS hC' => q H' _ p (frP hS) (.inl rfl) (by simp only [outG, hg]; exact hC') (by simp only [outG, hg]; rfl) (fun z => by cases z), fun hg H' d e x => ?_⟩
    obtain ⟨dd, rfl, hd⟩ := x
    refine ⟨false, W.x_NothingToRedo_InvalidCommand, (fun z => nomatch z), fun _ => ⟨false, W.x_NothingToRedo_InvalidStep, (fun z => nomatch z), fun _ => ⟨false, W.x_NothingToRedo_NothingToUndo, (fun z => nomatch z), fun _ => ⟨true, W.x_NothingToRedo_NothingToRedo, fun _ a ha => ?_, fun z => by cases z⟩⟩⟩⟩
    refine ⟨.ref a, rfl, rfl, rfl, dd, _, .str u, rfl, hd, rfl, by show 2 ≤ sizeLine; decide, fun t ht => ?_⟩
    have et := e.trans (same_new (o := .tup [.str "redo", .str u]) ht)
    exact q _ _ p (Fr.of_same et) (.inl rfl) (by simp only [outG, hg]; exact hC.same et) (by simp only [outG, hg]; exact ⟨t, rfl, upd_same⟩) (fun z => by cases z)
  | qu wd => exact fun H' e => q H' _ p (Fr.of_same e) (.inl rfl) (hC.same e) rfl (fun _ => ⟨e, rfl⟩)
theorem c_l_run (W : Wd w K mg) : Cal P w K mg base CX0 28 "_law_run" (d_l_run.at_ K) (sp_l_run K) := ⟨ok_l_run W, W.g_l_run, W.f_l_run.kp⟩
end
end Tc
namespace Tc
open PySem PySem.Spec PyProof.Rows L2 He He5 Mi
def DueAt (H : Hp) (v : V) : Out → Prop
  | .txt _ => v = .non
  | .undo u => ∃ t, v = .ref t ∧ H t = some (.tup [.str "undo", .str u])
  | .redo u => ∃ t, v = .ref t ∧ H t = some (.tup [.str "redo", .str u])
def partOk (u : Str) (s : Stp) : Bool := decide (u.length ≤ 100) && decide ((stepText s).length ≤ 100)
theorem st_len {s : Stp} (h : s ∈ stepsOf 4) : (stepText s).length ≤ 100 := by
  have hk := st_ok h
  have hsh : shortS (stepText s) = true := by
    unfold stOk at hk
    exact (Bool.and_eq_true_iff.mp hk).1
  unfold shortS at hsh
  exact of_decide_eq_true (Bool.and_eq_true_iff.mp hsh).2
theorem us_len {u : Str} (h : u ∈ users8) : u.length ≤ 100 := by
  have hsh := (us_ok (us89 h)).2
  unfold shortS at hsh
  exact of_decide_eq_true (Bool.and_eq_true_iff.mp hsh).2
section
variable {P : Program} {w : World} {K : PySem.W.Frag} {mg : Str → Option Value} {base : Heap}
def sp_l_command : Sp := fun vs H Q _ => ∃ (v : V) (a : Act) (n : Nat), vs = [v] ∧ ActAt H v a ∧ a.ok n ∧ n ≤ 4 ∧ ∀ H', Same H H' → Q (.str (cmdT a)) H'
abbrev N_l_command : List Str := ["_law_action_here"]
theorem sc_l_command : FnScope N_l_command ["_law_action_here"] d_l_command.scope := ⟨rfl, rfl, rfl, by decide +kernel, rfl, by decide +kernel, by decide +kernel⟩
theorem ok_l_command (W : Wd w K mg) : FnR P w K mg base CX0 2 (d_l_command.at_ K) sp_l_command := by
  refine fnr0 W.f_l_command sc_l_command (fun vs H Q E h => ?_) (fun _ _ _ _ _ _ us hl => match us, hl with | [_], _ => rfl) (fun cdv A outer s H vs Q E hr h => ?_)
  · obtain ⟨v, a, n, rfl, ha, hok, hn, q⟩ := h
    rfl
  · obtain ⟨v, a, n, rfl, ha, hok, hn, q⟩ := h
    refine ⟨_, (pss_one (ps_ret (pe_op op_add_str (pe_op op_add_str (pe_op op_add_str (pe_ix (show IxR _ (rIxT K) from ix_tup) (pv 0) pe_int (fun _ _ => rfl)) pe_str) (pe_ix (show IxR _ (rIxT K) from ix_tup) (pv 0) pe_int (fun _ _ => rfl))) (pe_ifExp (pt_cmpR op_eq (pe_ix (show IxR _ (rIxT K) from ix_tup) (pv 0) pe_int (fun _ _ => rfl)) pe_str (nomark _)) (pe_op op_add_str pe_str (pe_c (c_l_word W) (hr.mono (by omega)) pass0 (pa_cons (pe_ix (show IxR _ (rIxT K) from ix_tup) (pv 0) pe_int (fun _ _ => rfl)) pa_nil))) pe_str)))), ?_⟩
    have hz : ∀ (x y : Str) (k : Nat), x.length ≤ k → y.length ≤ 200 → k ≤ 500 → x.length + y.length ≤ sizeLine := fun x y k h1 h2 h3 => Nat.le_of_lt (small1k (by omega))
    cases a with
    | mv u s =>
      obtain ⟨t, st, rfl, ht, hst⟩ := ha
      have hu := us_len hok.1
      have hs := st_len (st4_ok hok.2 hn)
      refine ⟨.ref t, rfl, t, _, 0, _, rfl, rfl, SqT.of ht, rfl, _, _, rfl, rfl, by decide +kernel, .ref t, rfl, t, _, 1, _, rfl, rfl, SqT.of ht, rfl, _, _, rfl, rfl, ?_, ?_⟩
      · rw [Str.length_append]
        exact Nat.le_of_lt (small1k (by show 4 + 1 + _ ≤ _; omega))
      refine ⟨.ref t, rfl, t, _, 0, _, rfl, rfl, SqT.of ht, rfl, rfl, _, rfl, iteP (by decide +kernel) ⟨.ref t, rfl, t, _, 2, _, rfl, rfl, SqT.of ht, rfl, st, s, rfl, hst, st4_ok hok.2 hn, fun H1 e1 => ⟨_, _, rfl, rfl, ?_, _, _, rfl, rfl, ?_, q H1 e1⟩⟩⟩
      · exact Nat.le_of_lt (small1k (by show 1 + _ ≤ _; omega))
      · rw [Str.length_append, Str.length_append, Str.length_append]
        exact Nat.le_of_lt (small1k (by show 4 + 1 + _ + (1 + _) ≤ _; omega))
    | un u =>
      obtain ⟨t, rfl, ht⟩ := ha
      have hu := us_len hok
      refine ⟨.ref t, rfl, t, _, 0, _, rfl, rfl, SqT.of ht, rfl, _, _, rfl, rfl, by decide +kernel, .ref t, rfl, t, _, 1, _, rfl, rfl, SqT.of ht, rfl, _, _, rfl, rfl, ?_, ?_⟩
      · rw [Str.length_append]
        exact Nat.le_of_lt (small1k (by show 4 + 1 + _ ≤ _; omega))
      refine ⟨.ref t, rfl, t, _, 0, _, rfl, rfl, SqT.of ht, rfl, rfl, _, rfl, iteN (by decide +kernel) ⟨_, _, rfl, rfl, ?_, q H (Same.refl _)⟩⟩
      rw [Str.length_append, Str.length_append]
      exact Nat.le_of_lt (small1k (by show 4 + 1 + _ + 0 ≤ _; omega))
    | re u =>
      obtain ⟨t, rfl, ht⟩ := ha
      have hu := us_len hok
      refine ⟨.ref t, rfl, t, _, 0, _, rfl, rfl, SqT.of ht, rfl, _, _, rfl, rfl, by decide +kernel, .ref t, rfl, t, _, 1, _, rfl, rfl, SqT.of ht, rfl, _, _, rfl, rfl, ?_, ?_⟩
      · rw [Str.length_append]
        exact Nat.le_of_lt (small1k (by show 4 + 1 + _ ≤ _; omega))
      refine ⟨.ref t, rfl, t, _, 0, _, rfl, rfl, SqT.of ht, rfl, rfl, _, rfl, iteN (by decide +kernel) ⟨_, _, rfl, rfl, ?_, q H (Same.refl _)⟩⟩
      rw [Str.length_append, Str.length_append]
      exact Nat.le_of_lt (small1k (by show 4 + 1 + _ + 0 ≤ _; omega))
theorem c_l_command (W : Wd w K mg) : Cal P w K mg base CX0 2 "_law_command" (d_l_command.at_ K) sp_l_command := ⟨ok_l_command W, W.g_l_command, W.f_l_command.kp⟩
def sp_l_expected : Sp := fun vs H Q _ => ∃ (m wt : Addr) (v : V) (a : Act) (g : Gs) (Z : List Addr) (n : Nat), vs = [.ref m, v] ∧ ModAt Z H m wt g ∧ m ∈ Z ∧ wt ∈ Z ∧ ZOk Z H ∧ g.Ok n ∧ n ≤ 900 ∧ ActAt H v a ∧ a.ok g.first.length ∧
  ∀ H' v', Fr [m, wt] H H' → ModAt Z H' m wt (outG g a.ln).2 → DueAt H' v' (outG g a.ln).1 → Q v' H'
abbrev N_l_expected : List Str := ["_law_model", "_law_action_here"]
theorem sc_l_expected : FnScope N_l_expected ["_law_model", "_law_action_here"] d_l_expected.scope := ⟨rfl, rfl, rfl, by decide +kernel, rfl, by decide +kernel, by decide +kernel⟩
theorem ok_l_expected (W : Wd w K mg) : FnR P w K mg base CX0 3 (d_l_expected.at_ K) sp_l_expected := by
  refine fnr0 W.f_l_expected sc_l_expected (fun vs H Q E h => ?_) (fun _ _ _ _ _ _ us hl => match us, hl with | [_, _], _ => rfl) (fun cdv A outer s H vs Q E hr h => ?_)
  · obtain ⟨m, wt, v, a, g, Z, n, rfl, hM, hmZ, hwZ, hZ, hO, hn, ha, hok, q⟩ := h
    rfl
  · obtain ⟨m, wt, v, a, g, Z, n, rfl, hM, hmZ, hwZ, hZ, hO, hn, ha, hok, q⟩ := h
    refine ⟨_, (pss_cons (ps_if (pt_cmpR op_eq (pe_ix (show IxR _ (rIxT K) from ix_tup) (pv 1) pe_int (fun _ _ => rfl)) pe_str (nomark _)) (pss_cons (ps_expr (pe_c (c_l_play W) (hr.mono (by omega)) pass0 (pa_cons (pv 0) (pa_cons (pe_ix (show IxR _ (rIxT K) from ix_tup) (pv 1) pe_int (fun _ _ => rfl)) (pa_cons (pe_ix (show IxR _ (rIxT K) from ix_tup) (pv 1) pe_int (fun _ _ => rfl)) pa_nil)))))
      (pss_one (ps_ret pe_non))) pss_nil)
      (pss_one (ps_ret (pe_ifExp (pt_cmpR op_eq (pe_ix (show IxR _ (rIxT K) from ix_tup) (pv 1) pe_int (fun _ _ => rfl)) pe_str (nomark _)) (pe_c (c_l_back W) (hr.mono (by omega)) pass0 (pa_cons (pv 0) (pa_cons (pe_ix (show IxR _ (rIxT K) from ix_tup) (pv 1) pe_int (fun _ _ => rfl)) pa_nil))) (pe_c (c_l_again W) (hr.mono (by omega)) pass0 (pa_cons (pv 0) (pa_cons (pe_ix (show IxR _ (rIxT K) from ix_tup) (pv 1) pe_int (fun _ _ => rfl)) pa_nil))))))), ?_⟩
    cases a with
    | mv u s =>
      obtain ⟨t, st, rfl, ht, hst⟩ := ha
      refine ⟨.ref t, rfl, t, _, 0, _, rfl, rfl, SqT.of ht, rfl, rfl, _, rfl, iteP (by decide +kernel) ?_⟩
      exact ⟨.ref m, rfl, .ref t, rfl, t, _, 1, _, rfl, rfl, SqT.of ht, rfl, .ref t, rfl, t, _, 2, _, rfl, rfl, SqT.of ht, rfl, m, wt, u, st, s, g, Z, n, rfl, hM, hmZ, hwZ, hZ, hO, hn, hst, fun H' f hM' => q H' _ f hM' rfl⟩
    | un u =>
      obtain ⟨t, rfl, ht⟩ := ha
      refine ⟨.ref t, rfl, t, _, 0, _, rfl, rfl, SqT.of ht, rfl, rfl, _, rfl, iteN (by decide +kernel) ?_⟩
      refine ⟨.ref t, rfl, t, _, 0, _, rfl, rfl, SqT.of ht, rfl, rfl, _, rfl, iteP (by decide +kernel) ?_⟩
      refine ⟨.ref m, rfl, .ref t, rfl, t, _, 1, _, rfl, rfl, SqT.of ht, rfl, m, wt, u, g, Z, n, rfl, hM, hmZ, hwZ, hZ, hO, hn, fun g' hg H' f hM' => ?_, fun hg H' t' e ht' => ?_⟩
      · refine q H' _ f ?_ ?_ <;> simp only [outG, Act.ln, hg]
        · exact hM'
        · rfl
      · refine q H' _ (Fr.of_same e) ?_ ?_ <;> simp only [outG, Act.ln, hg]
        · exact hM.same e
        · exact ⟨t', rfl, ht'⟩
    | re u =>
      obtain ⟨t, rfl, ht⟩ := ha
      refine ⟨.ref t, rfl, t, _, 0, _, rfl, rfl, SqT.of ht, rfl, rfl, _, rfl, iteN (by decide +kernel) ?_⟩
      refine ⟨.ref t, rfl, t, _, 0, _, rfl, rfl, SqT.of ht, rfl, rfl, _, rfl, iteN (by decide +kernel) ?_⟩
      refine ⟨.ref m, rfl, .ref t, rfl, t, _, 1, _, rfl, rfl, SqT.of ht, rfl, m, wt, u, g, Z, n, rfl, hM, hmZ, hwZ, hZ, hO, hn, fun g' hg H' f hM' => ?_, fun hg H' t' e ht' => ?_⟩
      · refine q H' _ f ?_ ?_ <;> simp only [outG, Act.ln, hg]
        · exact hM'
        · rfl
      · refine q H' _ (Fr.of_same e) ?_ ?_ <;> simp only [outG, Act.ln, hg]
        · exact hM.same e
        · exact ⟨t', rfl, ht'⟩
theorem c_l_expected (W : Wd w K mg) : Cal P w K mg base CX0 3 "_law_expected" (d_l_expected.at_ K) sp_l_expected := ⟨ok_l_expected W, W.g_l_expected, W.f_l_expected.kp⟩
end
end Tc
namespace Tc
open PySem PySem.Spec PyProof.Rows L2 He He5 Mi
theorem q_row (r : Mi.Row) : qText "row" r = rowText r := by
  unfold qText
  rw [if_pos rfl]
theorem q_hint (r : Mi.Row) : qText "hint" r = (match hint r with
    | none => "."
    | some s => stepText s) := by
  unfold qText
  rw [if_neg (by decide +kernel), if_pos rfl]
  all_goals (cases hint r <;> rfl)
theorem q_rem (r : Mi.Row) : qText "remaining" r = tI (fewest r) := by
  unfold qText
  rw [if_neg (by decide +kernel), if_neg (by decide +kernel), if_pos rfl]
theorem q_dis (r : Mi.Row) : qText "disorders" r = tI (dis r) := by
  unfold qText
  rw [if_neg (by decide +kernel), if_neg (by decide +kernel), if_neg (by decide +kernel), if_pos rfl]
theorem q_ord (r : Mi.Row) : qText "order" r = tI (ord r) := by
  unfold qText
  rw [if_neg (by decide +kernel), if_neg (by decide +kernel), if_neg (by decide +kernel), if_neg (by decide +kernel), if_pos rfl]
theorem q_words (r : Mi.Row) : qText "words" r = tI (words r) := by
  unfold qText
  rw [if_neg (by decide +kernel), if_neg (by decide +kernel), if_neg (by decide +kernel), if_neg (by decide +kernel), if_neg (by decide +kernel)]
theorem dp_strs {K : PySem.W.Frag} {H : Hp} : ∀ ys : List Str, DpAll K H (ys.map V.str) (ys.map PyData.str)
  | [] => .nil
  | y :: ys => .cons (.str y) (dp_strs ys)
theorem lay_strs : ∀ ys : List Str, (∀ y ∈ ys, PyData.strOk y = true) → PyData.canLayAll0 (ys.map PyData.str) = true
  | [], _ => by simp only [List.map_nil, PyData.canLayAll0]
  | y :: ys, h => by simp only [List.map_cons, PyData.canLayAll0, PyData.canLay0, h y (List.mem_cons_self ..), lay_strs ys fun z hz => h z (List.mem_cons_of_mem _ hz), Bool.and_self]
theorem dep_strs : ∀ ys : List Str, PyData.depthAll (ys.map PyData.str) = 0
  | [] => by simp only [List.map_nil, PyData.depthAll]
  | y :: ys => by simp only [List.map_cons, PyData.depthAll, PyData.depth, dep_strs ys, Nat.max_self]
theorem sh_strs {ys : List Str} (h : ∀ y ∈ ys, PyData.strOk y = true) : SeqAt.shaped (.list (ys.map PyData.str)) = true := by
  unfold SeqAt.shaped
  simp only [PyData.canLay0, PyData.depth, lay_strs ys h, dep_strs, Bool.true_and]
  decide
theorem eqv_strs : ∀ ys : List Str, PyData.eqvAll (ys.map PyData.str) (ys.map PyData.str) = true
  | [] => by simp [PyData.eqvAll]
  | y :: ys => by simp [PyData.eqvAll, PyData.eqv, eqv_strs ys]
def sokOk (r : Mi.Row) : Bool := PyData.strOk (rowText r) && PyData.strOk (tI (fewest r)) && PyData.strOk (tI (dis r))
theorem chk_sok : (allRows.all sokOk) = true := by decide +kernel
section
variable {P : Program} {w : World} {K : PySem.W.Frag} {mg : Str → Option Value} {base : Heap}
def sp_l_check_all (K : PySem.W.Frag) : Sp := fun vs H Q _ => ∃ (c p t kn : Addr) (g : Gs) (Z : List Addr) (n : Nat), vs = [.ref c, .ref t, .ref kn] ∧ ConP K Z H c p g ∧ ZOk Z H ∧ g.Ok n ∧ n ≤ 900 ∧ H t = some (.tup (g.cur.map V.int)) ∧ KnAt kn H ∧ ∀ H', Sx kn H H' → KnAt kn H' → Q (.bl true) H'
abbrev N_l_check_all : List Str := ["_law_console", "_law_cards_here", "_law_known", "_law_due", "_law_best_here", "_law_word_here", "_law_card"]
theorem sc_l_check_all : FnScope N_l_check_all ["_law_console", "_law_cards_here", "_law_known"] d_l_check_all.scope := ⟨rfl, rfl, rfl, by decide +kernel, rfl, by decide +kernel, by decide +kernel⟩
theorem ok_l_check_all (W : Wd w K mg) : FnR P w K mg base CX0 32 (d_l_check_all.at_ K) (sp_l_check_all K) := by
  refine fnr0 W.f_l_check_all sc_l_check_all (fun vs H Q E h => ?_) (fun _ _ _ _ _ _ us hl => match us, hl with | [_, _, _], _ => rfl) (fun cdv A outer s H vs Q E hr h => ?_)
  · obtain ⟨c, p, t, kn, g, Z, n, rfl, hC, hZ, hO, hn, ht, hkn, q⟩ := h
    rfl
  · obtain ⟨c, p, t, kn, g, Z, n, rfl, hC, hZ, hO, hn, ht, hkn, q⟩ := h
    refine ⟨_, (pss_cons (ps_set (i := 3) sc_l_check_all.nd rfl (by first | exact Or.inl rfl | exact Or.inr rfl) (pe_lst (pa_cons (pe_join pe_str (pe_lc (own := [("_law_card", 6)]) (g := gName 6) rfl sc_l_check_all.nd (pi_tup (pv 1)) (blkOk_by (own := [("_law_card", 6)]) (N := N_l_check_all) (sc := d_l_check_all.scope) (by decide +kernel)) (fun _ _ _ _ _ => (pg_name (i := 6) sc_l_check_all.nd rfl (by first | exact Or.inl rfl | exact Or.inr rfl))) (fun _ _ _ _ _ => pts_nil) (fun _ _ _ _ _ => (pe_callTy call_str_int (by rfl) W.z_str boot_str (pa_cons (pv 6) pa_nil))))) (pa_cons (pe_callTy call_str_int (by rfl) W.z_str boot_str (pa_cons (pe_c (c_l_fewest W) (hr.mono (by omega)) pass0 (pa_cons (pv 1) pa_nil)) pa_nil)) (pa_cons (pe_callTy call_str_int (by rfl) W.z_str boot_str (pa_cons (pe_c (c_l_disorders W) (hr.mono (by omega)) pass0 (pa_cons (pv 1) pa_nil)) pa_nil)) pa_nil)))))
      (pss_cons (ps_if (pt_cmpR (op_neD hr.units) (pe_lc (own := [("_law_word_here", 5)]) (g := gName 5) rfl sc_l_check_all.nd (pi_list (pe_lst (pa_cons pe_str (pa_cons pe_str (pa_cons pe_str pa_nil))))) (blkOk_by (own := [("_law_word_here", 5)]) (N := N_l_check_all) (sc := d_l_check_all.scope) (by decide +kernel)) (fun _ _ _ _ _ => (pg_name (i := 5) sc_l_check_all.nd rfl (by first | exact Or.inl rfl | exact Or.inr rfl))) (fun _ _ _ _ _ => pts_nil) (fun _ _ _ _ _ => (pe_methR (pv 0) W.c_Console W.m_Console_run (ok_Console_run W) (hr.mono (by omega)) L2.passL (pa_cons (pv 5) pa_nil)))) (pv 3) (nomark _)) (pss_one (ps_ret pe_bl)) pss_nil)
      (pss_cons (ps_set (i := 4) sc_l_check_all.nd rfl (by first | exact Or.inl rfl | exact Or.inr rfl) (pe_c (c_l_best W) (hr.mono (by omega)) pass0 (pa_cons (pv 1) pa_nil)))
      (Evl.pss_cut (ps_if (pt_cmpR op_ne (pe_methR (pv 0) W.c_Console W.m_Console_run (ok_Console_run W) (hr.mono (by omega)) L2.passL (pa_cons pe_str pa_nil)) (pe_ifExp (pt_cmpR (op_neD hr.units) (pv 4) (pe_lst pa_nil) (nomark _)) (pe_c (c_l_word W) (hr.mono (by omega)) pass0 (pa_cons (pe_ix (show IxR _ (rIxL K) from ix_list) (pv 4) pe_int (fun _ _ => rfl)) pa_nil)) pe_str) (nomark _)) (pss_one (ps_ret pe_bl)) pss_nil)
      (pss_cons (ps_if (pt_cmpR op_ne (pe_methR (pv 0) W.c_Console W.m_Console_run (ok_Console_run W) (hr.mono (by omega)) L2.passL (pa_cons pe_str pa_nil)) (pe_callTy call_str_int (by rfl) W.z_str boot_str (pa_cons (pe_c (c_l_period W) (hr.mono (by omega)) pass0 (pa_cons (pv 1) pa_nil)) pa_nil)) (nomark _)) (pss_one (ps_ret pe_bl)) pss_nil)
      (pss_one (ps_ret (pe_cmpR op_eq (pe_c (c_l_run W) (hr.mono (by omega)) pass0 (pa_cons (pv 0) (pa_cons pe_str pa_nil))) (pe_ifExp (pt_cmpR op_lt (pe_callB call_len_seq (by rfl) W.z_len PySem.boot_len (pa_cons (pv 1) pa_nil)) pe_int (nomark _)) (pe_callTy call_str_int (by rfl) W.z_str boot_str (pa_cons (pe_c (⟨ok_l_words W 17, W.g_l_words, W.f_l_words.kp⟩ : Cal P w K mg base CX0 19 "_law_words" (d_l_words.at_ K) (sp_l_words K 17)) (hr.mono (by omega)) pass0 (pa_cons (pv 1) (pa_cons (pv 2) pa_nil))) pa_nil)) (pe_tup (pa_cons pe_str (pa_cons pe_int pa_nil)))) (nomark _))))))))), ?_⟩
    have hr1 := hO.cur.1
    have hV := vrB_Vr hr1
    have hab := vr_abs hV
    have h4 := hV.most
    have hnum := num_ok hr1
    simp only [numOk, Bool.and_eq_true, decide_eq_true_eq] at hnum
    have hfew := few_eq hr1
    obtain ⟨cdx, hc⟩ := hC.at_
    refine ⟨⟨_, rfl⟩, .ref t, rfl, t, rfl, ⟨_, SqT.of ht⟩, fun D hD => lc_enc (wt (xs := g.cur)) (Ex := fun c x _ => x = V.int c) (fun _ => true) (fun c => V.str (tI c)) rfl yat (fun H' e => SqT.of (e _ _ ht)) (vr_len hV) hD (fun y x H2 Yc Nn hy hS hE h1 h2 => ?_) fun H1 e1 hD1 => ?_⟩
    · subst hE
      exact ⟨rfl, .int y, rfl, y, rfl, log_ok (by have := hab y hy; omega), h1 _ (Same.refl _) rfl⟩
    rw [List.filter_eq_self.mpr (fun _ _ => rfl), ← show (g.cur.map tI).map V.str = g.cur.map (fun c => V.str (tI c)) by rw [List.map_map]; rfl] at hD1
    have hsz : ((g.cur.map tI).map (·.length)).sum + (g.cur.map tI).length * (" " : Str).length ≤ 16777216 := by
      have := sum_len g.cur hab
      rw [List.length_map]
      show _ + _ * 1 ≤ _
      omega
    refine ⟨_, D, g.cur.map tI, rfl, rfl, .inl (SqL.of hD1), hsz, .ref t, rfl, t, g.cur, rfl, e1 _ _ ht, hV, fun H2 e2 => ⟨_, rfl, log_ok (by rw [← hfew]; exact hnum.1), ?_⟩⟩
    refine ⟨.ref t, rfl, t, g.cur, rfl, e2 _ _ (e1 _ _ ht), hV, fun H3 e3 => ⟨_, rfl, log_ok hnum.2, by show 3 ≤ sizeLine; decide, fun L hL => ?_⟩⟩
    have e13 := (e1.trans e2).trans e3
    have e4 := e13.trans (same_new (o := .lst ([rowText g.cur, tI (fewest g.cur), tI (dis g.cur)].map V.str)) hL)
    have hL4 := upd_same (H := H3) (a := L) (o := .lst ([rowText g.cur, tI (fewest g.cur), tI (dis g.cur)].map V.str))
    rw [show (HO.lst [V.str (Txt.join " " (g.cur.map tI)), V.str (Str.ofString (toString (lfewest g.cur))), V.str (Str.ofString (toString (dis g.cur)))] : HO) = .lst ([rowText g.cur, tI (fewest g.cur), tI (dis g.cur)].map V.str) by rw [hfew]; rfl]
    generalize upd H3 L (.lst ([rowText g.cur, tI (fewest g.cur), tI (dis g.cur)].map V.str)) = H4 at *
    refine ⟨by show 3 ≤ sizeLine; decide, fun L2 hL2 => ?_⟩
    have e5 := same_new (o := .lst ((["row", "remaining", "disorders"] : List Str).map V.str)) hL2
    have hL25 := upd_same (H := H4) (a := L2) (o := .lst ((["row", "remaining", "disorders"] : List Str).map V.str))
    refine ⟨L2, rfl, ⟨_, SqL.of hL25⟩, fun D2 hD2 => lc_enc (wl (xs := (["row", "remaining", "disorders"] : List Str)) (enc := V.str)) (Ex := fun y x _ => x = V.str y) (fun _ => true) (fun y => V.str (qText y g.cur)) rfl yat (fun H' e => SqL.of (e _ _ hL25)) (by simp) hD2 (fun y x H5 Yc Nn hy hS hE m1 m2 => ?_) fun H5 e6 hD5 => ?_⟩
    · subst hE
      have e05 := (e4.trans e5).trans hS
      have hyq : y ∈ qWords := by
        simp only [List.mem_cons, List.not_mem_nil, or_false] at hy
        rcases hy with rfl | rfl | rfl <;> decide +kernel
      exact ⟨rfl, .ref c, rfl, c, cdx, _, rfl, e05 _ _ hc, rfl, .str y, rfl, c, p, .str y, .qu y, g, Z, n, rfl, ln_qu hyq, hC.same e05, hZ.same e05, hO, hn, fun H' e => m1 _ e rfl⟩
    have e05 := (e4.trans e5).trans e6
    have hD5' : H5 D2 = some (.lst ([rowText g.cur, tI (fewest g.cur), tI (dis g.cur)].map V.str)) := by
      rw [hD5, List.filter_eq_self.mpr (fun _ _ => rfl)]
      show some (HO.lst [V.str (qText "row" g.cur), V.str (qText "remaining" g.cur), V.str (qText "disorders" g.cur)]) = _
      rw [q_row, q_rem, q_dis]
      rfl
    have hL5 := e6 _ _ (e5 _ _ hL4)
    have hsok : ∀ y ∈ [rowText g.cur, tI (fewest g.cur), tI (dis g.cur)], PyData.strOk y = true := by
      have h := List.all_eq_true.mp chk_sok g.cur (vrB_mem hr1)
      simp only [sokOk, Bool.and_eq_true] at h
      intro y hy
      simp only [List.mem_cons, List.not_mem_nil, or_false] at hy
      rcases hy with rfl | rfl | rfl
      · exact h.1.1
      · exact h.1.2
      · exact h.2
    refine ⟨.ref L, rfl, .list ([rowText g.cur, tI (fewest g.cur), tI (dis g.cur)].map PyData.str), .list ([rowText g.cur, tI (fewest g.cur), tI (dis g.cur)].map PyData.str), .lst (SqL.of hD5') (dp_strs _), .lst (SqL.of hL5) (dp_strs _), sh_strs hsok, sh_strs hsok, _, rfl, iteN ?_ ?_⟩
    · rw [show PyData.eqv (.list ([rowText g.cur, tI (fewest g.cur), tI (dis g.cur)].map PyData.str)) (.list ([rowText g.cur, tI (fewest g.cur), tI (dis g.cur)].map PyData.str)) = true from eqv_strs _]
      decide
    refine ⟨.ref t, rfl, t, g.cur, rfl, e05 _ _ ht, hr1, fun H6 b xs ss e7 hb hb6 hA hh => ?_⟩
    have e06 := e05.trans e7
    refine ⟨fun σ H' => σ = [some (.ref c), some (.ref t), some (.ref kn), some (.ref L), some (.ref b), none, none] ∧ Same H H', ?_, ?_⟩
    · refine ⟨.ref c, rfl, c, cdx, _, rfl, e06 _ _ hc, rfl, c, p, .str "hint", .qu "hint", g, Z, n, rfl, ln_qu (by decide +kernel), hC.same e06, hZ.same e06, hO, hn, fun H7 e8 => ?_⟩
      have e07 := e06.trans e8
      refine ⟨.ref b, rfl, Nat.zero_le _, fun l0 hl0 => ?_⟩
      have e9 := e8.trans (same_new (o := .lst []) hl0)
      have hb8 := e9 _ _ hb6
      have hA8 := hA.mono fun v c k => k.same e9
      have e08 := e07.trans (same_new (o := .lst []) hl0)
      have hl08 := upd_same (H := H7) (a := l0) (o := .lst [])
      generalize upd H7 l0 (.lst []) = H8 at *
      refine ⟨.list (ss.map encS), .list [], .lst (SqL.of hb8) (dp_steps hA8), .lst (SqL.of hl08) .nil, sh_steps _, sh_nil, _, rfl, ?_⟩
      rw [eqv_none, q_hint]
      cases ss with
      | nil =>
        have hh : hint g.cur = none := hh.symm
        rw [hh]
        exact iteN (by decide) ⟨rfl, _, rfl, iteN (by simp) ⟨rfl, e08⟩⟩
      | cons s0 ss =>
        have hh : hint g.cur = some s0 := hh.symm
        rw [hh]
        have hx : ∃ x, xs[0]? = some x := by
          have h1 := hA8.1
          cases xs with
          | nil => cases h1
          | cons x xs => exact ⟨x, rfl⟩
        obtain ⟨x, hx⟩ := hx
        exact iteP (by simp) ⟨.ref b, rfl, b, _, 0, x, rfl, rfl, SqL.of hb8, atI_gen (j := 0) rfl hx, x, s0, rfl, hA8.2 0 x s0 hx rfl, hint4 hr1 hh, fun H9 e10 => ⟨rfl, _, rfl, iteN (by simp) ⟨rfl, e08.trans e10⟩⟩⟩
    · rintro σ H8 ⟨rfl, e08⟩
      refine ⟨.ref c, rfl, c, cdx, _, rfl, e08 _ _ hc, rfl, c, p, .str "order", .qu "order", g, Z, n, rfl, ln_qu (by decide +kernel), hC.same e08, hZ.same e08, hO, hn, fun H9 e9 => ?_⟩
      have e09 := e08.trans e9
      refine ⟨.ref t, rfl, t, g.cur, rfl, e09 _ _ ht, hr1, fun H10 e10 => ⟨_, rfl, log_big (by rw [← ord_eq hr1]; exact ord_big hr1), ?_⟩⟩
      rw [← ord_eq hr1, q_ord]
      refine ⟨rfl, _, rfl, iteN (by simp [tI]) ?_⟩
      have e010 := e09.trans e10
      refine ⟨.ref c, rfl, c, p, .str "words", .qu "words", g, Z, n, rfl, ln_qu (by decide +kernel), hC.same e010, hZ.same e010, hO, hn, True.intro, fun H11 v' p' _ _ _ hv hs => ?_⟩
      have e11 := (hs rfl).1
      have hv : v' = .str (qText "words" g.cur) := hv
      rw [hv, q_words]
      have e011 := e010.trans e11
      have hw := words_bound hr1
      have hd := dis_le hr1
      refine ⟨.ref t, rfl, t, _, rfl, .inr (SqT.of (e011 _ _ ht)), _, _, rfl, rfl, _, rfl, iteP (by rw [len_map, decide_eq_true_eq]; omega) ⟨.ref t, rfl, .ref kn, rfl, t, kn, g.cur, rfl, e011 _ _ ht, hr1, hkn.same e011, by omega, fun H12 e12 hk12 => ⟨_, rfl, log_big (by have h5 := hw.1; have h6 := hw.2; omega), ?_⟩⟩⟩
      refine ⟨rfl, ?_⟩
      rw [show decide (V.str (tI (words g.cur)) = V.str (Str.ofString (toString (words g.cur)))) = true from decide_eq_true rfl]
      exact q H12 (fun b' o hb' hne => e12 b' o (e011 _ _ hb') hne) hk12
theorem c_l_check_all (W : Wd w K mg) : Cal P w K mg base CX0 32 "_law_check_all" (d_l_check_all.at_ K) (sp_l_check_all K) := ⟨ok_l_check_all W, W.g_l_check_all, W.f_l_check_all.kp⟩
end
end Tc
namespace Tc
open PySem PySem.Spec PyProof.Rows L2 He He5 Mi
/-! ### the state of the law -/
def set2 {α : Type} (f : Bool → α) (b : Bool) (x : α) : Bool → α := fun b' => if b' = b then x else f b'
theorem set2_same {α : Type} (f : Bool → α) (b : Bool) (x : α) : set2 f b x b = x := if_pos rfl
theorem set2_ne {α : Type} (f : Bool → α) {b b' : Bool} (x : α) (h : b' ≠ b) : set2 f b x b' = f b' := if_neg h
def bI (b : Bool) : Int := if b then 1 else 0
/-- frozen cells stay -/
def Frz (H H' : Hp) : Prop := ∀ b o x, H b = some (.frz o x) → H' b = some (.frz o x)
theorem Frz.refl (H : Hp) : Frz H H := fun _ _ _ h => h
theorem Frz.trans {H H1 H2 : Hp} (a : Frz H H1) (b : Frz H1 H2) : Frz H H2 := fun c o x h => b c o x (a c o x h)
theorem Frz.same {H H' : Hp} (e : Same H H') : Frz H H' := fun _ _ _ h => e _ _ h
/-- cells that may be written -/
def NoFz (H : Hp) (F : List Addr) : Prop := ∀ f ∈ F, ∀ o x, H f ≠ some (.frz o x)
theorem Fr.frz {F : List Addr} {H H' : Hp} (f : Fr F H H') (h : NoFz H F) : Frz H H' := fun b o x hb => f.1 b _ hb fun hm => h b hm o x hb
theorem nofz1 {H : Hp} {a : Addr} {ob : HO} (h : H a = some ob) (hn : ∀ o x, ob ≠ .frz o x) : NoFz H [a] := fun f hf o x e => by
  rw [List.mem_singleton.mp hf, h] at e
  exact hn o x (Option.some.inj e)
theorem nofz2 {H : Hp} {a b : Addr} {ob ob2 : HO} (h : H a = some ob) (hn : ∀ o x, ob ≠ .frz o x) (h2 : H b = some ob2) (hn2 : ∀ o x, ob2 ≠ .frz o x) : NoFz H [a, b] := fun f hf o x e => by
  rcases List.mem_cons.mp hf with z | z
  · rw [z, h] at e
    exact hn o x (Option.some.inj e)
  · rw [List.mem_singleton.mp z, h2] at e
    exact hn2 o x (Option.some.inj e)
theorem ConP.fr {K : PySem.W.Frag} {Z F : List Addr} {H H' : Hp} {c p : Addr} {g : Gs} (h : ConP K Z H c p g) (e : Fr F H H') (hF : ∀ f ∈ F, f ∈ Z ∨ ∃ C dx fs, H f = some (.ins C dx fs)) (hc : c ∉ F) (hp : p ∉ F) : ConP K Z H' c p g :=
  ⟨let ⟨dx, h1⟩ := h.at_; ⟨dx, e.1 _ _ h1 hc⟩, h.cz, h.game.fr e hF hp⟩
theorem UdAt.addZ {Z : List Addr} {H : Hp} {z : Addr} (hz : H z = none) {kv : L2.Key × V} {x : Str × List Stp} (h : UdAt Z H kv x) : UdAt (z :: Z) H kv x := by
  obtain ⟨h1, l, xs, h2, h3, h4, h5⟩ := h
  refine ⟨h1, l, xs, h2, fun hm => ?_, h4, h5⟩
  rcases List.mem_cons.mp hm with e | e
  · rw [e, hz] at h4
    cases h4
  · exact h3 e
theorem nin {Z : List Addr} {H : Hp} {z a : Addr} {o : HO} (hz : H z = none) (ha : H a = some o) (h : a ∉ Z) : a ∉ z :: Z := fun hm => by
  rcases List.mem_cons.mp hm with e | e
  · rw [e, hz] at ha
    cases ha
  · exact h e
theorem ConP.addZ {K : PySem.W.Frag} {Z : List Addr} {H : Hp} {z c p : Addr} {g : Gs} (hz : H z = none) (h : ConP K Z H c p g) : ConP K (z :: Z) H c p g := by
  obtain ⟨dx, h1⟩ := h.at_
  obtain ⟨gx, ft, ct, pl, ud, ps, kvs, G⟩ := h.game
  exact ⟨⟨dx, h1⟩, nin hz h1 h.cz, gx, ft, ct, pl, ud, ps, kvs, nin hz G.hp G.pz, G.hp, G.hf, G.hc, nin hz G.hl G.lz, G.hl, G.al, nin hz G.hu G.uz, G.hu, G.au.mono fun v c k => k.addZ hz⟩
theorem ModAt.addZ {Z : List Addr} {H : Hp} {z m w : Addr} {g : Gs} (hz : H z = none) (h : ModAt Z H m w g) : ModAt (z :: Z) H m w g := by
  obtain ⟨t, l, ps, kvs, M⟩ := h
  exact ⟨t, l, ps, kvs, M.hm, M.ht, nin hz M.hl M.lz, M.hl, M.al, M.hw, M.au.mono fun v c k => k.addZ hz, M.mw⟩
/-- two consoles and their models -/
structure St2 (K : PySem.W.Frag) (H : Hp) (cl ml kn : Addr) (Z : List Addr) (c p m w : Bool → Addr) (gc gm : Bool → Gs) (n : Nat) : Prop where
  hcl : H cl = some (.lst [.ref (c false), .ref (c true)])
  hml : H ml = some (.lst [.ref (m false), .ref (m true)])
  con : ∀ b, ConP K Z H (c b) (p b) (gc b)
  mod : ∀ b, ModAt Z H (m b) (w b) (gm b)
  okc : ∀ b, (gc b).Ok n
  okm : ∀ b, (gm b).Ok n
  zk : ZOk Z H
  cz : cl ∉ Z
  mz : ml ∈ Z
  kz : kn ∈ Z
  mmz : ∀ b, m b ∈ Z
  wz : ∀ b, w b ∈ Z
  cne : c false ≠ c true
  pne : p false ≠ p true
  mne : m false ≠ m true
  wne : w false ≠ w true
  mw : ∀ b b', m b ≠ w b'
  kn : KnAt kn H
section
variable {K : PySem.W.Frag} {H H' : Hp} {cl ml kn : Addr} {Z : List Addr} {c p m w : Bool → Addr} {gc gm : Bool → Gs} {n : Nat}
theorem St2.cneb (S : St2 K H cl ml kn Z c p m w gc gm n) {b b' : Bool} (h : b' ≠ b) : c b' ≠ c b := by
  cases b <;> cases b'
  · exact absurd rfl h
  · exact S.cne.symm
  · exact S.cne
  · exact absurd rfl h
theorem St2.pneb (S : St2 K H cl ml kn Z c p m w gc gm n) {b b' : Bool} (h : b' ≠ b) : p b' ≠ p b := by
  cases b <;> cases b'
  · exact absurd rfl h
  · exact S.pne.symm
  · exact S.pne
  · exact absurd rfl h
theorem St2.mneb (S : St2 K H cl ml kn Z c p m w gc gm n) {b b' : Bool} (h : b' ≠ b) : m b' ≠ m b := by
  cases b <;> cases b'
  · exact absurd rfl h
  · exact S.mne.symm
  · exact S.mne
  · exact absurd rfl h
theorem St2.wneb (S : St2 K H cl ml kn Z c p m w gc gm n) {b b' : Bool} (h : b' ≠ b) : w b' ≠ w b := by
  cases b <;> cases b'
  · exact absurd rfl h
  · exact S.wne.symm
  · exact S.wne
  · exact absurd rfl h
theorem St2.cp (S : St2 K H cl ml kn Z c p m w gc gm n) (b b' : Bool) : c b ≠ p b' := fun e => by
  obtain ⟨dx, h1⟩ := (S.con b).at_
  obtain ⟨_, _, _, _, _, _, _, G⟩ := (S.con b').game
  have h2 := G.hp
  rw [← e, h1] at h2
  injection (Option.some.inj h2) with _ _ h3
  have := congrArg List.length h3
  cases this
theorem St2.cins (S : St2 K H cl ml kn Z c p m w gc gm n) (b : Bool) : ∃ C dx fs, H (c b) = some (.ins C dx fs) := let ⟨dx, h1⟩ := (S.con b).at_; ⟨_, dx, _, h1⟩
theorem St2.pins (S : St2 K H cl ml kn Z c p m w gc gm n) (b : Bool) : ∃ C dx fs, H (p b) = some (.ins C dx fs) := let ⟨dx, _, _, _, _, _, _, G⟩ := (S.con b).game; ⟨_, dx, _, G.hp⟩
theorem St2.mdk (S : St2 K H cl ml kn Z c p m w gc gm n) (b : Bool) : ∃ kvs, H (m b) = some (.dK kvs) := let ⟨_, _, _, _, M⟩ := S.mod b; ⟨_, M.hm⟩
theorem St2.wdk (S : St2 K H cl ml kn Z c p m w gc gm n) (b : Bool) : ∃ kvs, H (w b) = some (.dK kvs) := let ⟨_, _, _, _, M⟩ := S.mod b; ⟨_, M.hw⟩
theorem ins_ne_dk {a b C dx : Addr} {fs : List (Str × V)} {kvs : List (L2.Key × V)} (h : H a = some (.ins C dx fs)) (k : H b = some (.dK kvs)) : a ≠ b := fun e => by
  rw [e, k] at h
  cases h
theorem ins_ne_lst {a b C dx : Addr} {fs : List (Str × V)} {xs : List V} (h : H a = some (.ins C dx fs)) (k : H b = some (.lst xs)) : a ≠ b := fun e => by
  rw [e, k] at h
  cases h
theorem dk_ne_lst {a b : Addr} {kvs : List (L2.Key × V)} {xs : List V} (h : H a = some (.dK kvs)) (k : H b = some (.lst xs)) : a ≠ b := fun e => by
  rw [e, k] at h
  cases h
theorem St2.mono (S : St2 K H cl ml kn Z c p m w gc gm n) {n' : Nat} (h : n ≤ n') : St2 K H cl ml kn Z c p m w gc gm n' := { S with okc := fun b => (S.okc b).mono h, okm := fun b => (S.okm b).mono h }
/-- a frame that touches none of the parts -/
theorem St2.fr (S : St2 K H cl ml kn Z c p m w gc gm n) {F : List Addr} (e : Fr F H H') (hF : ∀ f ∈ F, f ∈ Z ∨ ∃ C dx fs, H f = some (.ins C dx fs)) (h0 : cl ∉ F) (h1 : ml ∉ F) (h2 : ∀ b, c b ∉ F) (h3 : ∀ b, p b ∉ F) (h4 : ∀ b, m b ∉ F) (h5 : ∀ b, w b ∉ F)
    (hz : ZOk Z H') (hk : KnAt kn H') : St2 K H' cl ml kn Z c p m w gc gm n :=
  { S with hcl := e.1 _ _ S.hcl h0, hml := e.1 _ _ S.hml h1, con := fun b => (S.con b).fr e hF (h2 b) (h3 b), mod := fun b => (S.mod b).fr e hF (h4 b) (h5 b), zk := hz, kn := hk }
theorem St2.same (S : St2 K H cl ml kn Z c p m w gc gm n) (e : Same H H') : St2 K H' cl ml kn Z c p m w gc gm n :=
  S.fr (F := []) (Fr.of_same e) (fun f hf => absurd hf List.not_mem_nil) List.not_mem_nil List.not_mem_nil (fun _ => List.not_mem_nil) (fun _ => List.not_mem_nil) (fun _ => List.not_mem_nil) (fun _ => List.not_mem_nil) (S.zk.same e) (S.kn.same e)
theorem St2.addZ (S : St2 K H cl ml kn Z c p m w gc gm n) {z : Addr} (hz : H z = none) {H' : Hp} (e : Same H H') (ho : ∃ o, H' z = some o) : St2 K H' cl ml kn (z :: Z) c p m w gc gm n := by
  have S' := S.same e
  refine { S' with con := fun b => ((S.con b).addZ hz).same e, mod := fun b => ((S.mod b).addZ hz).same e, zk := ?_, cz := nin hz S.hcl S.cz, mz := List.mem_cons_of_mem _ S.mz, kz := List.mem_cons_of_mem _ S.kz, mmz := fun b => List.mem_cons_of_mem _ (S.mmz b), wz := fun b => List.mem_cons_of_mem _ (S.wz b) }
  intro a ha
  rcases List.mem_cons.mp ha with q | q
  · rw [q]
    exact ho
  · exact S'.zk a q
theorem zok_fr {F : List Addr} (hz : ZOk Z H) (e : Fr F H H') (hF : ∀ f ∈ F, ∃ o, H' f = some o) : ZOk Z H' := fun a ha => by
  obtain ⟨o, h⟩ := hz a ha
  by_cases hm : a ∈ F
  · exact hF a hm
  · exact ⟨o, e.1 _ _ h hm⟩
theorem kn_fr {F : List Addr} (hk : KnAt kn H) (e : Fr F H H') (h : kn ∉ F) : KnAt kn H' := by
  obtain ⟨kvs, h1, h2⟩ := hk
  exact ⟨kvs, e.1 _ _ h1 h, h2⟩
/-- after a line for a console -/
theorem St2.conR (S : St2 K H cl ml kn Z c p m w gc gm n) (b : Bool) {p' : Addr} {g' : Gs} (e : Fr [c b, p b] H H') (hp' : p' = p b ∨ H p' = none) (hC : ConP K Z H' (c b) p' g') (ho : g'.Ok n) :
    St2 K H' cl ml kn Z c (set2 p b p') m w (set2 gc b g') gm n := by
  obtain ⟨C1, d1, f1, hc⟩ := S.cins b
  obtain ⟨C2, d2, f2, hp⟩ := S.pins b
  have hF : ∀ f ∈ [c b, p b], f ∈ Z ∨ ∃ C dx fs, H f = some (.ins C dx fs) := fun f hf => by
    rcases List.mem_cons.mp hf with z | z
    · rw [z]
      exact .inr (S.cins b)
    · rw [List.mem_singleton.mp z]
      exact .inr (S.pins b)
  have nl : ∀ {a : Addr} {xs : List V}, H a = some (.lst xs) → a ∉ [c b, p b] := fun {a xs} h hm => by
    rcases List.mem_cons.mp hm with z | z
    · exact ins_ne_lst hc h z.symm
    · exact ins_ne_lst hp h (List.mem_singleton.mp z).symm
  have nd : ∀ {a : Addr} {kvs : List (L2.Key × V)}, H a = some (.dK kvs) → a ∉ [c b, p b] := fun {a xs} h hm => by
    rcases List.mem_cons.mp hm with z | z
    · exact ins_ne_dk hc h z.symm
    · exact ins_ne_dk hp h (List.mem_singleton.mp z).symm
  have hk : kn ∉ [c b, p b] := fun hm => by
    obtain ⟨kvs, h1, _⟩ := S.kn
    rcases List.mem_cons.mp hm with z | z
    · rw [z, hc] at h1
      cases h1
    · rw [List.mem_singleton.mp z, hp] at h1
      cases h1
  have hcon : ∀ b', ConP K Z H' (c b') (set2 p b p' b') (set2 gc b g' b') := fun b' => by
    by_cases hb : b' = b
    · rw [hb, set2_same, set2_same]
      exact hC
    · rw [set2_ne _ _ hb, set2_ne _ _ hb]
      refine (S.con b').fr e hF (fun hm => ?_) fun hm => ?_
      · rcases List.mem_cons.mp hm with z | z
        · exact S.cneb hb z
        · exact S.cp b' b (List.mem_singleton.mp z)
      · rcases List.mem_cons.mp hm with z | z
        · exact S.cp b b' z.symm
        · exact S.pneb hb (List.mem_singleton.mp z)
  have hpn : ∀ b', b' ≠ b → p' ≠ p b' := fun b' hb z => by
    rcases hp' with q | q
    · exact S.pneb hb (z.symm.trans q)
    · obtain ⟨_, _, _, hq⟩ := S.pins b'
      rw [z, hq] at q
      cases q
  refine { S with hcl := e.1 _ _ S.hcl (nl S.hcl), hml := e.1 _ _ S.hml (nl S.hml), con := hcon, mod := fun b' => ?_, okc := fun b' => ?_, zk := fun a ha => ?_, pne := ?_, kn := kn_fr S.kn e hk }
  · obtain ⟨_, h1⟩ := S.mdk b'
    obtain ⟨_, h2⟩ := S.wdk b'
    exact (S.mod b').fr e hF (nd h1) (nd h2)
  · by_cases hb : b' = b
    · rw [hb, set2_same]
      exact ho
    · rw [set2_ne _ _ hb]
      exact S.okc b'
  · obtain ⟨o, h1⟩ := S.zk a ha
    refine ⟨o, e.1 _ _ h1 fun hm => ?_⟩
    rcases List.mem_cons.mp hm with z | z
    · exact (S.con b).cz (by rw [← z]; exact ha)
    · obtain ⟨_, _, _, _, _, _, _, G⟩ := (S.con b).game
      exact G.pz (by rw [← List.mem_singleton.mp z]; exact ha)
  · cases b
    · rw [set2_same, set2_ne _ _ (by decide)]
      exact hpn true (by decide)
    · rw [set2_ne _ _ (by decide), set2_same]
      exact (hpn false (by decide)).symm
/-- after a change of a model -/
theorem St2.modR (S : St2 K H cl ml kn Z c p m w gc gm n) (b : Bool) {g' : Gs} (e : Fr [m b, w b] H H') (hM : ModAt Z H' (m b) (w b) g') (ho : g'.Ok n) : St2 K H' cl ml kn Z c p m w gc (set2 gm b g') n := by
  obtain ⟨k1, hm⟩ := S.mdk b
  obtain ⟨k2, hw⟩ := S.wdk b
  have hF : ∀ f ∈ [m b, w b], f ∈ Z ∨ ∃ C dx fs, H f = some (.ins C dx fs) := fun f hf => by
    rcases List.mem_cons.mp hf with z | z
    · rw [z]
      exact .inl (S.mmz b)
    · rw [List.mem_singleton.mp z]
      exact .inl (S.wz b)
  have nl : ∀ {a : Addr} {xs : List V}, H a = some (.lst xs) → a ∉ [m b, w b] := fun {a xs} h hm' => by
    rcases List.mem_cons.mp hm' with z | z
    · exact dk_ne_lst hm h z.symm
    · exact dk_ne_lst hw h (List.mem_singleton.mp z).symm
  have ni : ∀ {a : Addr}, (∃ C dx fs, H a = some (.ins C dx fs)) → a ∉ [m b, w b] := fun {a} h hm' => by
    obtain ⟨_, _, _, h⟩ := h
    rcases List.mem_cons.mp hm' with z | z
    · exact ins_ne_dk h hm z
    · exact ins_ne_dk h hw (List.mem_singleton.mp z)
  have hk : kn ∉ [m b, w b] := fun hm' => by
    obtain ⟨kvs, h1, _⟩ := S.kn
    rcases List.mem_cons.mp hm' with z | z
    · rw [z, hm] at h1
      cases h1
    · rw [List.mem_singleton.mp z, hw] at h1
      cases h1
  refine { S with hcl := e.1 _ _ S.hcl (nl S.hcl), hml := e.1 _ _ S.hml (nl S.hml), con := fun b' => (S.con b').fr e hF (ni (S.cins b')) (ni (S.pins b')), mod := fun b' => ?_, okm := fun b' => ?_, zk := zok_fr S.zk e fun f hf => ?_, kn := kn_fr S.kn e hk }
  · by_cases hb : b' = b
    · rw [hb, set2_same]
      exact hM
    · rw [set2_ne _ _ hb]
      refine (S.mod b').fr e hF (fun hm' => ?_) fun hm' => ?_
      · rcases List.mem_cons.mp hm' with z | z
        · exact S.mneb hb z
        · exact S.mw b' b (List.mem_singleton.mp z)
      · rcases List.mem_cons.mp hm' with z | z
        · exact S.mw b b' z.symm
        · exact S.wneb hb (List.mem_singleton.mp z)
  · by_cases hb : b' = b
    · rw [hb, set2_same]
      exact ho
    · rw [set2_ne _ _ hb]
      exact S.okm b'
  · obtain ⟨_, _, _, _, M⟩ := hM
    rcases List.mem_cons.mp hf with z | z
    · rw [z]
      exact ⟨_, M.hm⟩
    · rw [List.mem_singleton.mp z]
      exact ⟨_, M.hw⟩
/-- a new model in its place -/
theorem St2.modN (S : St2 K H cl ml kn Z c p m w gc gm n) (b : Bool) {t m' l w' : Addr} {r : Mi.Row} (ht : H t = some (.tup (r.map V.int))) (hr : vrB r = true) (e : Same H H') (n1 : H m' = none) (n2 : H l = none) (n3 : H w' = none) (d1 : m' ≠ l) (d2 : m' ≠ w') (d3 : l ≠ w')
    (hm' : H' m' = some (.dK (mFs t l w'))) (hl : H' l = some (.lst [])) (hw' : H' w' = some (.dK [])) :
    St2 K (upd H' ml (.lst [.ref (set2 m b m' false), .ref (set2 m b m' true)])) cl ml kn (m' :: w' :: Z) c p (set2 m b m') (set2 w b w') gc (set2 gm b ⟨r, [], []⟩) n := by
  have fr : Fr [ml] H' (upd H' ml (.lst [.ref (set2 m b m' false), .ref (set2 m b m' true)])) := Fr.up (e _ _ S.hml) (fun xs h => nomatch h)
  have hF : ∀ f ∈ [ml], f ∈ m' :: w' :: Z ∨ ∃ C dx fs, H' f = some (.ins C dx fs) := fun f hf => by
    rw [List.mem_singleton.mp hf]
    exact .inl (List.mem_cons_of_mem _ (List.mem_cons_of_mem _ S.mz))
  have fr0 : Fr [ml] H (upd H' ml (.lst [.ref (set2 m b m' false), .ref (set2 m b m' true)])) := (Fr.of_same e).trans fr
  have nm : ∀ {a : Addr}, H a = none → a ∉ [ml] := fun {a} h hm => by
    rw [List.mem_singleton.mp hm, S.hml] at h
    cases h
  have ni : ∀ {a : Addr}, (∃ C dx fs, H a = some (.ins C dx fs)) → a ∉ [ml] := fun {a} h hm => by
    obtain ⟨_, _, _, h⟩ := h
    exact ins_ne_lst h S.hml (List.mem_singleton.mp hm)
  have nd : ∀ {a : Addr}, (∃ kvs, H a = some (.dK kvs)) → a ∉ [ml] := fun {a} h hm => by
    obtain ⟨_, h⟩ := h
    exact dk_ne_lst h S.hml (List.mem_singleton.mp hm)
  have hclm : cl ∉ [ml] := fun hm => S.cz (by rw [List.mem_singleton.mp hm]; exact S.mz)
  have hkn : kn ∉ [ml] := fun hm => by
    obtain ⟨kvs, h1, _⟩ := S.kn
    rw [List.mem_singleton.mp hm, S.hml] at h1
    cases h1
  have mneb : ∀ b', m b' ≠ m' := fun b' => let ⟨_, h⟩ := S.mdk b'; ne_of_none h n1
  have wneb : ∀ b', w b' ≠ w' := fun b' => let ⟨_, h⟩ := S.wdk b'; ne_of_none h n3
  have mwb : ∀ b', m b' ≠ w' := fun b' => let ⟨_, h⟩ := S.mdk b'; ne_of_none h n3
  have wmb : ∀ b', w b' ≠ m' := fun b' => let ⟨_, h⟩ := S.wdk b'; ne_of_none h n1
  have hlz : l ∉ m' :: w' :: Z := fun hm => by
    rcases List.mem_cons.mp hm with z | z
    · exact d1 z.symm
    · rcases List.mem_cons.mp z with z | z
      · exact d3 z
      · exact S.zk.new n2 z
  refine ⟨fr0.1 _ _ S.hcl hclm, upd_same, fun b' => ((((S.con b').addZ n3).addZ n1).same e).fr fr hF (ni (S.cins b')) (ni (S.pins b')), fun b' => ?_, S.okc, fun b' => ?_, fun a ha => ?_, nin n1 S.hcl (nin n3 S.hcl S.cz), List.mem_cons_of_mem _ (List.mem_cons_of_mem _ S.mz), List.mem_cons_of_mem _ (List.mem_cons_of_mem _ S.kz), fun b' => ?_, fun b' => ?_, S.cne, S.pne, ?_, ?_, fun b' b'' => ?_, kn_fr S.kn fr0 hkn⟩
  · by_cases hb : b' = b
    · rw [hb, set2_same, set2_same, set2_same]
      exact ⟨t, l, [], [], fr.1 _ _ hm' (nm n1), fr0.2 _ _ ht, hlz, fr.1 _ _ hl (nm n2), Al.nil, fr.1 _ _ hw' (nm n3), Al.nil, d2⟩
    · rw [set2_ne _ _ hb, set2_ne _ _ hb, set2_ne _ _ hb]
      exact ((((S.mod b').addZ n3).addZ n1).same e).fr fr hF (nd (S.mdk b')) (nd (S.wdk b'))
  · by_cases hb : b' = b
    · rw [hb, set2_same]
      exact ⟨hr, fun e he => absurd he List.not_mem_nil, fun e he => absurd he List.not_mem_nil, Nat.zero_le _, fun e he => absurd he List.not_mem_nil, Nat.zero_le _⟩
    · rw [set2_ne _ _ hb]
      exact S.okm b'
  · by_cases hml : a = ml
    · rw [hml]
      exact ⟨_, upd_same⟩
    · rw [upd_ne hml]
      rcases List.mem_cons.mp ha with z | z
      · rw [z]
        exact ⟨_, hm'⟩
      · rcases List.mem_cons.mp z with z | z
        · rw [z]
          exact ⟨_, hw'⟩
        · obtain ⟨o, ho⟩ := S.zk a z
          exact ⟨o, e _ _ ho⟩
  · by_cases hb : b' = b
    · rw [hb, set2_same]
      exact List.mem_cons_self ..
    · rw [set2_ne _ _ hb]
      exact List.mem_cons_of_mem _ (List.mem_cons_of_mem _ (S.mmz b'))
  · by_cases hb : b' = b
    · rw [hb, set2_same]
      exact List.mem_cons_of_mem _ (List.mem_cons_self ..)
    · rw [set2_ne _ _ hb]
      exact List.mem_cons_of_mem _ (List.mem_cons_of_mem _ (S.wz b'))
  · cases b
    · rw [set2_same, set2_ne _ _ (by decide)]
      exact (mneb true).symm
    · rw [set2_same, set2_ne _ _ (by decide)]
      exact mneb false
  · cases b
    · rw [set2_same, set2_ne _ _ (by decide)]
      exact (wneb true).symm
    · rw [set2_same, set2_ne _ _ (by decide)]
      exact wneb false
  · by_cases hb : b' = b
    · rw [hb, set2_same]
      by_cases hb2 : b'' = b
      · rw [hb2, set2_same]
        exact d2
      · rw [set2_ne _ _ hb2]
        exact (wmb b'').symm
    · rw [set2_ne _ _ hb]
      by_cases hb2 : b'' = b
      · rw [hb2, set2_same]
        exact mwb b'
      · rw [set2_ne _ _ hb2]
        exact S.mw b' b''
end
end Tc
namespace Tc
open PySem PySem.Spec PyProof.Rows L2 He He5 Mi
theorem fewest_nn (r : Mi.Row) : 0 ≤ fewest r := by
  have h1 := cycs_len r
  have h2 := List.length_filter_le (fun c : List Nat × Nat => decide (c.2 % 2 = 0)) (cycs r)
  unfold fewest
  omega
theorem play_cur (g : Gs) (u : Str) (s : Stp) : (g.play u s).cur = stp g.cur s := by
  unfold Gs.cur Gs.play curOf
  rw [List.foldl_append]
  rfl
theorem ix2 {α : Type} (f : Bool → α) (b : Bool) : atI [f false, f true] (bI b) = some (f b) := by cases b <;> rfl
theorem ix2n {α : Type} (f : Bool → α) (b : Bool) : atI [f false, f true] (1 - bI b) = some (f (!b)) := by cases b <;> rfl
theorem ixn2 (b : Bool) : ixN 2 (bI b) = some (bI b).toNat := by cases b <;> rfl
theorem set_2 (m : Bool → Addr) (b : Bool) (x : Addr) : ([.ref (m false), .ref (m true)] : List V).set (bI b).toNat (.ref x) = [.ref (set2 m b x false), .ref (set2 m b x true)] := by cases b <;> rfl
section
variable {K : PySem.W.Frag} {H H' : Hp} {cl ml kn : Addr} {Z : List Addr} {c p m w : Bool → Addr} {gc gm : Bool → Gs} {n : Nat}
theorem St2.frzC (S : St2 K H cl ml kn Z c p m w gc gm n) (b : Bool) (e : Fr [c b, p b] H H') : Frz H H' := by
  obtain ⟨_, _, _, h1⟩ := S.cins b
  obtain ⟨_, _, _, h2⟩ := S.pins b
  exact e.frz (nofz2 h1 (fun _ _ h => nomatch h) h2 (fun _ _ h => nomatch h))
theorem St2.frzM (S : St2 K H cl ml kn Z c p m w gc gm n) (b : Bool) (e : Fr [m b, w b] H H') : Frz H H' := by
  obtain ⟨_, h1⟩ := S.mdk b
  obtain ⟨_, h2⟩ := S.wdk b
  exact e.frz (nofz2 h1 (fun _ _ h => nomatch h) h2 (fun _ _ h => nomatch h))
theorem St2.icl (S : St2 K H cl ml kn Z c p m w gc gm n) (b : Bool) : atI [V.ref (c false), V.ref (c true)] (bI b) = some (.ref (c b)) := ix2 (fun b => V.ref (c b)) b
theorem St2.iml (S : St2 K H cl ml kn Z c p m w gc gm n) (b : Bool) : atI [V.ref (m false), V.ref (m true)] (bI b) = some (.ref (m b)) := ix2 (fun b => V.ref (m b)) b
theorem St2.iml' (S : St2 K H cl ml kn Z c p m w gc gm n) (b : Bool) : atI [V.ref (m false), V.ref (m true)] (1 - bI b) = some (.ref (m (!b))) := ix2n (fun b => V.ref (m b)) b
end
def qW6 : List Str := ["row", "remaining", "disorders", "order", "hint", "words"]
theorem qW6_mem {q : Str} (h : q ∈ qW6) : q ∈ qWords := h
section
variable {P : Program} {w : World} {K : PySem.W.Frag} {mg : Str → Option Value} {base : Heap}
def sp_l_check_same (K : PySem.W.Frag) : Sp := fun vs H Q _ => ∃ (cl ml kn : Addr) (Z : List Addr) (c p m wt : Bool → Addr) (g : Bool → Gs) (n : Nat) (b : Bool), vs = [.ref cl, .ref ml, .int (bI b)] ∧ St2 K H cl ml kn Z c p m wt g g n ∧ n ≤ 800 ∧
  ∀ H' Z' p' m' w' g', Frz H H' → St2 K H' cl ml kn Z' c p' m' w' g' g' (n + 10) → Q (.bl true) H'
abbrev N_l_check_same : List Str := ["_law_consoles", "_law_models", "_law_pos", "_law_cards_here", "_law_line", "_law_turn", "_law_word_here"]
theorem sc_l_check_same : FnScope N_l_check_same ["_law_consoles", "_law_models", "_law_pos"] d_l_check_same.scope := ⟨rfl, rfl, rfl, by decide +kernel, rfl, by decide +kernel, by decide +kernel⟩
theorem ok_l_check_same (W : Wd w K mg) : FnR P w K mg base CX0 34 (d_l_check_same.at_ K) (sp_l_check_same K) := by
  refine fnr0 W.f_l_check_same sc_l_check_same (fun vs H Q E h => ?_) (fun _ _ _ _ _ _ us hl => match us, hl with | [_, _, _], _ => rfl) (fun cdv A outer s H vs Q E hr h => ?_)
  · obtain ⟨cl, ml, kn, Z, c, p, m, wt, g, n, b, rfl, S, hn, q⟩ := h
    rfl
  · obtain ⟨cl, ml, kn, Z, c, p, m, wt, g, n, b, rfl, S, hn, q⟩ := h
    refine ⟨_, (pss_cons (ps_set (i := 3) sc_l_check_same.nd rfl (by first | exact Or.inl rfl | exact Or.inr rfl) (pe_c (c_l_now W) (hr.mono (by omega)) pass0 (pa_cons (pe_ix (show IxR _ (rIxL K) from ix_list) (pv 1) (pe_op op_sub pe_int (pv 2)) (fun _ _ => rfl)) pa_nil)))
      (pss_cons (ps_asg (pe_c (c_l_new_model W) (hr.mono (by omega)) pass0 (pa_cons (pv 3) pa_nil)) (pg_sub (pv 1) (pv 2) set_list))
      (pss_cons (ps_if (pt_cmpR op_ne (pe_c (c_l_run W) (hr.mono (by omega)) pass0 (pa_cons (pe_ix (show IxR _ (rIxL K) from ix_list) (pv 0) (pv 2) (fun _ _ => rfl)) (pa_cons (pe_c (c_l_fresh W) (hr.mono (by omega)) pass0 (pa_cons (pv 3) pa_nil)) pa_nil))) pe_str (nomark _)) (pss_one (ps_ret pe_bl)) pss_nil)
      (pss_cons (ps_for PassesOwn.never rfl (pi_list (pe_lst (pa_cons pe_str (pa_cons pe_str (pa_cons pe_str (pa_cons pe_str (pa_cons pe_str (pa_cons pe_str pa_nil)))))))) (pg_name (i := 4) sc_l_check_same.nd rfl (by first | exact Or.inl rfl | exact Or.inr rfl)) (pss_one (ps_if (pt_cmpR op_ne (pe_c (c_l_run W) (hr.mono (by omega)) pass0 (pa_cons (pe_ix (show IxR _ (rIxL K) from ix_list) (pv 0) pe_int (fun _ _ => rfl)) (pa_cons (pv 4) pa_nil))) (pe_c (c_l_run W) (hr.mono (by omega)) pass0 (pa_cons (pe_ix (show IxR _ (rIxL K) from ix_list) (pv 0) pe_int (fun _ _ => rfl)) (pa_cons (pv 4) pa_nil))) (nomark _)) (pss_one (ps_ret pe_bl)) pss_nil)))
      (pss_cons (ps_for PassesOwn.never rfl (pi_range1 rfl W.z_range (pa_cons (pe_c (c_l_fewest W) (hr.mono (by omega)) pass0 (pa_cons (pv 3) pa_nil)) pa_nil)) (pg_name (i := 5) sc_l_check_same.nd rfl (by first | exact Or.inl rfl | exact Or.inr rfl)) (pss_cons (ps_set (i := 6) sc_l_check_same.nd rfl (by first | exact Or.inl rfl | exact Or.inr rfl) (pe_methR (pe_ix (show IxR _ (rIxL K) from ix_list) (pv 0) (pv 2) (fun _ _ => rfl)) W.c_Console W.m_Console_run (ok_Console_run W) (hr.mono (by omega)) L2.passL (pa_cons pe_str pa_nil)))
      (pss_cons (ps_if (pt_cmpR op_ne (pe_methR (pe_ix (show IxR _ (rIxL K) from ix_list) (pv 0) (pv 2) (fun _ _ => rfl)) W.c_Console W.m_Console_run (ok_Console_run W) (hr.mono (by omega)) L2.passL (pa_cons (pe_op op_add_str pe_str (pv 6)) pa_nil)) pe_str (nomark _)) (pss_one (ps_ret pe_bl)) pss_nil)
      (pss_one (ps_expr (pe_c (c_l_play W) (hr.mono (by omega)) pass0 (pa_cons (pe_ix (show IxR _ (rIxL K) from ix_list) (pv 1) (pv 2) (fun _ _ => rfl)) (pa_cons pe_str (pa_cons (pe_ix (show IxR _ (rIxL K) from ix_list) (pe_c (c_l_best W) (hr.mono (by omega)) pass0 (pa_cons (pe_c (c_l_now W) (hr.mono (by omega)) pass0 (pa_cons (pe_ix (show IxR _ (rIxL K) from ix_list) (pv 1) (pv 2) (fun _ _ => rfl)) pa_nil)) pa_nil)) pe_int (fun _ _ => rfl)) pa_nil)))))))))
      (pss_one (ps_ret (pe_cmpR (op_eqD hr.units) (pe_lst (pa_cons (pe_methR (pe_ix (show IxR _ (rIxL K) from ix_list) (pv 0) (pv 2) (fun _ _ => rfl)) W.c_Console W.m_Console_run (ok_Console_run W) (hr.mono (by omega)) L2.passL (pa_cons pe_str pa_nil)) (pa_cons (pe_methR (pe_ix (show IxR _ (rIxL K) from ix_list) (pv 0) (pv 2) (fun _ _ => rfl)) W.c_Console W.m_Console_run (ok_Console_run W) (hr.mono (by omega)) L2.passL (pa_cons pe_str pa_nil)) pa_nil))) (pe_lst (pa_cons pe_str (pa_cons pe_str pa_nil))) (nomark _))))))))), ?_⟩
    have hr1 := (S.okm (!b)).cur.1
    refine ⟨.ref ml, rfl, .int (bI b), rfl, 1, bI b, rfl, rfl, ml, _, 1 - bI b, .ref (m (!b)), rfl, rfl, SqL.of S.hml, S.iml' b, m (!b), wt (!b), g (!b), Z, n, rfl, S.mod (!b), S.okm (!b), fun H1 t e1 ht => ?_⟩
    have hV := vrB_Vr hr1
    have S1 := S.same e1
    refine ⟨.ref t, rfl, t, rfl, fun H2 m' l w' e2 n1 n2 n3 d1 d2 d3 hm' hl' hw' => ?_⟩
    have S2 := S1.modN b ht hr1 e2 n1 n2 n3 d1 d2 d3 hm' hl' hw'
    refine ⟨.ref ml, rfl, .int (bI b), rfl, ml, _, bI b, _, rfl, rfl, e2 _ _ S1.hml, ixn2 b, ?_⟩
    rw [set_2]
    have f2 : Fr [ml] H2 (upd H2 ml (.lst [.ref (set2 m b m' false), .ref (set2 m b m' true)])) := Fr.up (e2 _ _ S1.hml) (fun xs h => nomatch h)
    have z2 : Frz H (upd H2 ml (.lst [.ref (set2 m b m' false), .ref (set2 m b m' true)])) := (Frz.same (e1.trans e2)).trans (f2.frz (nofz1 (e2 _ _ S1.hml) (fun _ _ h => nomatch h)))
    have ht3 := f2.2 _ _ (e2 _ _ ht)
    generalize upd H2 ml (.lst [.ref (set2 m b m' false), .ref (set2 m b m' true)]) = H3 at *
    refine ⟨.ref cl, rfl, .int (bI b), rfl, cl, _, bI b, .ref (c b), rfl, rfl, SqL.of S2.hcl, S2.icl b, .ref t, rfl, t, _, rfl, ht3, hV, fun H4 e4 => ?_⟩
    have S4 := S2.same e4
    refine ⟨c b, p b, _, .new (g (!b)).cur, g b, _, n, rfl, ln_new hr1, S4.con b, S4.zk, S4.okc b, by omega, True.intro, fun H5 v5 p5 f5 hp5 hC5 hv5 _ => ?_⟩
    have hv5 : v5 = .str "ok" := hv5
    rw [hv5]
    refine ⟨rfl, _, rfl, iteN (by simp) ?_⟩
    have hO5 : (⟨(g (!b)).cur, [], []⟩ : Gs).Ok n := ⟨hr1, fun e he => absurd he List.not_mem_nil, fun e he => absurd he List.not_mem_nil, Nat.zero_le _, fun e he => absurd he List.not_mem_nil, Nat.zero_le _⟩
    have S5 : St2 K H5 cl ml kn (m' :: w' :: Z) c (set2 p b p5) (set2 m b m') (set2 wt b w') (set2 g b ⟨(g (!b)).cur, [], []⟩) (set2 g b ⟨(g (!b)).cur, [], []⟩) n := S4.conR b f5 hp5 hC5 hO5
    have z5 := (z2.trans (Frz.same e4)).trans (S4.frzC b f5)
    have ht5 := f5.2 _ _ (e4 _ _ ht3)
    clear hC5 f5 hp5 hv5
    have hcur : ∀ b', ((set2 g b ⟨(g (!b)).cur, [], []⟩) b').cur = (g (!b)).cur := fun b' => by
      by_cases hb : b' = b
      · rw [hb, set2_same]
        rfl
      · have : b' = !b := by cases b <;> cases b' <;> simp at hb ⊢
        rw [set2_ne _ _ hb, this]
    have hfst : ((set2 g b ⟨(g (!b)).cur, [], []⟩) b).first = (g (!b)).cur := by rw [set2_same]
    generalize (g (!b)).cur = r at *
    generalize set2 g b ⟨r, [], []⟩ = g5 at *
    generalize set2 p b p5 = p5' at *
    generalize set2 m b m' = m5 at *
    generalize set2 wt b w' = w5 at *
    generalize m' :: w' :: Z = Z5 at *
    clear S2 S4 f2 z2 ht ht3 hm' hl' hw' S1 S
    refine ⟨by show 6 ≤ sizeLine; decide, fun L hL => ?_⟩
    have e6 := same_new (o := .lst (qW6.map V.str)) hL
    have hL6 := upd_same (H := H5) (a := L) (o := .lst (qW6.map V.str))
    refine ⟨L, rfl, ⟨_, SqL.of hL6⟩, for_list (K := K) (a := L) (xs := qW6.map V.str) (fun i σ Hk => ∃ y4 y5 y6, σ = [some (.ref cl), some (.ref ml), some (.int (bI b)), some (.ref t), y4, y5, y6] ∧ Same (upd H5 L (.lst (qW6.map V.str))) Hk) ⟨_, _, _, rfl, Same.refl _⟩ (fun i σ Hk _ h => ?_) (fun i x σ Hk hx hI => ?_) (fun σ Hk hI => ?_)⟩
    · obtain ⟨_, _, _, _, e⟩ := h
      exact SqL.of (e _ _ hL6)
    · obtain ⟨y4, y5, y6, rfl, eK⟩ := hI
      obtain ⟨q1, hq1, rfl⟩ : ∃ q1, q1 ∈ qWords ∧ x = .str q1 := by
        have hm := List.mem_of_getElem? hx
        obtain ⟨q1, h1, h2⟩ := List.mem_map.mp hm
        exact ⟨q1, qW6_mem h1, h2.symm⟩
      have SK := S5.same (e6.trans eK)
      refine ⟨.ref cl, rfl, cl, _, 0, .ref (c false), rfl, rfl, SqL.of SK.hcl, rfl, .str q1, rfl, c false, p5' false, .str q1, .qu q1, g5 false, Z5, n, rfl, ln_qu hq1, SK.con false, SK.zk, SK.okc false, by omega, True.intro, fun H7 v7 p7 _ _ _ hv7 hs7 => ?_⟩
      have e7 := (hs7 rfl).1
      have hv7 : v7 = .str (qText q1 (g5 false).cur) := hv7
      have S7 := SK.same e7
      rw [hv7]
      refine ⟨.ref cl, rfl, cl, _, 1, .ref (c true), rfl, rfl, SqL.of S7.hcl, rfl, .str q1, rfl, c true, p5' true, .str q1, .qu q1, g5 true, Z5, n, rfl, ln_qu hq1, S7.con true, S7.zk, S7.okc true, by omega, True.intro, fun H8 v8 p8 _ _ _ hv8 hs8 => ?_⟩
      have e8 := (hs8 rfl).1
      have hv8 : v8 = .str (qText q1 (g5 true).cur) := hv8
      rw [hv8, hcur false, hcur true]
      exact ⟨rfl, _, rfl, iteN (by simp) ⟨_, _, _, rfl, (eK.trans e7).trans e8⟩⟩
    obtain ⟨y4, y5, y6, rfl, eK⟩ := hI
    have e56 := e6.trans eK
    have S6 := S5.same e56
    have ht6 := e56 _ _ ht5
    have z6 := z5.trans (Frz.same e56)
    generalize Hk = H6 at *
    refine ⟨.ref t, rfl, t, r, rfl, ht6, hV, fun H7 e7 => ?_⟩
    have hfew := few_eq hr1
    have hnn := fewest_nn r
    have hf4 : fewest r ≤ 4 := by
      have h1 := hV.most
      unfold fewest
      omega
    refine ⟨_, rfl, by omega, by omega, ?_⟩
    rw [← hfew]
    refine for_range (lo := 0) (n := (fewest r).toNat) (fun i σ Hk => ∃ y4 y5 y6 gk, σ = [some (.ref cl), some (.ref ml), some (.int (bI b)), some (.ref t), y4, y5, y6] ∧ St2 K Hk cl ml kn Z5 c p5' m5 w5 gk gk (n + i) ∧ fewest (gk b).cur = fewest r - i ∧ Frz H Hk) ⟨_, _, _, g5, rfl, S6.same e7, by rw [hcur b]; show _ = _ - ((0 : Nat) : Int); omega, z6.trans (Frz.same e7)⟩ (fun i σ Hk hi hI => ?_) (fun σ Hk hI => ?_)
    · obtain ⟨y4, y5, y6, gk, rfl, SK, hfk, zK⟩ := hI
      have hO := SK.okc b
      have hv := hO.cur.1
      have hh : ∃ s0, hint (gk b).cur = some s0 := by
        cases h : hint (gk b).cur with
        | none =>
          have := hint_none hv h
          omega
        | some s0 => exact ⟨s0, rfl⟩
      obtain ⟨s0, hh⟩ := hh
      have hs4 := hint4 hv hh
      have hs := hint_some hv hh
      have hok : s0.ok (gk b).first.length = true := by rw [← hO.cur.2]; exact hs.2
      obtain ⟨cdx, hc⟩ := (SK.con b).at_
      refine ⟨.ref cl, rfl, .int (bI b), rfl, cl, _, bI b, .ref (c b), rfl, rfl, SqL.of SK.hcl, SK.icl b, c b, cdx, _, rfl, hc, rfl, c b, p5' b, .str "hint", .qu "hint", gk b, Z5, n + i, rfl, ln_qu (by decide +kernel), SK.con b, SK.zk, hO, by omega, fun H8 e8 => ?_⟩
      rw [q_hint, hh]
      have S8 := SK.same e8
      have hsl := st_len hs4
      refine ⟨.ref cl, rfl, .int (bI b), rfl, cl, _, bI b, .ref (c b), rfl, rfl, SqL.of S8.hcl, S8.icl b, c b, cdx, _, rfl, e8 _ _ hc, rfl, .str (stepText s0), rfl, _, _, rfl, rfl, Nat.le_of_lt (small1k (by show 9 + _ ≤ _; omega)), c b, p5' b, _, .mv "zed" s0, gk b, Z5, n + i, rfl, ln_zed hs4, S8.con b, S8.zk, hO, by omega, hok, fun H9 hS9 hC9 => ?_⟩
      refine ⟨rfl, _, rfl, iteN (by simp) ?_⟩
      obtain ⟨_, _, _, hp8⟩ := S8.pins b
      have f9 : Fr [c b, p5' b] H8 H9 := (hS9.fr hp8).more fun x hx => by rw [List.mem_singleton.mp hx]; simp
      have hO9 := hO.play "zed" hok
      have S9 := (S8.mono (Nat.le_succ (n + i))).conR b f9 (.inl rfl) hC9 hO9
      have pb : set2 p5' b (p5' b) = p5' := funext fun b' => by
        by_cases hb : b' = b
        · rw [hb, set2_same]
        · rw [set2_ne _ _ hb]
      rw [pb] at S9
      refine ⟨.ref ml, rfl, .int (bI b), rfl, ml, _, bI b, .ref (m5 b), rfl, rfl, SqL.of S9.hml, S9.iml b, .ref ml, rfl, .int (bI b), rfl, ml, _, bI b, .ref (m5 b), rfl, rfl, SqL.of S9.hml, S9.iml b, m5 b, w5 b, gk b, Z5, n + i, rfl, S9.mod b, SK.okm b, fun H10 t10 e10 ht10 => ?_⟩
      refine ⟨t10, _, rfl, ht10, hv, fun H11 a11 xs ss e11 ha11 hxs hA hhd => ?_⟩
      have e1011 := e10.trans e11
      have S11 := S9.same e1011
      rw [hh] at hhd
      have hx : ∃ x s', xs[0]? = some x ∧ ss[0]? = some s' ∧ s' = s0 := by
        cases ss with
        | nil => cases hhd
        | cons s' ss' =>
          have h1 := hA.1
          cases xs with
          | nil => cases h1
          | cons x xs => exact ⟨x, s', rfl, rfl, Option.some.inj hhd⟩
      obtain ⟨x, s', hx1, hx2, rfl⟩ := hx
      refine ⟨a11, _, 0, x, rfl, rfl, SqL.of hxs, atI_gen (j := 0) rfl hx1, m5 b, w5 b, "zed", x, s', gk b, Z5, n + i, rfl, S11.mod b, S11.mmz b, S11.wz b, S11.zk, SK.okm b, by omega, hA.2 0 x s' hx1 hx2, fun H12 f12 hM12 => ?_⟩
      have S12 := S11.modR b f12 hM12 hO9
      refine ⟨_, _, _, _, rfl, S12, ?_, (((zK.trans (Frz.same e8)).trans (S8.frzC b f9)).trans (Frz.same e1011)).trans (S11.frzM b f12)⟩
      rw [set2_same, play_cur, hs.1, hfk]
      omega
    · obtain ⟨y4, y5, y6, gk, rfl, SK, hfk, zK⟩ := hI
      have hO := SK.okc b
      have hv := hO.cur.1
      have hf0 : fewest (gk b).cur = 0 := by omega
      have hh : hint (gk b).cur = none := by
        cases h : hint (gk b).cur with
        | none => rfl
        | some s0 =>
          have h1 := (hint_some hv h).1
          have h2 := fewest_nn (stp (gk b).cur s0)
          omega
      obtain ⟨cdx, hc⟩ := (SK.con b).at_
      refine ⟨.ref cl, rfl, .int (bI b), rfl, cl, _, bI b, .ref (c b), rfl, rfl, SqL.of SK.hcl, SK.icl b, c b, cdx, _, rfl, hc, rfl, c b, p5' b, .str "hint", .qu "hint", gk b, Z5, _, rfl, ln_qu (by decide +kernel), SK.con b, SK.zk, hO, by omega, fun H8 e8 => ?_⟩
      rw [q_hint, hh]
      have S8 := SK.same e8
      refine ⟨.ref cl, rfl, .int (bI b), rfl, cl, _, bI b, .ref (c b), rfl, rfl, SqL.of S8.hcl, S8.icl b, c b, cdx, _, rfl, e8 _ _ hc, rfl, c b, p5' b, .str "remaining", .qu "remaining", gk b, Z5, _, rfl, ln_qu (by decide +kernel), S8.con b, S8.zk, hO, by omega, fun H9 e9 => ?_⟩
      rw [q_rem, hf0]
      refine ⟨by show 2 ≤ sizeLine; decide, fun L1 hL1 => ⟨by show 2 ≤ sizeLine; decide, fun L2 hL2 => ?_⟩⟩
      have hL2' := upd_same (H := upd H9 L1 (.lst (([".", tI 0] : List Str).map V.str))) (a := L2) (o := .lst (([".", "0"] : List Str).map V.str))
      have e10 := ((e8.trans e9).trans (same_new (o := .lst (([".", tI 0] : List Str).map V.str)) hL1)).trans (same_new (o := .lst (([".", "0"] : List Str).map V.str)) hL2)
      have hz0 : tI 0 = ("0" : Str) := by decide +kernel
      have hsok : ∀ y ∈ ([".", "0"] : List Str), PyData.strOk y = true := fun y hy => by
        simp only [List.mem_cons, List.not_mem_nil, or_false] at hy
        rcases hy with rfl | rfl <;> decide +kernel
      refine ⟨.list (([".", "0"] : List Str).map PyData.str), .list (([".", "0"] : List Str).map PyData.str), .lst (xs := ([".", "0"] : List Str).map V.str) (SqL.of ?_) (dp_strs _), .lst (SqL.of hL2') (dp_strs _), sh_strs hsok, sh_strs hsok, ?_⟩
      · rw [← hz0]
        exact (same_new (o := .lst (([".", "0"] : List Str).map V.str)) hL2) _ _ (upd_same (H := H9) (a := L1) (o := .lst (([".", tI 0] : List Str).map V.str)))
      · rw [show PyData.eqv (.list (([".", "0"] : List Str).map PyData.str)) (.list (([".", "0"] : List Str).map PyData.str)) = true from eqv_strs _]
        exact q _ Z5 p5' m5 w5 gk (zK.trans (Frz.same e10)) ((SK.same e10).mono (by omega))
theorem c_l_check_same (W : Wd w K mg) : Cal P w K mg base CX0 34 "_law_check_same" (d_l_check_same.at_ K) (sp_l_check_same K) := ⟨ok_l_check_same W, W.g_l_check_same, W.f_l_check_same.kp⟩
end
end Tc
namespace Tc
open PySem PySem.Spec PyProof.Rows L2 He He5 Mi
def dOut : Out → PyData
  | .txt s => .str s
  | .undo u => .tuple [.str "undo", .str u]
  | .redo u => .tuple [.str "redo", .str u]
def shOk (d : PyData) : Bool := d.showable && !d.hasDict && decide (d.depth ≤ 10) && decide (d.shown.length ≤ 1000)
theorem chk_sh : (shOk (dOut (.txt "ok")) && users8.all fun u => shOk (dOut (.undo u)) && shOk (dOut (.redo u))) = true := by decide +kernel
theorem sh_of {a : Act} {n : Nat} (h : a.ok n) (g : Gs) : shOk (dOut (outG g a.ln).1) = true := by
  obtain ⟨h1, h2⟩ := Bool.and_eq_true_iff.mp chk_sh
  have h2 := List.all_eq_true.mp h2
  cases a with
  | mv u s => exact h1
  | un u =>
    have h3 := (Bool.and_eq_true_iff.mp (h2 u h)).1
    simp only [outG, Act.ln]
    split
    · exact h3
    · exact h1
  | re u =>
    have h3 := (Bool.and_eq_true_iff.mp (h2 u h)).2
    simp only [outG, Act.ln]
    split
    · exact h3
    · exact h1
theorem sh_parts {d : PyData} (h : shOk d = true) : d.showable = true ∧ d.hasDict = false ∧ d.depth ≤ 10 ∧ d.shown.length ≤ sizeLine := by
  simp only [shOk, Bool.and_eq_true, decide_eq_true_eq, Bool.not_eq_true'] at h
  exact ⟨h.1.1.1, h.1.1.2, h.1.2, Nat.le_of_lt (small1k h.2)⟩
theorem out_dp {K : PySem.W.Frag} {H : Hp} {v : V} {o : Out} (h : OutAt H v o) : Dp K H v (dOut o) ∧ ((∃ y, v = .str y ∧ dOut o = .str y) ∨ ∃ a, v = .ref a) := by
  cases o with
  | txt s =>
    have h : v = .str s := h
    rw [h]
    exact ⟨.str s, .inl ⟨s, rfl, rfl⟩⟩
  | undo u =>
    obtain ⟨t, rfl, ht⟩ := h
    exact ⟨.tup (SqT.of ht) (.cons (.str _) (.cons (.str _) .nil)), .inr ⟨t, rfl⟩⟩
  | redo u =>
    obtain ⟨t, rfl, ht⟩ := h
    exact ⟨.tup (SqT.of ht) (.cons (.str _) (.cons (.str _) .nil)), .inr ⟨t, rfl⟩⟩
theorem act_txt {a : Act} {g : Gs} {s : Str} (h : (outG g a.ln).1 = .txt s) : s = "ok" := by
  cases a with
  | mv u s0 => exact (Out.txt.inj h).symm
  | un u =>
    simp only [outG, Act.ln] at h
    split at h
    · cases h
    · exact (Out.txt.inj h).symm
  | re u =>
    simp only [outG, Act.ln] at h
    split at h
    · cases h
    · exact (Out.txt.inj h).symm
theorem outG_ok {a : Act} {g : Gs} {n : Nat} (h : a.ok g.first.length) (hO : g.Ok n) : (outG g a.ln).2.Ok (n + 1) := by
  cases a with
  | mv u s => exact hO.play u h.2
  | un u =>
    simp only [outG, Act.ln]
    split
    · exact hO.mono (Nat.le_succ n)
    · rename_i g' e
      exact hO.undo e
  | re u =>
    simp only [outG, Act.ln]
    split
    · exact hO.mono (Nat.le_succ n)
    · rename_i g' e
      exact hO.redo e
theorem act_pre {a : Act} {g : Gs} (h : a.ok g.first.length) : lnPre g a.ln := by
  cases a with
  | mv u s => exact h.2
  | un u => exact True.intro
  | re u => exact True.intro
theorem ActAt.fr {F : List Addr} {H H' : Hp} (e : Fr F H H') {v : V} {a : Act} (h : ActAt H v a) : ActAt H' v a := by
  cases a with
  | mv u s =>
    obtain ⟨t, st, h1, h2, h3⟩ := h
    exact ⟨t, st, h1, e.2 _ _ h2, h3.fr e⟩
  | un u =>
    obtain ⟨t, h1, h2⟩ := h
    exact ⟨t, h1, e.2 _ _ h2⟩
  | re u =>
    obtain ⟨t, h1, h2⟩ := h
    exact ⟨t, h1, e.2 _ _ h2⟩
theorem DueAt.fr {F : List Addr} {H H' : Hp} (e : Fr F H H') {v : V} {o : Out} (h : DueAt H v o) : DueAt H' v o := by
  cases o with
  | txt s => exact h
  | undo u =>
    obtain ⟨t, h1, h2⟩ := h
    exact ⟨t, h1, e.2 _ _ h2⟩
  | redo u =>
    obtain ⟨t, h1, h2⟩ := h
    exact ⟨t, h1, e.2 _ _ h2⟩
section
variable {K : PySem.W.Frag} {H H' : Hp} {cl ml kn pl : Addr} {Z : List Addr} {c p m w : Bool → Addr} {gc gm : Bool → Gs} {n : Nat}
theorem St2.pool (S : St2 K H cl ml kn Z c p m w gc gm n) (hP : PoolAt H pl) (hz : pl ∈ Z) (e : Sx pl H H') (hP' : PoolAt H' pl) : St2 K H' cl ml kn Z c p m w gc gm n ∧ Frz H H' := by
  obtain ⟨a, b, hp, _⟩ := hP
  have f : Fr [pl] H H' := Fr.sx e hp (fun xs h => nomatch h)
  have nd : ∀ {x : Addr}, (∃ kvs, H x = some (.dK kvs)) → x ∉ [pl] := fun {x} h hm => by
    obtain ⟨_, h⟩ := h
    exact dk_ne_lst h hp (List.mem_singleton.mp hm)
  have ni : ∀ {x : Addr}, (∃ C dx fs, H x = some (.ins C dx fs)) → x ∉ [pl] := fun {x} h hm => by
    obtain ⟨_, _, _, h⟩ := h
    exact ins_ne_lst h hp (List.mem_singleton.mp hm)
  have hk : kn ∉ [pl] := fun hm => by
    obtain ⟨kvs, h1, _⟩ := S.kn
    rw [List.mem_singleton.mp hm, hp] at h1
    cases h1
  have hm : ml ∉ [pl] := fun hm => by
    have h1 := S.hml
    rw [List.mem_singleton.mp hm, hp] at h1
    cases h1
  refine ⟨S.fr f (fun x hx => by rw [List.mem_singleton.mp hx]; exact .inl hz) (fun hm => S.cz (by rw [List.mem_singleton.mp hm]; exact hz)) hm (fun b => ni (S.cins b)) (fun b => ni (S.pins b)) (fun b => nd (S.mdk b)) (fun b => nd (S.wdk b)) (zok_fr S.zk f fun x hx => ?_) (kn_fr S.kn f hk), f.frz (nofz1 hp (fun _ _ h => nomatch h))⟩
  obtain ⟨a', b', hp', _⟩ := hP'
  rw [List.mem_singleton.mp hx]
  exact ⟨_, hp'⟩
theorem St2.known (S : St2 K H cl ml kn Z c p m w gc gm n) (e : Sx kn H H') (hk' : KnAt kn H') : St2 K H' cl ml kn Z c p m w gc gm n ∧ Frz H H' := by
  obtain ⟨kvs, hk, _⟩ := S.kn
  have f : Fr [kn] H H' := Fr.sx e hk (fun xs h => nomatch h)
  have ne : ∀ {x : Addr} {o : HO}, H x = some o → (∀ k, o ≠ .dT k) → x ∉ [kn] := fun {x o} h hn hm => by
    rw [List.mem_singleton.mp hm, hk] at h
    exact hn kvs (Option.some.inj h).symm
  refine ⟨S.fr f (fun x hx => by rw [List.mem_singleton.mp hx]; exact .inl S.kz) (ne S.hcl (fun _ h => nomatch h)) (ne S.hml (fun _ h => nomatch h)) (fun b => let ⟨_, _, _, h⟩ := S.cins b; ne h (fun _ h => nomatch h)) (fun b => let ⟨_, _, _, h⟩ := S.pins b; ne h (fun _ h => nomatch h)) (fun b => let ⟨_, h⟩ := S.mdk b; ne h (fun _ h => nomatch h)) (fun b => let ⟨_, h⟩ := S.wdk b; ne h (fun _ h => nomatch h)) (zok_fr S.zk f fun x hx => ?_) hk', f.frz (nofz1 hk (fun _ _ h => nomatch h))⟩
  obtain ⟨kvs', h1, _⟩ := hk'
  rw [List.mem_singleton.mp hx]
  exact ⟨_, h1⟩
end
section
variable {P : Program} {w : World} {K : PySem.W.Frag} {mg : Str → Option Value} {base : Heap}
def sp_l_check_turn (K : PySem.W.Frag) : Sp := fun vs H Q _ => ∃ (pl cl ml kn : Addr) (Z : List Addr) (c p m wt : Bool → Addr) (g : Bool → Gs) (n : Nat), vs = [.ref pl, .ref cl, .ref ml, .ref kn] ∧ St2 K H cl ml kn Z c p m wt g g n ∧ PoolAt H pl ∧ pl ∈ Z ∧ n ≤ 700 ∧
  ∀ H' Z' p' m' w' g', Frz H H' → St2 K H' cl ml kn Z' c p' m' w' g' g' (n + 10) → Q (.bl true) H'
abbrev N_l_check_turn : List Str := ["_law_pool_here", "_law_consoles", "_law_models", "_law_known", "_law_pos", "_law_kind", "_law_cards_here", "_law_line", "_law_action_here", "_law_due"]
theorem sc_l_check_turn : FnScope N_l_check_turn ["_law_pool_here", "_law_consoles", "_law_models", "_law_known"] d_l_check_turn.scope := ⟨rfl, rfl, rfl, by decide +kernel, rfl, by decide +kernel, by decide +kernel⟩
theorem ok_l_check_turn (W : Wd w K mg) : FnG P w K mg base CX0 36 (d_l_check_turn.at_ K) (sp_l_check_turn K) := by
  refine fng0 W.f_l_check_turn sc_l_check_turn (fun vs H Q E h => ?_) (fun _ _ _ _ _ _ us hl => match us, hl with | [_, _, _, _], _ => rfl) (fun cdv A outer s H vs Q E hgu hr h => ?_)
  · obtain ⟨pl, cl, ml, kn, Z, c, p, m, wt, g, n, rfl, S, hP, hz, hn, q⟩ := h
    rfl
  · obtain ⟨pl, cl, ml, kn, Z, c, p, m, wt, g, n, rfl, S, hP, hz, hn, q⟩ := h
    refine ⟨_, (pss_cons (ps_par (i := 4) (j := 5) (by rfl) sc_l_check_turn.nd rfl rfl (by decide) rfl rfl (pa_cons (pe_c (c_l_take W) (hr.mono (by omega)) pass0 (pa_cons (pv 0) (pa_cons pe_int pa_nil))) (pa_cons (pe_c (c_l_take W) (hr.mono (by omega)) pass0 (pa_cons (pv 0) (pa_cons pe_int pa_nil))) pa_nil)) (by rfl))
      (pss_cons (ps_if (pt_cmpR op_lt (pv 5) pe_int (nomark _)) (pss_cons (ps_set (i := 6) sc_l_check_turn.nd rfl (by first | exact Or.inl rfl | exact Or.inr rfl) (pe_c (c_l_cards W) (hr.mono (by omega)) pass0 (pa_cons (pv 0) (pa_cons (pe_op op_add pe_int (pe_c (c_l_take W) (hr.mono (by omega)) pass0 (pa_cons (pv 0) (pa_cons pe_int pa_nil)))) pa_nil))))
      (pss_cons (ps_asg (pe_c (c_l_new_model W) (hr.mono (by omega)) pass0 (pa_cons (pv 6) pa_nil)) (pg_sub (pv 2) (pv 4) set_list))
      (pss_one (ps_ret (pe_cmpR op_eq (pe_c (c_l_run W) (hr.mono (by omega)) pass0 (pa_cons (pe_ix (show IxR _ (rIxL K) from ix_list) (pv 1) (pv 4) (fun _ _ => rfl)) (pa_cons (pe_c (c_l_fresh W) (hr.mono (by omega)) pass0 (pa_cons (pv 6) pa_nil)) pa_nil))) pe_str (nomark _)))))) pss_nil)
      (pss_cons (ps_if (pt_cmpR op_eq (pv 5) pe_int (nomark _)) (pss_cons (ps_set (i := 7) sc_l_check_turn.nd rfl (by first | exact Or.inl rfl | exact Or.inr rfl) (pe_ix (show IxR _ (rIxL K) from ix_list) (pe_lst (pa_cons pe_str (pa_cons pe_str (pa_cons pe_str (pa_cons pe_str (pa_cons pe_str (pa_cons pe_str (pa_cons pe_str (pa_cons pe_non pa_nil))))))))) (pe_c (c_l_take W) (hr.mono (by omega)) pass0 (pa_cons (pv 0) (pa_cons pe_int pa_nil))) (fun _ _ => rfl)))
      (pss_one (ps_ret (pe_cmpR op_eq (pe_c (c_l_run W) (hr.mono (by omega)) pass0 (pa_cons (pe_ix (show IxR _ (rIxL K) from ix_list) (pv 1) (pv 4) (fun _ _ => rfl)) (pa_cons (pv 7) pa_nil))) pe_str (nomark _))))) pss_nil)
      (pss_cons (ps_if (pt_cmpR op_lt (pv 5) pe_int (nomark _)) (pss_one (ps_ret (pe_c (c_l_check_same W) (hr.mono (by omega)) pass0 (pa_cons (pv 1) (pa_cons (pv 2) (pa_cons (pv 4) pa_nil)))))) pss_nil)
      (pss_cons (ps_if (pt_cmpR op_lt (pv 5) pe_int (nomark _)) (pss_one (ps_ret (pe_c (c_l_check_all W) (hr.mono (by omega)) pass0 (pa_cons (pe_ix (show IxR _ (rIxL K) from ix_list) (pv 1) (pv 4) (fun _ _ => rfl)) (pa_cons (pe_c (c_l_now W) (hr.mono (by omega)) pass0 (pa_cons (pe_ix (show IxR _ (rIxL K) from ix_list) (pv 2) (pv 4) (fun _ _ => rfl)) pa_nil)) (pa_cons (pv 3) pa_nil)))))) pss_nil)
      (pss_cons (ps_set (i := 8) sc_l_check_turn.nd rfl (by first | exact Or.inl rfl | exact Or.inr rfl) (pe_c (c_l_action W) (hr.mono (by omega)) pass0 (pa_cons (pv 0) (pa_cons (pe_ix (show IxR _ (rIxL K) from ix_list) (pv 2) (pv 4) (fun _ _ => rfl)) pa_nil))))
      (pss_cons (ps_set (i := 9) sc_l_check_turn.nd rfl (by first | exact Or.inl rfl | exact Or.inr rfl) (pe_c (c_l_expected W) (hr.mono (by omega)) pass0 (pa_cons (pe_ix (show IxR _ (rIxL K) from ix_list) (pv 2) (pv 4) (fun _ _ => rfl)) (pa_cons (pv 8) pa_nil))))
      (pss_one (ps_ret (pe_cmpR op_eq (pe_callB (call_reprG hgu hr) (by rfl) W.z_repr boot_repr (pa_cons (pe_c (c_l_run W) (hr.mono (by omega)) pass0 (pa_cons (pe_ix (show IxR _ (rIxL K) from ix_list) (pv 1) (pv 4) (fun _ _ => rfl)) (pa_cons (pe_c (c_l_command W) (hr.mono (by omega)) pass0 (pa_cons (pv 8) pa_nil)) pa_nil))) pa_nil)) (pe_callB (call_reprG hgu hr) (by rfl) W.z_repr boot_repr (pa_cons (pe_ifExp (pt_cmpR op_isN (pv 9) pe_non (nomark _)) pe_str (pv 9)) pa_nil)) (nomark _))))))))))), ?_⟩
    refine ⟨.ref pl, rfl, pl, 2, rfl, hP, by decide, by decide, fun H1 r1 e1 hP1 hr10 hr11 => ?_⟩
    obtain ⟨S1, z1⟩ := S.pool hP hz e1 hP1
    refine ⟨.ref pl, rfl, pl, 24, rfl, hP1, by decide, by decide, fun H2 k e2 hP2 hk0 hk1 => ?_⟩
    obtain ⟨S2, z2'⟩ := S1.pool hP1 hz e2 hP2
    have z2 := z1.trans z2'
    clear e1 e2 S1 S hP1 hP z1 z2'
    obtain ⟨b, rfl⟩ : ∃ b, r1 = bI b := by
      have : r1 = 0 ∨ r1 = 1 := by omega
      rcases this with rfl | rfl
      · exact ⟨false, rfl⟩
      · exact ⟨true, rfl⟩
    refine ⟨_, _, rfl, .int k, rfl, k, 2, rfl, rfl, _, rfl, ite2 (fun h => ?_) fun h => ?_⟩
    · refine ⟨.ref pl, rfl, .ref pl, rfl, pl, 4, rfl, hP2, by decide, by decide, fun H3 r2 e3 hP3 hr20 hr21 => ⟨1, r2, rfl, rfl, ?_⟩⟩
      obtain ⟨S3, z3⟩ := S2.pool hP2 hz e3 hP3
      obtain ⟨k2, hk2⟩ : ∃ k2 : Nat, 1 + r2 = (k2 : Int) := ⟨(1 + r2).toNat, by omega⟩
      refine ⟨pl, k2, by show [V.ref pl, V.int (1 + r2)] = _; rw [hk2], hP3, by omega, by omega, fun H4 t r e4 hP4 ht4 hr4 hrl => ?_⟩
      obtain ⟨S4, z4⟩ := S3.pool hP3 hz e4 hP4
      refine ⟨.ref t, rfl, t, rfl, fun H5 m' l w' e5 n1 n2 n3 d1 d2 d3 hm' hl' hw' => ?_⟩
      have S5 := S4.modN b ht4 hr4 e5 n1 n2 n3 d1 d2 d3 hm' hl' hw'
      refine ⟨.ref ml, rfl, .int (bI b), rfl, ml, _, bI b, _, rfl, rfl, e5 _ _ S4.hml, ixn2 b, ?_⟩
      rw [set_2]
      have f5 : Fr [ml] H5 (upd H5 ml (.lst [.ref (set2 m b m' false), .ref (set2 m b m' true)])) := Fr.up (e5 _ _ S4.hml) (fun xs h => nomatch h)
      have z5 : Frz H (upd H5 ml (.lst [.ref (set2 m b m' false), .ref (set2 m b m' true)])) := (((z2.trans z3).trans z4).trans (Frz.same e5)).trans (f5.frz (nofz1 (e5 _ _ S4.hml) (fun _ _ h => nomatch h)))
      have ht6 := f5.2 _ _ (e5 _ _ ht4)
      generalize upd H5 ml (.lst [.ref (set2 m b m' false), .ref (set2 m b m' true)]) = H6 at *
      refine ⟨.ref cl, rfl, .int (bI b), rfl, cl, _, bI b, .ref (c b), rfl, rfl, SqL.of S5.hcl, S5.icl b, .ref t, rfl, t, r, rfl, ht6, vrB_Vr hr4, fun H7 e7 => ?_⟩
      have S7 := S5.same e7
      refine ⟨c b, p b, _, .new r, g b, _, n, rfl, ln_new hr4, S7.con b, S7.zk, S7.okc b, by omega, True.intro, fun H8 v8 p8 f8 hp8 hC8 hv8 _ => ?_⟩
      have hv8 : v8 = .str "ok" := hv8
      rw [hv8]
      have hO8 : (⟨r, [], []⟩ : Gs).Ok n := ⟨hr4, fun e he => absurd he List.not_mem_nil, fun e he => absurd he List.not_mem_nil, Nat.zero_le _, fun e he => absurd he List.not_mem_nil, Nat.zero_le _⟩
      have S8 := S7.conR b f8 hp8 hC8 hO8
      refine ⟨rfl, ?_⟩
      rw [show decide (V.str "ok" = V.str "ok") = true from decide_eq_true rfl]
      exact q _ _ _ _ _ _ ((z5.trans (Frz.same e7)).trans (S7.frzC b f8)) (S8.mono (by omega))
    refine ⟨.int k, rfl, rfl, _, rfl, ite2 (fun h2 => ?_) fun h2 => ?_⟩
    · refine ⟨by show 8 ≤ sizeLine; decide, fun L hL => ?_⟩
      have e3 := same_new (o := .lst badV) hL
      have hL3 := upd_same (H := H2) (a := L) (o := .lst badV)
      have S3 := S2.same e3
      have hP3 := hP2.same e3
      have hLpl : L ≠ pl := by
        obtain ⟨o, ho⟩ := hP2.some
        exact Ne.symm (ne_of_none ho hL)
      show tCR _ _ _ _ (upd H2 L (.lst badV)) _
      generalize upd H2 L (.lst badV) = H3 at *
      refine ⟨.ref pl, rfl, pl, 8, rfl, hP3, by decide, by decide, fun H4 r4 e4 hP4 hr40 hr41 => ?_⟩
      obtain ⟨S4, z4⟩ := S3.pool hP3 hz e4 hP4
      have hL4 := e4 _ _ hL3 hLpl
      have hlt : r4.toNat < badV.length := by
        show r4.toNat < 8
        omega
      refine ⟨L, _, r4, badV[r4.toNat], rfl, rfl, SqL.of hL4, atI_gen (j := r4.toNat) (by omega) (List.getElem?_eq_getElem hlt), ?_⟩
      have hbv := ln_bad (List.getElem_mem hlt)
      generalize badV[r4.toNat] = v at hbv ⊢
      refine ⟨.ref cl, rfl, .int (bI b), rfl, cl, _, bI b, .ref (c b), rfl, rfl, SqL.of S4.hcl, S4.icl b, v, rfl, c b, p b, v, .bad, g b, Z, n, rfl, hbv, S4.con b, S4.zk, S4.okc b, by omega, True.intro, fun H5 v5 p5 f5 hp5 hC5 hv5 hs5 => ?_⟩
      have hv5 : v5 = .str "invalid" := hv5
      have e5 := (hs5 rfl).1
      rw [hv5]
      refine ⟨rfl, ?_⟩
      rw [show decide (V.str "invalid" = V.str "invalid") = true from decide_eq_true rfl]
      exact q _ _ _ _ _ _ (((z2.trans (Frz.same e3)).trans z4).trans (Frz.same e5)) ((S4.same e5).mono (by omega))
    refine ⟨.int k, rfl, k, 5, rfl, rfl, _, rfl, ite2 (fun h3 => ?_) fun h3 => ?_⟩
    · exact ⟨.ref cl, rfl, .ref ml, rfl, .int (bI b), rfl, cl, ml, kn, Z, c, p, m, wt, g, n, b, rfl, S2, by omega, fun H' Z' p' m' w' g' z S' => q H' Z' p' m' w' g' (z2.trans z) S'⟩
    refine ⟨.int k, rfl, k, 7, rfl, rfl, _, rfl, ite2 (fun h4 => ?_) fun h4 => ?_⟩
    · refine ⟨.ref cl, rfl, .int (bI b), rfl, cl, _, bI b, .ref (c b), rfl, rfl, SqL.of S2.hcl, S2.icl b, .ref ml, rfl, .int (bI b), rfl, ml, _, bI b, .ref (m b), rfl, rfl, SqL.of S2.hml, S2.iml b, m b, wt b, g b, Z, n, rfl, S2.mod b, S2.okm b, fun H3 t e3 ht3 => ?_⟩
      have S3 := S2.same e3
      refine ⟨.ref kn, rfl, c b, p b, t, kn, g b, Z, n, rfl, S3.con b, S3.zk, S3.okc b, by omega, ht3, S3.kn, fun H4 e4 hk4 => ?_⟩
      obtain ⟨S4, z4⟩ := S3.known e4 hk4
      exact q _ _ _ _ _ _ ((z2.trans (Frz.same e3)).trans z4) (S4.mono (by omega))
    obtain ⟨t, l, ps, kvs, M⟩ := id (S2.mod b)
    have hO := S2.okm b
    refine ⟨.ref pl, rfl, .ref ml, rfl, .int (bI b), rfl, ml, _, bI b, .ref (m b), rfl, rfl, SqL.of S2.hml, S2.iml b, pl, m b, t, l, wt b, (g b).first, rfl, hP2, M.hm, M.ht, hO.row, fun H3 va a e3 hP3 ha3 hok => ?_⟩
    obtain ⟨S3, z3⟩ := S2.pool hP2 hz e3 hP3
    have hf4 : (g b).first.length ≤ 4 := (vrB_Vr hO.row).most
    refine ⟨.ref ml, rfl, .int (bI b), rfl, ml, _, bI b, .ref (m b), rfl, rfl, SqL.of S3.hml, S3.iml b, va, rfl, m b, wt b, va, a, g b, Z, n, rfl, S3.mod b, S3.mmz b, S3.wz b, S3.zk, S3.okm b, by omega, ha3, hok, fun H4 vd f4 hM4 hd4 => ?_⟩
    have hO4 := outG_ok hok hO
    have S4 := (S3.mono (Nat.le_succ n)).modR b f4 hM4 hO4
    have z4 := (z2.trans z3).trans (S3.frzM b f4)
    refine ⟨.ref cl, rfl, .int (bI b), rfl, cl, _, bI b, .ref (c b), rfl, rfl, SqL.of S4.hcl, S4.icl b, va, rfl, va, a, (g b).first.length, rfl, ha3.fr f4, hok, hf4, fun H5 e5 => ?_⟩
    have S5 := S4.same e5
    refine ⟨c b, p b, _, a.ln, g b, Z, n + 1, rfl, ln_act hok hf4, S5.con b, S5.zk, S5.okc b, by omega, act_pre hok, fun H6 v6 p6 f6 hp6 hC6 hv6 _ => ?_⟩
    have S6 := S5.conR b f6 hp6 hC6 hO4
    have hd6 : DueAt H6 vd (outG (g b) a.ln).1 := (hd4.fr (Fr.of_same (F := []) e5)).fr f6
    have z6 := (z4.trans (Frz.same e5)).trans (S5.frzC b f6)
    have hsh := sh_parts (sh_of hok (g b))
    have hdp := out_dp (K := K) hv6
    refine ⟨v6, _, rfl, hdp.1, hdp.2, hsh.1, hsh.2.1, hsh.2.2.1, hsh.2.2.2, vd, rfl, rfl, _, rfl, ?_⟩
    have fin : Q (.bl true) H6 := q _ _ _ _ _ _ z6 (S6.mono (by omega))
    have last : ∀ v, Dp K H6 v (dOut (outG (g b) a.ln).1) → ((∃ y, v = .str y ∧ dOut (outG (g b) a.ln).1 = .str y) ∨ ∃ a, v = .ref a) → rReprS K [v] H6 fun y H' => rEq (.str (dOut (outG (g b) a.ln).1).shown) y H' Q := fun v h1 h2 => by
      refine ⟨v, _, rfl, h1, h2, hsh.1, hsh.2.1, hsh.2.2.1, hsh.2.2.2, rfl, ?_⟩
      rw [show decide (V.str (dOut (outG (g b) a.ln).1).shown = V.str (dOut (outG (g b) a.ln).1).shown) = true from decide_eq_true rfl]
      exact fin
    cases ho : (outG (g b) a.ln).1 with
    | txt s0 =>
      have h0 := act_txt ho
      rw [ho] at hd6 last
      have hd6 : vd = .non := hd6
      subst hd6
      subst h0
      exact iteP (decide_eq_true rfl) (last (.str "ok") (.str "ok") (.inl ⟨"ok", rfl, rfl⟩))
    | undo u =>
      rw [ho] at hd6 last
      have h1 := out_dp (K := K) (o := .undo u) hd6
      obtain ⟨t6, rfl, _⟩ := id hd6
      exact iteN (by simp) ⟨.ref t6, rfl, last (.ref t6) h1.1 h1.2⟩
    | redo u =>
      rw [ho] at hd6 last
      have h1 := out_dp (K := K) (o := .redo u) hd6
      obtain ⟨t6, rfl, _⟩ := id hd6
      exact iteN (by simp) ⟨.ref t6, rfl, last (.ref t6) h1.1 h1.2⟩
end
end Tc
namespace Tc
open PySem PySem.Spec PyProof.Rows L2 He He5
section
variable {X : Cx} {CX : CXT} {k : Nat} {f C : Addr} {sp : Sp} {E : XK} {x : Str} {p pos : Pos}
/-- C(), by a positional promise of its __init__ -/
theorem pe_makeR0 (M : Mk X.K C f) (F : FnR X.prog X.w X.K X.mg X.base CX k f sp) (hr : Room (k + 1) X.A) (hg : Gl X x) (hm : X.mg x = some (.ref C)) (hx : Passes CX X E) (hdb : (x == ("__debug__" : Str)) = false := by decide) :
    PE X (.Call (.Name x p) [] [] pos) (StX.tMakeR C sp E tNil) := by
  refine ⟨fun pins s σ H Q I h => ?_⟩
  refine wpAny_Call_Name_kw (ld_glob I hg hm ?_ hdb)
  exact PySem.W.callWith_K0 (first := []) I.kIn M.kp (StX.run_makeR (us := []) (vs := []) M F hr hx I .nil h)
end
end Tc
namespace Tc
open PySem PySem.Spec PyProof.Rows L2 He He5 Mi
def sel {α : Type} (x y : α) : Bool → α
  | false => x
  | true => y
section
variable {P : Program} {w : World} {K : PySem.W.Frag} {mg : Str → Option Value} {base : Heap}
def sp_law (K : PySem.W.Frag) : Sp := fun vs H Q _ => ∃ (a : Addr) (ns : List Int), vs = [.ref a] ∧ (∀ H', Frz H H' → SqL K H' a (ns.map V.int)) ∧ ns.length ≤ 1000 ∧ ∀ H', Q (.bl true) H'
abbrev N_law : List Str := ["_law_script", "_law_consoles", "_law_models", "_law_known", "_law_k", "_law_pool_here", "_law_pos"]
theorem sc_law : FnScope N_law ["_law_script"] d_law.scope := ⟨rfl, rfl, rfl, by decide +kernel, rfl, by decide +kernel, by decide +kernel⟩
theorem ok_law (W : Wd w K mg) : FnG P w K mg base CX0 38 (d_law.at_ K) (sp_law K) := by
  refine fng0 W.f_law sc_law (fun vs H Q E h => ?_) (fun _ _ _ _ _ _ us hl => match us, hl with | [_], _ => rfl) (fun cdv A outer s H vs Q E hgu hr h => ?_)
  · obtain ⟨a, ns, rfl, ha, hns, q⟩ := h
    rfl
  · obtain ⟨a, ns, rfl, ha, hns, q⟩ := h
    refine ⟨_, (pss_cons (ps_par3 (i := 1) (j := 2) (l := 3) (by rfl) sc_law.nd rfl rfl rfl (by decide) (by decide) (by decide) rfl rfl rfl (pa_cons (pe_lst (pa_cons (pe_makeR0 W.k_Console (ok_Console_init W) (hr.mono (by omega)) rfl W.g_Console pass0) (pa_cons (pe_makeR0 W.k_Console (ok_Console_init W) (hr.mono (by omega)) rfl W.g_Console pass0) pa_nil))) (pa_cons (pe_lst (pa_cons (pe_c (c_l_new_model W) (hr.mono (by omega)) pass0 (pa_cons (pe_tup (pa_cons pe_int pa_nil)) pa_nil)) (pa_cons (pe_c (c_l_new_model W) (hr.mono (by omega)) pass0 (pa_cons (pe_tup (pa_cons pe_int pa_nil)) pa_nil)) pa_nil))) (pa_cons pe_dnewT pa_nil))) (by rfl))
      (pss_cons (ps_for PassesOwn.never rfl (pi_range1 rfl W.z_range (pa_cons (pe_callB (call_max2 rfl) (by rfl) W.z_max boot_max (pa_cons pe_int (pa_cons (pe_callB (call_min2 rfl) (by rfl) W.z_min boot_min (pa_cons pe_int (pa_cons (pe_callB call_len_seq (by rfl) W.z_len PySem.boot_len (pa_cons (pv 0) pa_nil)) pa_nil))) pa_nil))) pa_nil)) (pg_name (i := 4) sc_law.nd rfl (by first | exact Or.inl rfl | exact Or.inr rfl)) (pss_cons (ps_set (i := 5) sc_law.nd rfl (by first | exact Or.inl rfl | exact Or.inr rfl) (pe_c (c_l_pool W) (hr.mono (by omega)) pass0 (pa_cons (pv 0) (pa_cons (pv 4) pa_nil))))
      (pss_cons (ps_if (pt_not (pt_val (pe_cG (ok_l_check_turn W) W.g_l_check_turn W.f_l_check_turn.kp hgu (hr.mono (by omega)) (pa_cons (pv 5) (pa_cons (pv 1) (pa_cons (pv 2) (pa_cons (pv 3) pa_nil))))))) (pss_one (ps_ret pe_bl)) pss_nil)
      (pss_one (ps_if (pt_cmpR op_eq (pe_op op_mod (pv 4) pe_int) pe_int (nomark _)) (pss_one (ps_for PassesOwn.never rfl (pi_list (pe_lst (pa_cons pe_int (pa_cons pe_int pa_nil)))) (pg_name (i := 6) sc_law.nd rfl (by first | exact Or.inl rfl | exact Or.inr rfl)) (pss_one (ps_if (pt_not (pt_val (pe_c (c_l_check_all W) (hr.mono (by omega)) pass0 (pa_cons (pe_ix (show IxR _ (rIxL K) from ix_list) (pv 1) (pv 6) (fun _ _ => rfl)) (pa_cons (pe_c (c_l_now W) (hr.mono (by omega)) pass0 (pa_cons (pe_ix (show IxR _ (rIxL K) from ix_list) (pv 2) (pv 6) (fun _ _ => rfl)) pa_nil)) (pa_cons (pv 3) pa_nil)))))) (pss_one (ps_ret pe_bl)) pss_nil)))) pss_nil)))))
      (pss_one (ps_ret pe_bl)))), ?_⟩
    refine fun c0 d0 hc0 hd0 hne0 => ?_
    have hc0d : c0 ≠ d0 := fun e => hne0 e.symm
    have s1 : Same H (upd (upd H d0 (HO.own c0)) c0 (HO.ins (CC K) d0 [])) := same_mut (same_new hd0) hc0
    refine ⟨c0, d0, [], rfl, upd_same, List.not_mem_nil, fun z hz => absurd hz List.not_mem_nil, fun H1 p0 x1 hp0 C0 => ⟨rfl, ?_⟩⟩
    have e1 : Same H H1 := fun b o hb => x1 b o (s1 b o hb) (ne_of_none hb hc0)
    clear s1 x1
    refine fun c1 d1 hc1 hd1 hne1 => ?_
    have s2 : Same H1 (upd (upd H1 d1 (HO.own c1)) c1 (HO.ins (CC K) d1 [])) := same_mut (same_new hd1) hc1
    refine ⟨c1, d1, [], rfl, upd_same, List.not_mem_nil, fun z hz => absurd hz List.not_mem_nil, fun H2 p1 x2 hp1 C1 => ⟨rfl, ?_⟩⟩
    have e12 : Same H1 H2 := fun b o hb => x2 b o (s2 b o hb) (ne_of_none hb hc1)
    have hp1H : H1 p1 = none := s2.free hp1
    clear s2 x2
    obtain ⟨dxa, hc0a⟩ := id C0.at_
    obtain ⟨_, _, _, _, _, _, _, G0a⟩ := id C0.game
    have hcne : c0 ≠ c1 := ne_of_none hc0a hc1
    have hpne : p0 ≠ p1 := ne_of_none G0a.hp hp1H
    have C0 := C0.same e12
    obtain ⟨dx0, hc0'⟩ := id C0.at_
    obtain ⟨dx1, hc1'⟩ := id C1.at_
    refine ⟨by show 2 ≤ sizeLine; decide, fun cl hcl => ⟨by show 1 ≤ sizeLine; decide, fun t0 ht0 => ⟨t0, rfl, fun H4 m0 l0 w0 e4 a1 a2 a3 a4 a5 a6 hm0 hl0 hw0 => ?_⟩⟩⟩
    have s3 := same_new (o := .lst [.ref c0, .ref c1]) hcl
    have s3' := s3.trans (same_new (o := .tup [.int 1]) ht0)
    have kcl := upd_same (H := H2) (a := cl) (o := .lst [.ref c0, .ref c1])
    have kt0 := upd_same (H := upd H2 cl (.lst [.ref c0, .ref c1])) (a := t0) (o := .tup [.int 1])
    have kcl4 := e4 _ _ ((same_new (o := .tup [.int 1]) ht0) _ _ kcl)
    have kt04 := e4 _ _ kt0
    have e24 := s3'.trans e4
    have b1 := s3'.free a1
    have b2 := s3'.free a2
    have b3 := s3'.free a3
    refine ⟨by show 1 ≤ sizeLine; decide, fun t1 ht1 => ⟨t1, rfl, fun H5 m1 l1 w1 e5 a1' a2' a3' a4' a5' a6' hm1 hl1 hw1 => ?_⟩⟩
    have s4 := same_new (o := .tup [.int 1]) ht1
    have kt1 := upd_same (H := H4) (a := t1) (o := .tup [.int 1])
    have e45 := s4.trans e5
    have b1' := e24.free (s4.free a1')
    have b2' := e24.free (s4.free a2')
    have b3' := e24.free (s4.free a3')
    have hmne : m0 ≠ m1 := ne_of_none hm0 (s4.free a1')
    have hwne : w0 ≠ w1 := ne_of_none hw0 (s4.free a3')
    refine ⟨by show 2 ≤ sizeLine; decide, fun ml hml => ?_⟩
    refine fun kn hkn => ⟨_, _, _, rfl, ?_⟩
    have s5 := same_new (o := .lst [.ref m0, .ref m1]) hml
    have s57 := s5.trans (same_new (o := .dT []) hkn)
    have kml := same_new (o := .dT []) hkn _ _ (upd_same (H := H5) (a := ml) (o := .lst [.ref m0, .ref m1]))
    have kkn := upd_same (H := upd H5 ml (.lst [.ref m0, .ref m1])) (a := kn) (o := .dT [])
    have e47 := e45.trans s57
    have e27 := e24.trans e47
    have b4 := e24.free (e45.free hml)
    have b5 := e24.free (e45.free (s5.free hkn))
    have hclml : cl ≠ ml := ne_of_none (e45 _ _ kcl4) hml
    generalize upd (upd H5 ml (.lst [.ref m0, .ref m1])) kn (.dT []) = H7 at *
    have kcl7 := e47 _ _ kcl4
    have km0 := e47 _ _ hm0
    have kl0 := e47 _ _ hl0
    have kw0 := e47 _ _ hw0
    have kt0 := e47 _ _ kt04
    have km1 := s57 _ _ hm1
    have kl1 := s57 _ _ hl1
    have kw1 := s57 _ _ hw1
    have kt1 := s57 _ _ (e5 _ _ kt1)
    have notZ : ∀ {x : Addr} {o : HO}, H7 x = some o → (o ≠ .lst [.ref m0, .ref m1] ∨ x ≠ ml) → o ≠ .dK (mFs t0 l0 w0) → o ≠ .dK (mFs t1 l1 w1) → o ≠ .dK [] → o ≠ .dT [] → x ∉ [ml, m0, m1, w0, w1, kn] := fun {x o} hx h1 h2 h3 h4 h5 hm => by
      simp only [List.mem_cons, List.not_mem_nil, or_false] at hm
      rcases hm with e | e | e | e | e | e
      · rcases h1 with h1 | h1
        · rw [e, kml] at hx
          exact h1 (Option.some.inj hx).symm
        · exact h1 e
      · rw [e, km0] at hx
        exact h2 (Option.some.inj hx).symm
      · rw [e, km1] at hx
        exact h3 (Option.some.inj hx).symm
      · rw [e, kw0] at hx
        exact h4 (Option.some.inj hx).symm
      · rw [e, kw1] at hx
        exact h4 (Option.some.inj hx).symm
      · rw [e, kkn] at hx
        exact h5 (Option.some.inj hx).symm
    have hO : (⟨[1], [], []⟩ : Gs).Ok 0 := ⟨by decide +kernel, fun e he => absurd he List.not_mem_nil, fun e he => absurd he List.not_mem_nil, Nat.zero_le _, fun e he => absurd he List.not_mem_nil, Nat.zero_le _⟩
    have conZ : ∀ {c p : Addr}, ConP K [] H2 c p ⟨[1], [], []⟩ → ConP K [ml, m0, m1, w0, w1, kn] H7 c p ⟨[1], [], []⟩ := fun C => ((((((C.addZ b5).addZ b3').addZ b3).addZ b1').addZ b1).addZ b4).same e27
    have dkne : ∀ {x y t l w' : Addr}, H7 x = some (.dK (mFs t l w')) → H7 y = some (.dK []) → x ≠ y := fun {x y t l w'} h1 h2 e => by
      rw [e, h2] at h1
      cases h1
    have S0 : St2 K H7 cl ml kn [ml, m0, m1, w0, w1, kn] (sel c0 c1) (sel p0 p1) (sel m0 m1) (sel w0 w1) (fun _ => ⟨[1], [], []⟩) (fun _ => ⟨[1], [], []⟩) 0 := by
      refine ⟨kcl7, kml, fun b => ?_, fun b => ?_, fun _ => hO, fun _ => hO, fun z hz => ?_, notZ kcl7 (.inr hclml) (fun h => nomatch h) (fun h => nomatch h) (fun h => nomatch h) (fun h => nomatch h), by simp, by simp, fun b => by cases b <;> simp [sel], fun b => by cases b <;> simp [sel], hcne, hpne, hmne, hwne, fun b b' => ?_, ⟨[], kkn, Kn.nil⟩⟩
      · cases b
        · exact conZ C0
        · exact conZ C1
      · cases b
        · exact ⟨t0, l0, [], [], km0, kt0, notZ kl0 (.inl (fun h => nomatch h)) (fun h => nomatch h) (fun h => nomatch h) (fun h => nomatch h) (fun h => nomatch h), kl0, Al.nil, kw0, Al.nil, dkne km0 kw0⟩
        · exact ⟨t1, l1, [], [], km1, kt1, notZ kl1 (.inl (fun h => nomatch h)) (fun h => nomatch h) (fun h => nomatch h) (fun h => nomatch h) (fun h => nomatch h), kl1, Al.nil, kw1, Al.nil, dkne km1 kw1⟩
      · simp only [List.mem_cons, List.not_mem_nil, or_false] at hz
        rcases hz with rfl | rfl | rfl | rfl | rfl | rfl
        · exact ⟨_, kml⟩
        · exact ⟨_, km0⟩
        · exact ⟨_, km1⟩
        · exact ⟨_, kw0⟩
        · exact ⟨_, kw1⟩
        · exact ⟨_, kkn⟩
      · cases b <;> cases b'
        · exact dkne km0 kw0
        · exact dkne km0 kw1
        · exact dkne km1 kw0
        · exact dkne km1 kw1
    have z0 : Frz H H7 := Frz.same ((e1.trans e12).trans e27)
    clear notZ conZ dkne kcl7 kml km0 kl0 kw0 kt0 km1 kl1 kw1 kt1 kkn
    refine ⟨.ref a, rfl, a, _, rfl, .inl (ha H7 z0), 30, _, rfl, 12, _, rfl, _, rfl, ?_⟩
    obtain ⟨N, hN, hN0, hN1⟩ : ∃ N : Int, N = (if (if (((ns.map V.int).length : Nat) : Int) < 30 then (((ns.map V.int).length : Nat) : Int) else 30) > 12 then (if (((ns.map V.int).length : Nat) : Int) < 30 then (((ns.map V.int).length : Nat) : Int) else 30) else 12) ∧ 12 ≤ N ∧ N ≤ 30 := by
      refine ⟨_, rfl, ?_, ?_⟩
      · split <;> omega
      · split
        · split <;> omega
        · omega
    rw [← hN]
    refine ⟨by omega, by omega, ?_⟩
    clear hN
    refine for_range (lo := 0) (n := N.toNat) (fun i σ Hk => ∃ y4 y5 y6 Z p m wt g, σ = [some (.ref a), some (.ref cl), some (.ref ml), some (.ref kn), y4, y5, y6] ∧ St2 K Hk cl ml kn Z (sel c0 c1) p m wt g g (i * 10) ∧ Frz H Hk) ⟨_, _, _, _, _, _, _, _, rfl, S0, z0⟩ (fun i σ Hk hi hI => ?_) (fun σ Hk hI => ?_)
    · obtain ⟨y4, y5, y6, Z, p, m, wt, g, rfl, SK, zK⟩ := hI
      have hi30 : i < 30 := by omega
      rw [Int.zero_add]
      refine ⟨.ref a, rfl, .int (i : Int), rfl, a, ns, i, rfl, ha Hk zK, by omega, fun H8 pl e8 hpl hP => ?_⟩
      have S8 := SK.addZ hpl e8 hP.some
      refine ⟨.ref pl, rfl, .ref cl, rfl, .ref ml, rfl, .ref kn, rfl, pl, cl, ml, kn, pl :: Z, sel c0 c1, p, m, wt, g, i * 10, rfl, S8, hP, List.mem_cons_self .., by omega, fun H9 Z9 p9 m9 w9 g9 z9 S9 => ?_⟩
      have zH := (zK.trans (Frz.same e8)).trans z9
      have S9 : St2 K H9 cl ml kn Z9 (sel c0 c1) p9 m9 w9 g9 g9 ((i + 1) * 10) := S9.mono (by omega)
      refine ⟨_, rfl, iteN (by decide) ⟨.int (i : Int), rfl, i, 6, rfl, rfl, show (0 : Int) < 6 by decide, ?_⟩⟩
      refine ⟨rfl, _, rfl, ite2 (fun h => ?_) fun h => ?_⟩
      · refine ⟨by show 2 ≤ sizeLine; decide, fun L hL => ?_⟩
        have hkL : kn ≠ L := by
          obtain ⟨kvs, h1, _⟩ := S9.kn
          exact ne_of_none h1 hL
        have eL := same_new (o := .lst [.int 0, .int 1]) hL
        refine ⟨L, rfl, ⟨_, SqL.of upd_same⟩, for_list (K := K) (a := L) (xs := [.int 0, .int 1]) (fun j σ Hk => ∃ y6, σ = [some (.ref a), some (.ref cl), some (.ref ml), some (.ref kn), some (.int (i : Int)), some (.ref pl), y6] ∧ St2 K Hk cl ml kn Z9 (sel c0 c1) p9 m9 w9 g9 g9 ((i + 1) * 10) ∧ Frz H Hk ∧ Hk L = some (.lst [.int 0, .int 1]))
          ⟨_, rfl, S9.same eL, zH.trans (Frz.same eL), upd_same⟩ (fun j σ Hk _ h => ?_) (fun j x σ Hk hx hI => ?_) (fun σ Hk hI => ?_)⟩
        · obtain ⟨_, _, _, _, hk⟩ := h
          exact SqL.of hk
        · obtain ⟨y6', rfl, Sj, zj, hLj⟩ := hI
          obtain ⟨b, rfl⟩ : ∃ b, x = .int (bI b) := by
            match j, hx with
            | 0, hx => exact ⟨false, (Option.some.inj hx).symm⟩
            | 1, hx => exact ⟨true, (Option.some.inj hx).symm⟩
            | j + 2, hx => cases hx
          refine ⟨.ref cl, rfl, .int (bI b), rfl, cl, _, bI b, .ref (sel c0 c1 b), rfl, rfl, SqL.of Sj.hcl, Sj.icl b, .ref ml, rfl, .int (bI b), rfl, ml, _, bI b, .ref (m9 b), rfl, rfl, SqL.of Sj.hml, Sj.iml b, m9 b, w9 b, g9 b, Z9, _, rfl, Sj.mod b, Sj.okm b, fun H11 t e11 ht11 => ?_⟩
          have S11 := Sj.same e11
          refine ⟨.ref kn, rfl, sel c0 c1 b, p9 b, t, kn, g9 b, Z9, _, rfl, S11.con b, S11.zk, S11.okc b, by omega, ht11, S11.kn, fun H12 e12 hk12 => ?_⟩
          obtain ⟨S12, z12⟩ := S11.known e12 hk12
          exact ⟨_, rfl, iteN (by decide) ⟨_, rfl, S12, (zj.trans (Frz.same e11)).trans z12, e12 _ _ (e11 _ _ hLj) hkL.symm⟩⟩
        · obtain ⟨y6', rfl, Sj, zj, _⟩ := hI
          exact ⟨_, _, _, Z9, p9, m9, w9, g9, rfl, Sj, zj⟩
      · exact ⟨_, _, _, Z9, p9, m9, w9, g9, rfl, S9, zH⟩
    · exact q _
end
end Tc
namespace Tc
open PySem PySem.Spec PyProof.Rows L2 He He5 Mi
/-! ### the end: the law called at the heap behind the top -/
theorem law_end {P : Program} {w : World} {K : PySem.W.Frag} {mg mb : Str → Option Value} {k : Nat} {fl a : Addr} {sp : Sp} {s₁ : Shared} {vs : List Value} {ns : List Int}
    (KX : K.In s₁.heap) (hns : s₁.heap.Ns mainGlobals mg) (hb : s₁.heap.Ns builtinsNs mb) (hbb : ∀ x : Str, x ≠ "__name__" → mb x = bootBuiltins x) (hlim : s₁.heap.NoLimit) (hg : s₁.gens = #[])
    (ha : s₁.heap.get? a = some { cls := .type "list", data := .seq vs.toArray }) (hi : IntsAre vs ns) (hl : ns.length ≤ sizeLine) (hr : Room k callerA)
    (F : ∀ base : Heap, FnG P w K mg base CX0 k fl sp)
    (hsp : ∀ H : Hp, Only H → SqL K H a (ns.map V.int) → sp [.ref a] H (fun v _ => v = .bl true) fun _ _ _ => False) :
    codeAny (model P w) callerA (.call (.ref fl) ⟨[.ref a], []⟩) (fun r s' => r = .ok (.ret (.bool true)) ∧ OldK s₁.heap s'.heap ∧ s'.os = s₁.os ∧ AllBare s'.gens) s₁ := by
  have rv := vals_ints hi
  have lenV := hi.length
  have main : ∀ H : Hp, Only H → SqL K H a (ns.map V.int) → HOk P w H s₁.heap → (∀ b, H b ≠ none → b = a) → (H a ≠ none → K.lookup a = none) →
      codeAny (model P w) callerA (.call (.ref fl) ⟨[.ref a], []⟩) (fun r s' => r = .ok (.ret (.bool true)) ∧ OldK s₁.heap s'.heap ∧ s'.os = s₁.os ∧ AllBare s'.gens) s₁ := by
    intro H hO hS hok hA hK
    have base_of : ∀ {b : Addr} {o : Obj}, s₁.heap.get? b = some o → H b = none → (hidT s₁.heap H).get? b = some o := fun e n => hidT_get e n
    have noA : ∀ {b : Addr} {o : Obj} {es : Array DictEntry} {ep : Nat}, s₁.heap.get? b = some o → o.data = .dict es ep → H b = none := fun {b o es ep} e d => by
      cases q : H b with
      | none => rfl
      | some u =>
        have e' : b = a := hA b (by rw [q]; exact fun z => nomatch z)
        subst e'
        rw [ha] at e
        cases e
        have d' : Data.seq vs.toArray _ = Data.dict es ep := d
        cases d'
    have nsK : ∀ {b : Addr} {m : Str → Option Value}, s₁.heap.Ns b m → (hidT s₁.heap H).Ns b m := fun {b m} ⟨o, es, ep, e, d, r⟩ => ⟨o, es, ep, base_of e (noA e d), d, r⟩
    have hKb : K.In (hidT s₁.heap H) := fun b o e => base_of (KX b o e) (by
      cases q : H b with
      | none => rfl
      | some u =>
        have e' : b = a := hA b (by rw [q]; exact fun z => nomatch z)
        subst e'
        rw [hK (by rw [q]; exact fun z => nomatch z)] at e
        cases e)
    have hM : Mod K mg (hidT s₁.heap H) := ⟨hKb, nsK hns, ⟨mb, nsK hb, hbb⟩, let ⟨mc, h1, h2⟩ := hlim; ⟨mc, nsK h1, h2⟩⟩
    have e0 : Env0 P w K mg (hidT s₁.heap H) callerA [] s₁ H := ⟨rfl, hM, fun b o e => of_hidT e, Nat.le_of_eq (hidT_size _ _), trivial, fun b hb => absurd (show b ∈ ([] : List Addr) from hb) List.not_mem_nil, hok, .of_eq hg⟩
    refine codeAny_mono (F _ callerA [] s₁ H [.ref a] [.ref a] _ _ rfl hr e0 (.cons rfl .nil) (hsp H hO hS)) fun r s' h => ?_
    cases r with
    | error e => exact False.elim h
    | ok fl =>
      cases fl with
      | next => exact False.elim h
      | brk => exact False.elim h
      | cont => exact False.elim h
      | ret u =>
        obtain ⟨v, H', os, bare, un, hok', r', q⟩ := h
        have q' : v = .bl true := q
        subst q'
        obtain rfl : u = Value.bool true := r'
        refine ⟨rfl, OldK.of_keep fun b o e => ?_, os, bare⟩
        cases q : H b with
        | none => exact un.keep b o e q (fun z => absurd (show b ∈ ([] : List Addr) from z) List.not_mem_nil) List.not_mem_nil
        | some u =>
          rcases hO b with z | ⟨ob, xs, z⟩
          · rw [q] at z
            cases z
          · have z2 := un.frzs b ob _ z
            obtain ⟨e1, _⟩ := hok b _ z
            obtain ⟨e2, _⟩ := hok' b _ z2
            rw [e] at e1
            cases e1
            exact e2
  cases hk : K.lookup a with
  | some o =>
    have e := KX a o hk
    rw [ha] at e
    cases e
    refine main (fun _ => none) (fun _ => .inl rfl) (.inr ⟨_, vs.toArray, _, hk, rfl, rfl, rfl, by rw [List.size_toArray, lenV]; exact hl, rv⟩) (fun b u z => nomatch (show (none : Option HO) = some u from z)) (fun b z => absurd rfl z) fun z => absurd rfl z
  | none =>
    refine main (fun b => if b = a then some (.frz { cls := .type "list", data := .seq vs.toArray } (.lst (ns.map V.int))) else none) (fun b => ?_) (.inl (.inr ⟨{ cls := .type "list", data := .seq vs.toArray }, if_pos rfl⟩)) (fun b u z => ?_) (fun b z => ?_) fun _ => hk
    · by_cases hb : b = a
      · exact .inr ⟨_, _, if_pos hb⟩
      · exact .inl (if_neg hb)
    · by_cases hb : b = a
      · have z' := (if_pos hb).symm.trans z
        cases z'
        subst hb
        exact ⟨ha, by rw [List.length_map]; exact hl, vs, _, rv, ha⟩
      · have z' := (if_neg hb).symm.trans z
        cases z'
    · by_cases hb : b = a
      · exact hb
      · exact absurd (if_neg hb) z
theorem walk_G {l : PySem.W.OpenLaw} {n k : Nat} {q : Program} {loose : List Str} {XP : (Str → Option Value) → Heap → Prop} {YP : World → Heap → Prop} {d : DefRec}
    (hn : l.most = some n) (hn2 : n ≤ sizeLine) (hdf : d.params.defaults = []) (hr : Room k callerA)
    (F : ∀ (w : World) (mg : Str → Option Value) (fl : Addr) (h : Heap), YP w h → h.Ns mainGlobals mg → mg d.name = some (.ref fl) →
      ∃ (K : PySem.W.Frag) (sp : Sp), K.In h ∧ (∀ (H : Hp) (a : Addr) (ns : List Int), ns.length ≤ n → Only H → SqL K H a (ns.map V.int) → sp [.ref a] H (fun v _ => v = .bl true) fun _ _ _ => False) ∧
        ∀ base : Heap, FnG l.prog w K mg base CX0 k fl sp) :
    PySem.W.WalkO q loose XP YP l.row.toRowW d [] (fun f vs => PySem.call f vs) := by
  refine Att.attach_call hn hdf fun w s₀ s₁ mg mb fl o pm cd doc a vs ns G Y ho hd hcd hmg hobj hints hlen hg => ?_
  obtain ⟨K, sp, KX, hsp, hF⟩ := F w mg fl _ Y G.T.g hmg
  exact law_end KX G.T.g G.T.b G.T.builtins G.T.nolimit hg hobj hints (Nat.le_trans hlen hn2) hr hF fun H hO hS => hsp H a ns hlen hO hS
/-- the script's list stays what it is -/
theorem keep_script {K : PySem.W.Frag} {H H' : Hp} {a : Addr} {xs : List V} (hO : Only H) (h : SqL K H a xs) (z : Frz H H') : SqL K H' a xs := by
  rcases h with (h | ⟨o, h⟩) | h
  · rcases hO a with e | ⟨o, ys, e⟩
    · rw [e] at h
      cases h
    · rw [e] at h
      cases h
  · exact .inl (.inr ⟨o, z _ _ _ h⟩)
  · exact .inr h
end Tc
open PySem PySem.W PySem.Calls PyProof.Rows
theorem PySem.Challenge.cw_turnedcards_k57_whole_two_consoles_holds : PySem.Challenge.rw_turnedcards_k57_whole_two_consoles.Holds :=
  by
  w_on; o_law
  refine HandSHeadRun.head_any (r := OpenLaw.row PySem.Challenge.rw_turnedcards_k57_whole_two_consoles) (q := Tc.qv) (H := Tc.hookW) (ob := Tc.ob) (M := 7400) (loose := Tc.names) (d := HandSHeadRun.topDef (OpenLaw.row PySem.Challenge.rw_turnedcards_k57_whole_two_consoles).prog 90) (kwd := []) Tc.ob_eq
    (by kernel_rfl) (fun s => by kernel_rfl) Tc.run (by kernel_rfl) (by kernel_rfl) (by kernel_rfl) (by rfl) (by first | assumption | decide +kernel) (by decide +kernel) ⟨rfl, rfl, rfl, rfl, rfl, by decide +kernel⟩ ?hw ?hc
  case hw => w_witness2
  case hc =>
    refine Tc.walk_G (l := PySem.Challenge.rw_turnedcards_k57_whole_two_consoles) (n := 63) (k := 38) rfl (by decide) (by kernel_rfl) ⟨rfl, by decide, by decide⟩ ?F
    intro w mg fl h Y G hmg0
    obtain ⟨K, KX, c⟩ := Y
    have hmg : mg ("law" : PySem.Str) = some (.ref fl) := by
      have e : (HandSHeadRun.topDef (OpenLaw.row PySem.Challenge.rw_turnedcards_k57_whole_two_consoles).prog 90).name = ("law" : PySem.Str) := by kernel_rfl
      rw [← e]
      exact hmg0
    have W := Tc.wd_of KX G c
    have e := hmg.symm.trans W.g_law
    cases e
    exact ⟨K, Tc.sp_law K, KX, fun H a ns hl hO hS => ⟨a, ns, rfl, fun H' z => Tc.keep_script hO hS z, by omega, fun _ => rfl⟩, fun base => Tc.ok_law W⟩
