import PyProof.Rows.All
import Wide.All
import OpenK.AllK
import Wide.FinOn
import KE.KStateDown
import Lean
import HandS.ForMost
import HandS.ForExc
import HandS.Codes
import HandS.Defaults
import HandS.Style
import HandS.Flow
import HandS.Deep
import HandS.DeepEq
import HandS.DictComp
import HandS.DictTup
import HandS.IsInst
import HandS.NoneIn
import HandS.Conv
import HandS.Small
import HandS.Wide
import HandS.WideBits
import HandS.SetKeys
import HandS.SortOrd
import HandS.OwnEq
import HandS.TupLe
import HandS.TupAny
import HandS.TupLen
import HandS.EndBits
import HandS.Head0
import HandS.Head1
import HandS.Head2
import HandS.HeadEnd
import HandS.HeadHook1
import HandS.HeadHook2
import HandS.HeadHook3
import HandS.HeadHook4
import PySem.Challenge.RW_endswell_k60_whole_spare_heard_words
import KE.KDictDisplayH
import KE.SortData
import KE.DatumOrd
import HandS.SetBool
set_option Elab.async false
set_option linter.all false
set_option maxRecDepth 100000
set_option maxHeartbeats 4000000
namespace En
open PySem PySem.Spec PyProof.Rows L2
/-! ### the text by places -/
def top (i : Nat) : Stmt := PySem.Challenge.pw_endswell_k60_whole_spare_heard_words.main.body.getD i (.Pass ⟨0, 0, 0, 0⟩)
abbrev s_is_spelt : Stmt := top 9
abbrev s_is_ascending : Stmt := top 10
abbrev s_is_row : Stmt := top 14
abbrev s_is_book : Stmt := top 15
abbrev s_copied : Stmt := top 16
abbrev s_Desk_init : Stmt := inClass (top 17) 0
abbrev s_Desk_eq : Stmt := inClass (top 17) 3
abbrev s_check_desk : Stmt := top 18
abbrev s_is_change : Stmt := top 19
abbrev s_with_row : Stmt := top 20
abbrev s_turn_step : Stmt := top 21
abbrev s_step_of : Stmt := top 24
abbrev s_changed : Stmt := top 25
abbrev s_reached_from : Stmt := top 26
abbrev s_words_at : Stmt := top 28
abbrev s_are_left : Stmt := top 29
abbrev s_without : Stmt := top 30
abbrev s_Held_init : Stmt := inClass (top 32) 0
abbrev s_Held_sayable : Stmt := inClass (top 32) 1
abbrev s_Held_is_matched : Stmt := inClass (top 32) 2
abbrev s_Held_steps : Stmt := inClass (top 32) 4
abbrev s_Held_lets_out : Stmt := inClass (top 32) 5
abbrev s_Held_talks_from : Stmt := inClass (top 32) 6
abbrev s_is_ranked : Stmt := top 33
abbrev s_ranked_matching : Stmt := top 34
abbrev s_lost_from : Stmt := top 36
abbrev s_ranked_viable : Stmt := top 38
abbrev s_rounds : Stmt := top 40
abbrev s_ranks_of : Stmt := top 41
abbrev s_viable_states : Stmt := top 42
abbrev s_check_two : Stmt := top 44
abbrev s_held_of : Stmt := top 45
abbrev s_start_of : Stmt := top 46
abbrev s_lost_of : Stmt := top 47
abbrev s_stands_for : Stmt := top 48
abbrev s_stands : Stmt := top 49
abbrev s_is_word_at : Stmt := top 51
abbrev s_is_list_of : Stmt := top 52
abbrev s_heard_well : Stmt := top 53
abbrev s_needed_heard : Stmt := top 54
abbrev s_is_spare : Stmt := top 55
abbrev s_l_purse : Stmt := top 57
abbrev s_l_mixed : Stmt := top 58
abbrev s_l_draw : Stmt := top 59
abbrev s_l_purses : Stmt := top 60
abbrev s_l_one_of : Stmt := top 61
abbrev s_l_shuffled : Stmt := top 62
abbrev s_l_exact : Stmt := top 63
abbrev s_l_word : Stmt := top 64
abbrev s_l_words : Stmt := top 65
abbrev s_l_pool : Stmt := top 66
abbrev s_l_turns : Stmt := top 67
abbrev s_l_world : Stmt := top 68
abbrev s_l_shape : Stmt := top 69
abbrev s_l_desk : Stmt := top 70
abbrev s_l_turned : Stmt := top 71
abbrev s_l_viable : Stmt := top 72
abbrev s_l_closed : Stmt := top 73
abbrev s_l_good : Stmt := top 74
abbrev s_l_matched_by : Stmt := top 75
abbrev s_l_steps_by : Stmt := top 76
abbrev s_l_held_steps : Stmt := top 77
abbrev s_l_common : Stmt := top 78
abbrev s_l_lost : Stmt := top 79
abbrev s_l_stands : Stmt := top 80
abbrev s_l_row_of : Stmt := top 81
abbrev s_l_ended : Stmt := top 82
abbrev s_l_chatty : Stmt := top 83
abbrev s_l_items : Stmt := top 84
abbrev s_l_without : Stmt := top 85
abbrev s_l_lots : Stmt := top 86
abbrev s_l_leaves : Stmt := top 87
abbrev s_l_is_spare : Stmt := top 88
abbrev s_l_more_right : Stmt := top 89
abbrev s_l_world_right : Stmt := top 90
abbrev s_law : Stmt := top 91
def d_is_spelt : He.DefD := ⟨("is_spelt", none), "is_spelt", "is_spelt", defArgs s_is_spelt, defBody s_is_spelt, defScope s_is_spelt, [], []⟩
def d_is_ascending : He.DefD := ⟨("is_ascending", none), "is_ascending", "is_ascending", defArgs s_is_ascending, defBody s_is_ascending, defScope s_is_ascending, [], []⟩
def d_is_row : He.DefD := ⟨("is_row", none), "is_row", "is_row", defArgs s_is_row, defBody s_is_row, defScope s_is_row, [], []⟩
def d_is_book : He.DefD := ⟨("is_book", none), "is_book", "is_book", defArgs s_is_book, defBody s_is_book, defScope s_is_book, [], []⟩
def d_copied : He.DefD := ⟨("copied", none), "copied", "copied", defArgs s_copied, defBody s_copied, defScope s_copied, [], []⟩
def d_Desk_init : He.DefD := ⟨("Desk", some "__init__"), "__init__", "Desk.__init__", defArgs s_Desk_init, defBody s_Desk_init, defScope s_Desk_init, [], []⟩
def d_Desk_eq : He.DefD := ⟨("Desk", some "__eq__"), "__eq__", "Desk.__eq__", defArgs s_Desk_eq, defBody s_Desk_eq, defScope s_Desk_eq, [], []⟩
def d_check_desk : He.DefD := ⟨("check_desk", none), "check_desk", "check_desk", defArgs s_check_desk, defBody s_check_desk, defScope s_check_desk, [], []⟩
def d_is_change : He.DefD := ⟨("is_change", none), "is_change", "is_change", defArgs s_is_change, defBody s_is_change, defScope s_is_change, [], []⟩
def d_with_row : He.DefD := ⟨("with_row", none), "with_row", "with_row", defArgs s_with_row, defBody s_with_row, defScope s_with_row, [], []⟩
def d_turn_step : He.DefD := ⟨("turn_step", none), "turn_step", "turn_step", defArgs s_turn_step, defBody s_turn_step, defScope s_turn_step, [], []⟩
def d_step_of : He.DefD := ⟨("step_of", none), "step_of", "step_of", defArgs s_step_of, defBody s_step_of, defScope s_step_of, [], []⟩
def d_changed : He.DefD := ⟨("changed", none), "changed", "changed", defArgs s_changed, defBody s_changed, defScope s_changed, [], []⟩
def d_reached_from : He.DefD := ⟨("reached_from", none), "reached_from", "reached_from", defArgs s_reached_from, defBody s_reached_from, defScope s_reached_from, [], []⟩
def d_words_at : He.DefD := ⟨("words_at", none), "words_at", "words_at", defArgs s_words_at, defBody s_words_at, defScope s_words_at, [], []⟩
def d_are_left : He.DefD := ⟨("are_left", none), "are_left", "are_left", defArgs s_are_left, defBody s_are_left, defScope s_are_left, [], []⟩
def d_without : He.DefD := ⟨("without", none), "without", "without", defArgs s_without, defBody s_without, defScope s_without, [], []⟩
def d_Held_init : He.DefD := ⟨("Held", some "__init__"), "__init__", "Held.__init__", defArgs s_Held_init, defBody s_Held_init, defScope s_Held_init, [], []⟩
def d_Held_sayable : He.DefD := ⟨("Held", some "sayable"), "sayable", "Held.sayable", defArgs s_Held_sayable, defBody s_Held_sayable, defScope s_Held_sayable, [], []⟩
def d_Held_is_matched : He.DefD := ⟨("Held", some "is_matched"), "is_matched", "Held.is_matched", defArgs s_Held_is_matched, defBody s_Held_is_matched, defScope s_Held_is_matched, [], []⟩
def d_Held_steps : He.DefD := ⟨("Held", some "steps"), "steps", "Held.steps", defArgs s_Held_steps, defBody s_Held_steps, defScope s_Held_steps, [], []⟩
def d_Held_lets_out : He.DefD := ⟨("Held", some "lets_out"), "lets_out", "Held.lets_out", defArgs s_Held_lets_out, defBody s_Held_lets_out, defScope s_Held_lets_out, [], []⟩
def d_Held_talks_from : He.DefD := ⟨("Held", some "talks_from"), "talks_from", "Held.talks_from", defArgs s_Held_talks_from, defBody s_Held_talks_from, defScope s_Held_talks_from, [], []⟩
def d_is_ranked : He.DefD := ⟨("is_ranked", none), "is_ranked", "is_ranked", defArgs s_is_ranked, defBody s_is_ranked, defScope s_is_ranked, [], []⟩
def d_ranked_matching : He.DefD := ⟨("ranked_matching", none), "ranked", "ranked", defArgs s_ranked_matching, defBody s_ranked_matching, defScope s_ranked_matching, [], []⟩
def d_lost_from : He.DefD := ⟨("lost_from", none), "lost_from", "lost_from", defArgs s_lost_from, defBody s_lost_from, defScope s_lost_from, [], []⟩
def d_ranked_viable : He.DefD := ⟨("ranked_viable", none), "ranked", "ranked", defArgs s_ranked_viable, defBody s_ranked_viable, defScope s_ranked_viable, [], []⟩
def d_rounds : He.DefD := ⟨("rounds", none), "rounds", "rounds", defArgs s_rounds, defBody s_rounds, defScope s_rounds, [], []⟩
def d_ranks_of : He.DefD := ⟨("ranks_of", none), "ranks_of", "ranks_of", defArgs s_ranks_of, defBody s_ranks_of, defScope s_ranks_of, [], []⟩
def d_viable_states : He.DefD := ⟨("viable_states", none), "viable_states", "viable_states", defArgs s_viable_states, defBody s_viable_states, defScope s_viable_states, [], []⟩
def d_check_two : He.DefD := ⟨("check_two", none), "check_two", "check_two", defArgs s_check_two, defBody s_check_two, defScope s_check_two, [], []⟩
def d_held_of : He.DefD := ⟨("held_of", none), "held_of", "held_of", defArgs s_held_of, defBody s_held_of, defScope s_held_of, [], []⟩
def d_start_of : He.DefD := ⟨("start_of", none), "start_of", "start_of", defArgs s_start_of, defBody s_start_of, defScope s_start_of, [], []⟩
def d_lost_of : He.DefD := ⟨("lost_of", none), "lost_of", "lost_of", defArgs s_lost_of, defBody s_lost_of, defScope s_lost_of, [], []⟩
def d_stands_for : He.DefD := ⟨("stands_for", none), "stands_for", "stands_for", defArgs s_stands_for, defBody s_stands_for, defScope s_stands_for, [], []⟩
def d_stands : He.DefD := ⟨("stands", none), "stands", "stands", defArgs s_stands, defBody s_stands, defScope s_stands, [], []⟩
def d_is_word_at : He.DefD := ⟨("is_word_at", none), "is_word_at", "is_word_at", defArgs s_is_word_at, defBody s_is_word_at, defScope s_is_word_at, [], []⟩
def d_is_list_of : He.DefD := ⟨("is_list_of", none), "is_list_of", "is_list_of", defArgs s_is_list_of, defBody s_is_list_of, defScope s_is_list_of, [], []⟩
def d_heard_well : He.DefD := ⟨("heard_well", none), "heard_well", "heard_well", defArgs s_heard_well, defBody s_heard_well, defScope s_heard_well, [], []⟩
def d_needed_heard : He.DefD := ⟨("needed_heard", none), "needed_heard", "needed_heard", defArgs s_needed_heard, defBody s_needed_heard, defScope s_needed_heard, [], []⟩
def d_is_spare : He.DefD := ⟨("is_spare", none), "is_spare", "is_spare", defArgs s_is_spare, defBody s_is_spare, defScope s_is_spare, [], []⟩
def d_l_purse : He.DefD := ⟨("_law_purse", none), "_law_purse", "_law_purse", defArgs s_l_purse, defBody s_l_purse, defScope s_l_purse, [], []⟩
def d_l_mixed : He.DefD := ⟨("_law_mixed", none), "_law_mixed", "_law_mixed", defArgs s_l_mixed, defBody s_l_mixed, defScope s_l_mixed, [], []⟩
def d_l_draw : He.DefD := ⟨("_law_draw", none), "_law_draw", "_law_draw", defArgs s_l_draw, defBody s_l_draw, defScope s_l_draw, [], []⟩
def d_l_purses : He.DefD := ⟨("_law_purses", none), "_law_purses", "_law_purses", defArgs s_l_purses, defBody s_l_purses, defScope s_l_purses, [], []⟩
def d_l_one_of : He.DefD := ⟨("_law_one_of", none), "_law_one_of", "_law_one_of", defArgs s_l_one_of, defBody s_l_one_of, defScope s_l_one_of, [], []⟩
def d_l_shuffled : He.DefD := ⟨("_law_shuffled", none), "_law_shuffled", "_law_shuffled", defArgs s_l_shuffled, defBody s_l_shuffled, defScope s_l_shuffled, [], []⟩
def d_l_exact : He.DefD := ⟨("_law_exact", none), "_law_exact", "_law_exact", defArgs s_l_exact, defBody s_l_exact, defScope s_l_exact, [], []⟩
def d_l_word : He.DefD := ⟨("_law_word", none), "_law_word", "_law_word", defArgs s_l_word, defBody s_l_word, defScope s_l_word, [], []⟩
def d_l_words : He.DefD := ⟨("_law_words", none), "_law_words", "_law_words", defArgs s_l_words, defBody s_l_words, defScope s_l_words, [], []⟩
def d_l_pool : He.DefD := ⟨("_law_pool", none), "_law_pool", "_law_pool", defArgs s_l_pool, defBody s_l_pool, defScope s_l_pool, [], []⟩
def d_l_turns : He.DefD := ⟨("_law_turns", none), "_law_turns", "_law_turns", defArgs s_l_turns, defBody s_l_turns, defScope s_l_turns, [], []⟩
def d_l_world : He.DefD := ⟨("_law_world", none), "_law_world", "_law_world", defArgs s_l_world, defBody s_l_world, defScope s_l_world, [], []⟩
def d_l_shape : He.DefD := ⟨("_law_shape", none), "_law_shape", "_law_shape", defArgs s_l_shape, defBody s_l_shape, defScope s_l_shape, [], []⟩
def d_l_desk : He.DefD := ⟨("_law_desk", none), "_law_desk", "_law_desk", defArgs s_l_desk, defBody s_l_desk, defScope s_l_desk, [], []⟩
def d_l_turned : He.DefD := ⟨("_law_turned", none), "_law_turned", "_law_turned", defArgs s_l_turned, defBody s_l_turned, defScope s_l_turned, [], []⟩
def d_l_viable : He.DefD := ⟨("_law_viable", none), "_law_viable", "_law_viable", defArgs s_l_viable, defBody s_l_viable, defScope s_l_viable, [], []⟩
def d_l_closed : He.DefD := ⟨("_law_closed", none), "_law_closed", "_law_closed", defArgs s_l_closed, defBody s_l_closed, defScope s_l_closed, [], []⟩
def d_l_good : He.DefD := ⟨("_law_good", none), "_law_good", "_law_good", defArgs s_l_good, defBody s_l_good, defScope s_l_good, [], []⟩
def d_l_matched_by : He.DefD := ⟨("_law_matched_by", none), "_law_matched_by", "_law_matched_by", defArgs s_l_matched_by, defBody s_l_matched_by, defScope s_l_matched_by, [], []⟩
def d_l_steps_by : He.DefD := ⟨("_law_steps_by", none), "_law_steps_by", "_law_steps_by", defArgs s_l_steps_by, defBody s_l_steps_by, defScope s_l_steps_by, [], []⟩
def d_l_held_steps : He.DefD := ⟨("_law_held_steps", none), "_law_held_steps", "_law_held_steps", defArgs s_l_held_steps, defBody s_l_held_steps, defScope s_l_held_steps, [], []⟩
def d_l_common : He.DefD := ⟨("_law_common", none), "_law_common", "_law_common", defArgs s_l_common, defBody s_l_common, defScope s_l_common, [], []⟩
def d_l_lost : He.DefD := ⟨("_law_lost", none), "_law_lost", "_law_lost", defArgs s_l_lost, defBody s_l_lost, defScope s_l_lost, [], []⟩
def d_l_stands : He.DefD := ⟨("_law_stands", none), "_law_stands", "_law_stands", defArgs s_l_stands, defBody s_l_stands, defScope s_l_stands, [], []⟩
def d_l_row_of : He.DefD := ⟨("_law_row_of", none), "_law_row_of", "_law_row_of", defArgs s_l_row_of, defBody s_l_row_of, defScope s_l_row_of, [], []⟩
def d_l_ended : He.DefD := ⟨("_law_ended", none), "_law_ended", "_law_ended", defArgs s_l_ended, defBody s_l_ended, defScope s_l_ended, [], []⟩
def d_l_chatty : He.DefD := ⟨("_law_chatty", none), "_law_chatty", "_law_chatty", defArgs s_l_chatty, defBody s_l_chatty, defScope s_l_chatty, [], []⟩
def d_l_items : He.DefD := ⟨("_law_items", none), "_law_items", "_law_items", defArgs s_l_items, defBody s_l_items, defScope s_l_items, [], []⟩
def d_l_without : He.DefD := ⟨("_law_without", none), "_law_without", "_law_without", defArgs s_l_without, defBody s_l_without, defScope s_l_without, [], []⟩
def d_l_lots : He.DefD := ⟨("_law_lots", none), "_law_lots", "_law_lots", defArgs s_l_lots, defBody s_l_lots, defScope s_l_lots, [], []⟩
def d_l_leaves : He.DefD := ⟨("_law_leaves", none), "_law_leaves", "_law_leaves", defArgs s_l_leaves, defBody s_l_leaves, defScope s_l_leaves, [], []⟩
def d_l_is_spare : He.DefD := ⟨("_law_is_spare", none), "_law_is_spare", "_law_is_spare", defArgs s_l_is_spare, defBody s_l_is_spare, defScope s_l_is_spare, [], []⟩
def d_l_more_right : He.DefD := ⟨("_law_more_right", none), "_law_more_right", "_law_more_right", defArgs s_l_more_right, defBody s_l_more_right, defScope s_l_more_right, [], []⟩
def d_l_world_right : He.DefD := ⟨("_law_world_right", none), "_law_world_right", "_law_world_right", defArgs s_l_world_right, defBody s_l_world_right, defScope s_l_world_right, [], []⟩
def d_law : He.DefD := ⟨("law", none), "law", "law", defArgs s_law, defBody s_law, defScope s_law, [], []⟩
def fn0 : List He.DefD := [d_is_spelt, d_is_ascending, d_is_row, d_is_book, d_copied, d_Desk_init, d_Desk_eq, d_check_desk, d_is_change, d_with_row, d_turn_step, d_step_of, d_changed, d_reached_from, d_words_at, d_are_left, d_without, d_Held_init, d_Held_sayable, d_Held_is_matched, d_Held_steps, d_Held_lets_out, d_Held_talks_from, d_is_ranked, d_ranked_matching, d_lost_from, d_ranked_viable, d_rounds, d_ranks_of, d_viable_states]
def fn1 : List He.DefD := [d_check_two, d_held_of, d_start_of, d_lost_of, d_stands_for, d_stands, d_is_word_at, d_is_list_of, d_heard_well, d_needed_heard, d_is_spare, d_l_purse, d_l_mixed, d_l_draw, d_l_purses, d_l_one_of, d_l_shuffled, d_l_exact, d_l_word, d_l_words, d_l_pool, d_l_turns, d_l_world, d_l_shape, d_l_desk, d_l_turned, d_l_viable, d_l_closed, d_l_good, d_l_matched_by]
def fn2 : List He.DefD := [d_l_steps_by, d_l_held_steps, d_l_common, d_l_lost, d_l_stands, d_l_row_of, d_l_ended, d_l_chatty, d_l_items, d_l_without, d_l_lots, d_l_leaves, d_l_is_spare, d_l_more_right, d_l_world_right, d_law]
def fn : List He.DefD := fn0 ++ (fn1 ++ (fn2))
def fa0 : List He.Fa := [.glo "is_spelt", .glo "is_ascending", .glo "is_row", .glo "is_book", .glo "copied", .glo "check_desk", .glo "is_change", .glo "with_row", .glo "turn_step", .glo "step_of", .glo "changed", .glo "reached_from", .glo "words_at", .glo "are_left", .glo "without", .glo "is_ranked", .glo "ranked_matching", .glo "lost_from", .glo "ranked_viable", .glo "rounds", .glo "ranks_of", .glo "viable_states", .glo "check_two", .glo "held_of", .glo "start_of", .glo "lost_of", .glo "stands_for", .glo "stands", .glo "is_word_at", .glo "is_list_of"]
def fa1 : List He.Fa := [.glo "heard_well", .glo "needed_heard", .glo "is_spare", .glo "_law_purse", .glo "_law_mixed", .glo "_law_draw", .glo "_law_purses", .glo "_law_one_of", .glo "_law_shuffled", .glo "_law_exact", .glo "_law_word", .glo "_law_words", .glo "_law_pool", .glo "_law_turns", .glo "_law_world", .glo "_law_shape", .glo "_law_desk", .glo "_law_turned", .glo "_law_viable", .glo "_law_closed", .glo "_law_good", .glo "_law_matched_by", .glo "_law_steps_by", .glo "_law_held_steps", .glo "_law_common", .glo "_law_lost", .glo "_law_stands", .glo "_law_row_of", .glo "_law_ended", .glo "_law_chatty"]
def fa2 : List He.Fa := [.glo "_law_items", .glo "_law_without", .glo "_law_lots", .glo "_law_leaves", .glo "_law_is_spare", .glo "_law_more_right", .glo "_law_world_right", .glo "law", .glo "Desk", .glo "Held", .free "isinstance", .free "tuple", .free "len", .free "str", .free "dict", .free "all", .free "any", .free "sorted", .free "list", .free "int", .free "max", .free "min", .free "range", .free "sum", .free "bool", .free "zip", .str "LETTERS" "abcdefghijklmnopqrstuvwxyz", .cls "Desk", .cls "Held", .mkr "Desk"]
def fa3 : List He.Fa := [.mkr "Held", .noat "Desk" "rows", .noat "Desk" "first", .noat "Held" "elder", .noat "Held" "viable", .noat "Held" "newer", .meth "Held" "sayable", .meth "Held" "is_matched", .meth "Held" "steps", .meth "Held" "lets_out", .meth "Held" "talks_from", .meth "Desk" "__eq__", .glo "TURNED", .glo "SIZES"]
def fa : List He.Fa := fa0 ++ (fa1 ++ (fa2 ++ (fa3)))
def ts : List He.Tab := [(fun K => He.ga K "TURNED", ["says", "hears", "done"]), (fun K => He.ga K "SIZES", ["add", "drop", "lead", "put", "out", "begin"])]
/-- more that is looked at behind the top: isinstance over Desk, the written tables -/
def exB (K : PySem.W.Frag) : Bool :=
  He.eqO (PySem.W.findIn K (.ref (He.ga K "Desk")) "__class__") (some (some (.builtin "object.__class__"))) &&
  (He.eqO (PySem.W.specialIn K (.builtin "object.__class__") "__get__") (some (some (.builtin "getset_descriptor.__get__"))) &&
  (decide (PySem.W.takesIn K (.builtin "object.__class__") = some true) &&
  (decide (PySem.W.mroIn K (He.ga K "Desk") (.type "object") = some true) &&
  (decide (PySem.W.kitOne K (.ref (He.ga K "Desk")) (.ref (He.ga K "Desk")) = some true) &&
  (He.valsB K (He.ga K "TURNED") [("says", .str "hears"), ("hears", .str "says"), ("done", .str "done")] &&
  (He.valsB K (He.ga K "SIZES") [("add", .int 4), ("drop", .int 3), ("lead", .int 4), ("put", .int 3), ("out", .int 2), ("begin", .int 2)] &&
  (decide (PySem.W.kitOne K (.ref (He.ga K "Desk")) (.type "list") = some false) &&
  decide (PySem.W.kitOne K (.ref (He.ga K "Desk")) (.type "tuple") = some false))))))))
abbrev R : PySem.W.OpenRow := PySem.W.OpenLaw.row PySem.Challenge.rw_endswell_k60_whole_spare_heard_words
/-- a list of addresses, each reckoned out ahead of its use -/
def forced {A : Type} : List Addr → (List Addr → A) → A
  | [], k => k []
  | a :: r, k => HandSHeadRun.frNat a fun b => forced r fun q => k (b :: q)
theorem forced_eq {A : Type} : ∀ (l : List Addr) (k : List Addr → A), forced l k = k l
  | [], _ => rfl
  | a :: r, k => by
    show HandSHeadRun.frNat a (fun b => forced r fun q => k (b :: q)) = k (a :: r)
    rw [HandSHeadRun.frNat_eq, forced_eq r]
/-- the objects that are looked at: what the module's names hold, the defs' code, the classes' names, the methods, their code -/
def nextOf (g : Addr → Option Obj) (as : List Addr) : List Addr := as.flatMap fun a => match g a with
  | some o => (match o.data with
    | .dict es _ => es.toList.flatMap fun e => He.refV e.val
    | .func fd => He.refV fd.code
    | .cls cd => [cd.ns]
    | _ => [])
  | none => []
def seenAt {A : Type} (g : Addr → Option Obj) (k : List Addr → A) : A :=
  forced (nextOf g [mainGlobals]) fun l1 => forced (nextOf g l1) fun l2 => forced (nextOf g l2) fun l3 => forced (nextOf g l3) fun l4 => k ([mainGlobals] ++ (l1 ++ (l2 ++ (l3 ++ l4))))
theorem seenAt_eq {A : Type} (g : Addr → Option Obj) (k : List Addr → A) : ∃ as, seenAt g k = k as := by
  unfold seenAt
  rw [forced_eq, forced_eq, forced_eq, forced_eq]
  exact ⟨_, rfl⟩
abbrev AlE : Type := He.AlT × Bool
def obE (g : Addr → Option Obj) : AlE := seenAt g fun as => (He.obsT fa fn ts (He.frG g as), exB (He.frG g as))
def hk : PySem.W.Hook where
  α := AlE
  obs := fun s => obE s.heap.get?
  val := fun w => (He.valT fn ts w, true)
  says := fun w h => ∃ K : PySem.W.Frag, K.In h ∧ He.SaysT fa fn ts w K ∧ exB K = true
  of := fun w s e => by
    obtain ⟨as, q⟩ := seenAt_eq s.heap.get? fun as => (He.obsT fa fn ts (He.frG s.heap.get? as), exB (He.frG s.heap.get? as))
    have e2 : obE s.heap.get? = (He.valT fn ts w, true) := e
    rw [show obE s.heap.get? = _ from q] at e2
    exact ⟨_, He.frG_in, congrArg (fun z : AlE => z.1) e2, congrArg (fun z : AlE => z.2) e2⟩
  keeps := fun _ _ _ ⟨K, hK, c⟩ k => ⟨K, PySem.W.Frag.In.keeps hK k, c⟩
def ob (s : PySem.W.SharedT) : AlE := obE (HandSHeadRun.getT s)
theorem ob_eq (s : PySem.W.SharedT) : ob s = hk.obs s.abs := by
  have e : HandSHeadRun.getT s = s.abs.heap.get? := funext fun a => HandSHeadRun.getT_eq s a
  show obE (HandSHeadRun.getT s) = obE s.abs.heap.get?
  rw [e]
def loose0 : List PySem.Str := ["_wall", "__name__", "DeskError", "InvalidBook", "InvalidState", "InvalidDesk", "InvalidChange", "LETTERS", "is_spelt", "is_ascending", "TURNED", "SIZES", "is_row", "is_book", "copied", "Desk", "check_desk", "is_change", "with_row", "turn_step", "put_step", "out_step", "step_of", "changed", "reached_from", "words_at", "are_left", "without", "Held", "is_ranked"]
def loose1 : List PySem.Str := ["ranked", "ranked_matching", "lost_from", "ranked_viable", "rounds", "ranks_of", "viable_states", "check_two", "held_of", "start_of", "lost_of", "stands_for", "stands", "is_word_at", "is_list_of", "heard_well", "needed_heard", "is_spare", "_law_purse", "_law_mixed", "_law_draw", "_law_purses", "_law_one_of", "_law_shuffled", "_law_exact", "_law_word", "_law_words", "_law_pool", "_law_turns", "_law_world"]
def loose2 : List PySem.Str := ["_law_shape", "_law_desk", "_law_turned", "_law_viable", "_law_closed", "_law_good", "_law_matched_by", "_law_steps_by", "_law_held_steps", "_law_common", "_law_lost", "_law_stands", "_law_row_of", "_law_ended", "_law_chatty", "_law_items", "_law_without", "_law_lots", "_law_leaves", "_law_is_spare", "_law_more_right", "_law_world_right"]
def loose : List PySem.Str := loose0 ++ (loose1 ++ (loose2))
end En
set_option maxHeartbeats 4000000
/-! Relations of heaps, what stays for ever, freezing; a dict beside an empty one. -/
namespace En
open PySem PySem.Spec PyProof.Rows L2
/-- what no rule changes any more -/
def Imm : HO → Prop
  | .tup _ => True
  | .frz _ _ => True
  | .ins _ _ _ => True
  | _ => False
/-- all that never changes stands as before -/
def Up (H H' : Hp) : Prop := ∀ b o, Imm o → H b = some o → H' b = some o
theorem Up.rfl (H : Hp) : Up H H := fun _ _ _ h => h
theorem Up.trans {H H1 H2 : Hp} (a : Up H H1) (b : Up H1 H2) : Up H H2 := fun c o i h => b c o i (a c o i h)
theorem up_same {H H' : Hp} (e : Same H H') : Up H H' := fun b o _ h => e b o h
theorem same_new {H : Hp} {p : Addr} (o : HO) (h : H p = none) : Same H (upd H p o) := fun a u e => by
  rw [upd_ne (ne_of_none e h)]
  exact e
theorem up_new {H : Hp} {p : Addr} (o : HO) (h : H p = none) : Up H (upd H p o) := up_same (same_new o h)
theorem up_mut {H : Hp} {l : Addr} {u : HO} (o : HO) (h : H l = some u) (nu : ¬ Imm u) : Up H (upd H l o) := fun a w i e => by
  rw [upd_ne (ne_of e h (fun z => nu (z ▸ i)))]
  exact e
/-- an object that the old heap does not know changes -/
theorem same_mut {H H' : Hp} {p : Addr} (o : HO) (e : Same H H') (h : H p = none) : Same H (upd H' p o) := fun a u ha => by
  rw [upd_ne (ne_of_none ha h)]
  exact e a u ha
theorem fresh_of {H H' : Hp} {p : Addr} (e : Same H H') (h : H' p = none) : H p = none := e.free h
/-- frozen lists, dicts -/
def FL (H : Hp) (a : Addr) (xs : List V) : Prop := ∃ o, H a = some (.frz o (.lst xs))
def FD (H : Hp) (a : Addr) (kvs : List (Key × V)) : Prop := ∃ o, H a = some (.frz o (.dK kvs))
def FT (H : Hp) (a : Addr) (kvs : List (List Key × V)) : Prop := ∃ o, H a = some (.frz o (.dT kvs))
def TU (H : Hp) (a : Addr) (xs : List V) : Prop := H a = some (.tup xs)
section
variable {H H' : Hp} {a : Addr}
theorem FL.up {xs : List V} (h : FL H a xs) (e : Up H H') : FL H' a xs := let ⟨o, q⟩ := h; ⟨o, e a _ trivial q⟩
theorem FD.up {xs : List (Key × V)} (h : FD H a xs) (e : Up H H') : FD H' a xs := let ⟨o, q⟩ := h; ⟨o, e a _ trivial q⟩
theorem FT.up {xs : List (List Key × V)} (h : FT H a xs) (e : Up H H') : FT H' a xs := let ⟨o, q⟩ := h; ⟨o, e a _ trivial q⟩
theorem TU.up {xs : List V} (h : TU H a xs) (e : Up H H') : TU H' a xs := e a _ trivial h
theorem FL.sq {K : PySem.W.Frag} {xs : List V} (h : FL H a xs) : SqL K H a xs := .inl (.inr h)
theorem TU.sq {K : PySem.W.Frag} {xs : List V} (h : TU H a xs) : SqT K H a xs := SqT.of h
theorem FD.rd {xs : List (Key × V)} (h : FD H a xs) : Rd H a (.dK xs) := .inr h
theorem FT.rd {xs : List (List Key × V)} (h : FT H a xs) : Rd H a (.dT xs) := .inr h
theorem FD.get {xs : List (Key × V)} (h : FD H a xs) (k : Key) : DGet H a (kV k) (valV xs k) := .inl ⟨xs, k, .inr h, rfl, rfl⟩
theorem FT.get {xs : List (List Key × V)} {b : Addr} {k : List Key} (h : FT H a xs) (hb : TU H b (k.map kV)) : DGet H a (.ref b) (valV xs k) := .inr ⟨xs, k, b, .inr h, rfl, hb, rfl⟩
theorem FL.inj {xs ys : List V} (h : FL H a xs) (h' : FL H a ys) : xs = ys := by
  obtain ⟨o, q⟩ := h
  obtain ⟨o', q'⟩ := h'
  rw [q] at q'
  injection q' with q'
  injection q' with _ q'
  injection q' with q'
theorem TU.inj {xs ys : List V} (h : TU H a xs) (h' : TU H a ys) : xs = ys := by
  have q := (show H a = _ from h).symm.trans h'
  injection q with q
  injection q with q
end
/-- e, whose new object is frozen from here on -/
def tFz (t : TE) : TE := fun σ H Q => t σ H fun v H1 => ∃ d u, v = .ref d ∧ H1 d = some u ∧ Mut (some u) ∧ ∀ o, Q v (upd H1 d (.frz o u))
theorem pe_fz {X : Cx} {e : Expr} {t : TE} (h : PE X e t) : PE X e (tFz t) := by
  refine ⟨fun pins s σ H Q I hw => ?_⟩
  refine thn (h.run pins s σ H _ I hw) fun v s1 ⟨x, H1, I1, r, d, u, ex, hd, mu, q⟩ => ?_
  obtain ⟨o, I2⟩ := I1.lock hd mu
  exact ⟨x, _, I2, r, q o⟩
/-! ### a dict beside an empty one -/
/-- how many pairs a dict of either kind has -/
def DLen (H : Hp) (a : Addr) (n : Nat) : Prop := (∃ kvs, Rd H a (.dK kvs) ∧ n = kvs.length) ∨ ∃ kvs, Rd H a (.dT kvs) ∧ n = kvs.length
theorem FD.len {H : Hp} {a : Addr} {xs : List (Key × V)} (h : FD H a xs) : DLen H a xs.length := .inl ⟨xs, h.rd, rfl⟩
theorem FT.len {H : Hp} {a : Addr} {xs : List (List Key × V)} (h : FT H a xs) : DLen H a xs.length := .inr ⟨xs, h.rd, rfl⟩
theorem DLen.obj {P : Program} {w : World} {H : Hp} {h : Heap} {a : Addr} {n : Nat} (ok : HOk P w H h) (d : DLen H a n) :
    (a == sysModules) = false ∧ ∃ ob es ep, h.get? a = some ob ∧ ob.ExactDict ∧ ob.data = .dict es ep ∧ es.size = n := by
  rcases d with ⟨kvs, r, e⟩ | ⟨kvs, r, e⟩
  · obtain ⟨_, la, vs, kv, ob, es, ep, g, x, dt, _, pr, _⟩ := dk_rd ok r
    refine ⟨la, ob, es, ep, g, x, dt, ?_⟩
    have q := pr.length
    have q2 := kv.length
    rw [Array.length_toList] at q
    omega
  · obtain ⟨_, la, xs, kt, ob, es, ep, g, x, dt, en, _⟩ := dt_rd ok r
    refine ⟨la, ob, es, ep, g, x, dt, ?_⟩
    have q := size_of_entries en
    have q2 := Paired.length kt
    omega
section
variable {prog : Program} {w : World} {A : Around} {E : Value → Shared → Prop} {s : Shared} {a b : Addr} {oa ob : Obj} {es eb : Array DictEntry} {ep ebp : Nat}
theorem pairs_none {nm : String} {Q : Bool → Shared → Prop} (la : (a == sysModules) = false) (lb : (b == sysModules) = false) (ha : s.heap.get? a = some oa) (da : oa.data = .dict es ep) (hb : s.heap.get? b = some ob) (db : ob.data = .dict eb ebp) (z : eb.size = 0)
    (q : Q (es.size == 0) s) : wpAny (model prog w) A (Builtin.Dict.samePairs nm a b) Q E s := by
  unfold Builtin.Dict.samePairs Builtin.Dict.showsAll
  rw [la, lb]
  simp only [Bool.false_eq_true, if_false]
  refine wpAny_bind (wpAny_pure (wpAny_bind (wpAny_pure (wpAny_bind (wpAny_dictEntries ha da ?_)))))
  try dsimp only
  refine wpAny_bind (wpAny_dictEntries hb db ?_)
  by_cases hz : es.size = 0
  · have e1 : (es.size != eb.size) = false := by rw [hz, z]; rfl
    rw [e1]
    simp only [Bool.false_eq_true, if_false]
    refine wpAny_bind (wpAny_dictEpoch ha da (wpAny_bind ?_))
    rw [Std.Legacy.Range.forIn_eq_forIn_range']
    simp only [Std.Legacy.Range.size, Nat.sub_zero, Nat.add_sub_cancel, Nat.div_one, hz]
    have e2 : (es.size == 0) = true := by rw [hz]; rfl
    rw [e2] at q
    exact wpAny_pure (wpAny_pure q)
  · have e1 : (es.size != eb.size) = true := by rw [z]; simpa using hz
    rw [e1]
    simp only [if_true]
    have e2 : (es.size == 0) = false := by simpa using hz
    rw [e2] at q
    exact wpAny_bind (wpAny_rule (wpAny_pure q))
theorem dict_eq_none {Q : Value → Shared → Prop} (la : (a == sysModules) = false) (lb : (b == sysModules) = false) (ha : s.heap.get? a = some oa) (xa : oa.ExactDict) (da : oa.data = .dict es ep) (hb : s.heap.get? b = some ob) (xb : ob.ExactDict) (db : ob.data = .dict eb ebp) (z : eb.size = 0)
    (hu : A.units < cLine) (q : Q (.bool (es.size == 0)) s) : wpAny (model prog w) A (compareOp .Eq (.ref a) (.ref b)) Q E s := by
  have ta : s.TypeIs (.ref a) "dict" := ⟨oa, ha, xa.1⟩
  have tb : s.TypeIs (.ref b) "dict" := ⟨ob, hb, xb.1⟩
  refine wpAny_richCompare_same_room (op := .Eq) ta tb PySem.F.slot_dict_eq (wpAny_call_entry PySem.F.slot_dict_eq ta PySem.F.entry_dict_eq (show wpAny _ _ (Builtin.Dict.dictSlotArgs "__eq__" ⟨[.ref a, .ref b], []⟩ >>= _) _ _ s from ?_) (PySem.F.args_dict_eq_2 _ _)) hu
  unfold Builtin.Dict.dictSlotArgs
  refine wpAny_bind (wpAny_bind (wpAny_notOrdered_dict ta (show wpAny _ _ (pure (Value.ref a, Value.ref b)) _ _ s from wpAny_pure (wpAny_bind (wpAny_isInstance (T := "dict") tb PySem.F.sub_dict_dict ?_)))))
  simp only [Bool.not_true, Bool.false_eq_true, if_false]
  exact wpAny_bind (wpAny_pure (wpAny_bind (wpAny_pure (wpAny_bind (pairs_none la lb ha da hb db z (wpAny_pure ⟨_, rfl, (fun x => nomatch x), by simpa using q⟩))))))
theorem dict_ne_none {Q : Value → Shared → Prop} (la : (a == sysModules) = false) (lb : (b == sysModules) = false) (ha : s.heap.get? a = some oa) (xa : oa.ExactDict) (da : oa.data = .dict es ep) (hb : s.heap.get? b = some ob) (xb : ob.ExactDict) (db : ob.data = .dict eb ebp) (z : eb.size = 0)
    (hu : A.units < cLine) (q : Q (.bool (!(es.size == 0))) s) : wpAny (model prog w) A (compareOp .NotEq (.ref a) (.ref b)) Q E s := by
  have ta : s.TypeIs (.ref a) "dict" := ⟨oa, ha, xa.1⟩
  have tb : s.TypeIs (.ref b) "dict" := ⟨ob, hb, xb.1⟩
  refine wpAny_richCompare_same_room (op := .NotEq) ta tb PySem.F.slot_dict_ne (wpAny_call_entry PySem.F.slot_dict_ne ta PySem.F.entry_dict_ne (show wpAny _ _ (Builtin.Dict.dictSlotArgs "__ne__" ⟨[.ref a, .ref b], []⟩ >>= _) _ _ s from ?_) (PySem.F.args_dict_ne_2 _ _)) hu
  unfold Builtin.Dict.dictSlotArgs
  refine wpAny_bind (wpAny_bind (wpAny_notOrdered_dict ta (show wpAny _ _ (pure (Value.ref a, Value.ref b)) _ _ s from wpAny_pure (wpAny_bind (wpAny_isInstance (T := "dict") tb PySem.F.sub_dict_dict ?_)))))
  simp only [Bool.not_true, Bool.false_eq_true, if_false]
  exact wpAny_bind (wpAny_pure (wpAny_bind (wpAny_pure (wpAny_bind (pairs_none la lb ha da hb db z (wpAny_pure ⟨_, rfl, (fun x => nomatch x), by simpa using q⟩))))))
end
section
variable {X : Cx}
/-- d == {}, d != {} -/
def rEqE : R2 := fun x y H Q => ∃ a b n, x = .ref a ∧ y = .ref b ∧ DLen H a n ∧ H b = some (.dK []) ∧ Q (.bl (n == 0)) H
def rNeE : R2 := fun x y H Q => ∃ a b n, x = .ref a ∧ y = .ref b ∧ DLen H a n ∧ H b = some (.dK []) ∧ Q (.bl (!(n == 0))) H
theorem op_eqE (hu : X.A.units < cLine) : OpR X (compareOp .Eq) rEqE := by
  intro pins s σ H x y v u Q I rx ry h
  obtain ⟨a, b, n, rfl, rfl, hl, hb, q⟩ := h
  obtain rfl : v = Value.ref a := rx
  obtain rfl : u = Value.ref b := ry
  obtain ⟨la, oa, es, ep, g1, x1, d1, z1⟩ := hl.obj I.hok
  obtain ⟨lb, ob, eb, ebp, g2, x2, d2, z2⟩ := (show DLen H b 0 from .inl ⟨[], .inl hb, rfl⟩).obj I.hok
  exact dict_eq_none la lb g1 x1 d1 g2 x2 d2 z2 hu (fin_bl I q (by rw [z1]))
theorem op_neE (hu : X.A.units < cLine) : OpR X (compareOp .NotEq) rNeE := by
  intro pins s σ H x y v u Q I rx ry h
  obtain ⟨a, b, n, rfl, rfl, hl, hb, q⟩ := h
  obtain rfl : v = Value.ref a := rx
  obtain rfl : u = Value.ref b := ry
  obtain ⟨la, oa, es, ep, g1, x1, d1, z1⟩ := hl.obj I.hok
  obtain ⟨lb, ob, eb, ebp, g2, x2, d2, z2⟩ := (show DLen H b 0 from .inl ⟨[], .inl hb, rfl⟩).obj I.hok
  exact dict_ne_none la lb g1 x1 d1 g2 x2 d2 z2 hu (fin_bl I q (by rw [z1]))
end
end En
set_option maxHeartbeats 4000000
/-! Small rules: + of two lists that are read, len of anything, list(d.values()), list(text), text * int. -/
namespace En
open PySem PySem.Spec PyProof.Rows L2
section
variable {X : Cx}
theorem hu0 {k : Nat} {A : Around} (r : Room k A) : A.units < cLine := by have := r.un; omega
theorem hu64 {k : Nat} {A : Around} (r : Room k A) : A.units + 64 < cLine := by have := r.un; omega
theorem hu65 {k : Nat} {A : Around} (r : Room k A) : A.units + 65 < cLine := by have := r.un; omega
/-- a + b, two lists that are tracked or frozen -/
def rCatS : R2 := fun x y H Q => ∃ a b xs ys, x = .ref a ∧ y = .ref b ∧ Rd H a (.lst xs) ∧ Rd H b (.lst ys) ∧ xs.length + ys.length ≤ sizeLine ∧ ∀ p, H p = none → Q (.ref p) (upd H p (.lst (xs ++ ys)))
theorem op_catS : OpR X (binaryOp .Add) rCatS := by
  intro pins s σ H x y v u Q I rx ry h
  obtain ⟨a, b, xs, ys, rfl, rfl, ha, hb, hz, q⟩ := h
  obtain rfl : v = Value.ref a := rx
  obtain rfl : u = Value.ref b := ry
  obtain ⟨_, i1, n1, r1, e1⟩ := ha.ok I.hok
  obtain ⟨_, i2, n2, r2, e2⟩ := hb.ok I.hok
  have l1 := r1.length
  have l2 := r2.length
  refine PySem.P.add_list e1 e2 ?_ (by simp only [List.size_toArray]; omega)
  rw [show i1.toArray ++ i2.toArray = (i1 ++ i2).toArray by simp]
  exact ⟨.ref _, _, I.lnew (t' := s.toks) (r1.append r2) (by rw [List.length_append]; exact hz), rfl, q _ I.fresh⟩
/-- len of a list, a tuple, a dict of either kind -/
def rLenA (K : PySem.W.Frag) : List V → Hp → VK → Prop := fun xs H Q => ∃ p n, xs = [.ref p] ∧ ((∃ ys, SqL K H p ys ∧ n = ys.length) ∨ (∃ ys, SqT K H p ys ∧ n = ys.length) ∨ DLen H p n) ∧ Q (.int (n : Int)) H
theorem call_lenA : CallR X (.builtin "len") (rLenA X.K) := by
  intro pins s σ H xs us Q I r h
  obtain ⟨p, n, rfl, hp, q⟩ := h
  rcases hp with ⟨ys, hy, rfl⟩ | ⟨ys, hy, rfl⟩ | hd
  · exact call_len_seq pins s σ H [.ref p] us Q I r ⟨p, ys, rfl, .inl hy, q⟩
  · exact call_len_seq pins s σ H [.ref p] us Q I r ⟨p, ys, rfl, .inr hy, q⟩
  · obtain ⟨u, rfl, ru⟩ := vals1 r
    obtain rfl : u = Value.ref p := ru
    rcases hd with ⟨kvs, hr, rfl⟩ | ⟨kvs, hr, rfl⟩
    · exact d_len I hr fun t s' I' => ⟨.int _, H, I', ⟨t, rfl⟩, q⟩
    · obtain ⟨z, lo, xs, kt, dd⟩ := dt_rd I.hok hr
      have l1 : kvs.length = xs.length := Paired.length kt
      have l2 : (sizeLine : Nat) < 2 ^ 63 := by rw [sizeLine_eq]; decide
      refine call_len_dictH (knd := tupleKind (mixKind X.prog X.w)) lo dd (by omega) ?_
      rw [← l1]
      exact ⟨.int _, H, I.tok _, ⟨_, rfl⟩, q⟩
/-- list(e.values()) -/
def rListVals : V → Hp → VK → Prop := fun x H Q => ∃ d kvs, x = .ref d ∧ Rd H d (.dK kvs) ∧ ∀ p, H p = none → Q (.ref p) (upd H p (.lst (kvs.map (·.2))))
def tListVals (te : TE) : TE := fun σ H Q => te σ H fun x H1 => rListVals x H1 Q
theorem vals_of_kv {κ : Type} : ∀ {kvs : List (κ × V)} {vs : List (κ × Value)}, KV kvs vs → Vals (kvs.map (·.2)) (vs.map (·.2))
  | _, _, .nil => .nil
  | _, _, .cons h t => .cons h.2 (vals_of_kv t)
theorem pe_listVals {e : Expr} {te : TE} {p apos cpos pos : Pos} (hc : X.calm = true) (hm : X.mg "list" = none) (he : PE X e te) (hg : Gl X "list" := by rfl) (hbase : attributeBase e "values" X.env (eval e X.env) = eval e X.env := by rfl) (hline : (apos.endLine == cpos.line) = true := by rfl)
    (hs : starEach [.Call (.Attribute e "values" apos) [] [] cpos] X.env = (false, eval (.Call (.Attribute e "values" apos) [] [] cpos) X.env) :: starEach [] X.env := by rfl) :
    PE X (.Call (.Name "list" p) [.Call (.Attribute e "values" apos) [] [] cpos] [] pos) (tListVals te) := by
  refine ⟨fun pins s σ H Q I hq => wpAny_Call_Name_kw (ld_blt I hg hm (show bootBuiltins "list" = some (.type "list") by decide +kernel) (PyProof.Rows.callWith_type1 ?_ hs rfl))⟩
  rw [hs]
  show wpAny _ _ (spliced ((false, eval (.Call (.Attribute e "values" apos) [] [] cpos) X.env) :: backTo pos (starEach [] X.env))) _ _ s
  refine Calls.spliced_cons (wpAny_Call_method (T := "dict") (id := "dict.values") hbase rfl hline F.plainAttrs_dict F.slot_dict_values F.type_dict_values (thn (he.run pins s σ H _ I hq) fun u s1 ⟨x, H1, I1, rx, d, kvs, ex, hd, q⟩ => ?_))
  subst ex
  obtain rfl : u = Value.ref d := rx
  obtain ⟨hz, lo, vs, kv, ddo⟩ := dk_rd I1.hok hd
  obtain ⟨ep, dat⟩ := ddo.dictAt
  have lk : kvs.length = vs.length := Paired.length kv
  have I2 : Inv X pins σ H1 { s1 with heap := s1.heap.push { cls := .type "dict_values", data := .fields #[.ref d] } } := I1.kept (t' := s1.toks) fun b ob g => Heap.get?_push_of_some _ g
  refine ⟨ddo.typeIs, ddo.mapOf.noDict, ?_⟩
  show wpAny _ _ (callWith cpos (.builtin "dict.values") [.ref d] [] []) _ X.xe s1
  refine method_meetsIn F.slot_dict_values F.entry_dict_values rfl (PySem.evalArgs_none ⟨rfl, ddo.typeIs, F.args_dict_values_1 _, _, meets_dict_values (mixKind X.prog X.w) d lo, ⟨vs, ddo⟩, Calls.spliced_nil ?_⟩)
  refine PySem.W.kdl_call (PySem.W.kdl_values (knd := mixKind X.prog X.w) (kvs := vs) (ep := ep)) (I1.ok.hd hc) ⟨⟨_, Heap.get?_push_size _ rfl, rfl, rfl⟩, dat.push _⟩ (by omega) fun h' tk acc c hk hS hacc => ?_
  have ev : acc.toList = vs.map (·.2) := PySem.W.kdl_vals_eq acc.toList (by rw [Array.length_toList]; exact hacc.1) fun j v g => hacc.2 j v (by rw [← Array.getElem?_toList]; exact g)
  refine ⟨.ref _, _, I2.laid (a := (s1.heap.push { cls := .type "dict_values", data := .fields #[.ref d] }).objs.size) (o := .lst (kvs.map (·.2))) (t' := tk) hk (Nat.le_refl _) ⟨by rw [List.length_map]; exact hz, acc.toList, c, ?_, by rw [Array.toArray_toList]; exact hS⟩, rfl, q _ (I2.hok.fresh (Nat.le_refl _))⟩
  rw [ev]
  exact vals_of_kv kv
/-- list(a text): its signs -/
def signV (x : Str) : List V := x.cps.toList.map fun c => V.str ⟨#[c]⟩
theorem vals_by : ∀ {xs : List V} {us : List Value}, us.length = xs.length → (∀ (j : Nat) (u : Value), us[j]? = some u → ∃ x, xs[j]? = some x ∧ RelV x u) → Vals xs us
  | [], [], _, _ => .nil
  | [], _ :: _, h, _ => by cases h
  | _ :: _, [], h, _ => by cases h
  | x :: xs, u :: us, h, f => by
    obtain ⟨x', e, r⟩ := f 0 u rfl
    cases e
    exact .cons r (vals_by (Nat.succ.inj h) fun j v g => f (j + 1) v g)
theorem call_listStr (hc : X.calm = true) : CallR X (.type "list") (fun xs H Q => ∃ z, xs = [.str z] ∧ z.length ≤ sizeLine ∧ ∀ p, H p = none → Q (.ref p) (upd H p (.lst (signV z)))) := by
  intro pins s σ H xs us Q I r h
  obtain ⟨z, rfl, hz, q⟩ := h
  obtain ⟨u, rfl, t, rfl⟩ := vals1 r
  refine PySem.call_list_str (I.ok.hd hc) z t (hn := hz) fun h' tk acc c hk hS hacc => ?_
  refine ⟨.ref _, _, I.laid (a := s.heap.objs.size) (o := .lst (signV z)) (t' := tk) hk (Nat.le_refl _) ⟨by unfold signV; rw [List.length_map, Array.length_toList]; exact hz, acc.toList, c, ?_, by rw [Array.toArray_toList]; exact hS⟩, rfl, q _ I.fresh⟩
  refine vals_by (by unfold signV; rw [List.length_map, Array.length_toList, Array.length_toList]; exact hacc.1) fun j v g => ?_
  obtain ⟨cc, w, g1, rfl⟩ := hacc.2 j v (by rw [← Array.getElem?_toList]; exact g)
  refine ⟨.str ⟨#[cc]⟩, ?_, ⟨w, rfl⟩⟩
  unfold signV
  rw [List.getElem?_map, Array.getElem?_toList, g1]
  all_goals rfl
/-- a sign, some times -/
theorem mul_sign (c : Nat) : ∀ k : Nat, (List.replicate k (#[c] : Array Nat)).foldl (· ++ ·) #[] = (List.replicate k c).toArray := by
  intro k
  have go : ∀ (k : Nat) (acc : Array Nat), (List.replicate k (#[c] : Array Nat)).foldl (· ++ ·) acc = acc ++ (List.replicate k c).toArray := by
    intro k
    induction k with
    | zero => intro acc; simp
    | succ k ih =>
      intro acc
      rw [List.replicate_succ, List.foldl_cons, ih, List.replicate_succ]
      apply Array.toList_inj.mp
      simp
  rw [go k #[]]
  simp
def rStrRep : R2 := fun x y H Q => ∃ (c k : Nat), x = .str ⟨#[c]⟩ ∧ y = .int (k : Int) ∧ 2 ≤ k ∧ k ≤ 100 ∧ Q (.str ⟨(List.replicate k c).toArray⟩) H
theorem op_strRep : OpR X (binaryOp .Mult) rStrRep := by
  intro pins s σ H x y v u Q I rx ry h
  obtain ⟨c, k, rfl, rfl, h2, h3, q⟩ := h
  obtain ⟨t, rfl⟩ := rx
  obtain ⟨t', rfl⟩ := ry
  have e : Txt.mul ⟨#[c]⟩ (k : Int) = ⟨(List.replicate k c).toArray⟩ := by
    unfold Txt.mul
    rw [if_neg (by omega), if_neg (by simp [Str.length]; omega), Int.toNat_natCast, mul_sign]
  have ok : MulOk ⟨#[c]⟩ (k : Int) := by
    refine ⟨by simp; omega, fun _ _ z => ?_, fun _ _ => ?_⟩
    · have z2 : ((2 ^ 63 - 1 : Int) / (k : Int)) < 1 := by simpa [Str.length] using z
      have : (1 : Int) ≤ (2 ^ 63 - 1) / (k : Int) := (Int.le_ediv_iff_mul_le (by omega)).mpr (by omega)
      omega
    · unfold Builtin.Str.tooLong
      rw [sizeLine_eq]
      simp [Str.length]
      omega
  refine SB.mul ok fun t2 k2 => ?_
  rw [e]
  exact ⟨.str _, H, I.tok k2, ⟨t2, rfl⟩, q⟩
end
end En
set_option maxHeartbeats 4000000
/-! What an expression yields, told without its heap: Y, Yt, Ya, Yn; lists of things that are true of values. -/
namespace En
open PySem PySem.Spec PyProof.Rows L2
/-- what is true of a value -/
abbrev Pr := V → Hp → Prop
/-- .. for ever -/
class Sty (P : Pr) : Prop where
  up : ∀ {v : V} {H H' : Hp}, Up H H' → P v H → P v H'
/-- .. while nothing changes -/
class Sts (P : Pr) : Prop where
  same : ∀ {v : V} {H H' : Hp}, Same H H' → P v H → P v H'
instance (priority := 900) {P : Pr} [s : Sty P] : Sts P := ⟨fun e h => s.up (up_same e) h⟩
def sP (x : Str) : Pr := fun v _ => v = .str x
def iP (i : Int) : Pr := fun v _ => v = .int i
def bP (b : Bool) : Pr := fun v _ => v = .bl b
def nP : Pr := fun v _ => v = .non
def eP (x : V) : Pr := fun v _ => v = x
def anyP : Pr := fun _ _ => True
instance (x : Str) : Sty (sP x) := ⟨fun _ h => h⟩
instance (x : Int) : Sty (iP x) := ⟨fun _ h => h⟩
instance (x : Bool) : Sty (bP x) := ⟨fun _ h => h⟩
instance : Sty nP := ⟨fun _ h => h⟩
instance (x : V) : Sty (eP x) := ⟨fun _ h => h⟩
instance : Sty anyP := ⟨fun _ h => h⟩
/-- one by one -/
def Al (H : Hp) : List Pr → List V → Prop
  | [], [] => True
  | P :: Ps, v :: vs => P v H ∧ Al H Ps vs
  | _, _ => False
/-- .. of a list -/
class StyL (Ps : List Pr) : Prop where
  up : ∀ {vs : List V} {H H' : Hp}, Up H H' → Al H Ps vs → Al H' Ps vs
instance : StyL [] := ⟨fun {vs} {H H'} _ h => by cases vs with | nil => exact h | cons _ _ => exact h⟩
instance {P : Pr} {Ps : List Pr} [a : Sty P] [b : StyL Ps] : StyL (P :: Ps) := ⟨fun {vs} {H H'} e h => by
  cases vs with
  | nil => exact h
  | cons v vs => exact ⟨a.up e h.1, b.up e h.2⟩⟩
instance {α : Type} {r : α → Pr} {xs : List α} [a : ∀ x, Sty (r x)] : StyL (xs.map r) := by
  induction xs with
  | nil => exact inferInstanceAs (StyL [])
  | cons x xs ih => exact inferInstanceAs (StyL (r x :: xs.map r))
theorem Al.length {H : Hp} : ∀ {Ps : List Pr} {vs : List V}, Al H Ps vs → vs.length = Ps.length
  | [], [], _ => rfl
  | _ :: _, _ :: _, h => congrArg Nat.succ (Al.length h.2)
theorem Al.get {H : Hp} : ∀ {Ps : List Pr} {vs : List V} {i : Nat} {P : Pr}, Al H Ps vs → Ps[i]? = some P → ∃ v, vs[i]? = some v ∧ P v H
  | [], [], _, _, _, e => by simp at e
  | P :: Ps, v :: vs, 0, _, h, e => by cases e; exact ⟨v, rfl, h.1⟩
  | P :: Ps, v :: vs, i + 1, _, h, e => by
    obtain ⟨u, h1, h2⟩ := Al.get (i := i) h.2 (by simpa using e)
    exact ⟨u, by simpa using h1, h2⟩
theorem Al.got {H : Hp} : ∀ {Ps : List Pr} {vs : List V} {i : Nat} {v : V}, Al H Ps vs → vs[i]? = some v → ∃ P, Ps[i]? = some P ∧ P v H
  | [], [], _, _, _, e => by simp at e
  | P :: Ps, v :: vs, 0, _, h, e => by cases e; exact ⟨P, rfl, h.1⟩
  | P :: Ps, v :: vs, i + 1, _, h, e => by
    obtain ⟨u, h1, h2⟩ := Al.got (i := i) h.2 (by simpa using e)
    exact ⟨u, by simpa using h1, h2⟩
theorem Al.app {H : Hp} : ∀ {Ps Qs : List Pr} {vs ws : List V}, Al H Ps vs → Al H Qs ws → Al H (Ps ++ Qs) (vs ++ ws)
  | [], _, [], _, _, h => h
  | _ :: _, _, _ :: _, _, h, h' => ⟨h.1, Al.app h.2 h'⟩
theorem Al.tk {H : Hp} : ∀ {Ps : List Pr} {vs : List V} (n : Nat), Al H Ps vs → Al H (Ps.take n) (vs.take n)
  | [], [], _, _ => by simp [Al]
  | _ :: _, _ :: _, 0, _ => trivial
  | _ :: _, _ :: _, n + 1, h => ⟨h.1, Al.tk n h.2⟩
theorem Al.dr {H : Hp} : ∀ {Ps : List Pr} {vs : List V} (n : Nat), Al H Ps vs → Al H (Ps.drop n) (vs.drop n)
  | [], [], _, _ => by simp [Al]
  | _ :: _, _ :: _, 0, h => h
  | _ :: _, _ :: _, n + 1, h => Al.dr n h.2
theorem Al.rev {H : Hp} : ∀ {Ps : List Pr} {vs : List V}, Al H Ps vs → Al H Ps.reverse vs.reverse
  | [], [], _ => trivial
  | _ :: _, _ :: _, h => by
    rw [List.reverse_cons, List.reverse_cons]
    exact Al.app (Al.rev h.2) ⟨h.1, trivial⟩
theorem al_same {H H' : Hp} {Ps : List Pr} [s : StyL Ps] {vs : List V} (e : Same H H') (h : Al H Ps vs) : Al H' Ps vs := s.up (up_same e) h
/-- a list whose items are bools, texts, ints -/
theorem Al.bl {H : Hp} : ∀ {bs : List Bool} {vs : List V}, Al H (bs.map bP) vs → vs = bs.map V.bl
  | [], [], _ => rfl
  | b :: bs, v :: vs, h => by
    obtain ⟨h1, h2⟩ := h
    rw [show v = V.bl b from h1, Al.bl h2]
    rfl
theorem Al.str {H : Hp} : ∀ {bs : List Str} {vs : List V}, Al H (bs.map sP) vs → vs = bs.map V.str
  | [], [], _ => rfl
  | b :: bs, v :: vs, h => by
    obtain ⟨h1, h2⟩ := h
    rw [show v = V.str b from h1, Al.str h2]
    rfl
theorem Al.int {H : Hp} : ∀ {bs : List Int} {vs : List V}, Al H (bs.map iP) vs → vs = bs.map V.int
  | [], [], _ => rfl
  | b :: bs, v :: vs, h => by
    obtain ⟨h1, h2⟩ := h
    rw [show v = V.int b from h1, Al.int h2]
    rfl
theorem al_str {H : Hp} : ∀ (bs : List Str), Al H (bs.map sP) (bs.map V.str)
  | [] => trivial
  | _ :: bs => ⟨rfl, al_str bs⟩
theorem al_int {H : Hp} : ∀ (bs : List Int), Al H (bs.map iP) (bs.map V.int)
  | [] => trivial
  | _ :: bs => ⟨rfl, al_int bs⟩
/-- a list, a tuple -/
def LP (Ps : List Pr) : Pr := fun v H => ∃ a vs, v = .ref a ∧ FL H a vs ∧ Al H Ps vs ∧ Ps.length ≤ sizeLine
def TP (Ps : List Pr) : Pr := fun v H => ∃ a vs, v = .ref a ∧ TU H a vs ∧ Al H Ps vs ∧ Ps.length ≤ sizeLine
instance {Ps : List Pr} [s : StyL Ps] : Sty (LP Ps) := ⟨fun e ⟨a, vs, h1, h2, h3, z⟩ => ⟨a, vs, h1, h2.up e, s.up e h3, z⟩⟩
instance {Ps : List Pr} [s : StyL Ps] : Sty (TP Ps) := ⟨fun e ⟨a, vs, h1, h2, h3, z⟩ => ⟨a, vs, h1, h2.up e, s.up e h3, z⟩⟩
section
variable {α : Type}
def lP (r : α → Pr) (xs : List α) : Pr := LP (xs.map r)
instance {r : α → Pr} {xs : List α} [∀ x, Sty (r x)] : Sty (lP r xs) := inferInstanceAs (Sty (LP (xs.map r)))
/-- pair by pair -/
def Ad (H : Hp) (r : α → Pr) : List (Str × α) → List (Key × V) → Prop
  | [], [] => True
  | x :: d, k :: kvs => k.1 = .inr x.1 ∧ r x.2 k.2 H ∧ Ad H r d kvs
  | _, _ => False
def Aq (H : Hp) (r : α → Pr) : List ((Str × Str) × α) → List (List Key × V) → Prop
  | [], [] => True
  | x :: d, k :: kvs => k.1 = [.inr x.1.1, .inr x.1.2] ∧ r x.2 k.2 H ∧ Aq H r d kvs
  | _, _ => False
theorem Ad.up {r : α → Pr} [s : ∀ x, Sty (r x)] {H H' : Hp} (e : Up H H') : ∀ {d : List (Str × α)} {kvs : List (Key × V)}, Ad H r d kvs → Ad H' r d kvs
  | [], [], h => h
  | _ :: _, _ :: _, h => ⟨h.1, (s _).up e h.2.1, Ad.up e h.2.2⟩
theorem Aq.up {r : α → Pr} [s : ∀ x, Sty (r x)] {H H' : Hp} (e : Up H H') : ∀ {d : List ((Str × Str) × α)} {kvs : List (List Key × V)}, Aq H r d kvs → Aq H' r d kvs
  | [], [], h => h
  | _ :: _, _ :: _, h => ⟨h.1, (s _).up e h.2.1, Aq.up e h.2.2⟩
theorem Ad.length {r : α → Pr} {H : Hp} : ∀ {d : List (Str × α)} {kvs : List (Key × V)}, Ad H r d kvs → kvs.length = d.length
  | [], [], _ => rfl
  | _ :: _, _ :: _, h => congrArg Nat.succ (Ad.length h.2.2)
theorem Aq.length {r : α → Pr} {H : Hp} : ∀ {d : List ((Str × Str) × α)} {kvs : List (List Key × V)}, Aq H r d kvs → kvs.length = d.length
  | [], [], _ => rfl
  | _ :: _, _ :: _, h => congrArg Nat.succ (Aq.length h.2.2)
def dP (r : α → Pr) (d : List (Str × α)) : Pr := fun v H => ∃ a kvs, v = .ref a ∧ FD H a kvs ∧ Ad H r d kvs ∧ d.length ≤ sizeLine
def qP (r : α → Pr) (d : List ((Str × Str) × α)) : Pr := fun v H => ∃ a kvs, v = .ref a ∧ FT H a kvs ∧ Aq H r d kvs ∧ d.length ≤ sizeLine
instance {r : α → Pr} {d : List (Str × α)} [∀ x, Sty (r x)] : Sty (dP r d) := ⟨fun e ⟨a, vs, h1, h2, h3, z⟩ => ⟨a, vs, h1, h2.up e, h3.up e, z⟩⟩
instance {r : α → Pr} {d : List ((Str × Str) × α)} [∀ x, Sty (r x)] : Sty (qP r d) := ⟨fun e ⟨a, vs, h1, h2, h3, z⟩ => ⟨a, vs, h1, h2.up e, h3.up e, z⟩⟩
end
/-! what may be written, too -/
section
variable {α : Type}
def glP (r : α → Pr) (xs : List α) : Pr := fun v H => ∃ a vs, v = .ref a ∧ Rd H a (.lst vs) ∧ Al H (xs.map r) vs ∧ (xs.map r).length ≤ sizeLine
def gdP (r : α → Pr) (d : List (Str × α)) : Pr := fun v H => ∃ a kvs, v = .ref a ∧ Rd H a (.dK kvs) ∧ Ad H r d kvs ∧ d.length ≤ sizeLine
def gqP (r : α → Pr) (d : List ((Str × Str) × α)) : Pr := fun v H => ∃ a kvs, v = .ref a ∧ Rd H a (.dT kvs) ∧ Aq H r d kvs ∧ d.length ≤ sizeLine
theorem rd_same {H H' : Hp} {a : Addr} {u : HO} (e : Same H H') (h : Rd H a u) : Rd H' a u := h.elim (fun q => .inl (e _ _ q)) fun ⟨o, q⟩ => .inr ⟨o, e _ _ q⟩
instance {r : α → Pr} {xs : List α} [∀ x, Sty (r x)] : Sts (glP r xs) := ⟨fun e ⟨a, vs, h1, h2, h3, z⟩ => ⟨a, vs, h1, rd_same e h2, (inferInstance : StyL (xs.map r)).up (up_same e) h3, z⟩⟩
instance {r : α → Pr} {d : List (Str × α)} [∀ x, Sty (r x)] : Sts (gdP r d) := ⟨fun e ⟨a, vs, h1, h2, h3, z⟩ => ⟨a, vs, h1, rd_same e h2, h3.up (up_same e), z⟩⟩
instance {r : α → Pr} {d : List ((Str × Str) × α)} [∀ x, Sty (r x)] : Sts (gqP r d) := ⟨fun e ⟨a, vs, h1, h2, h3, z⟩ => ⟨a, vs, h1, rd_same e h2, h3.up (up_same e), z⟩⟩
/-- P says a list (a dict) that may be read -/
class VL {α : outParam Type} (P : Pr) (r : outParam (α → Pr)) (xs : outParam (List α)) : Prop where
  vw : ∀ {v : V} {H : Hp}, P v H → glP r xs v H
class VD {α : outParam Type} (P : Pr) (r : outParam (α → Pr)) (d : outParam (List (Str × α))) : Prop where
  vw : ∀ {v : V} {H : Hp}, P v H → gdP r d v H
class VQ {α : outParam Type} (P : Pr) (r : outParam (α → Pr)) (d : outParam (List ((Str × Str) × α))) : Prop where
  vw : ∀ {v : V} {H : Hp}, P v H → gqP r d v H
instance {r : α → Pr} {xs : List α} : VL (lP r xs) r xs := ⟨fun ⟨a, vs, h1, h2, h3, z⟩ => ⟨a, vs, h1, .inr h2, h3, z⟩⟩
instance {r : α → Pr} {xs : List α} : VL (glP r xs) r xs := ⟨fun h => h⟩
instance {r : α → Pr} {d : List (Str × α)} : VD (dP r d) r d := ⟨fun ⟨a, vs, h1, h2, h3, z⟩ => ⟨a, vs, h1, .inr h2, h3, z⟩⟩
instance {r : α → Pr} {d : List (Str × α)} : VD (gdP r d) r d := ⟨fun h => h⟩
instance {r : α → Pr} {d : List ((Str × Str) × α)} : VQ (qP r d) r d := ⟨fun ⟨a, vs, h1, h2, h3, z⟩ => ⟨a, vs, h1, .inr h2, h3, z⟩⟩
instance {r : α → Pr} {d : List ((Str × Str) × α)} : VQ (gqP r d) r d := ⟨fun h => h⟩
end
def pP (x : Str × Str) : Pr := TP [sP x.1, sP x.2]
instance (x : Str × Str) : Sty (pP x) := inferInstanceAs (Sty (TP [sP x.1, sP x.2]))
abbrev Row := Str × List (Str × Str)
abbrev Book := List (Str × Row)
abbrev World' := Book × Str
def rP (x : Row) : Pr := TP [sP x.1, dP sP x.2]
instance (x : Row) : Sty (rP x) := inferInstanceAs (Sty (TP [sP x.1, dP sP x.2]))
def wP (x : World') : Pr := LP [dP rP x.1, sP x.2]
instance (x : World') : Sty (wP x) := inferInstanceAs (Sty (LP [dP rP x.1, sP x.2]))
/-! ### Y -/
def Y (t : TE) (σ : L2.St) (H : Hp) (P : Pr) : Prop := ∀ H1, Same H H1 → ∀ Q : VK, (∀ v H2, Same H1 H2 → P v H2 → Q v H2) → t σ H1 Q
def Yt (t : TT) (σ : L2.St) (H : Hp) (b : Bool) : Prop := ∀ H1, Same H H1 → ∀ Q : Bool → Hp → Prop, (∀ H2, Same H1 H2 → Q b H2) → t σ H1 Q
def Ya (t : TA) (σ : L2.St) (H : Hp) (Ps : List Pr) : Prop := ∀ H1, Same H H1 → ∀ Q : List V → Hp → Prop, (∀ vs H2, Same H1 H2 → Al H2 Ps vs → Q vs H2) → t σ H1 Q
/-- a new object -/
def Yn (t : TE) (σ : L2.St) (H : Hp) (R : HO → Hp → Prop) : Prop := ∀ H1, Same H H1 → ∀ Q : VK, (∀ d H2 u, Same H1 H2 → H1 d = none → H2 d = some u → R u H2 → Q (.ref d) H2) → t σ H1 Q
section
variable {σ : L2.St} {H H0 : Hp} {P P1 P2 P3 : Pr} {t ta tb : TE} {b c : Bool}
theorem Y.at_up (y : Y t σ H0 P) (e : Same H0 H) : Y t σ H P := fun H1 u => y H1 (e.trans u)
theorem Y.mono (y : Y t σ H P) (f : ∀ v H, P v H → P1 v H) : Y t σ H P1 := fun H1 u Q q => y H1 u Q fun v H2 s p => q v H2 s (f v H2 p)
theorem y_var {i : Nat} {v : V} [s : Sts P] (e : σ[i]? = some (some v)) (h : P v H) : Y (tVar i) σ H P := fun H1 u Q q => ⟨v, e, q v H1 (Same.refl _) (s.same u h)⟩
theorem y_c {v : V} (h : ∀ H, P v H) : Y (tC v) σ H P := fun H1 _ Q q => q v H1 (Same.refl _) (h H1)
theorem y_int {i : Int} : Y (tC (.int i)) σ H (iP i) := y_c fun _ => rfl
theorem y_str {x : Str} : Y (tC (.str x)) σ H (sP x) := y_c fun _ => rfl
theorem y_bl {x : Bool} : Y (tC (.bl x)) σ H (bP x) := y_c fun _ => rfl
theorem y_non : Y (tC .non) σ H nP := y_c fun _ => rfl
theorem y_val {v : V} : Y (tC v) σ H (eP v) := y_c fun _ => rfl
theorem ya_nil : Ya tNil σ H [] := fun H1 _ Q q => q [] H1 (Same.refl _) trivial
theorem ya_cons {tr : TA} {Ps : List Pr} [s : Sts P] (ya : Y ta σ H P) (yr : Ya tr σ H Ps) : Ya (tCons ta tr) σ H (P :: Ps) := fun H1 u Q q =>
  ya H1 u _ fun v H2 s2 p => yr H2 (u.trans s2) _ fun vs H3 s3 ps => q (v :: vs) H3 (s2.trans s3) ⟨s.same s3 p, ps⟩
theorem y_tup {tr : TA} {Ps : List Pr} [s : StyL Ps] (y : Ya tr σ H Ps) (hl : Ps.length ≤ 100 := by simp) : Y (tTup tr) σ H (TP Ps) := fun H1 u Q q =>
  y H1 u _ fun vs H2 s2 ps => ⟨by have := ps.length; rw [sizeLine_eq]; omega, fun p hp => q _ _ (s2.trans (same_new _ hp)) ⟨p, vs, rfl, L2.upd_same, al_same (same_new _ hp) ps, by rw [sizeLine_eq]; omega⟩⟩
theorem y_pair {tr : TA} {x y : Str} (h : Ya tr σ H [sP x, sP y]) : Y (tTup tr) σ H (pP (x, y)) := y_tup h
theorem y_row {tr : TA} {x : Str} {d : List (Str × Str)} (h : Ya tr σ H [sP x, dP sP d]) : Y (tTup tr) σ H (rP (x, d)) := y_tup h
/-- what a new list holds -/
def isL (Ps : List Pr) : HO → Hp → Prop := fun u H => ∃ vs, u = .lst vs ∧ Al H Ps vs ∧ Ps.length ≤ sizeLine
theorem yn_lst {tr : TA} {Ps : List Pr} [s : StyL Ps] (y : Ya tr σ H Ps) (hl : Ps.length ≤ 1000 := by simp) : Yn (tLst tr) σ H (isL Ps) := fun H1 u Q q =>
  y H1 u _ fun vs H2 s2 ps => ⟨by have := ps.length; rw [sizeLine_eq]; omega, fun p hp => q _ _ _ (s2.trans (same_new _ hp)) (s2.free hp) L2.upd_same ⟨vs, rfl, al_same (same_new _ hp) ps, by rw [sizeLine_eq]; omega⟩⟩
theorem y_fzL {Ps : List Pr} [s : StyL Ps] (y : Yn t σ H (isL Ps)) : Y (tFz t) σ H (LP Ps) := fun H1 u Q q =>
  y H1 u _ fun d H2 uo s2 n e r => by
    obtain ⟨vs, rfl, al, z⟩ := r
    exact ⟨d, _, rfl, e, trivial, fun o => q _ _ (same_mut _ s2 n) ⟨d, vs, rfl, ⟨o, L2.upd_same⟩, s.up (up_mut _ e fun z => z) al, z⟩⟩
def isD {α : Type} (r : α → Pr) (d : List (Str × α)) : HO → Hp → Prop := fun u H => ∃ kvs, u = .dK kvs ∧ Ad H r d kvs ∧ d.length ≤ sizeLine
def isQ {α : Type} (r : α → Pr) (d : List ((Str × Str) × α)) : HO → Hp → Prop := fun u H => ∃ kvs, u = .dT kvs ∧ Aq H r d kvs ∧ d.length ≤ sizeLine
theorem y_fzD {α : Type} {r : α → Pr} {d : List (Str × α)} [∀ x, Sty (r x)] (y : Yn t σ H (isD r d)) : Y (tFz t) σ H (dP r d) := fun H1 u Q q =>
  y H1 u _ fun d H2 uo s2 n e r => by
    obtain ⟨vs, rfl, al, z⟩ := r
    exact ⟨d, _, rfl, e, trivial, fun o => q _ _ (same_mut _ s2 n) ⟨d, vs, rfl, ⟨o, L2.upd_same⟩, al.up (up_mut _ e fun z => z), z⟩⟩
theorem y_fzQ {α : Type} {r : α → Pr} {d : List ((Str × Str) × α)} [∀ x, Sty (r x)] (y : Yn t σ H (isQ r d)) : Y (tFz t) σ H (qP r d) := fun H1 u Q q =>
  y H1 u _ fun d H2 uo s2 n e r => by
    obtain ⟨vs, rfl, al, z⟩ := r
    exact ⟨d, _, rfl, e, trivial, fun o => q _ _ (same_mut _ s2 n) ⟨d, vs, rfl, ⟨o, L2.upd_same⟩, al.up (up_mut _ e fun z => z), z⟩⟩
/-! ### operators -/
def R2s (r : R2) (P1 P2 P3 : Pr) : Prop := ∀ x y H1, P1 x H1 → P2 y H1 → ∀ Q : VK, (∀ v H2, Same H1 H2 → P3 v H2 → Q v H2) → r x y H1 Q
theorem y_op {r : R2} [s : Sts P1] (h : R2s r P1 P2 P3) (ya : Y ta σ H P1) (yb : Y tb σ H P2) : Y (tOp r ta tb) σ H P3 := fun H1 u Q q =>
  ya H1 u _ fun x H2 s2 p => yb H2 (u.trans s2) _ fun y H3 s3 p' => h x y H3 (s.same s3 p) p' _ fun v H4 s4 p4 => q v H4 ((s2.trans s3).trans s4) p4
theorem str_dec (x y : Str) : decide (V.str x = V.str y) = decide (x = y) := by
  by_cases e : x = y
  · subst e; simp
  · rw [decide_eq_false e, decide_eq_false fun z => e (by injection z)]
theorem int_dec (x y : Int) : decide (V.int x = V.int y) = decide (x = y) := by
  by_cases e : x = y
  · subst e; simp
  · rw [decide_eq_false e, decide_eq_false fun z => e (by injection z)]
theorem r_eqS {x y : Str} : R2s rEq (sP x) (sP y) (bP (decide (x = y))) := fun _ _ H1 h1 h2 Q q => by
  cases h1; cases h2
  exact ⟨rfl, q _ _ (Same.refl _) (by rw [str_dec]; rfl)⟩
theorem r_neS {x y : Str} : R2s rNe (sP x) (sP y) (bP (!decide (x = y))) := fun _ _ H1 h1 h2 Q q => by
  cases h1; cases h2
  exact ⟨rfl, q _ _ (Same.refl _) (by rw [str_dec]; rfl)⟩
theorem r_eqI {x y : Int} : R2s rEq (iP x) (iP y) (bP (decide (x = y))) := fun _ _ H1 h1 h2 Q q => by
  cases h1; cases h2
  exact ⟨rfl, q _ _ (Same.refl _) (by rw [int_dec]; rfl)⟩
theorem r_neI {x y : Int} : R2s rNe (iP x) (iP y) (bP (!decide (x = y))) := fun _ _ H1 h1 h2 Q q => by
  cases h1; cases h2
  exact ⟨rfl, q _ _ (Same.refl _) (by rw [int_dec]; rfl)⟩
theorem r_eqB {x y : Bool} : R2s rEq (bP x) (bP y) (bP (x == y)) := fun _ _ H1 h1 h2 Q q => by
  cases h1; cases h2
  refine ⟨rfl, q _ _ (Same.refl _) ?_⟩
  cases x <;> cases y <;> rfl
theorem r_neB {x y : Bool} : R2s rNe (bP x) (bP y) (bP (x != y)) := fun _ _ H1 h1 h2 Q q => by
  cases h1; cases h2
  refine ⟨rfl, q _ _ (Same.refl _) ?_⟩
  cases x <;> cases y <;> rfl
theorem r_isB {x y : Bool} : R2s rIsB (bP x) (bP y) (bP (x == y)) := fun _ _ H1 h1 h2 Q q => by
  cases h1; cases h2
  refine ⟨x, y, rfl, rfl, q _ _ (Same.refl _) ?_⟩
  cases x <;> cases y <;> rfl
theorem r_notB {x y : Bool} : R2s rNotB (bP x) (bP y) (bP (x != y)) := fun _ _ H1 h1 h2 Q q => by
  cases h1; cases h2
  refine ⟨x, y, rfl, rfl, q _ _ (Same.refl _) ?_⟩
  cases x <;> cases y <;> rfl
theorem r_i0 {g : Int → Int → V} {x y : Int} : R2s (rI0 g) (iP x) (iP y) (eP (g x y)) := fun _ _ H1 h1 h2 Q q => by
  cases h1; cases h2
  exact ⟨x, y, rfl, rfl, q _ _ (Same.refl _) rfl⟩
theorem r_add {x y : Int} : R2s (rI0 fun i j => .int (i + j)) (iP x) (iP y) (iP (x + y)) := r_i0
theorem r_sub {x y : Int} : R2s (rI0 fun i j => .int (i - j)) (iP x) (iP y) (iP (x - y)) := r_i0
theorem r_lt {x y : Int} : R2s (rI0 fun i j => .bl (decide (i < j))) (iP x) (iP y) (bP (decide (x < y))) := r_i0
theorem r_gt {x y : Int} : R2s (rI0 fun i j => .bl (decide (j < i))) (iP x) (iP y) (bP (decide (y < x))) := r_i0
theorem r_addS {x y : Str} (h : x.length + y.length ≤ sizeLine) : R2s (fun x y H Q => ∃ i j, x = .str i ∧ y = .str j ∧ i.length + j.length ≤ sizeLine ∧ Q (.str (i ++ j)) H) (sP x) (sP y) (sP (x ++ y)) := fun _ _ H1 h1 h2 Q q => by
  cases h1; cases h2
  exact ⟨x, y, rfl, rfl, h, q _ _ (Same.refl _) rfl⟩
/-! ### tests -/
variable {tt tu : TT}
theorem Yt.at_up (y : Yt tt σ H0 b) (e : Same H0 H) : Yt tt σ H b := fun H1 u => y H1 (e.trans u)
theorem Yt.eq (y : Yt tt σ H b) (e : b = c) : Yt tt σ H c := e ▸ y
theorem Y.eqB (y : Y t σ H (bP b)) (e : b = c) : Y t σ H (bP c) := e ▸ y
theorem yt_test (y : Y t σ H (bP b)) : Yt (tTest t) σ H b := fun H1 u Q q => y H1 u _ fun v H2 s p => ⟨b, p, q H2 s⟩
theorem yt_b (y : Y t σ H (bP b)) : Yt (tB t) σ H b := fun H1 u Q q => y H1 u _ fun v H2 s p => ⟨b, p, q H2 s⟩
theorem yt_not (y : Yt tt σ H b) : Yt (tNot tt) σ H (!b) := fun H1 u Q q => y H1 u _ fun H2 s => q H2 s
theorem yt_and (y : Yt tt σ H b) (z : b = true → Yt tu σ H c) : Yt (tAnd tt tu) σ H (b && c) := fun H1 u Q q => y H1 u _ fun H2 s => by
  cases b with
  | false => exact q H2 s
  | true => exact z rfl H2 (u.trans s) _ fun H3 s3 => q H3 (s.trans s3)
theorem yt_or (y : Yt tt σ H b) (z : b = false → Yt tu σ H c) : Yt (tOr tt tu) σ H (b || c) := fun H1 u Q q => y H1 u _ fun H2 s => by
  cases b with
  | true => exact q H2 s
  | false => exact z rfl H2 (u.trans s) _ fun H3 s3 => q H3 (s.trans s3)
theorem y_and (y : Y ta σ H (bP b)) (z : b = true → Y tb σ H (bP c)) : Y (tAndV ta tb) σ H (bP (b && c)) := fun H1 u Q q => y H1 u _ fun v H2 s p => by
  refine ⟨b, p, ?_⟩
  cases b with
  | false => exact q _ H2 s rfl
  | true => exact z rfl H2 (u.trans s) _ fun w H3 s3 => q w H3 (s.trans s3)
theorem y_or (y : Y ta σ H (bP b)) (z : b = false → Y tb σ H (bP c)) : Y (tOrV ta tb) σ H (bP (b || c)) := fun H1 u Q q => y H1 u _ fun v H2 s p => by
  refine ⟨b, p, ?_⟩
  cases b with
  | true => exact q _ H2 s rfl
  | false => exact z rfl H2 (u.trans s) _ fun w H3 s3 => q w H3 (s.trans s3)
theorem y_not (y : Y ta σ H (bP b)) : Y (tNotV ta) σ H (bP (!b)) := fun H1 u Q q => y H1 u _ fun v H2 s p => ⟨b, p, q _ H2 s rfl⟩
theorem y_ifP (y : Yt tt σ H b) (h1 : b = true → Y ta σ H P) (h2 : b = false → Y tb σ H P) : Y (tIf tt ta tb) σ H P := fun H1 u Q q => y H1 u _ fun H2 s => by
  cases b with
  | true => exact h1 rfl H2 (u.trans s) _ fun w H3 s3 => q w H3 (s.trans s3)
  | false => exact h2 rfl H2 (u.trans s) _ fun w H3 s3 => q w H3 (s.trans s3)
theorem y_if {α : Type} {r : α → Pr} {x z : α} (y : Yt tt σ H b) (h1 : b = true → Y ta σ H (r x)) (h2 : b = false → Y tb σ H (r z)) : Y (tIf tt ta tb) σ H (r (if b = true then x else z)) := y_ifP y
  (fun e => by subst e; exact h1 rfl) (fun e => by subst e; exact h2 rfl)
/-! ### subscripts -/
variable {K : PySem.W.Frag} {Ps : List Pr}
theorem y_ixT {i : Nat} [s : StyL Ps] (ya : Y ta σ H (TP Ps)) (h : Ps[i]? = some P := by rfl) : Y (tOp (rIxT K) ta (tC (.int (i : Int)))) σ H P := fun H1 u Q q =>
  ya H1 u _ fun x H2 s2 ⟨a, vs, e, ht, al, z⟩ => by
    obtain ⟨v, hv, p⟩ := al.get h
    exact ⟨a, vs, i, v, e, rfl, ht.sq, atI_nat hv, q v H2 s2 p⟩
end
end En
set_option maxHeartbeats 4000000
/-! Y of dicts' items, slices, calls, sorts. -/
namespace En
open PySem PySem.Spec PyProof.Rows L2
/-! ### pure dicts -/
section
variable {κ α : Type} [DecidableEq κ]
def look [Inhabited α] : List (κ × α) → κ → α
  | [], _ => default
  | x :: d, k => if x.1 = k then x.2 else look d k
def keys (d : List (κ × α)) : List κ := d.map (·.1)
def has (d : List (κ × α)) (k : κ) : Bool := decide (k ∈ keys d)
/-- in its place, or at the end -/
def put : List (κ × α) → κ → α → List (κ × α)
  | [], k, v => [(k, v)]
  | x :: d, k, v => if x.1 = k then (k, v) :: d else x :: put d k v
end
section
variable {α : Type} {r : α → Pr} {H : Hp}
theorem keyS_iff {x y : Str} : ((Sum.inr x : Key) = Sum.inr y) ↔ x = y := ⟨fun h => by injection h, fun h => by rw [h]⟩
theorem Ad.fnd [Inhabited α] : ∀ {d : List (Str × α)} {kvs : List (Key × V)} {k : Str}, Ad H r d kvs → k ∈ keys d → ∃ v, valV kvs (.inr k) = some v ∧ r (look d k) v H
  | [], [], k, _, hk => by cases hk
  | x :: d, p :: kvs, k, h, hk => by
    by_cases e : x.1 = k
    · refine ⟨p.2, valV_pos (by rw [h.1, e]), ?_⟩
      unfold look
      rw [if_pos e]
      exact h.2.1
    · have hk' : k ∈ keys d := by
        rcases List.mem_cons.mp (show k ∈ x.1 :: keys d from hk) with z | z
        · exact absurd z.symm e
        · exact z
      obtain ⟨v, h1, h2⟩ := Ad.fnd h.2.2 hk'
      refine ⟨v, (valV_neg (by rw [h.1]; exact fun z => e (keyS_iff.mp z))).trans h1, ?_⟩
      unfold look
      rw [if_neg e]
      exact h2
theorem Ad.isSome : ∀ {d : List (Str × α)} {kvs : List (Key × V)} {k : Str}, Ad H r d kvs → (valV kvs (.inr k)).isSome = has d k
  | [], [], k, _ => rfl
  | x :: d, p :: kvs, k, h => by
    by_cases e : x.1 = k
    · rw [valV_pos (by rw [h.1, e])]
      unfold has keys
      simp [e]
    · rw [valV_neg (by rw [h.1]; exact fun z => e (keyS_iff.mp z)), Ad.isSome h.2.2]
      unfold has keys
      simp
      exact fun z => absurd z.symm e
def tk (x : Str × Str) : List Key := [.inr x.1, .inr x.2]
theorem tk_of {x y : Str × Str} : tk x = tk y ↔ x = y := by
  refine ⟨fun h => ?_, fun h => by rw [h]⟩
  injection h with h1 h2
  injection h2 with h2 _
  exact Prod.ext (keyS_iff.mp h1) (keyS_iff.mp h2)
theorem Aq.fnd [Inhabited α] : ∀ {d : List ((Str × Str) × α)} {kvs : List (List Key × V)} {k : Str × Str}, Aq H r d kvs → k ∈ keys d → ∃ v, valV kvs (tk k) = some v ∧ r (look d k) v H
  | [], [], k, _, hk => by cases hk
  | x :: d, p :: kvs, k, h, hk => by
    by_cases e : x.1 = k
    · refine ⟨p.2, valV_pos (by rw [h.1, ← e]; rfl), ?_⟩
      unfold look
      rw [if_pos e]
      exact h.2.1
    · have hk' : k ∈ keys d := by
        rcases List.mem_cons.mp (show k ∈ x.1 :: keys d from hk) with z | z
        · exact absurd z.symm e
        · exact z
      obtain ⟨v, h1, h2⟩ := Aq.fnd h.2.2 hk'
      refine ⟨v, (valV_neg (by rw [h.1]; exact fun z => e (tk_of.mp z))).trans h1, ?_⟩
      unfold look
      rw [if_neg e]
      exact h2
theorem Aq.isSome : ∀ {d : List ((Str × Str) × α)} {kvs : List (List Key × V)} {k : Str × Str}, Aq H r d kvs → (valV kvs (tk k)).isSome = has d k
  | [], [], k, _ => rfl
  | x :: d, p :: kvs, k, h => by
    by_cases e : x.1 = k
    · rw [valV_pos (by rw [h.1, ← e]; rfl)]
      unfold has keys
      simp [e]
    · rw [valV_neg (by rw [h.1]; exact fun z => e (tk_of.mp z)), Aq.isSome h.2.2]
      unfold has keys
      simp
      exact fun z => absurd z.symm e
theorem pP_tk {x : Str × Str} {v : V} (h : pP x v H) : ∃ b, v = .ref b ∧ TU H b ((tk x).map kV) := by
  obtain ⟨a, vs, e, ht, al, z⟩ := h
  match vs, al with
  | [u, w], ⟨h1, h2, _⟩ =>
    cases h1; cases h2
    exact ⟨a, e, ht⟩
end
section
variable {σ : L2.St} {H H0 : Hp} {P P1 P2 P3 : Pr} {t ta tb td ty : TE} {b c : Bool} {α : Type} {r : α → Pr} {K : PySem.W.Frag}
theorem Rd.gk {a : Addr} {kvs : List (Key × V)} (h : Rd H a (.dK kvs)) (k : Key) : DGet H a (kV k) (valV kvs k) := .inl ⟨kvs, k, h, rfl, rfl⟩
theorem Rd.gt {a b : Addr} {k : List Key} {kvs : List (List Key × V)} (h : Rd H a (.dT kvs)) (hb : TU H b (k.map kV)) : DGet H a (.ref b) (valV kvs k) := .inr ⟨kvs, k, b, h, rfl, hb, rfl⟩
theorem y_dget [Inhabited α] {d : List (Str × α)} {k : Str} [s : ∀ x, Sty (r x)] [w : VD P r d] (yd : Y td σ H P) (yk : Y ty σ H (sP k)) (hk : k ∈ keys d) : Y (tDGet td ty) σ H (r (look d k)) := fun H1 u Q q =>
  yd H1 u _ fun x H2 s2 px => yk H2 (u.trans s2) _ fun y H3 s3 p => by
    obtain ⟨a, kvs, e, hd, al, z⟩ := w.vw px
    obtain ⟨v, h1, h2⟩ := (al.up (up_same s3)).fnd hk
    refine ⟨a, v, e, ?_, q v H3 (s2.trans s3) h2⟩
    have g := Rd.gk (rd_same s3 hd) (.inr k)
    rw [h1] at g
    rw [show y = V.str k from p]
    exact g
theorem y_qget [Inhabited α] {d : List ((Str × Str) × α)} {k : Str × Str} [s : ∀ x, Sty (r x)] [w : VQ P r d] (yd : Y td σ H P) (yk : Y ty σ H (pP k)) (hk : k ∈ keys d) : Y (tDGet td ty) σ H (r (look d k)) := fun H1 u Q q =>
  yd H1 u _ fun x H2 s2 px => yk H2 (u.trans s2) _ fun y H3 s3 p => by
    obtain ⟨a, kvs, e, hd, al, z⟩ := w.vw px
    obtain ⟨v, h1, h2⟩ := (al.up (up_same s3)).fnd hk
    obtain ⟨b, e2, hb⟩ := pP_tk p
    refine ⟨a, v, e, ?_, q v H3 (s2.trans s3) h2⟩
    have g := Rd.gt (rd_same s3 hd) hb
    rw [h1] at g
    rw [e2]
    exact g
theorem y_din {d : List (Str × α)} {k : Str} [s : ∀ x, Sty (r x)] [w : VD P r d] (yk : Y ty σ H (sP k)) (yd : Y td σ H P) : Y (tDIn ty td) σ H (bP (has d k)) := fun H1 u Q q =>
  yk H1 u _ fun y H2 s2 p => yd H2 (u.trans s2) _ fun x H3 s3 px => by
    obtain ⟨a, kvs, e, hd, al, z⟩ := w.vw px
    refine ⟨a, _, e, ?_, q _ H3 (s2.trans s3) (by rw [al.isSome (k := k)]; rfl)⟩
    rw [show y = V.str k from p]
    exact Rd.gk hd (.inr k)
theorem y_dnotin {d : List (Str × α)} {k : Str} [s : ∀ x, Sty (r x)] [w : VD P r d] (yk : Y ty σ H (sP k)) (yd : Y td σ H P) : Y (tDNotIn ty td) σ H (bP (!has d k)) := fun H1 u Q q =>
  yk H1 u _ fun y H2 s2 p => yd H2 (u.trans s2) _ fun x H3 s3 px => by
    obtain ⟨a, kvs, e, hd, al, z⟩ := w.vw px
    refine ⟨a, _, e, ?_, q _ H3 (s2.trans s3) (by rw [al.isSome (k := k)]; rfl)⟩
    rw [show y = V.str k from p]
    exact Rd.gk hd (.inr k)
theorem y_qin {d : List ((Str × Str) × α)} {k : Str × Str} [s : ∀ x, Sty (r x)] [w : VQ P r d] (yk : Y ty σ H (pP k)) (yd : Y td σ H P) : Y (tDIn ty td) σ H (bP (has d k)) := fun H1 u Q q =>
  yk H1 u _ fun y H2 s2 p => yd H2 (u.trans s2) _ fun x H3 s3 px => by
    obtain ⟨a, kvs, e, hd, al, z⟩ := w.vw px
    obtain ⟨b, e2, hb⟩ := pP_tk p
    refine ⟨a, _, e, ?_, q _ H3 (s2.trans s3) (by rw [al.isSome (k := k)]; rfl)⟩
    rw [e2]
    exact Rd.gt hd (hb.up (up_same s3))
theorem y_qnotin {d : List ((Str × Str) × α)} {k : Str × Str} [s : ∀ x, Sty (r x)] [w : VQ P r d] (yk : Y ty σ H (pP k)) (yd : Y td σ H P) : Y (tDNotIn ty td) σ H (bP (!has d k)) := fun H1 u Q q =>
  yk H1 u _ fun y H2 s2 p => yd H2 (u.trans s2) _ fun x H3 s3 px => by
    obtain ⟨a, kvs, e, hd, al, z⟩ := w.vw px
    obtain ⟨b, e2, hb⟩ := pP_tk p
    refine ⟨a, _, e, ?_, q _ H3 (s2.trans s3) (by rw [al.isSome (k := k)]; rfl)⟩
    rw [e2]
    exact Rd.gt hd (hb.up (up_same s3))
/-! ### d == {} -/
theorem yn_newK : Yn tDNewK σ H (isD r []) := fun H1 u Q q p hp => q p _ _ (same_new _ hp) hp L2.upd_same ⟨[], rfl, trivial, Nat.zero_le _⟩
theorem yn_newT : Yn tDNewT σ H (isQ r []) := fun H1 u Q q p hp => q p _ _ (same_new _ hp) hp L2.upd_same ⟨[], rfl, trivial, Nat.zero_le _⟩
theorem len_d {a : Addr} {d : List (Str × α)} {kvs : List (Key × V)} {x : V} (h : FD H a kvs) (al : Ad H r d kvs) : DLen H a d.length := by
  rw [← al.length]
  exact h.len
theorem y_eqE {d : List (Str × α)} [s : ∀ x, Sty (r x)] (yd : Y td σ H (dP r d)) : Y (tOp rEqE td tDNewK) σ H (bP (d.isEmpty)) := fun H1 u Q q =>
  yd H1 u _ fun x H2 s2 ⟨a, kvs, e, hd, al, z⟩ => fun p hp => by
    refine ⟨a, p, d.length, e, rfl, (len_d (x := x) hd al) |> fun z => ?_, L2.upd_same, q _ _ (s2.trans (same_new _ hp)) ?_⟩
    · have := (hd.up (up_new (.dK []) hp)).len
      rw [al.length] at this
      exact this
    · cases d <;> rfl
theorem y_neE {d : List (Str × α)} [s : ∀ x, Sty (r x)] (yd : Y td σ H (dP r d)) : Y (tOp rNeE td tDNewK) σ H (bP (!d.isEmpty)) := fun H1 u Q q =>
  yd H1 u _ fun x H2 s2 ⟨a, kvs, e, hd, al, z⟩ => fun p hp => by
    refine ⟨a, p, d.length, e, rfl, ?_, L2.upd_same, q _ _ (s2.trans (same_new _ hp)) ?_⟩
    · have := (hd.up (up_new (.dK []) hp)).len
      rw [al.length] at this
      exact this
    · cases d <;> rfl
theorem y_eqQ {d : List ((Str × Str) × α)} [s : ∀ x, Sty (r x)] (yd : Y td σ H (qP r d)) : Y (tOp rEqE td tDNewK) σ H (bP (d.isEmpty)) := fun H1 u Q q =>
  yd H1 u _ fun x H2 s2 ⟨a, kvs, e, hd, al, z⟩ => fun p hp => by
    refine ⟨a, p, d.length, e, rfl, ?_, L2.upd_same, q _ _ (s2.trans (same_new _ hp)) ?_⟩
    · have := (hd.up (up_new (.dK []) hp)).len
      rw [al.length] at this
      exact this
    · cases d <;> rfl
/-! ### items, slices, + -/
theorem y_ixL {Ps : List Pr} {i : Nat} (ya : Y ta σ H (LP Ps)) (h : Ps[i]? = some P := by rfl) : Y (tOp (rIxL K) ta (tC (.int (i : Int)))) σ H P := fun H1 u Q q =>
  ya H1 u _ fun x H2 s2 ⟨a, vs, e, ht, al, z⟩ => by
    obtain ⟨v, hv, p⟩ := al.get h
    exact ⟨a, vs, i, v, e, rfl, ht.sq, atI_nat hv, q v H2 s2 p⟩
theorem y_ixl {xs : List α} {i : Nat} {x : α} [s : Sts P] [w : VL P r xs] (ya : Y ta σ H P) (yi : Y tb σ H (iP i)) (h : xs[i]? = some x) : Y (tOp (rIxL K) ta tb) σ H (r x) :=
  y_op (fun x' y H1 h1 h2 Q q => by
    obtain ⟨a, vs, e, ht, al, z⟩ := w.vw h1
    obtain ⟨v, hv, p⟩ := al.get (i := i) (P := r x) (by rw [List.getElem?_map, h]; rfl)
    exact ⟨a, vs, i, v, e, h2, .inl ht, atI_nat hv, q v H1 (Same.refl _) p⟩) ya yi
theorem y_w0 {w : World'} (ya : Y ta σ H (wP w)) : Y (tOp (rIxL K) ta (tC (.int 0))) σ H (dP rP w.1) := y_ixL (i := 0) ya
theorem y_w1 {w : World'} (ya : Y ta σ H (wP w)) : Y (tOp (rIxL K) ta (tC (.int 1))) σ H (sP w.2) := y_ixL (i := 1) ya
theorem y_p0 {x : Str × Str} (ya : Y ta σ H (pP x)) : Y (tOp (rIxT K) ta (tC (.int 0))) σ H (sP x.1) := y_ixT (i := 0) ya
theorem y_p1 {x : Str × Str} (ya : Y ta σ H (pP x)) : Y (tOp (rIxT K) ta (tC (.int 1))) σ H (sP x.2) := y_ixT (i := 1) ya
theorem y_r0 {x : Row} (ya : Y ta σ H (rP x)) : Y (tOp (rIxT K) ta (tC (.int 0))) σ H (sP x.1) := y_ixT (i := 0) ya
theorem y_r1 {x : Row} (ya : Y ta σ H (rP x)) : Y (tOp (rIxT K) ta (tC (.int 1))) σ H (dP sP x.2) := y_ixT (i := 1) ya
def cutG {β : Type} (xs : List β) (lo hi : Option Int) : List β := (xs.drop (HT.sIx xs.length 0 lo)).take (HT.sIx xs.length xs.length hi - HT.sIx xs.length 0 lo)
theorem cutG_to {β : Type} (xs : List β) (n : Nat) : cutG xs none (some (n : Int)) = xs.take n := by
  unfold cutG
  rw [HT.sIx_none, HT.sIx_nat, List.drop_zero, Nat.sub_zero]
  rcases Nat.le_total n xs.length with h | h
  · rw [Nat.min_eq_left h]
  · rw [Nat.min_eq_right h, List.take_of_length_le (Nat.le_refl _), List.take_of_length_le h]
theorem cutG_from {β : Type} (xs : List β) (n : Nat) : cutG xs (some (n : Int)) none = xs.drop n := by
  unfold cutG
  rw [HT.sIx_none, HT.sIx_nat]
  rcases Nat.le_total n xs.length with h | h
  · rw [Nat.min_eq_left h]
    exact List.take_of_length_le (by rw [List.length_drop]; exact Nat.le_refl _)
  · rw [Nat.min_eq_right h, List.drop_of_length_le h, List.drop_of_length_le (Nat.le_refl _)]
    simp
theorem yn_slTo {xs : List α} {n : Nat} [s : ∀ x, Sty (r x)] (ya : Y ta σ H (lP r xs)) (yi : Y tb σ H (iP n)) : Yn (tSl (rSlL K) ta tNoPart (tPart tb)) σ H (isL ((xs.take n).map r)) := fun H1 u Q q =>
  ya H1 u _ fun x H2 s2 p2 => yi H2 (u.trans s2) _ fun y H3 s3 p => by
    obtain ⟨a, vs, e, hl, al, z⟩ := (inferInstance : Sty (lP r xs)).up (up_same s3) p2
    refine ⟨n, p, a, vs, e, hl.sq, fun d hd => q d _ _ ((s2.trans s3).trans (same_new _ hd)) ((s2.trans s3).free hd) L2.upd_same ⟨_, rfl, ?_⟩⟩
    rw [show cutV vs none (some (n : Int)) = vs.take n from cutG_to vs n, List.map_take]
    refine ⟨?_, by rw [List.length_take]; omega⟩
    exact al_same (Ps := (xs.map r).take n) (s := ⟨fun e h => by rw [← List.map_take] at h ⊢; exact (inferInstance : StyL ((xs.take n).map r)).up e h⟩) (same_new _ hd) (al.tk n)
theorem yn_slFrom {xs : List α} {n : Nat} [s : ∀ x, Sty (r x)] (ya : Y ta σ H (lP r xs)) (yi : Y tb σ H (iP n)) : Yn (tSl (rSlL K) ta (tPart tb) tNoPart) σ H (isL ((xs.drop n).map r)) := fun H1 u Q q =>
  ya H1 u _ fun x H2 s2 p2 => yi H2 (u.trans s2) _ fun y H3 s3 p => by
    obtain ⟨a, vs, e, hl, al, z⟩ := (inferInstance : Sty (lP r xs)).up (up_same s3) p2
    refine ⟨n, p, a, vs, e, hl.sq, fun d hd => q d _ _ ((s2.trans s3).trans (same_new _ hd)) ((s2.trans s3).free hd) L2.upd_same ⟨_, rfl, ?_⟩⟩
    rw [show cutV vs (some (n : Int)) none = vs.drop n from cutG_from vs n, List.map_drop]
    refine ⟨?_, by rw [List.length_drop]; omega⟩
    exact al_same (Ps := (xs.map r).drop n) (s := ⟨fun e h => by rw [← List.map_drop] at h ⊢; exact (inferInstance : StyL ((xs.drop n).map r)).up e h⟩) (same_new _ hd) (al.dr n)
theorem yn_cat {Ps Qs : List Pr} [s1 : StyL Ps] [s2 : StyL Qs] (ya : Y ta σ H (LP Ps)) (yb : Y tb σ H (LP Qs)) (hz : Ps.length + Qs.length ≤ sizeLine) : Yn (tOp rCatS ta tb) σ H (isL (Ps ++ Qs)) := fun H1 u Q q =>
  ya H1 u _ fun x H2 e2 p2 => yb H2 (u.trans e2) _ fun y H3 e3 ⟨b, ws, e', hl', al', z'⟩ => by
    obtain ⟨a, vs, e, hl, al, z⟩ := (inferInstance : Sty (LP Ps)).up (up_same e3) p2
    have l1 := al.length
    have l2 := al'.length
    refine ⟨a, b, vs, ws, e, e', ?_, ?_, by omega, fun d hd => q d _ _ ((e2.trans e3).trans (same_new _ hd)) ((e2.trans e3).free hd) L2.upd_same ⟨_, rfl, Al.app (al_same (same_new _ hd) al) (al_same (same_new _ hd) al'), by rw [List.length_append]; exact hz⟩⟩
    · exact .inr hl
    · exact .inr hl'
theorem yn_catl {xs ys : List α} [s : ∀ x, Sty (r x)] (ya : Y ta σ H (lP r xs)) (yb : Y tb σ H (lP r ys)) (hz : xs.length + ys.length ≤ sizeLine) : Yn (tOp rCatS ta tb) σ H (isL ((xs ++ ys).map r)) := by
  rw [List.map_append]
  exact yn_cat ya yb (by rw [List.length_map, List.length_map]; exact hz)
theorem y_fzl {xs : List α} [s : ∀ x, Sty (r x)] (y : Yn t σ H (isL (xs.map r))) : Y (tFz t) σ H (lP r xs) := y_fzL y
/-! ### calls -/
def Rb (rl : List V → Hp → VK → Prop) (P P' : Pr) : Prop := ∀ x H1, P x H1 → ∀ Q : VK, (∀ v H2, Same H1 H2 → P' v H2 → Q v H2) → rl [x] H1 Q
def Rbn (rl : List V → Hp → VK → Prop) (P : Pr) (R : HO → Hp → Prop) : Prop := ∀ x H1, P x H1 → ∀ Q : VK, (∀ d H2 u, Same H1 H2 → H1 d = none → H2 d = some u → R u H2 → Q (.ref d) H2) → rl [x] H1 Q
theorem y_cb {rl : List V → Hp → VK → Prop} (h : Rb rl P P1) (ya : Y ta σ H P) : Y (tCB rl (tCons ta tNil)) σ H P1 := fun H1 u Q q => ya H1 u _ fun x H2 s2 p => h x H2 p _ fun v H3 s3 => q v H3 (s2.trans s3)
theorem yn_cb {rl : List V → Hp → VK → Prop} {R : HO → Hp → Prop} (h : Rbn rl P R) (ya : Y ta σ H P) : Yn (tCB rl (tCons ta tNil)) σ H R := fun H1 u Q q => ya H1 u _ fun x H2 s2 p => h x H2 p _ fun d H3 uo s3 n => q d H3 uo (s2.trans s3) (s2.free n)
theorem b_lenL {xs : List α} [w : VL P r xs] : Rb (rLenA K) P (iP xs.length) := fun x H1 px Q q => by
  obtain ⟨a, vs, e, hl, al, z⟩ := w.vw px
  have := al.length
  rw [List.length_map] at this
  exact ⟨a, xs.length, by rw [e], .inl ⟨vs, .inl hl, this.symm⟩, q _ _ (Same.refl _) rfl⟩
theorem b_lenD {d : List (Str × α)} [w : VD P r d] : Rb (rLenA K) P (iP d.length) := fun x H1 px Q q => by
  obtain ⟨a, kvs, e, hl, al, z⟩ := w.vw px
  exact ⟨a, d.length, by rw [e], .inr (.inr (.inl ⟨kvs, hl, al.length.symm⟩)), q _ _ (Same.refl _) rfl⟩
theorem b_lenQ {d : List ((Str × Str) × α)} [w : VQ P r d] : Rb (rLenA K) P (iP d.length) := fun x H1 px Q q => by
  obtain ⟨a, kvs, e, hl, al, z⟩ := w.vw px
  exact ⟨a, d.length, by rw [e], .inr (.inr (.inr ⟨kvs, hl, al.length.symm⟩)), q _ _ (Same.refl _) rfl⟩
theorem b_all {bs : List Bool} : Rb (rAll K) (lP bP bs) (bP (bs.all id)) := fun x H1 ⟨a, vs, e, hl, al, z⟩ Q q => by
  obtain rfl := al.bl
  exact ⟨a, bs, by rw [e], hl.sq, q _ _ (Same.refl _) rfl⟩
theorem b_any {bs : List Bool} : Rb (rAny K) (lP bP bs) (bP (bs.any id)) := fun x H1 ⟨a, vs, e, hl, al, z⟩ Q q => by
  obtain rfl := al.bl
  exact ⟨a, bs, by rw [e], hl.sq, q _ _ (Same.refl _) rfl⟩
theorem Ad.keys : ∀ {d : List (Str × α)} {kvs : List (Key × V)}, Ad H r d kvs → kvs.map (·.1) = (En.keys d).map Sum.inr
  | [], [], _ => rfl
  | x :: d, p :: kvs, h => by
    show p.1 :: kvs.map (·.1) = Sum.inr x.1 :: (En.keys d).map Sum.inr
    rw [h.1, Ad.keys h.2.2]
theorem Ad.keyVs : ∀ {d : List (Str × α)} {kvs : List (Key × V)}, Ad H r d kvs → (kvs.map fun kv => kV kv.1) = (En.keys d).map V.str
  | [], [], _ => rfl
  | x :: d, p :: kvs, h => by
    show kV p.1 :: (kvs.map fun kv => kV kv.1) = V.str x.1 :: (En.keys d).map V.str
    rw [h.1, Ad.keyVs h.2.2] <;> rfl
theorem Ad.vals : ∀ {d : List (Str × α)} {kvs : List (Key × V)}, Ad H r d kvs → Al H ((d.map (·.2)).map r) (kvs.map (·.2))
  | [], [], _ => trivial
  | x :: d, p :: kvs, h => ⟨h.2.1, Ad.vals h.2.2⟩
theorem b_listD {d : List (Str × α)} [w : VD P r d] : Rbn (fun xs H Q => ∃ (a : Addr) (kvs : List (Key × V)), xs = [.ref a] ∧ Rd H a (.dK kvs) ∧ ∀ p, H p = none → Q (.ref p) (upd H p (.lst (kvs.map fun kv => kV kv.1)))) P (isL ((keys d).map sP)) := fun x H1 px Q q => by
  obtain ⟨a, kvs, e, hl, al, z⟩ := w.vw px
  exact ⟨a, kvs, by rw [e], hl, fun p hp => q p _ _ (same_new _ hp) hp L2.upd_same ⟨_, rfl, by rw [al.keyVs]; exact al_str _, by unfold keys; simpa using z⟩⟩
theorem yn_listVals {d : List (Str × α)} [s : ∀ x, Sty (r x)] (ya : Y ta σ H (dP r d)) : Yn (tListVals ta) σ H (isL ((d.map (·.2)).map r)) := fun H1 u Q q =>
  ya H1 u _ fun x H2 s2 ⟨a, kvs, e, hl, al, z⟩ => ⟨a, kvs, e, hl.rd, fun p hp => q p _ _ (s2.trans (same_new _ hp)) (s2.free hp) L2.upd_same ⟨_, rfl, al_same (same_new _ hp) al.vals, by simpa using z⟩⟩
theorem b_listOf {xs : List α} [s : ∀ x, Sty (r x)] [w : VL P r xs] : Rbn (fun xs H Q => ∃ p ys, xs = [.ref p] ∧ (SqL K H p ys ∨ SqT K H p ys) ∧ ∀ l, H l = none → Q (.ref l) (upd H l (.lst ys))) P (isL (xs.map r)) := fun x H1 px Q q => by
  obtain ⟨a, vs, e, hl, al, z⟩ := w.vw px
  exact ⟨a, vs, by rw [e], .inl (.inl hl), fun p hp => q p _ _ (same_new _ hp) hp L2.upd_same ⟨_, rfl, al_same (same_new _ hp) al, z⟩⟩
theorem Aq.refs : ∀ {d : List ((Str × Str) × α)} {kvs : List (List Key × V)} {bs : List Addr}, Aq H r d kvs → IsKeys H kvs bs → Al H ((keys d).map pP) (bs.map V.ref)
  | [], [], _, _, h => by
    cases h
    trivial
  | x :: d, p :: kvs, _, h, k => by
    cases k with
    | cons k1 k2 =>
      refine ⟨⟨_, _, rfl, k1, ?_⟩, Aq.refs h.2.2 k2⟩
      rw [h.1]
      exact ⟨⟨rfl, rfl, trivial⟩, by rw [sizeLine_eq]; simp⟩
theorem isKeys_up {H' : Hp} {kvs : List (List Key × V)} {bs : List Addr} (e : Up H H') (k : IsKeys H kvs bs) : IsKeys H' kvs bs := Paired.mapP k fun _ _ h => e _ _ trivial h
theorem b_listQ {d : List ((Str × Str) × α)} [s : ∀ x, Sty (r x)] [w : VQ P r d] : Rbn (fun xs H Q => ∃ d kvs, xs = [V.ref d] ∧ Rd H d (.dT kvs) ∧ ∀ p bs, H p = none → IsKeys H kvs bs → Q (.ref p) (upd H p (.lst (bs.map V.ref)))) P (isL ((keys d).map pP)) := fun x H1 px Q q => by
  obtain ⟨a, kvs, e, hl, al, z⟩ := w.vw px
  exact ⟨a, kvs, by rw [e], hl, fun p bs hp k => q p _ _ (same_new _ hp) hp L2.upd_same ⟨_, rfl, (al.up (up_new _ hp)).refs (isKeys_up (up_new _ hp) k), by unfold keys; simpa using z⟩⟩
end
end En
set_option maxHeartbeats 4000000
/-! Y of walks: comprehensions, for; statements; promises of defs. -/
namespace En
open PySem PySem.Spec PyProof.Rows L2
/-- J yields such values, one behind another -/
def Wk (J : It) (H : Hp) (Ps : List Pr) : Prop := ∀ H1, Up H H1 → (∀ i P, Ps[i]? = some P → J.go i H1 ∧ ∀ x H2, J.yld i H1 x H2 → Same H1 H2 ∧ P x H2) ∧ J.stop Ps.length H1
def Yi (wi : TI) (σ : L2.St) (H : Hp) (Ps : List Pr) : Prop := ∀ H1, Same H H1 → ∀ R : It → Hp → Prop, (∀ J H2, Same H1 H2 → Wk J H2 Ps → Ps.length ≤ sizeLine → R J H2) → wi σ H1 R
section
variable {σ : L2.St} {H H0 : Hp} {P P1 P2 P3 : Pr} {t ta tb td ty : TE} {b c : Bool} {α : Type} {r : α → Pr} {K : PySem.W.Frag} {Ps : List Pr}
theorem yi_list [s : StyL Ps] (y : Y t σ H (LP Ps)) : Yi (iList K t) σ H Ps := fun H1 u R q => y H1 u _ fun v H2 s2 ⟨a, vs, e, hl, al, z⟩ => by
  refine ⟨a, e, ⟨vs, hl.sq⟩, q _ H2 s2 (fun H3 u3 => ⟨fun i P hP => ?_, ⟨vs, (hl.up u3).sq, by rw [al.length]; exact Nat.le_refl _⟩⟩) z⟩
  obtain ⟨x, hx, px⟩ := (s.up u3 al).get hP
  refine ⟨⟨vs, x, (hl.up u3).sq, hx⟩, fun x' H4 ⟨e4, h4⟩ => ?_⟩
  subst e4
  have := h4 vs (hl.up u3).sq
  rw [hx] at this
  cases this
  exact ⟨Same.refl _, px⟩
theorem yi_l {xs : List α} [s : ∀ x, Sty (r x)] (y : Y t σ H (lP r xs)) : Yi (iList K t) σ H (xs.map r) := yi_list y
theorem yi_tup [s : StyL Ps] (y : Y t σ H (TP Ps)) : Yi (iTup K t) σ H Ps := fun H1 u R q => y H1 u _ fun v H2 s2 ⟨a, vs, e, hl, al, z⟩ => by
  refine ⟨a, e, ⟨vs, hl.sq⟩, q _ H2 s2 (fun H3 u3 => ⟨fun i P hP => ?_, ⟨vs, (hl.up u3).sq, by rw [al.length]; exact Nat.le_refl _⟩⟩) z⟩
  obtain ⟨x, hx, px⟩ := (s.up u3 al).get hP
  refine ⟨⟨vs, x, (hl.up u3).sq, hx⟩, fun x' H4 ⟨e4, h4⟩ => ?_⟩
  subst e4
  have := h4 vs (hl.up u3).sq
  rw [hx] at this
  cases this
  exact ⟨Same.refl _, px⟩
theorem Ad.nth : ∀ {d : List (Str × α)} {kvs : List (Key × V)} {i : Nat} {k : Str × α}, Ad H r d kvs → d[i]? = some k → ∃ v, kvs[i]? = some (.inr k.1, v) ∧ r k.2 v H
  | [], [], _, _, _, e => by simp at e
  | x :: d, p :: kvs, 0, _, h, e => by cases e; exact ⟨p.2, by rw [← h.1] <;> rfl, h.2.1⟩
  | x :: d, p :: kvs, i + 1, _, h, e => by
    obtain ⟨v, h1, h2⟩ := Ad.nth (i := i) h.2.2 (by simpa using e)
    exact ⟨v, by simpa using h1, h2⟩
theorem Aq.nth : ∀ {d : List ((Str × Str) × α)} {kvs : List (List Key × V)} {i : Nat} {k : (Str × Str) × α}, Aq H r d kvs → d[i]? = some k → ∃ v, kvs[i]? = some (tk k.1, v) ∧ r k.2 v H
  | [], [], _, _, _, e => by simp at e
  | x :: d, p :: kvs, 0, _, h, e => by cases e; exact ⟨p.2, by rw [show tk x.1 = p.1 from h.1.symm] <;> rfl, h.2.1⟩
  | x :: d, p :: kvs, i + 1, _, h, e => by
    obtain ⟨v, h1, h2⟩ := Aq.nth (i := i) h.2.2 (by simpa using e)
    exact ⟨v, by simpa using h1, h2⟩
theorem nth_map {β γ : Type} {f : β → γ} {l : List β} {i : Nat} {y : γ} (h : (l.map f)[i]? = some y) : ∃ x, l[i]? = some x ∧ f x = y := by
  rw [List.getElem?_map] at h
  cases e : l[i]? with
  | none => rw [e] at h; cases h
  | some x => rw [e] at h; exact ⟨x, rfl, Option.some.inj h⟩
theorem yi_keys {d : List (Str × α)} [s : ∀ x, Sty (r x)] (y : Y td σ H (dP r d)) : Yi (iKeys td) σ H ((keys d).map sP) := fun H1 u R q => y H1 u _ fun v H2 s2 ⟨a, kvs, e, ⟨o, hl⟩, al, z⟩ => by
  have hlen : ((keys d).map sP).length = kvs.length := by unfold keys; rw [List.length_map, List.length_map, al.length]
  refine ⟨a, o, e, .inl ⟨kvs, hl, q _ H2 s2 (fun H3 u3 => ⟨fun i P hP => ?_, u3 _ _ trivial hl, by rw [hlen]; exact Nat.le_refl _⟩) (by rw [hlen, al.length]; exact z)⟩⟩
  obtain ⟨k, hk, rfl⟩ := nth_map hP
  obtain ⟨kx, hkx, rfl⟩ := nth_map hk
  obtain ⟨v, hv, _⟩ := al.nth hkx
  refine ⟨⟨u3 _ _ trivial hl, (List.getElem?_eq_some_iff.mp hv).1⟩, fun x H4 ⟨e4, k', v', h1, h2⟩ => ?_⟩
  subst e4
  rw [hv] at h1
  cases h1
  exact ⟨Same.refl _, h2⟩
theorem yi_qkeys {d : List ((Str × Str) × α)} [s : ∀ x, Sty (r x)] (y : Y td σ H (qP r d)) : Yi (iKeys td) σ H ((keys d).map pP) := fun H1 u R q => y H1 u _ fun v H2 s2 ⟨a, kvs, e, ⟨o, hl⟩, al, z⟩ => by
  have hlen : ((keys d).map pP).length = kvs.length := by unfold keys; rw [List.length_map, List.length_map, al.length]
  refine ⟨a, o, e, .inr ⟨kvs, hl, q _ H2 s2 (fun H3 u3 => ⟨fun i P hP => ?_, u3 _ _ trivial hl, by rw [hlen]; exact Nat.le_refl _⟩) (by rw [hlen, al.length]; exact z)⟩⟩
  obtain ⟨k, hk, rfl⟩ := nth_map hP
  obtain ⟨kx, hkx, rfl⟩ := nth_map hk
  obtain ⟨v, hv, _⟩ := al.nth hkx
  refine ⟨⟨u3 _ _ trivial hl, (List.getElem?_eq_some_iff.mp hv).1⟩, fun x H4 ⟨e4, k', v', q', h1, h2, h3⟩ => ?_⟩
  subst e4
  rw [hv] at h1
  cases h1
  exact ⟨Same.refl _, q', _, h2, h3, ⟨rfl, rfl, trivial⟩, by rw [sizeLine_eq]; simp⟩
theorem yi_vals {d : List (Str × α)} [s : ∀ x, Sty (r x)] (y : Y td σ H (dP r d)) : Yi (iVals td) σ H ((d.map (·.2)).map r) := fun H1 u R q => y H1 u _ fun v H2 s2 ⟨a, kvs, e, ⟨o, hl⟩, al, z⟩ => by
  have hlen : ((d.map (·.2)).map r).length = kvs.length := by rw [List.length_map, List.length_map, al.length]
  refine ⟨a, o, kvs, e, hl, q _ H2 s2 (fun H3 u3 => ⟨fun i P hP => ?_, u3 _ _ trivial hl, by rw [hlen]; exact Nat.le_refl _⟩) (by rw [hlen, al.length]; exact z)⟩
  obtain ⟨k, hk, rfl⟩ := nth_map hP
  obtain ⟨kx, hkx, rfl⟩ := nth_map hk
  obtain ⟨v, hv, hr⟩ := al.nth hkx
  refine ⟨⟨u3 _ _ trivial hl, (List.getElem?_eq_some_iff.mp hv).1⟩, fun x H4 ⟨e4, k', h1⟩ => ?_⟩
  subst e4
  rw [hv] at h1
  cases h1
  exact ⟨Same.refl _, (s _).up u3 hr⟩
/-- a pair of d.items() -/
def itP (r : α → Pr) (x : Str × α) : Pr := TP [sP x.1, r x.2]
instance {x : Str × α} [s : ∀ x, Sty (r x)] : Sty (itP r x) := inferInstanceAs (Sty (TP [sP x.1, r x.2]))
theorem yi_items {d : List (Str × α)} [s : ∀ x, Sty (r x)] (y : Y td σ H (dP r d)) : Yi (iItems td) σ H (d.map (itP r)) := fun H1 u R q => y H1 u _ fun v H2 s2 ⟨a, kvs, e, ⟨o, hl⟩, al, z⟩ => by
  have hlen : (d.map (itP r)).length = kvs.length := by rw [List.length_map, al.length]
  refine ⟨a, o, kvs, e, hl, q _ H2 s2 (fun H3 u3 => ⟨fun i P hP => ?_, u3 _ _ trivial hl, by rw [hlen]; exact Nat.le_refl _⟩) (by rw [hlen, al.length]; exact z)⟩
  obtain ⟨kx, hkx, rfl⟩ := nth_map hP
  obtain ⟨v, hv, hr⟩ := al.nth hkx
  refine ⟨⟨u3 _ _ trivial hl, (List.getElem?_eq_some_iff.mp hv).1⟩, fun x H4 ⟨T, k', v', h1, h2, h3, h4⟩ => ?_⟩
  subst h4
  rw [hv] at h1
  cases h1
  exact ⟨same_new _ h3, T, _, h2, L2.upd_same, ⟨rfl, (s _).up (u3.trans (up_new _ h3)) hr, trivial⟩, by rw [sizeLine_eq]; simp⟩
theorem yi_range1 {n : Nat} (y : Y t σ H (iP n)) (hn : n ≤ 1000000) : Yi (iRng1 (tCons t tNil)) σ H ((List.range n).map fun i => iP (i : Nat)) := fun H1 u R q => y H1 u _ fun v H2 s2 p => by
  refine ⟨n, by rw [show v = .int n from p], by omega, by omega, q _ H2 s2 (fun H3 u3 => ⟨fun i P hP => ?_, ?_⟩) (by rw [List.length_map, List.length_range, sizeLine_eq]; omega)⟩
  · obtain ⟨j, hj, rfl⟩ := nth_map hP
    obtain ⟨h1, h2⟩ := List.getElem?_eq_some_iff.mp hj
    rw [List.getElem_range] at h2
    subst h2
    refine ⟨by rw [List.length_range] at h1; rw [show ((n : Int).toNat) = n by omega]; exact h1, fun x H4 ⟨e4, ex⟩ => ?_⟩
    subst e4
    exact ⟨Same.refl _, by rw [ex]; show _ = _; simp⟩
  · show (n : Int).toNat ≤ _
    rw [List.length_map, List.length_range]
    omega
theorem yi_str {x : Str} (y : Y t σ H (sP x)) (hz : x.length ≤ sizeLine) : Yi (iStr t) σ H (x.cps.toList.map fun c => sP ⟨#[c]⟩) := fun H1 u R q => y H1 u _ fun v H2 s2 p => by
  refine ⟨x, p, q _ H2 s2 (fun H3 u3 => ⟨fun i P hP => ?_, ?_⟩) (by rw [List.length_map, Array.length_toList]; exact hz)⟩
  · obtain ⟨j, hj, rfl⟩ := nth_map hP
    rw [Array.getElem?_toList] at hj
    refine ⟨(Array.getElem?_eq_some_iff.mp hj).1, fun x' H4 ⟨e4, c, h1, h2⟩ => ?_⟩
    subst e4
    rw [hj] at h1
    cases h1
    exact ⟨Same.refl _, h2⟩
  · show x.cps.size ≤ _
    rw [List.length_map, Array.length_toList]
    exact Nat.le_refl _
/-! ### comprehensions -/
/-- one turn's names, test and element -/
def Bd (g : TG) (tt : TT) (te : TE) (σ : L2.St) (vs : List Nat) (v : V) (H : Hp) (p : Bool) (P : Pr) : Prop :=
  ∃ σ2, (∀ Q : L2.St → Hp → Prop, Q σ2 H → g v (wipe σ vs) H Q) ∧ wipe σ2 vs = wipe σ vs ∧ Yt tt σ2 H p ∧ (p = true → Y te σ2 H P)
theorem yt_yes : Yt tYes σ H true := fun H1 _ Q q => q H1 (Same.refl _)
theorem take_one {β : Type} {l : List β} {i : Nat} {x : β} (h : l[i]? = some x) : l.take (i + 1) = l.take i ++ [x] := by
  rw [List.take_add_one, h]
  rfl
theorem fm_length {β : Type} (xs : List α) (p : α → Bool) (f : α → β) (i : Nat) : (((xs.take i).filter p).map f).length ≤ i := by
  rw [List.length_map]
  have := List.length_filter_le p (xs.take i)
  rw [List.length_take] at this
  omega
theorem yn_lc {β : Type} {wi : TI} {g : TG} {tt : TT} {te : TE} {vs : List Nat} {xs : List α} {r' : β → Pr} [s' : ∀ y, Sty (r' y)] (p : α → Bool) (f : α → β) (yi : Yi wi σ H (xs.map r))
    (hb : ∀ x ∈ xs, ∀ v H1, Same H H1 → r x v H1 → Bd g tt te σ vs v H1 (p x) (r' (f x))) : Yn (tLc wi g tt te vs) σ H (isL (((xs.filter p).map f).map r')) := fun H1 u Q q =>
  yi H1 u _ fun J H2 s2 wk z D hD => by
    rw [List.length_map] at z
    have nD : H1 D = none := s2.free hD
    refine ⟨fun i m H' => m = xs.length - i ∧ i ≤ xs.length ∧ Same H2 H' ∧ ∃ acc, H' D = some (.lst acc) ∧ Al H' ((((xs.take i).filter p).map f).map r') acc, ⟨_, rfl, Nat.zero_le _, same_new _ hD, [], L2.upd_same, by simp [Al]⟩, ?_⟩
    rintro i m H' ⟨rfl, hi, sH, acc, hacc, al⟩
    obtain ⟨w1, w2⟩ := wk H' (up_same sH)
    by_cases hlt : i < xs.length
    · refine .inr ?_
      have hx : xs[i]? = some xs[i] := List.getElem?_eq_getElem hlt
      obtain ⟨go, yl⟩ := w1 i (r xs[i]) (by rw [List.getElem?_map, hx]; rfl)
      refine ⟨go, fun H' => i + 1 ≤ xs.length ∧ Same H2 H' ∧ ∃ acc, H' D = some (.lst acc) ∧ Al H' ((((xs.take (i + 1)).filter p).map f).map r') acc, fun H3 n3 => ⟨xs.length - (i + 1), by omega, rfl, n3⟩, fun x H3 hy => ?_⟩
      obtain ⟨s3, px⟩ := yl x H3 hy
      have u3 : Same H H3 := u.trans ((s2.trans sH).trans s3)
      obtain ⟨σ2, hg, hw, ht, he⟩ := hb xs[i] (List.getElem_mem hlt) x H3 u3 px
      refine hg _ ⟨hw, ht H3 (Same.refl _) _ fun H4 s4 => ?_⟩
      have ha4 := s4 _ _ (s3 _ _ hacc)
      have al4 := al_same (s3.trans s4) al
      have hl := al.length
      have hfm := fm_length xs p f i
      rw [List.length_map] at hl
      cases hp : p xs[i] with
      | false =>
        refine ⟨hlt, (sH.trans s3).trans s4, acc, ha4, ?_⟩
        rw [take_one hx, List.filter_append, List.filter_cons, if_neg (by rw [hp]; exact Bool.false_ne_true)]
        simpa using al4
      | true =>
        refine he hp H4 s4 _ fun y H5 s5 py => ?_
        refine ⟨acc, s5 _ _ ha4, by omega, hlt, same_mut _ (((sH.trans s3).trans s4).trans s5) hD, acc ++ [y], L2.upd_same, ?_⟩
        rw [take_one hx, List.filter_append, List.filter_cons, if_pos hp, List.map_append, List.map_append]
        have um := up_mut (H := H5) (.lst (acc ++ [y])) (s5 _ _ ha4) (fun z => z)
        refine Al.app ?_ ⟨(s' _).up um py, trivial⟩
        exact (inferInstance : StyL ((((xs.take i).filter p).map f).map r')).up um (al_same s5 al4)
    · have e : i = xs.length := by omega
      subst e
      refine .inl ⟨by rw [List.length_map] at w2; exact w2, q D _ _ (s2.trans sH) nD hacc ⟨acc, rfl, ?_, ?_⟩⟩
      · rw [List.take_length] at al
        exact al
      · have := List.length_filter_le p xs
        rw [List.length_map, List.length_map]
        omega
/-- .. without a test -/
theorem yn_lc0 {β : Type} {wi : TI} {g : TG} {te : TE} {vs : List Nat} {xs : List α} {r' : β → Pr} [s' : ∀ y, Sty (r' y)] (f : α → β) (yi : Yi wi σ H (xs.map r))
    (hb : ∀ x ∈ xs, ∀ v H1, Same H H1 → r x v H1 → Bd g tYes te σ vs v H1 true (r' (f x))) : Yn (tLc wi g tYes te vs) σ H (isL ((xs.map f).map r')) := by
  have h := yn_lc (r' := r') (fun _ => true) f yi hb
  rwa [List.filter_eq_self.mpr (fun _ _ => rfl)] at h
end
end En
set_option maxHeartbeats 4000000
/-! Y of dict comprehensions; statements; promises of defs. -/
namespace En
open PySem PySem.Spec PyProof.Rows L2
section
variable {σ : L2.St} {H H0 : Hp} {P P1 P2 P3 : Pr} {t ta tb td ty : TE} {b c : Bool} {α : Type} {r : α → Pr} {K : PySem.W.Frag} {Ps : List Pr}
theorem Ad.fresh : ∀ {d : List (Str × α)} {kvs : List (Key × V)} {k : Str} (v : V), Ad H r d kvs → k ∉ En.keys d → putK kvs (.inr k) v = kvs ++ [(.inr k, v)]
  | d, kvs, k, v, h, hk => by
    unfold putK
    rw [if_neg]
    intro z
    obtain ⟨kv, h1, h2⟩ := List.any_eq_true.mp z
    have h3 : kv.1 = .inr k := of_decide_eq_true h2
    have h4 : kv.1 ∈ kvs.map (·.1) := List.mem_map_of_mem h1
    rw [h.keys, h3] at h4
    obtain ⟨k', h5, h6⟩ := List.mem_map.mp h4
    rw [keyS_iff.mp h6] at h5
    exact hk h5
theorem Ad.snoc : ∀ {d : List (Str × α)} {kvs : List (Key × V)} {k : Str} {x : α} {v : V}, Ad H r d kvs → r x v H → Ad H r (d ++ [(k, x)]) (kvs ++ [(.inr k, v)])
  | [], [], _, _, _, _, hx => ⟨rfl, hx, trivial⟩
  | _ :: _, _ :: _, _, _, _, h, hx => ⟨h.1, h.2.1, Ad.snoc h.2.2 hx⟩
theorem Ad.put : ∀ {d : List (Str × α)} {kvs : List (Key × V)} {k : Str} {x : α} {v : V}, Ad H r d kvs → (En.keys d).Nodup → r x v H → Ad H r (En.put d k x) (putK kvs (.inr k) v)
  | d, kvs, k, x, v, h, hn, hx => by
    by_cases hk : k ∈ En.keys d
    · have e : putK kvs (.inr k) v = kvs.map (fun kv => if kv.1 = .inr k then (kv.1, v) else kv) := by
        unfold putK
        rw [if_pos]
        have h4 : (.inr k : Key) ∈ kvs.map (·.1) := by rw [h.keys]; exact List.mem_map_of_mem hk
        obtain ⟨kv, h1, h2⟩ := List.mem_map.mp h4
        exact List.any_eq_true.mpr ⟨kv, h1, decide_eq_true h2⟩
      rw [e]
      clear e
      induction d generalizing kvs with
      | nil => cases hk
      | cons y d ih =>
        cases kvs with
        | nil => exact h.elim
        | cons p kvs =>
          have hn' := List.nodup_cons.mp (show (y.1 :: En.keys d).Nodup from hn)
          by_cases e : y.1 = k
          · have hp : p.1 = .inr k := by rw [h.1, e]
            have same : ∀ {d : List (Str × α)} {kvs : List (Key × V)}, Ad H r d kvs → k ∉ En.keys d → kvs.map (fun kv => if kv.1 = .inr k then (kv.1, v) else kv) = kvs := by
              intro d kvs h hk
              refine (List.map_congr_left (g := id) fun kv hkv => ?_).trans (List.map_id _)
              rw [if_neg]
              · rfl
              intro h3
              have h4 : kv.1 ∈ kvs.map (·.1) := List.mem_map_of_mem hkv
              rw [h.keys, h3] at h4
              obtain ⟨k', h5, h6⟩ := List.mem_map.mp h4
              rw [keyS_iff.mp h6] at h5
              exact hk h5
            show Ad H r (if y.1 = k then (k, x) :: d else y :: En.put d k x) ((if p.1 = .inr k then (p.1, v) else p) :: kvs.map _)
            rw [if_pos e, if_pos hp, same h.2.2 (by rw [← e]; exact hn'.1)]
            exact ⟨hp, hx, h.2.2⟩
          · have hp : ¬ p.1 = .inr k := by rw [h.1]; exact fun z => e (keyS_iff.mp z)
            show Ad H r (if y.1 = k then (k, x) :: d else y :: En.put d k x) ((if p.1 = .inr k then (p.1, v) else p) :: kvs.map _)
            rw [if_neg e, if_neg hp]
            refine ⟨h.1, h.2.1, ih _ h.2.2 hn'.2 ?_⟩
            rcases List.mem_cons.mp (show k ∈ y.1 :: En.keys d from hk) with z | z
            · exact absurd z.symm e
            · exact z
    · rw [Ad.fresh v h hk]
      have e : En.put d k x = d ++ [(k, x)] := by
        clear h hn
        induction d with
        | nil => rfl
        | cons y d ih =>
          have hk' : ¬ (k = y.1 ∨ k ∈ En.keys d) := fun z => hk (List.mem_cons.mpr z)
          unfold En.put
          rw [if_neg fun z => hk' (.inl z.symm), ih fun z => hk' (.inr z)]
          rfl
      rw [e]
      exact Ad.snoc h hx
/-- one turn of a dict comprehension -/
def Bk (g : TG) (tt : TT) (tk te : TE) (σ : L2.St) (vs : List Nat) (v : V) (H : Hp) (p : Bool) (P' P : Pr) : Prop :=
  ∃ σ2, (∀ Q : L2.St → Hp → Prop, Q σ2 H → g v (wipe σ vs) H Q) ∧ wipe σ2 vs = wipe σ vs ∧ Yt tt σ2 H p ∧ (p = true → Y tk σ2 H P' ∧ Y te σ2 H P)
theorem yn_dc {β : Type} {wi : TI} {g : TG} {tt : TT} {tk te : TE} {vs : List Nat} {xs : List α} {r' : β → Pr} [s' : ∀ y, Sty (r' y)] (p : α → Bool) (kf : α → Str) (f : α → β) (yi : Yi wi σ H (xs.map r))
    (hb : ∀ x ∈ xs, ∀ v H1, Same H H1 → r x v H1 → Bk g tt tk te σ vs v H1 (p x) (sP (kf x)) (r' (f x))) (hn : ((xs.filter p).map kf).Nodup) : Yn (tDc wi g tt tk te vs) σ H (isD r' ((xs.filter p).map fun x => (kf x, f x))) := fun H1 u Q q =>
  yi H1 u _ fun J H2 s2 wk z D hD => by
    rw [List.length_map] at z
    have nD : H1 D = none := s2.free hD
    refine ⟨fun i m H' => m = xs.length - i ∧ i ≤ xs.length ∧ Same H2 H' ∧ ∃ acc, H' D = some (.dK acc) ∧ Ad H' r' (((xs.take i).filter p).map fun x => (kf x, f x)) acc, ⟨_, rfl, Nat.zero_le _, same_new _ hD, [], L2.upd_same, by simp [Ad]⟩, ?_⟩
    rintro i m H' ⟨rfl, hi, sH, acc, hacc, al⟩
    obtain ⟨w1, w2⟩ := wk H' (up_same sH)
    by_cases hlt : i < xs.length
    · refine .inr ?_
      have hx : xs[i]? = some xs[i] := List.getElem?_eq_getElem hlt
      obtain ⟨go, yl⟩ := w1 i (r xs[i]) (by rw [List.getElem?_map, hx]; rfl)
      refine ⟨go, fun H' => i + 1 ≤ xs.length ∧ Same H2 H' ∧ ∃ acc, H' D = some (.dK acc) ∧ Ad H' r' (((xs.take (i + 1)).filter p).map fun x => (kf x, f x)) acc, fun H3 n3 => ⟨xs.length - (i + 1), by omega, rfl, n3⟩, fun x H3 hy => ?_⟩
      obtain ⟨s3, px⟩ := yl x H3 hy
      have u3 : Same H H3 := u.trans ((s2.trans sH).trans s3)
      obtain ⟨σ2, hg, hw, ht, he⟩ := hb xs[i] (List.getElem_mem hlt) x H3 u3 px
      refine hg _ ⟨hw, ht H3 (Same.refl _) _ fun H4 s4 => ?_⟩
      have ha4 := s4 _ _ (s3 _ _ hacc)
      have al4 := al.up (up_same (s3.trans s4))
      have hl := al.length
      have hfm := fm_length xs p (fun x => (kf x, f x)) i
      cases hp : p xs[i] with
      | false =>
        refine ⟨hlt, (sH.trans s3).trans s4, acc, ha4, ?_⟩
        rw [take_one hx, List.filter_append, List.filter_cons, if_neg (by rw [hp]; exact Bool.false_ne_true)]
        simpa using al4
      | true =>
        obtain ⟨yk, ye⟩ := he hp
        refine yk H4 s4 _ fun k H5 s5 pk => ye H5 (s4.trans s5) _ fun y H6 s6 py => ?_
        have ha6 := s6 _ _ (s5 _ _ ha4)
        have al6 := al4.up (up_same (s5.trans s6))
        refine ⟨acc, .inr (kf xs[i]), pk, ha6, by omega, hlt, same_mut _ ((((sH.trans s3).trans s4).trans s5).trans s6) hD, _, L2.upd_same, ?_⟩
        have um := up_mut (H := H6) (.dK (putK acc (.inr (kf xs[i])) y)) ha6 (fun z => z)
        have hk : kf xs[i] ∉ keys (((xs.take i).filter p).map fun x => (kf x, f x)) := by
          have e : xs = xs.take i ++ xs[i] :: xs.drop (i + 1) := by rw [List.getElem_cons_drop, List.take_append_drop]
          have hn2 := hn
          rw [e, List.filter_append, List.filter_cons, if_pos hp, List.map_append, List.map_cons] at hn2
          intro hm
          unfold keys at hm
          rw [List.map_map] at hm
          exact (List.nodup_append.mp hn2).2.2 _ hm _ (List.mem_cons_self ..) rfl
        rw [Ad.fresh y al6 hk] at um ⊢
        rw [take_one hx, List.filter_append, List.filter_cons, if_pos hp, List.map_append]
        exact Ad.snoc (al6.up um) ((s' _).up um py)
    · have e : i = xs.length := by omega
      subst e
      refine .inl ⟨by rw [List.length_map] at w2; exact w2, q D _ _ (s2.trans sH) nD hacc ⟨acc, rfl, ?_, ?_⟩⟩
      · rw [List.take_length] at al
        exact al
      · have := List.length_filter_le p xs
        rw [List.length_map]
        omega
theorem yn_dc0 {β : Type} {wi : TI} {g : TG} {tk te : TE} {vs : List Nat} {xs : List α} {r' : β → Pr} [s' : ∀ y, Sty (r' y)] (kf : α → Str) (f : α → β) (yi : Yi wi σ H (xs.map r))
    (hb : ∀ x ∈ xs, ∀ v H1, Same H H1 → r x v H1 → Bk g tYes tk te σ vs v H1 true (sP (kf x)) (r' (f x))) (hn : (xs.map kf).Nodup) : Yn (tDc wi g tYes tk te vs) σ H (isD r' (xs.map fun x => (kf x, f x))) := by
  have h := yn_dc (r' := r') (fun _ => true) kf f yi hb (by rwa [List.filter_eq_self.mpr (fun _ _ => rfl)])
  rwa [List.filter_eq_self.mpr (fun _ _ => rfl)] at h
/-! ### statements -/
variable {D : Ends} {te : TE} {tt : TT} {u w : TS}
theorem ys_seq (h : u { D with nx := w D } σ H) : tSeq u w D σ H := h
theorem ys_ret (y : Y te σ H P) (q : ∀ v H2, Same H H2 → P v H2 → D.rt v H2) : tRet te D σ H := y H (Same.refl _) _ q
theorem ys_set {i : Nat} (y : Y te σ H P) (q : ∀ v H2, Same H H2 → P v H2 → D.nx (σ.set i (some v)) H2) : tAsg te (gName i) D σ H := y H (Same.refl _) _ q
theorem ys_drop (y : Y te σ H P) (q : ∀ v H2, Same H H2 → P v H2 → D.nx σ H2) : tDrop te D σ H := y H (Same.refl _) _ q
theorem ys_if (y : Yt tt σ H b) (h1 : b = true → ∀ H2, Same H H2 → u D σ H2) (h2 : b = false → ∀ H2, Same H H2 → w D σ H2) : tIfS tt u w D σ H := y H (Same.refl _) _ fun H2 s => by
  cases b with
  | true => exact h1 rfl H2 s
  | false => exact h2 rfl H2 s
theorem ys_par {i j : Nat} {Pa Pb : Pr} {t1 : TA} (y : Ya t1 σ H [Pa, Pb]) (q : ∀ v v' H2, Same H H2 → Pa v H2 → Pb v' H2 → D.nx ((σ.set i (some v)).set j (some v')) H2) : tPar i j t1 D σ H := y H (Same.refl _) _ fun vs H2 s al => by
  match vs, al with
  | [v, v'], ⟨h1, h2, _⟩ => exact ⟨v, v', rfl, q v v' H2 s h1 h2⟩
/-- a, b = a tuple -/
theorem ys_tup2 {i j : Nat} {Pa Pb : Pr} (y : Y te σ H (TP [Pa, Pb])) (q : ∀ v v' H2, Same H H2 → Pa v H2 → Pb v' H2 → D.nx ((σ.set i (some v)).set j (some v')) H2) : tAsg te (gTup K 2 (gCons (gName i) (gCons (gName j) gNil))) D σ H := y H (Same.refl _) _ fun v H2 s ⟨a, vs, e, ht, al, z⟩ => by
  match vs, al with
  | [v1, v2], ⟨h1, h2, _⟩ => exact ⟨a, _, e, ht.sq, rfl, v1, _, rfl, v2, _, rfl, rfl, q v1 v2 H2 s h1 h2⟩
theorem g_tup2 {i j : Nat} {a : Addr} {v1 v2 : V} (ht : TU H a [v1, v2]) : ∀ Q : L2.St → Hp → Prop, Q ((σ.set i (some v1)).set j (some v2)) H → gTup K 2 (gCons (gName i) (gCons (gName j) gNil)) (.ref a) σ H Q :=
  fun Q q => ⟨a, _, rfl, ht.sq, rfl, v1, _, rfl, v2, _, rfl, rfl, q⟩
/-- (a, (b, c)) -/
theorem g_tup12 {i j l : Nat} {a a' : Addr} {v1 v2 v3 : V} (ht : TU H a [v1, .ref a']) (ht' : TU H a' [v2, v3]) : ∀ Q : L2.St → Hp → Prop, Q (((σ.set i (some v1)).set j (some v2)).set l (some v3)) H → gTup K 2 (gCons (gName i) (gCons (gTup K 2 (gCons (gName j) (gCons (gName l) gNil))) gNil)) (.ref a) σ H Q :=
  fun Q q => ⟨a, _, rfl, ht.sq, rfl, v1, _, rfl, _, _, rfl, ⟨a', _, rfl, ht'.sq, rfl, v2, _, rfl, v3, _, rfl, rfl, rfl, q⟩⟩
/-- a tuple of two, taken apart -/
theorem TP.two {Pa Pb : Pr} {v : V} (h : TP [Pa, Pb] v H) : ∃ a v1 v2, v = .ref a ∧ TU H a [v1, v2] ∧ Pa v1 H ∧ Pb v2 H := by
  obtain ⟨a, vs, e, ht, al, z⟩ := h
  match vs, al with
  | [v1, v2], ⟨h1, h2, _⟩ => exact ⟨a, v1, v2, e, ht, h1, h2⟩
theorem ys_for {xs : List α} {wi : TI} {g : TG} {tb : TS} (yi : Yi wi σ H (xs.map r)) (h : ∀ H1, Same H H1 → ∃ Pv : Nat → L2.St → Hp → Prop, Pv 0 σ H1 ∧ (∀ i σ' H', Pv i σ' H' → Up H1 H') ∧
    (∀ i x σ' H', xs[i]? = some x → Pv i σ' H' → ∀ v H2, Same H' H2 → r x v H2 → g v σ' H2 fun σ2 H3 => tb { D with nx := Pv (i + 1), ct := Pv (i + 1), bk := D.nx } σ2 H3) ∧ ∀ σ' H', Pv xs.length σ' H' → D.nx σ' H') : tFor wi g tb D σ H := by
  refine yi H (Same.refl _) _ fun J H1 s1 wk z => ?_
  obtain ⟨Pv, p0, up, hs, hd⟩ := h H1 s1
  refine ⟨fun i m σ' H' => m = xs.length - i ∧ i ≤ xs.length ∧ Pv i σ' H', ⟨_, rfl, Nat.zero_le _, p0⟩, ?_⟩
  rintro i m σ' H' ⟨rfl, hi, p⟩
  obtain ⟨w1, w2⟩ := wk H' (up i σ' H' p)
  by_cases hlt : i < xs.length
  · have hx : xs[i]? = some xs[i] := List.getElem?_eq_getElem hlt
    obtain ⟨go, yl⟩ := w1 i (r xs[i]) (by rw [List.getElem?_map, hx]; rfl)
    refine .inr ⟨go, Pv (i + 1), fun σ3 H3 p3 => ⟨xs.length - (i + 1), by omega, rfl, hlt, p3⟩, fun x H3 hy => ?_⟩
    obtain ⟨s3, px⟩ := yl x H3 hy
    exact hs i xs[i] σ' H' hx p x H3 s3 px
  · have e : i = xs.length := by omega
    subst e
    rw [List.length_map] at w2
    exact .inl ⟨w2, hd σ' H' p⟩
theorem ys_while {tc : TT} {tb : TS} (Pv : Nat → L2.St → Hp → Prop) (m0 : Nat) (h0 : Pv m0 σ H) (hs : ∀ m σ' H', Pv m σ' H' → ∃ b, Yt tc σ' H' b ∧ (b = false → ∀ H2, Same H' H2 → D.nx σ' H2) ∧
    (b = true → ∀ H2, Same H' H2 → tb { D with nx := fun σ3 H3 => ∃ m', m' < m ∧ Pv m' σ3 H3, ct := fun σ3 H3 => ∃ m', m' < m ∧ Pv m' σ3 H3, bk := D.nx } σ' H2)) : tWhile tc tb D σ H := by
  refine ⟨Pv, ⟨m0, h0⟩, fun m σ' H' p => ?_⟩
  obtain ⟨b, y, h1, h2⟩ := hs m σ' H' p
  refine y H' (Same.refl _) _ fun H2 s => ?_
  cases b with
  | false => exact h1 rfl H2 s
  | true => exact ⟨_, fun _ _ z => z, h2 rfl H2 s⟩
end
/-! ### promises -/
section
variable {α β γ δ ε : Type}
def Sp1 (p : α → Pr) (ok : α → Prop) (post : α → Pr) : Sp := fun vs H Q _ => ∃ v a, vs = [v] ∧ p a v H ∧ ok a ∧ ∀ u H', Same H H' → post a u H' → Q u H'
def Sp2 (p : α → Pr) (p2 : β → Pr) (ok : α → β → Prop) (post : α → β → Pr) : Sp := fun vs H Q _ => ∃ v v2 a b, vs = [v, v2] ∧ p a v H ∧ p2 b v2 H ∧ ok a b ∧ ∀ u H', Same H H' → post a b u H' → Q u H'
def Sp3 (p : α → Pr) (p2 : β → Pr) (p3 : γ → Pr) (ok : α → β → γ → Prop) (post : α → β → γ → Pr) : Sp := fun vs H Q _ => ∃ v v2 v3 a b c, vs = [v, v2, v3] ∧ p a v H ∧ p2 b v2 H ∧ p3 c v3 H ∧ ok a b c ∧ ∀ u H', Same H H' → post a b c u H' → Q u H'
def Sp4 (p : α → Pr) (p2 : β → Pr) (p3 : γ → Pr) (p4 : δ → Pr) (ok : α → β → γ → δ → Prop) (post : α → β → γ → δ → Pr) : Sp := fun vs H Q _ => ∃ v v2 v3 v4 a b c d, vs = [v, v2, v3, v4] ∧ p a v H ∧ p2 b v2 H ∧ p3 c v3 H ∧ p4 d v4 H ∧ ok a b c d ∧ ∀ u H', Same H H' → post a b c d u H' → Q u H'
variable {σ : L2.St} {H : Hp} {ta tb tc td : TE} {p : α → Pr} {p2 : β → Pr} {p3 : γ → Pr} {p4 : δ → Pr} {C : Addr} {m : Str}
theorem al1 {P : Pr} {vs : List V} (al : Al H [P] vs) : ∃ v, vs = [v] ∧ P v H := by
  match vs, al with
  | [v], ⟨h1, _⟩ => exact ⟨v, rfl, h1⟩
theorem al2 {P P' : Pr} {vs : List V} (al : Al H [P, P'] vs) : ∃ v v', vs = [v, v'] ∧ P v H ∧ P' v' H := by
  match vs, al with
  | [v, v'], ⟨h1, h2, _⟩ => exact ⟨v, v', rfl, h1, h2⟩
theorem al3 {P P' P'' : Pr} {vs : List V} (al : Al H [P, P', P''] vs) : ∃ v v' v'', vs = [v, v', v''] ∧ P v H ∧ P' v' H ∧ P'' v'' H := by
  match vs, al with
  | [v, v', v''], ⟨h1, h2, h3, _⟩ => exact ⟨v, v', v'', rfl, h1, h2, h3⟩
theorem al4 {P P' P'' P3 : Pr} {vs : List V} (al : Al H [P, P', P'', P3] vs) : ∃ v v' v'' v3, vs = [v, v', v'', v3] ∧ P v H ∧ P' v' H ∧ P'' v'' H ∧ P3 v3 H := by
  match vs, al with
  | [v, v', v'', v3], ⟨h1, h2, h3, h4, _⟩ => exact ⟨v, v', v'', v3, rfl, h1, h2, h3, h4⟩
theorem y_call1 {ok : α → Prop} {post : α → Pr} {a : α} [s : ∀ a, Sts (p a)] (ya : Y ta σ H (p a)) (h : ok a) : Y (tCall (Sp1 p ok post) [] E0 (tCons ta tNil)) σ H (post a) := fun H1 u Q q =>
  (ya_cons ya ya_nil) H1 u _ fun vs H2 s2 al => by
    obtain ⟨v, rfl, h1⟩ := al1 al
    exact ⟨v, a, rfl, h1, h, fun u' H' s' hp => q u' H' (s2.trans s') hp⟩
theorem y_call2 {ok : α → β → Prop} {post : α → β → Pr} {a : α} {b : β} [s : ∀ a, Sts (p a)] [s2 : ∀ a, Sts (p2 a)] (ya : Y ta σ H (p a)) (yb : Y tb σ H (p2 b)) (h : ok a b) : Y (tCall (Sp2 p p2 ok post) [] E0 (tCons ta (tCons tb tNil))) σ H (post a b) := fun H1 u Q q =>
  (ya_cons ya (ya_cons yb ya_nil)) H1 u _ fun vs H2 s2 al => by
    obtain ⟨v, v2, rfl, h1, h2⟩ := al2 al
    exact ⟨v, v2, a, b, rfl, h1, h2, h, fun u' H' s' hp => q u' H' (s2.trans s') hp⟩
theorem y_call3 {ok : α → β → γ → Prop} {post : α → β → γ → Pr} {a : α} {b : β} {c : γ} [s : ∀ a, Sts (p a)] [s2 : ∀ a, Sts (p2 a)] [s3 : ∀ a, Sts (p3 a)] (ya : Y ta σ H (p a)) (yb : Y tb σ H (p2 b)) (yc : Y tc σ H (p3 c)) (h : ok a b c) :
    Y (tCall (Sp3 p p2 p3 ok post) [] E0 (tCons ta (tCons tb (tCons tc tNil)))) σ H (post a b c) := fun H1 u Q q =>
  (ya_cons ya (ya_cons yb (ya_cons yc ya_nil))) H1 u _ fun vs H2 s2 al => by
    obtain ⟨v, v2, v3, rfl, h1, h2, h3⟩ := al3 al
    exact ⟨v, v2, v3, a, b, c, rfl, h1, h2, h3, h, fun u' H' s' hp => q u' H' (s2.trans s') hp⟩
theorem y_call4 {ok : α → β → γ → δ → Prop} {post : α → β → γ → δ → Pr} {a : α} {b : β} {c : γ} {d : δ} [s : ∀ a, Sts (p a)] [s2 : ∀ a, Sts (p2 a)] [s3 : ∀ a, Sts (p3 a)] [s4 : ∀ a, Sts (p4 a)] (ya : Y ta σ H (p a)) (yb : Y tb σ H (p2 b)) (yc : Y tc σ H (p3 c)) (yd : Y td σ H (p4 d)) (h : ok a b c d) :
    Y (tCall (Sp4 p p2 p3 p4 ok post) [] E0 (tCons ta (tCons tb (tCons tc (tCons td tNil))))) σ H (post a b c d) := fun H1 u Q q =>
  (ya_cons ya (ya_cons yb (ya_cons yc (ya_cons yd ya_nil)))) H1 u _ fun vs H2 s2 al => by
    obtain ⟨v, v2, v3, v4, rfl, h1, h2, h3, h4⟩ := al4 al
    exact ⟨v, v2, v3, v4, a, b, c, d, rfl, h1, h2, h3, h4, h, fun u' H' s' hp => q u' H' (s2.trans s') hp⟩
theorem len1 {ok : α → Prop} {post : α → Pr} (x : Str) : ∀ vs H Q E, Sp1 p ok post vs H Q E → vs.length = [x].length := fun vs H Q E ⟨_, _, e, _⟩ => by rw [e]; rfl
theorem len2 {ok : α → β → Prop} {post : α → β → Pr} (x y : Str) : ∀ vs H Q E, Sp2 p p2 ok post vs H Q E → vs.length = [x, y].length := fun vs H Q E ⟨_, _, _, _, e, _⟩ => by rw [e]; rfl
theorem len3 {ok : α → β → γ → Prop} {post : α → β → γ → Pr} (x y z : Str) : ∀ vs H Q E, Sp3 p p2 p3 ok post vs H Q E → vs.length = [x, y, z].length := fun vs H Q E ⟨_, _, _, _, _, _, e, _⟩ => by rw [e]; rfl
theorem len4 {ok : α → β → γ → δ → Prop} {post : α → β → γ → δ → Pr} (x y z w : Str) : ∀ vs H Q E, Sp4 p p2 p3 p4 ok post vs H Q E → vs.length = [x, y, z, w].length := fun vs H Q E ⟨_, _, _, _, _, _, _, _, e, _⟩ => by rw [e]; rfl
end
end En
set_option maxHeartbeats 4000000
/-! The module's facts, a def's promise by its body. -/
namespace En
open PySem PySem.Spec PyProof.Rows L2
/-- what the module says -/
structure Tf (w : World) (K : PySem.W.Frag) (mg : Str → Option Value) : Prop where
  c : He.SaysT fa fn ts w K
  ex : exB K = true
  hin : ∃ h : Heap, K.In h ∧ h.Ns mainGlobals mg
section
variable {P : Program} {w : World} {K : PySem.W.Frag} {mg : Str → Option Value} {base : Heap}
theorem Tf.glo (T : Tf w K mg) {x : Str} (h : He.Fa.glo x ∈ fa) : mg x = some (.ref (He.ga K x)) := by
  obtain ⟨hp, X, G⟩ := T.hin
  exact He.glo_ok X G (T.c.d.facts h)
theorem Tf.fre (T : Tf w K mg) {x : Str} (h : He.Fa.free x ∈ fa) : mg x = none := by
  obtain ⟨hp, X, G⟩ := T.hin
  exact He.free_ok X G (T.c.d.facts h)
theorem Tf.n_isinstance (T : Tf w K mg) : mg "isinstance" = none := T.fre (by simp [fa, fa0, fa1, fa2, fa3])
theorem Tf.n_tuple (T : Tf w K mg) : mg "tuple" = none := T.fre (by simp [fa, fa0, fa1, fa2, fa3])
theorem Tf.n_len (T : Tf w K mg) : mg "len" = none := T.fre (by simp [fa, fa0, fa1, fa2, fa3])
theorem Tf.n_str (T : Tf w K mg) : mg "str" = none := T.fre (by simp [fa, fa0, fa1, fa2, fa3])
theorem Tf.n_dict (T : Tf w K mg) : mg "dict" = none := T.fre (by simp [fa, fa0, fa1, fa2, fa3])
theorem Tf.n_all (T : Tf w K mg) : mg "all" = none := T.fre (by simp [fa, fa0, fa1, fa2, fa3])
theorem Tf.n_any (T : Tf w K mg) : mg "any" = none := T.fre (by simp [fa, fa0, fa1, fa2, fa3])
theorem Tf.n_sorted (T : Tf w K mg) : mg "sorted" = none := T.fre (by simp [fa, fa0, fa1, fa2, fa3])
theorem Tf.n_list (T : Tf w K mg) : mg "list" = none := T.fre (by simp [fa, fa0, fa1, fa2, fa3])
theorem Tf.n_int (T : Tf w K mg) : mg "int" = none := T.fre (by simp [fa, fa0, fa1, fa2, fa3])
theorem Tf.n_max (T : Tf w K mg) : mg "max" = none := T.fre (by simp [fa, fa0, fa1, fa2, fa3])
theorem Tf.n_min (T : Tf w K mg) : mg "min" = none := T.fre (by simp [fa, fa0, fa1, fa2, fa3])
theorem Tf.n_range (T : Tf w K mg) : mg "range" = none := T.fre (by simp [fa, fa0, fa1, fa2, fa3])
theorem Tf.n_sum (T : Tf w K mg) : mg "sum" = none := T.fre (by simp [fa, fa0, fa1, fa2, fa3])
theorem Tf.n_bool (T : Tf w K mg) : mg "bool" = none := T.fre (by simp [fa, fa0, fa1, fa2, fa3])
theorem Tf.n_zip (T : Tf w K mg) : mg "zip" = none := T.fre (by simp [fa, fa0, fa1, fa2, fa3])
theorem Tf.letters (T : Tf w K mg) : ∃ u, mg "LETTERS" = some u ∧ RelV (.str "abcdefghijklmnopqrstuvwxyz") u := by
  obtain ⟨hp, X, G⟩ := T.hin
  obtain ⟨t, e⟩ := He.str_ok X G (T.c.d.facts (f := .str "LETTERS" "abcdefghijklmnopqrstuvwxyz") (by simp [fa, fa0, fa1, fa2, fa3]))
  exact ⟨_, e, t, rfl⟩
abbrev cDesk (K : PySem.W.Frag) : Addr := He.ga K "Desk"
abbrev cHeld (K : PySem.W.Frag) : Addr := He.ga K "Held"
theorem Tf.g_Desk (T : Tf w K mg) : mg "Desk" = some (.ref (cDesk K)) := T.glo (by simp [fa, fa0, fa1, fa2, fa3])
theorem Tf.g_Held (T : Tf w K mg) : mg "Held" = some (.ref (cHeld K)) := T.glo (by simp [fa, fa0, fa1, fa2, fa3])
theorem Tf.turned (T : Tf w K mg) : mg "TURNED" = some (.ref (He.ga K "TURNED")) := T.glo (by simp [fa, fa0, fa1, fa2, fa3])
theorem Tf.sizes (T : Tf w K mg) : mg "SIZES" = some (.ref (He.ga K "SIZES")) := T.glo (by simp [fa, fa0, fa1, fa2, fa3])
theorem Tf.kd_turned (T : Tf w K mg) : ∃ es n, KDict K w (He.ga K "TURNED") es n := T.c.tab 0
theorem Tf.kd_sizes (T : Tf w K mg) : ∃ es n, KDict K w (He.ga K "SIZES") es n := T.c.tab 1
theorem Tf.clsD (T : Tf w K mg) : Cls K (cDesk K) := He.cls_ok (T.c.d.facts (f := .cls "Desk") (by simp [fa, fa0, fa1, fa2, fa3]))
theorem Tf.clsH (T : Tf w K mg) : Cls K (cHeld K) := He.cls_ok (T.c.d.facts (f := .cls "Held") (by simp [fa, fa0, fa1, fa2, fa3]))
theorem Tf.naR (T : Tf w K mg) : NoAttr K (cDesk K) "rows" := He.noat_ok (T.c.d.facts (f := .noat "Desk" "rows") (by simp [fa, fa0, fa1, fa2, fa3]))
theorem Tf.naF (T : Tf w K mg) : NoAttr K (cDesk K) "first" := He.noat_ok (T.c.d.facts (f := .noat "Desk" "first") (by simp [fa, fa0, fa1, fa2, fa3]))
theorem Tf.naE (T : Tf w K mg) : NoAttr K (cHeld K) "elder" := He.noat_ok (T.c.d.facts (f := .noat "Held" "elder") (by simp [fa, fa0, fa1, fa2, fa3]))
theorem Tf.naV (T : Tf w K mg) : NoAttr K (cHeld K) "viable" := He.noat_ok (T.c.d.facts (f := .noat "Held" "viable") (by simp [fa, fa0, fa1, fa2, fa3]))
theorem Tf.naN (T : Tf w K mg) : NoAttr K (cHeld K) "newer" := He.noat_ok (T.c.d.facts (f := .noat "Held" "newer") (by simp [fa, fa0, fa1, fa2, fa3]))
theorem Tf.isDesk (T : Tf w K mg) : C8.InsC K (cDesk K) := by
  have e := T.ex
  unfold exB at e
  simp only [Bool.and_eq_true, decide_eq_true_eq] at e
  obtain ⟨e1, e2, e3, e4, e5, _⟩ := e
  exact ⟨T.clsD, He.eqO_ok e1, He.eqO_ok e2, e3, e4, e5⟩
/-- a def of the module keeps its promise, by its body -/
theorem Tf.cal {x : Str} {d : He.DefD} {N ps : List Str} {k : Nat} {sp : Sp} (T : Tf w K mg) (i : Nat) (hi : fn[i]? = some d) (hx : d.at_ = (x, none)) (hg : He.Fa.glo x ∈ fa) (hdf : d.dfl = []) (hkw : d.kwd = [])
    (S : C8.scC N ps d.scope = true) (len : ∀ vs H Q E, sp vs H Q E → vs.length = ps.length)
    (bnd : ∀ (kV doc pm : Value) (an : Option Addr) (cdv ct : Value) (us : List Value), us.length = ps.length → bindArgs (PySem.W.fnOf d.name d.qual d.params d.body d.scope .none kV doc pm an cdv ct) ⟨us, []⟩ = pure (ps.zip us))
    (hbody : ∀ (f : Addr) (cdv : Value) (A : Around) (outer : List Env) (s : Shared) (H : Hp) (vs : List V) (Q : VK) (E : XK), Room k (A.deeper (envOfC d.qual d.scope s.heap.objs.size f cdv)) → sp vs H Q E →
      ∃ t, PSs (cxOf C8.CX0 P w K mg base N d.qual d.scope f cdv A outer s H E).nox d.body t ∧ t { nx := fun _ H' => Q .non H', rt := Q } (start N vs) H) : C8.Cal P w K mg base (k + 1) x sp [] := by
  obtain ⟨fd, F⟩ := T.c.d.def_ i hi
  have e1 : d.dvs K = [] := by unfold He.DefD.dvs; rw [hdf]; rfl
  rw [e1] at F
  have e3 : He.fAd K d.at_ = He.ga K x := by rw [hx]; rfl
  rw [e3] at F
  refine ⟨_, fd, ps, [], F.ok (C8.fnScope_by S) len (fun cdv A outer s H vs Q E hr h => ?_), T.glo hg, F.kp, F.bindsN bnd, .nil⟩
  obtain ⟨t, h1, h2⟩ := hbody _ cdv A outer s H vs Q E hr h
  exact ⟨t, h1.nox, h2⟩
/-- a method -/
theorem Tf.met {c m : Str} {d : He.DefD} {N ps : List Str} {k : Nat} {sp : Sp} (T : Tf w K mg) (i : Nat) (hi : fn[i]? = some d) (hx : d.at_ = (c, some m)) (hg : He.Fa.meth c m ∈ fa) (hc : Cls K (He.ga K c)) (hdf : d.dfl = []) (hkw : d.kwd = [])
    (S : C8.scC N ps d.scope = true) (len : ∀ vs H Q E, sp vs H Q E → vs.length = ps.length)
    (bnd : ∀ (kV doc pm : Value) (an : Option Addr) (cdv ct : Value) (us : List Value), us.length = ps.length → bindArgs (PySem.W.fnOf d.name d.qual d.params d.body d.scope .none kV doc pm an cdv ct) ⟨us, []⟩ = pure (ps.zip us))
    (hbody : ∀ (f : Addr) (cdv : Value) (A : Around) (outer : List Env) (s : Shared) (H : Hp) (vs : List V) (Q : VK) (E : XK), Room k (A.deeper (envOfC d.qual d.scope s.heap.objs.size f cdv)) → sp vs H Q E →
      ∃ t, PSs (cxOf C8.CX0 P w K mg base N d.qual d.scope f cdv A outer s H E).nox d.body t ∧ t { nx := fun _ H' => Q .non H', rt := Q } (start N vs) H) : C8.Met P w K mg base (k + 1) (He.ga K c) m sp [] := by
  obtain ⟨fd, F⟩ := T.c.d.def_ i hi
  have e1 : d.dvs K = [] := by unfold He.DefD.dvs; rw [hdf]; rfl
  rw [e1] at F
  have e3 : He.fAd K d.at_ = He.ma K (He.ga K c) m := by rw [hx]; rfl
  rw [e3] at F
  refine ⟨_, fd, ps, [], hc, He.meth_ok (T.c.d.facts hg), F.ok (C8.fnScope_by S) len (fun cdv A outer s H vs Q E hr h => ?_), F.bindsN bnd, .nil⟩
  obtain ⟨t, h1, h2⟩ := hbody _ cdv A outer s H vs Q E hr h
  exact ⟨t, h1.nox, h2⟩
/-- a class, by its __init__ -/
theorem Tf.mak {c : Str} {d : He.DefD} {N ps : List Str} {k : Nat} {sp : Sp} (T : Tf w K mg) (i : Nat) (hi : fn[i]? = some d) (hx : d.at_ = (c, some ("__init__" : Str))) (hg : He.Fa.mkr c ∈ fa) (hc : He.Fa.glo c ∈ fa) (hdf : d.dfl = []) (hkw : d.kwd = [])
    (S : C8.scC N ps d.scope = true) (len : ∀ vs H Q E, sp vs H Q E → vs.length = ps.length)
    (bnd : ∀ (kV doc pm : Value) (an : Option Addr) (cdv ct : Value) (us : List Value), us.length = ps.length → bindArgs (PySem.W.fnOf d.name d.qual d.params d.body d.scope .none kV doc pm an cdv ct) ⟨us, []⟩ = pure (ps.zip us))
    (hbody : ∀ (f : Addr) (cdv : Value) (A : Around) (outer : List Env) (s : Shared) (H : Hp) (vs : List V) (Q : VK) (E : XK), Room k (A.deeper (envOfC d.qual d.scope s.heap.objs.size f cdv)) → sp vs H Q E →
      ∃ t, PSs (cxOf C8.CX0 P w K mg base N d.qual d.scope f cdv A outer s H E).nox d.body t ∧ t { nx := fun _ H' => Q .non H', rt := Q } (start N vs) H) : C8.Mak P w K mg base (k + 1) c (He.ga K c) sp [] := by
  obtain ⟨fd, F⟩ := T.c.d.def_ i hi
  have e1 : d.dvs K = [] := by unfold He.DefD.dvs; rw [hdf]; rfl
  rw [e1] at F
  have e3 : He.fAd K d.at_ = He.ma K (He.ga K c) "__init__" := by rw [hx]; rfl
  rw [e3] at F
  refine ⟨_, fd, ps, [], He.mkr_ok (T.c.d.facts hg), F.ok (C8.fnScope_by S) len (fun cdv A outer s H vs Q E hr h => ?_), T.glo hc, F.bindsN bnd, .nil⟩
  obtain ⟨t, h1, h2⟩ := hbody _ cdv A outer s H vs Q E hr h
  exact ⟨t, h1.nox, h2⟩
/-! ### desks, held -/
def dkP (K : PySem.W.Frag) (d : World') : Pr := fun v H => ∃ a dx b, v = .ref a ∧ H a = some (.ins (cDesk K) dx [("rows", b), ("first", .str d.2)]) ∧ dP rP d.1 b H
instance {d : World'} : Sty (dkP K d) := ⟨fun e ⟨a, dx, b, h1, h2, h3⟩ => ⟨a, dx, b, h1, e _ _ trivial h2, (inferInstance : Sty (dP rP d.1)).up e h3⟩⟩
abbrev Hd := Book × List (Str × Int) × Book
def hdP (K : PySem.W.Frag) (d : Hd) : Pr := fun v H => ∃ a dx b1 b2 b3, v = .ref a ∧ H a = some (.ins (cHeld K) dx [("elder", b1), ("viable", b2), ("newer", b3)]) ∧ dP rP d.1 b1 H ∧ dP iP d.2.1 b2 H ∧ dP rP d.2.2 b3 H
instance {d : Hd} : Sty (hdP K d) := ⟨fun e ⟨a, dx, b, b2, b3, h1, h2, h3, h4, h5⟩ => ⟨a, dx, b, b2, b3, h1, e _ _ trivial h2, (inferInstance : Sty (dP rP d.1)).up e h3, (inferInstance : Sty (dP iP d.2.1)).up e h4, (inferInstance : Sty (dP rP d.2.2)).up e h5⟩⟩
variable {σ : L2.St} {H : Hp} {ta : TE}
theorem y_rows (T : Tf w K mg) {d : World'} (ya : Y ta σ H (dkP K d)) : Y (tFld K ta "rows") σ H (dP rP d.1) := fun H1 u Q q => ya H1 u _ fun x H2 s2 ⟨a, dx, b, e, h1, h2⟩ =>
  ⟨a, _, dx, _, b, e, h1, T.clsD, T.naR, rfl, q b H2 s2 h2⟩
theorem y_first (T : Tf w K mg) {d : World'} (ya : Y ta σ H (dkP K d)) : Y (tFld K ta "first") σ H (sP d.2) := fun H1 u Q q => ya H1 u _ fun x H2 s2 ⟨a, dx, b, e, h1, h2⟩ =>
  ⟨a, _, dx, _, _, e, h1, T.clsD, T.naF, rfl, q _ H2 s2 rfl⟩
theorem y_elder (T : Tf w K mg) {d : Hd} (ya : Y ta σ H (hdP K d)) : Y (tFld K ta "elder") σ H (dP rP d.1) := fun H1 u Q q => ya H1 u _ fun x H2 s2 ⟨a, dx, b, b2, b3, e, h1, h2, h3, h4⟩ =>
  ⟨a, _, dx, _, b, e, h1, T.clsH, T.naE, rfl, q b H2 s2 h2⟩
theorem y_viable (T : Tf w K mg) {d : Hd} (ya : Y ta σ H (hdP K d)) : Y (tFld K ta "viable") σ H (dP iP d.2.1) := fun H1 u Q q => ya H1 u _ fun x H2 s2 ⟨a, dx, b, b2, b3, e, h1, h2, h3, h4⟩ =>
  ⟨a, _, dx, _, b2, e, h1, T.clsH, T.naV, rfl, q b2 H2 s2 h3⟩
theorem y_newer (T : Tf w K mg) {d : Hd} (ya : Y ta σ H (hdP K d)) : Y (tFld K ta "newer") σ H (dP rP d.2.2) := fun H1 u Q q => ya H1 u _ fun x H2 s2 ⟨a, dx, b, b2, b3, e, h1, h2, h3, h4⟩ =>
  ⟨a, _, dx, _, b3, e, h1, T.clsH, T.naN, rfl, q b3 H2 s2 h4⟩
end
end En
set_option maxHeartbeats 4000000
/-! Y of == and in over texts, pairs, lists of them; sorted texts. -/
namespace En
open PySem PySem.Spec PyProof.Rows L2
/-! ### data -/
def OkS (x : Str) : Prop := PyData.strOk x = true
def OkP (x : Str × Str) : Prop := OkS x.1 ∧ OkS x.2
def dPr (x : Str × Str) : PyData := .tuple [.str x.1, .str x.2]
section
variable {K : PySem.W.Frag} {H : Hp} {P : Pr} {α : Type} {r : α → Pr} {f : α → PyData}
theorem dp_s {x : Str} {v : V} (h : sP x v H) : Dp K H v (.str x) := by
  cases h
  exact .str x
theorem dp_p {x : Str × Str} {v : V} (h : pP x v H) : Dp K H v (dPr x) := by
  obtain ⟨a, v1, v2, rfl, ht, h1, h2⟩ := TP.two h
  exact .tup ht.sq (.cons (dp_s h1) (.cons (dp_s h2) .nil))
theorem dp_all (hf : ∀ x v, r x v H → Dp K H v (f x)) : ∀ {xs : List α} {vs : List V}, Al H (xs.map r) vs → DpAll K H vs (xs.map f)
  | [], [], _ => .nil
  | x :: xs, v :: vs, h => .cons (hf x v h.1) (dp_all hf h.2)
theorem dp_l (hf : ∀ x v, r x v H → Dp K H v (f x)) {xs : List α} {v : V} [w : VL P r xs] (h : P v H) : Dp K H v (.list (xs.map f)) := by
  obtain ⟨a, vs, rfl, hl, al, z⟩ := w.vw h
  exact .lst (.inl hl) (dp_all hf al)
theorem eqv_p (x y : Str × Str) : PyData.eqv (dPr x) (dPr y) = decide (x = y) := by
  unfold dPr
  simp only [PyData.eqv, PyData.eqvAll, Bool.and_true]
  by_cases e : x = y
  · subst e
    simp
  · rw [decide_eq_false e, Bool.and_eq_false_iff]
    by_cases e1 : x.1 = y.1
    · right
      have : x.2 ≠ y.2 := fun e2 => e (Prod.ext e1 e2)
      simpa using this
    · left
      simpa using e1
theorem eqv_s (x y : Str) : PyData.eqv (.str x) (.str y) = decide (x = y) := by
  simp only [PyData.eqv]
  by_cases e : x = y
  · subst e; simp
  · rw [decide_eq_false e]
    exact beq_eq_false_iff_ne.mpr e
theorem eqv_l [DecidableEq α] (hf : ∀ x y, PyData.eqv (f x) (f y) = decide (x = y)) : ∀ (xs ys : List α), PyData.eqvAll (xs.map f) (ys.map f) = decide (xs = ys)
  | [], [] => by simp [PyData.eqvAll]
  | [], _ :: _ => by simp [PyData.eqvAll]
  | _ :: _, [] => by simp [PyData.eqvAll]
  | x :: xs, y :: ys => by
    simp only [List.map_cons, PyData.eqvAll]
    rw [hf, eqv_l hf xs ys]
    by_cases e : x = y
    · subst e; simp
    · simp [e]
theorem any_eqv [DecidableEq α] (hf : ∀ x y, PyData.eqv (f x) (f y) = decide (x = y)) (x : α) : ∀ xs : List α, ((xs.map f).any fun z => PyData.eqv z (f x)) = decide (x ∈ xs)
  | [] => by simp
  | y :: ys => by
    rw [List.map_cons, List.any_cons, hf, any_eqv hf x ys]
    by_cases e : y = x
    · subst e; simp
    · simp [e]
      exact fun z => absurd z.symm e
theorem eqv_nil (xs : List α) : PyData.eqv (.list (xs.map f)) (.list []) = xs.isEmpty := by
  cases xs <;> simp [PyData.eqv, PyData.eqvAll]
theorem sh_p {x : Str × Str} (h : OkP x) : (dPr x).canLay0 = true ∧ (dPr x).depth ≤ 1 := by
  unfold dPr
  have h1  : PyData.strOk x.1 = true := h.1
  have h2  : PyData.strOk x.2 = true := h.2
  simp [PyData.canLay0, PyData.canLayAll0, PyData.depth, PyData.depthAll, h1, h2]
theorem sh_l {n : Nat} : ∀ {xs : List α}, (∀ x ∈ xs, (f x).canLay0 = true ∧ (f x).depth ≤ n) → PyData.canLayAll0 (xs.map f) = true ∧ PyData.depthAll (xs.map f) ≤ n
  | [], _ => by simp [PyData.canLayAll0, PyData.depthAll]
  | x :: xs, h => by
    obtain ⟨h1, h2⟩ := h x (List.mem_cons_self ..)
    obtain ⟨h3, h4⟩ := sh_l (xs := xs) fun y hy => h y (List.mem_cons_of_mem _ hy)
    simp only [List.map_cons, PyData.canLayAll0, PyData.depthAll, h1, h3, Bool.and_self, true_and]
    omega
theorem shaped_p {x : Str × Str} (h : OkP x) : SeqAt.shaped (dPr x) = true := by
  obtain ⟨h1, h2⟩ := sh_p h
  unfold SeqAt.shaped
  rw [h1]
  simp
  omega
theorem shaped_l {n : Nat} {xs : List α} (h : ∀ x ∈ xs, (f x).canLay0 = true ∧ (f x).depth ≤ n) (hn : n ≤ 60) : SeqAt.shaped (.list (xs.map f)) = true := by
  obtain ⟨h1, h2⟩ := sh_l h
  show ((PyData.list (xs.map f)).canLay0 && decide ((PyData.list (xs.map f)).depth ≤ 64)) = true
  rw [Bool.and_eq_true, decide_eq_true_eq]
  refine ⟨by simpa only [PyData.canLay0] using h1, ?_⟩
  simp only [PyData.depth]
  omega
theorem sh_s {x : Str} (h : OkS x) : (PyData.str x).canLay0 = true ∧ (PyData.str x).depth ≤ 1 := by
  have h1  : PyData.strOk x = true := h
  simp [PyData.canLay0, PyData.depth, h1]
theorem r_inP {x : Str × Str} {xs : List (Str × Str)} [w : VL P pP xs] (h : OkP x) (hs : ∀ y ∈ xs, OkP y) : R2s (rInD K) (pP x) P (bP (decide (x ∈ xs))) := fun _ _ H1 h1 h2 Q q =>
  ⟨dPr x, xs.map dPr, dp_p h1, dp_l (f := dPr) (fun _ _ h => dp_p h) h2, shaped_p h, shaped_l (fun y hy => sh_p (hs y hy)) (by decide), q _ H1 (Same.refl _) (by rw [any_eqv eqv_p]; show V.bl _ = V.bl _; congr 1; simp)⟩
theorem r_notInP {x : Str × Str} {xs : List (Str × Str)} [w : VL P pP xs] (h : OkP x) (hs : ∀ y ∈ xs, OkP y) : R2s (rNotInD K) (pP x) P (bP (!decide (x ∈ xs))) := fun _ _ H1 h1 h2 Q q =>
  ⟨dPr x, xs.map dPr, dp_p h1, dp_l (f := dPr) (fun _ _ h => dp_p h) h2, shaped_p h, shaped_l (fun y hy => sh_p (hs y hy)) (by decide), q _ H1 (Same.refl _) (by rw [any_eqv eqv_p]; show V.bl _ = V.bl _; congr 1; simp)⟩
theorem r_neP {P2 : Pr} {xs ys : List (Str × Str)} [w : VL P pP xs] [w2 : VL P2 pP ys] (hx : ∀ y ∈ xs, OkP y) (hs : ∀ y ∈ ys, OkP y) : R2s (rNeD K) P P2 (bP (!decide (xs = ys))) := fun _ _ H1 h1 h2 Q q =>
  ⟨_, _, dp_l (f := dPr) (fun _ _ h => dp_p h) h1, dp_l (f := dPr) (fun _ _ h => dp_p h) h2, shaped_l (fun y hy => sh_p (hx y hy)) (by decide), shaped_l (fun y hy => sh_p (hs y hy)) (by decide), q _ H1 (Same.refl _) (by rw [PyData.eqv, eqv_l eqv_p]; rfl)⟩
/-- a list beside [] -/
theorem r_neNilP {xs : List (Str × Str)} [w : VL P pP xs] (hx : ∀ y ∈ xs, OkP y) : R2s (rNeD K) P (LP []) (bP (!xs.isEmpty)) := fun _ _ H1 h1 ⟨a, vs, e, hl, al, z⟩ Q q => by
  cases vs with
  | cons _ _ => exact al.elim
  | nil => exact ⟨_, .list [], dp_l (f := dPr) (fun _ _ h => dp_p h) h1, by rw [e]; exact .lst hl.sq .nil, shaped_l (fun y hy => sh_p (hx y hy)) (by decide), rfl, q _ H1 (Same.refl _) (by rw [eqv_nil]; rfl)⟩
theorem r_neNilS {xs : List Str} [w : VL P sP xs] (hx : ∀ y ∈ xs, OkS y) : R2s (rNeD K) P (LP []) (bP (!xs.isEmpty)) := fun _ _ H1 h1 ⟨a, vs, e, hl, al, z⟩ Q q => by
  cases vs with
  | cons _ _ => exact al.elim
  | nil => exact ⟨_, .list [], dp_l (f := PyData.str) (fun _ _ h => dp_s h) h1, by rw [e]; exact .lst hl.sq .nil, shaped_l (f := PyData.str) (fun y hy => sh_s (hx y hy)) (by decide), rfl, q _ H1 (Same.refl _) (by rw [eqv_nil]; rfl)⟩
/-! ### a text in a list, a tuple of texts -/
theorem all_flat (xs : List Str) : (xs.map V.str).all flatV = true := List.all_eq_true.mpr fun v hv => by
  obtain ⟨x, _, rfl⟩ := List.mem_map.mp hv
  rfl
theorem inV_s (x : Str) : ∀ xs : List Str, inV (.str x) (xs.map V.str) = decide (x ∈ xs)
  | [] => by simp [inV]
  | y :: ys => by
    have h := inV_s x ys
    unfold inV at h ⊢
    rw [List.map_cons, List.any_cons, h]
    show ((y == x) || _) = _
    by_cases e : y = x
    · subst e; simp
    · have e' : ¬ x = y := fun z => e z.symm
      rw [show (y == x) = false from beq_eq_false_iff_ne.mpr e]
      simp [e']
theorem r_inS {x : Str} {xs : List Str} [w : VL P sP xs] : R2s (rIn K false) (sP x) P (bP (decide (x ∈ xs))) := fun _ _ H1 h1 px Q q => by
  cases h1
  obtain ⟨a, vs, e, hl, al, z⟩ := w.vw px
  obtain rfl := al.str
  exact ⟨a, _, e, .inl (.inl hl), rfl, all_flat xs, q _ H1 (Same.refl _) (by rw [inV_s]; rfl)⟩
theorem r_notInS {x : Str} {xs : List Str} [w : VL P sP xs] : R2s (rIn K true) (sP x) P (bP (!decide (x ∈ xs))) := fun _ _ H1 h1 px Q q => by
  cases h1
  obtain ⟨a, vs, e, hl, al, z⟩ := w.vw px
  obtain rfl := al.str
  exact ⟨a, _, e, .inl (.inl hl), rfl, all_flat xs, q _ H1 (Same.refl _) (by rw [inV_s]; rfl)⟩
theorem r_inT {x : Str} {xs : List Str} : R2s (rIn K false) (sP x) (TP (xs.map sP)) (bP (decide (x ∈ xs))) := fun _ _ H1 h1 ⟨a, vs, e, hl, al, z⟩ Q q => by
  cases h1
  obtain rfl := al.str
  exact ⟨a, _, e, .inr hl.sq, rfl, all_flat xs, q _ H1 (Same.refl _) (by rw [inV_s]; rfl)⟩
end
/-! ### sorted texts -/
def leS (a b : Str) : Bool := !ltCps b.cps.toList a.cps.toList
theorem leS_iff (a b : Str) : leS a b = true ↔ ¬ b.cps.toList < a.cps.toList := by
  unfold leS
  rw [ltCps_eq]
  simp
theorem leS_trans (a b c : Str) (h1 : leS a b = true) (h2 : leS b c = true) : leS a c = true := by
  rw [leS_iff] at *
  exact List.not_lt.mpr (List.le_trans (List.not_lt.mp h1) (List.not_lt.mp h2))
theorem leS_total (a b : Str) : (leS a b || leS b a) = true := by
  rw [Bool.or_eq_true, leS_iff, leS_iff]
  rcases List.le_total a.cps.toList b.cps.toList with h | h
  · exact .inl (List.not_lt.mpr h)
  · exact .inr (List.not_lt.mpr h)
theorem leS_anti (a b : Str) (h1 : leS a b = true) (h2 : leS b a = true) : a = b := by
  rw [leS_iff] at *
  have := List.le_antisymm (List.not_lt.mp h1) (List.not_lt.mp h2)
  cases a; cases b
  congr
  exact Array.toList_inj.mp this
def sortS (ks : List Str) : List Str := ks.mergeSort leS
theorem sortS_perm (ks : List Str) : (sortS ks).Perm ks := List.mergeSort_perm _ _
theorem sortS_sorted (ks : List Str) : (sortS ks).Pairwise (fun a b => leS a b = true) := List.pairwise_mergeSort leS_trans leS_total ks
theorem rising_pw : ∀ (p : Str) (l : List Str), risingS p l = true → (p :: l).Pairwise (fun a b => leS a b = true)
  | p, [], _ => List.pairwise_singleton _ _
  | p, x :: l, h => by
    have h' : (leS p x && risingS x l) = true := h
    rw [Bool.and_eq_true] at h'
    have ih := rising_pw x l h'.2
    refine List.pairwise_cons.mpr ⟨fun y hy => ?_, ih⟩
    rcases List.mem_cons.mp hy with e | hy
    · rw [e]
      exact h'.1
    · exact leS_trans _ _ _ h'.1 ((List.pairwise_cons.mp ih).1 y hy)
theorem sortedS_pw {l : List Str} (h : sortedS l = true) : l.Pairwise (fun a b => leS a b = true) := by
  cases l with
  | nil => exact .nil
  | cons x l => exact rising_pw x l h
theorem sort_uniq {α : Type} {le : α → α → Bool} (anti : ∀ a b, le a b = true → le b a = true → a = b) : ∀ {l m : List α}, l.Perm m → l.Pairwise (fun a b => le a b = true) → m.Pairwise (fun a b => le a b = true) → l = m := by
  intro l
  induction l with
  | nil => intro m p _ _; exact (List.Perm.nil_eq p)
  | cons x l ih =>
    intro m p hl hm
    cases m with
    | nil => exact absurd p.symm (by simp)
    | cons y m =>
      have h1 := List.pairwise_cons.mp hl
      have h2 := List.pairwise_cons.mp hm
      have e : x = y := by
        rcases List.mem_cons.mp (p.mem_iff.mp (List.mem_cons_self ..)) with e | hx
        · exact e
        · rcases List.mem_cons.mp (p.mem_iff.mpr (List.mem_cons_self ..)) with e | hy
          · exact e.symm
          · exact anti _ _ (h1.1 y hy) (h2.1 x hx)
      subst e
      rw [ih (List.Perm.cons_inv p) h1.2 h2.2]
theorem sortS_of {ys ks : List Str} (p : ys.Perm ks) (h : sortedS ys = true) : ys = sortS ks := sort_uniq leS_anti (p.trans (sortS_perm ks).symm) (sortedS_pw h) (sortS_sorted ks)
section
variable {K : PySem.W.Frag} {H : Hp} {P : Pr} {α : Type} {r : α → Pr}
theorem b_sortedS {ks : List Str} [w : VL P sP ks] (hl : ks.length < 64) : Rbn (rSortedS K) P (isL ((sortS ks).map sP)) := fun x H1 px Q q => by
  obtain ⟨a, vs, e, hf, al, z⟩ := w.vw px
  obtain rfl := al.str
  refine ⟨a, ks, by rw [e], .inl hf, hl, fun ys p hp hs hn => ?_⟩
  rw [sortS_of hp hs]
  exact q p _ _ (same_new _ hn) hn L2.upd_same ⟨_, rfl, al_str _, by rw [List.length_map, (sortS_perm ks).length_eq, sizeLine_eq]; omega⟩
theorem b_sortedD {d : List (Str × α)} [w : VD P r d] (hl : d.length < 64) : Rbn (fun xs H Q => ∃ (a : Addr) (kvs : List (Key × V)) (ks : List Str), xs = [.ref a] ∧ Rd H a (.dK kvs) ∧ kvs.map (·.1) = ks.map Sum.inr ∧ ks.length < 64 ∧ ∀ ys p, ys.Perm ks → sortedS ys = true → H p = none → Q (.ref p) (upd H p (.lst (ys.map V.str)))) P (isL ((sortS (keys d)).map sP)) :=
  fun x H1 px Q q => by
    obtain ⟨a, kvs, e, hf, al, z⟩ := w.vw px
    have hk : (keys d).length < 64 := by unfold keys; rw [List.length_map]; exact hl
    refine ⟨a, kvs, keys d, by rw [e], hf, al.keys, hk, fun ys p hp hs hn => ?_⟩
    rw [sortS_of hp hs]
    exact q p _ _ (same_new _ hn) hn L2.upd_same ⟨_, rfl, al_str _, by rw [List.length_map, (sortS_perm _).length_eq, sizeLine_eq]; omega⟩
end
end En
set_option maxHeartbeats 4000000
/-! The rules that lean on K, K told apart from the context (a comprehension's block has its own). -/
namespace En
open PySem PySem.Spec PyProof.Rows L2
section
variable {X : Cx} {K : PySem.W.Frag}
theorem hu_of {k : Nat} {A : Around} (r : Room k A) : A.units + 1 < cLine := by have := r.un; omega
theorem k_ix_tup (hK : X.K = K) : IxR X (rIxT K) := hK ▸ ix_tup
theorem k_ix_list (hK : X.K = K) : IxR X (rIxL K) := hK ▸ ix_list
theorem k_in_seq (hK : X.K = K) : OpR X (compareOp .In) (rIn K false) := hK ▸ op_in_seq
theorem k_notIn_seq (hK : X.K = K) : OpR X (compareOp .NotIn) (rIn K true) := hK ▸ op_notIn_seq
theorem k_inD (hK : X.K = K) (hu : X.A.units + 65 < cLine) : OpR X (compareOp .In) (rInD K) := hK ▸ op_inD hu
theorem k_notInD (hK : X.K = K) (hu : X.A.units + 65 < cLine) : OpR X (compareOp .NotIn) (rNotInD K) := hK ▸ op_notInD hu
theorem k_eqD (hK : X.K = K) (hu : X.A.units + 64 < cLine) : OpR X (compareOp .Eq) (rEqD K) := hK ▸ op_eqD hu
theorem k_neD (hK : X.K = K) (hu : X.A.units + 64 < cLine) : OpR X (compareOp .NotEq) (rNeD K) := hK ▸ op_neD hu
theorem k_catT (hK : X.K = K) : OpR X (binaryOp .Add) (rCatT K) := hK ▸ op_catT
theorem k_all (hK : X.K = K) (hc : X.calm = true) : CallR X (.builtin "all") (rAll K) := hK ▸ cr_all hc
theorem k_any (hK : X.K = K) (hc : X.calm = true) : CallR X (.builtin "any") (rAny K) := hK ▸ cr_any hc
theorem k_sum (hK : X.K = K) (hc : X.calm = true) : CallR X (.builtin "sum") (rSum K) := hK ▸ cr_sum hc
theorem k_lenA (hK : X.K = K) : CallR X (.builtin "len") (rLenA K) := hK ▸ call_lenA
theorem k_sortedS (hK : X.K = K) : CallR X (.builtin "sorted") (rSortedS K) := hK ▸ cr_sortedS
theorem k_isi (hK : X.K = K) : CallR X (.builtin "isinstance") (rIsi K) := hK ▸ call_isi
theorem k_isiT (hK : X.K = K) : CallR X (.builtin "isinstance") (rIsiT K) := hK ▸ call_isiT
abbrev rListOf (K : PySem.W.Frag) : List V → Hp → VK → Prop := fun xs H Q => ∃ p ys, xs = [.ref p] ∧ (SqL K H p ys ∨ SqT K H p ys) ∧ ∀ l, H l = none → Q (.ref l) (upd H l (.lst ys))
theorem k_list_of (hK : X.K = K) : CallR X (.type "list") (rListOf K) := hK ▸ call_list_of
abbrev rTupleOf (K : PySem.W.Frag) : List V → Hp → VK → Prop := fun xs H Q => ∃ p ys, xs = [.ref p] ∧ ((SqL K H p ys ∧ ∀ l, H l = none → Q (.ref l) (upd H l (.tup ys))) ∨ (SqT K H p ys ∧ Q (.ref p) H))
theorem k_tuple_of (hK : X.K = K) : CallR X (.type "tuple") (rTupleOf K) := hK ▸ call_tuple_of
theorem k_dictP (hK : X.K = K) (hcalm : X.calm = true) : CallR X (.type "dict") (fun xs H Q => ∃ (a : Addr) (ps : List Addr) (kvs : List (Key × V)), xs = [.ref a] ∧ SqL K H a (ps.map V.ref) ∧ Paired (fun p kv => SqT K H p [kV kv.1, kv.2]) ps kvs ∧ ∀ p, H p = none → Q (.ref p) (upd H p (.dK (mergeK [] kvs)))) := hK ▸ call_dictP hcalm
theorem k_sl_list (hK : X.K = K) : SlR X (rSlL K) := hK ▸ sl_list
theorem k_sl_tup (hK : X.K = K) : SlR X (rSlT K) := hK ▸ sl_tup
theorem k_index (hK : X.K = K) : MtR X "list.index" (rIndex K) := hK ▸ mt_index
variable {e o : Expr} {te ta tl : TE} {f : Str} {pos : Pos} {tg l : Expr}
theorem k_fld (hK : X.K = K) (he : PE X e ta) (hb : attributeBase e f X.env (eval e X.env) = eval e X.env) : PE X (.Attribute e f pos) (tFld K ta f) := hK ▸ pe_fld he hb
theorem k_revL {k : Nat} {p1 p2 p3 pos : Pos} (hK : X.K = K) (he : PE X e te) : PE X (.Subscript e (.Slice none none (some (.UnaryOp .USub (.Constant (.int 1) k p1) p2)) p3) pos) (tRevL K te) := hK ▸ pe_revL he
theorem k_list (hK : X.K = K) (hl : PE X l tl) : PI X tg l (iList K tl) := hK ▸ pi_list hl
theorem k_tup (hK : X.K = K) (hl : PE X l tl) : PI X tg l (iTup K tl) := hK ▸ pi_tup hl
theorem k_pg_tup {es : List Expr} {k : Nat} {t : TGs} {n : Nat} (hK : X.K = K) (hc : X.calm = true) (h : PGs X es t) (hn : (assignEach es X.env).length = n := by rfl) (hst : (assignEach es X.env).findIdx? (·.1) = none := by rfl) : PG X (.Tuple es k pos) (gTup K n t) := hK ▸ pg_tup hc h hn hst
theorem k_pg_unl {es : List Expr} {k : Nat} {t : TGs} {n : Nat} (hK : X.K = K) (hc : X.calm = true) (h : PGs X es t) (hn : (assignEach es X.env).length = n := by rfl) (hst : (assignEach es X.env).findIdx? (·.1) = none := by rfl) : PG X (.Tuple es k pos) (gUnl K n t) := hK ▸ pg_unl hc h hn hst
theorem k_ps_fld {st : Stmt} {value : Expr} {tv : TE} {pos' : Pos} (hK : X.K = K) (ha : PE X o ta) (hv : PE X value tv) (hs : swapsWith value (some (.Attribute o f pos')) pos.line X.env = pure false) : PS X (.Assign [.Attribute o f pos'] value pos) (sFld K ta tv f) := hK ▸ ps_fld ha hv hs
theorem up_ {P : Pr} [s : Sts P] {v : V} {H H' : Hp} (e : Same H H') (h : P v H) : P v H' := s.same e h
theorem bP_eq {b c : Bool} {v : V} {H : Hp} (e : b = c) (h : bP b v H) : bP c v H := e ▸ h
section
variable {H : Hp} {σ : L2.St} {vs : List Nat} {tt : TT} {te tk : TE} {v : V} {p : Bool} {P P' Pa Pb Pc : Pr} {i j l : Nat}
theorem bd1 (h : wipe ((wipe σ vs).set i (some v)) vs = wipe σ vs ∧ Yt tt ((wipe σ vs).set i (some v)) H p ∧ (p = true → Y te ((wipe σ vs).set i (some v)) H P)) : Bd (gName i) tt te σ vs v H p P := ⟨_, fun Q q => q, h⟩
theorem bd2 (hv : TP [Pa, Pb] v H) (h : ∀ v1 v2, Pa v1 H → Pb v2 H → wipe (((wipe σ vs).set i (some v1)).set j (some v2)) vs = wipe σ vs ∧ Yt tt (((wipe σ vs).set i (some v1)).set j (some v2)) H p ∧ (p = true → Y te (((wipe σ vs).set i (some v1)).set j (some v2)) H P)) :
    Bd (gTup K 2 (gCons (gName i) (gCons (gName j) gNil))) tt te σ vs v H p P := by
  obtain ⟨a, v1, v2, rfl, ht, h1, h2⟩ := TP.two hv
  exact ⟨_, g_tup2 ht, h v1 v2 h1 h2⟩
theorem bd12 (hv : TP [Pa, TP [Pb, Pc]] v H) (h : ∀ v1 v2 v3, Pa v1 H → Pb v2 H → Pc v3 H → wipe ((((wipe σ vs).set i (some v1)).set j (some v2)).set l (some v3)) vs = wipe σ vs ∧ Yt tt ((((wipe σ vs).set i (some v1)).set j (some v2)).set l (some v3)) H p ∧
    (p = true → Y te ((((wipe σ vs).set i (some v1)).set j (some v2)).set l (some v3)) H P)) : Bd (gTup K 2 (gCons (gName i) (gCons (gTup K 2 (gCons (gName j) (gCons (gName l) gNil))) gNil))) tt te σ vs v H p P := by
  obtain ⟨a, v1, v2, rfl, ht, h1, h2⟩ := TP.two hv
  obtain ⟨a', v3, v4, rfl, ht', h3, h4⟩ := TP.two h2
  exact ⟨_, g_tup12 ht ht', h v1 v3 v4 h1 h3 h4⟩
theorem bk1 (h : wipe ((wipe σ vs).set i (some v)) vs = wipe σ vs ∧ Yt tt ((wipe σ vs).set i (some v)) H p ∧ (p = true → Y tk ((wipe σ vs).set i (some v)) H P' ∧ Y te ((wipe σ vs).set i (some v)) H P)) : Bk (gName i) tt tk te σ vs v H p P' P := ⟨_, fun Q q => q, h⟩
theorem bk2 (hv : TP [Pa, Pb] v H) (h : ∀ v1 v2, Pa v1 H → Pb v2 H → wipe (((wipe σ vs).set i (some v1)).set j (some v2)) vs = wipe σ vs ∧ Yt tt (((wipe σ vs).set i (some v1)).set j (some v2)) H p ∧ (p = true → Y tk (((wipe σ vs).set i (some v1)).set j (some v2)) H P' ∧ Y te (((wipe σ vs).set i (some v1)).set j (some v2)) H P)) :
    Bk (gTup K 2 (gCons (gName i) (gCons (gName j) gNil))) tt tk te σ vs v H p P' P := by
  obtain ⟨a, v1, v2, rfl, ht, h1, h2⟩ := TP.two hv
  exact ⟨_, g_tup2 ht, h v1 v2 h1 h2⟩
end
/-- name = [..] on one line, the new list frozen -/
abbrev BlkOf (X : Cx) (sc : Scope) (s : Shared) (H : Hp) (C : Addr) (cl : List (Str × Addr)) (fp : List Addr) : Cx := X.blk s H sc (compEnvC sc cl C X.env) fp
theorem ps_setLcF {i : Nat} {y : Str} {py p1 p2 : Pos} {el tg it : Expr} {cs : List Expr} {sc : Scope} {own : List (Str × Nat)} {wi : TI} {g : TG} {tt : TT} {te : TE}
    (hc : X.calm = true) (hN : X.N.Nodup) (hy : X.N[i]? = some y) (hyl : X.env.scope.names.lookup y = some .local)
    (hsw : swapsWith (.ListComp el [⟨tg, it, cs, 0⟩] sc p1) (some (.Name y py)) p2.line X.env = pure true)
    (hi : PI X tg it wi) (ok : BlkOk X.N X.env.scope sc own) (hg : ∀ s H C cl fp, PG (BlkOf X sc s H C cl fp) tg g)
    (ht : ∀ s H C cl fp, PTs (BlkOf X sc s H C cl fp) cs tt) (he : ∀ s H C cl fp, PE (BlkOf X sc s H C cl fp) el te)
    (hs : ∀ x, foldedSetIterable it X.env x = pure x := by intro _; rfl) :
    PS X (.Assign [.Name y py] (.ListComp el [⟨tg, it, cs, 0⟩] sc p1) p2) (tAsg (tFz (tLc wi g tt te (own.map (·.2)))) (gName i)) := by
  constructor
  intro pins s σ H D I h
  have h' : tLc wi g tt te (own.map (·.2)) σ H (fun x H1 => ∃ d u, x = .ref d ∧ H1 d = some u ∧ Mut (some u) ∧ ∀ o, D.nx (σ.set i (some x)) (upd H1 d (.frz o u))) := h
  rw [exec_Assign_Name_used _ _ _ _ hsw]
  refine wpAny_bind (wpAny_standAt (wpAny_bind ?_))
  have core := lc_core (use := some (assign (.Name y py) X.env)) (pos' := firstIterPos [⟨tg, it, cs, 0⟩] p1) (pos := p1) (Qf := fun _ z => SP X pins D .next z) hc hN I hi ok hg ht he hs h' (fun L C z m H' I' q hn fr => by
    obtain ⟨d, u, ed, hd, mu, q⟩ := q
    cases ed
    show wpAny _ _ (assign (.Name y py) X.env (.ref L)) _ _ _
    refine wpAny_assign_Name (store_ok2 (v := V.ref L) I' hN hy (.inl hyl) rfl (fun z2 I2 ⟨a, sb, ha⟩ => ?_) (.inr hyl))
    obtain ⟨g0, g1, g2, g3, g4, g5⟩ := fr
    have far : C ≠ a := by
      rcases ha with e | e
      · rw [e]; exact g1
      · exact fun k => g4 y a e k.symm
    refine ⟨m, hn.sameBut sb far, fun z3 sb3 => ?_⟩
    have I3 := I2.turned (t' := z2.toks) (fun b o hb k => (sb3.2 b hb).trans k) g0 g1 g3 g4 g5
    obtain ⟨o, I4⟩ := I3.lock hd mu
    exact ⟨_, _, I4, q o⟩)
  exact wpAny_bind (thn core fun _ z hq => wpAny_pure (wpAny_pure hq))
end
end En
set_option maxHeartbeats 4000000
/-! Dicts whose keys are tuples: one stored, a display of one pair, dict(list of pairs), a comprehension. -/
namespace En
open PySem PySem.Spec PyProof.Rows L2
section
variable {X : Cx} {pins : List (Addr × Obj)} {σ : L2.St} {H : Hp} {s : Shared} {A : Around} {E : Value → Shared → Prop}
theorem d_dictSetT {D b : Addr} {kvs : List (List Key × V)} {k : List Key} {v : V} {r : Value} {Q : Unit → Shared → Prop} (hu : A.units < cLine) (I : Inv X pins σ H s) (hD : H D = some (.dT kvs)) (hz : kvs.length < sizeLine)
    (eb : H b = some (.tup (k.map kV))) (rv : RelV v r) (h : ∀ s', Inv X pins σ (upd H D (.dT (putK kvs k v))) s' → Q () s') : wpAny (model X.prog X.w) A (dictSet D (.ref b) r) Q E s := by
  obtain ⟨z, hd, xs, rel, dd⟩ := dt_of I.hok hD
  have zl : xs.length ≤ sizeLine := by rw [← Paired.length rel]; exact z
  have pl : (putK kvs k v).length ≤ sizeLine := by have := length_putK kvs k v; omega
  refine PySem.wpAny_dictSet_heap (knd := tupleKind (mixKind X.prog X.w)) (hsz := zl) hu (key_of I.hok eb) dd fun h' d2 hs => h _ ?_
  obtain ⟨ob, es, ep, g1, g2, g3, g4, _, g5⟩ := d2
  refine d_write I (by rw [hD]; exact True.intro) hs ⟨ob, g1⟩ ⟨pl, hd, _, (rel.put k eb rv).keeps fun c ys ec => ?_, ob, es, ep, g1, g2, g3, g4, g5⟩
  rw [upd_ne (ne_of ec hD (fun w => nomatch w))]
  exact ec
end
section
variable {X : Cx}
/-- {k: v}, k a tuple -/
def tDispT (tk tv : TE) : TE := fun σ H Q => ∀ p, H p = none → tk σ (upd H p (.dT [])) fun x H1 => tv σ H1 fun y H2 => ∃ b k, x = .ref b ∧ H2 b = some (.tup (k.map kV)) ∧ H2 p = some (.dT []) ∧ Q (.ref p) (upd H2 p (.dT [(k, y)]))
theorem pe_dispT {k v : Expr} {tk tv : TE} {pos : Pos} (hu : X.A.units + 1 < cLine) (hk : PE X k tk) (hv : PE X v tv) : PE X (.Dict [some k] [v] pos) (tDispT tk tv) := by
  refine ⟨fun pins s σ H Q I q => ?_⟩
  have hn := I.hok.fresh (Nat.le_refl s.heap.objs.size)
  have I1 := I.laid (a := s.heap.objs.size) (o := .dT []) (h' := s.heap.push { cls := .type "dict", data := .dict #[] }) (t' := s.toks) (fun _ _ q => Heap.get?_push_of_some _ q) (Nat.le_refl _) (dt_empty s.heap I.big)
  have shape := zip_pairTrees [some k] [v] X.env pos rfl rfl
  have ln : (pairTrees [some k] [v] X.env pos).length = 1 := pairTrees_length [some k] [v] X.env pos rfl rfl
  rw [PySem.arm_eval_Dict, shape, dictDisplay_pairs _ (fun z => by rw [z] at ln; cases ln) (by omega)]
  refine wpAny_bind (wpAny_standAt (wpAny_bind (PySem.wpAny_subDictH (knd := tupleKind (mixKind X.prog X.w)) (Nat.lt_of_succ_lt hu) (by omega) ?_)))
  refine pairTrees_cons_walk (thn (hk.run pins _ σ _ _ I1 (q _ hn)) fun u s1 ⟨x, H1, I2, rx, q1⟩ => thn (hv.run pins s1 σ H1 _ I2 q1) fun w2 s2 ⟨y, H2, I3, ry, b, kk, ex, eb, ep, q2⟩ => pairTrees_nil_walk ?_)
  subst ex
  obtain rfl : u = Value.ref b := rx
  obtain ⟨z, hd, xs, rel, dd⟩ := dt_of I3.hok ep
  cases rel
  refine ⟨[(kk, b, w2)], ⟨rfl, rfl, key_of I3.hok eb, trivial⟩, dd, fun h' tk2 d2 hs => wpAny_pure ⟨.ref s.heap.objs.size, _, ?_, rfl, q2⟩⟩
  obtain ⟨ob, es, ep2, g1, g2, g3, g4, _, g5⟩ := d2
  refine d_write (t' := tk2) I3 (by rw [ep]; exact True.intro) hs ⟨ob, g1⟩ ⟨by show 1 ≤ sizeLine; rw [sizeLine_eq]; decide, hd, _, .cons ⟨rfl, ?_, ry⟩ .nil, ob, es, ep2, g1, g2, g3, g4, g5⟩
  rw [upd_ne (ne_of eb ep (fun w => nomatch w))]
  exact eb
/-! ### dict(list of (tuple, value)) -/
/-- the later value wins -/
def mergeT (kvs more : List (List Key × V)) : List (List Key × V) := more.foldl (fun acc kv => putK acc kv.1 kv.2) kvs
/-- what the heap has to say of the pairs that are still to come -/
def PrT (P : Program) (w : World) (h : Heap) (b : Addr) (c : Addr) (k : List Key) (u : Value) : Prop := IsTup h b #[.ref c, u] ∧ (tupleKind (mixKind P w)).is h k c
end
section
variable {prog : Program} {w : World} {A : Around} {R : Result → Shared → Prop}
abbrev Tr := List Key × Addr × Value
abbrev tkd (prog : Program) (w : World) := tupleKind (mixKind prog w)
theorem is_keeps {h h' : Heap} {k : List Key} {c : Addr} (e : (tkd prog w).is h k c) (kp : ∀ o, o.cls = .type "tuple" → h.get? c = some o → h'.get? c = some o) : (tkd prog w).is h' k c := by
  obtain ⟨o, its, n, h1, h2, h3, h4⟩ := e
  exact ⟨o, its, n, kp o h2 h1, h2, h3, h4⟩
theorem updT_loop {S I l : Addr} {items : Array Value} {res : Value} (hh : A.handled = none) (hu : A.units + 1 < cLine) (nlI : l ≠ I) (nSI : S ≠ I) (nSl : S ≠ l) :
    ∀ (rest : List (Addr × Tr)) (i : Nat) (acc : List Tr) (ix : Int) (t : Tok) (s : Shared), items.size = i + rest.length → acc.length + rest.length ≤ sizeLine →
      (∀ (j : Nat) (q : Addr × Tr), rest[j]? = some q → items[i + j]? = some (.ref q.1) ∧ q.1 ≠ S ∧ q.1 ≠ I ∧ q.2.2.1 ≠ S ∧ q.2.2.1 ≠ I ∧ IsTup s.heap q.1 #[.ref q.2.2.1, q.2.2.2] ∧ (tkd prog w).is s.heap q.2.1 q.2.2.1) →
      s.heap.IsListIter I l i → s.heap.IsList l items → s.heap.DictOfH (tkd prog w) S acc →
      (∀ h' tk, h'.DictOfH (tkd prog w) S (storedAllH acc (rest.map (·.2))) → (∀ b o, b ≠ S → b ≠ I → s.heap.get? b = some o → h'.get? b = some o) → R (.ok (.ret res)) { s with heap := h', toks := tk }) →
      codeAny (model prog w) A (.builtin "dict.update.loop" ⟨[.ref S, .ref I, .int ix t, res], []⟩) R s
  | [], i, acc, ix, t, s, hsz, hln, ht, hit, hl, hm, hR => by
    refine codeAny_builtin ud_entry ?_
    rw [Around.under_plainId ud_plain _]
    show wpAny _ A.in1 (pyNext (.ref I) >>= _) _ _ s
    refine wpAny_bind (wpAny_pyNext_list_end (A := A.in1) hh hit hl (Array.getElem?_eq_none (Nat.le_of_eq hsz)) fun h' he => ?_)
    show wpAny _ A.in1 (Builtin.Dict.addKeywords S [] >>= _) _ _ _
    refine wpAny_bind (wpAny_pure (wpAny_pure ?_))
    obtain ⟨o, es, ep, g1, g2, g3, g4, g5, g6⟩ := id hm
    refine hR h' s.toks ⟨o, es, ep, he S o nSI g1, g2, g3, g4, fun x hx => ?_, g6⟩ fun b o _ hb e => he b o hb e
    obtain ⟨o2, its, n, k1, k2, k3, k4⟩ := g5 x hx
    refine ⟨o2, its, n, he _ _ (fun z => ?_) k1, k2, k3, k4⟩
    rw [z] at k1
    obtain ⟨oi, i1, i2, _⟩ := hit
    rw [k1] at i1
    cases i1
    rw [k2] at i2
    exact absurd i2 (by decide)
  | q :: rest, i, acc, ix, t, s, hsz, hln, ht, hit, hl, hm, hR => by
    obtain ⟨q1, q2, q3, q4, q5, q6, q7⟩ := ht 0 q rfl
    rw [List.length_cons] at hsz hln
    refine codeAny_builtin ud_entry ?_
    rw [Around.under_plainId ud_plain _]
    show wpAny _ A.in1 (pyNext (.ref I) >>= _) _ _ s
    refine wpAny_bind (wpAny_pyNext_list_item (x := .ref q.1) hit hl (by simpa using q1) fun h1 hit1 hs1 => ?_)
    have tu1 : IsTup h1 q.1 #[.ref q.2.2.1, q.2.2.2] := q6.extBut hs1.extBut q3
    have l1 : h1.IsList l items := hl.extBut hs1.extBut nlI
    have key1 : (tkd prog w).is h1 q.2.1 q.2.2.1 := is_keeps q7 fun o _ e => hs1.extBut _ _ q5 e
    have notI : ∀ {c : Addr} {k : List Key}, (tkd prog w).is s.heap k c → c ≠ I := fun {c k} e z => by
      obtain ⟨o2, its, n, k1, k2, _⟩ := e
      rw [z] at k1
      obtain ⟨oi, i1, i2, _⟩ := hit
      rw [k1] at i1
      cases i1
      rw [k2] at i2
      exact absurd i2 (by decide)
    have m1 : h1.DictOfH (tkd prog w) S acc := by
      obtain ⟨o, es, ep, g1, g2, g3, g4, g5, g6⟩ := id hm
      exact ⟨o, es, ep, hs1.extBut S o nSI g1, g2, g3, g4, fun x hx => is_keeps (g5 x hx) fun o _ e => hs1.extBut _ _ (notI (g5 x hx)) e, g6⟩
    obtain ⟨o, ho, hc, n, hd⟩ := id tu1
    show wpAny _ A.in1 (holding [Value.ref q.1] _ >>= _) _ _ _
    refine wpAny_bind (wpAny_holding ?_)
    refine wpAny_bind (wpAny_tryCatch ?_)
    unfold Builtin.Dict.pairItems
    refine wpAny_bind (wpAny_typeOf (T := "tuple") ⟨o, ho, hc⟩ ?_)
    rw [if_pos (by first | decide | rfl | simp)]
    refine wpAny_bind (wpAny_seqItems ho hd (wpAny_pure ?_))
    show wpAny _ A.in1 (holding [Value.ref q.2.2.1, q.2.2.2] (dictSet S (.ref q.2.2.1) q.2.2.2)) _ _ _
    refine wpAny_holding (PySem.wpAny_dictSet_heap (knd := tkd prog w) (tupleKind_room_in1 hu) key1 m1 (fun h2 hm2 hs2 => ?_) (by omega))
    have ne : ∀ {c : Addr} {k : List Key}, (tkd prog w).is h1 k c → c ≠ S := fun {c k} e z => by
      obtain ⟨o2, its, n, k1, k2, _⟩ := e
      obtain ⟨o3, es, ep, g1, g2, _⟩ := m1
      rw [z, g1] at k1
      cases k1
      have := g2.1
      rw [k2] at this
      exact absurd this (by decide)
    refine wpAny_pure ⟨plainId_quiet ud_plain _, updT_loop (items := items) hh hu nlI nSI nSl rest (i + 1) (storedH acc q.2.1 q.2.2.1 q.2.2.2) (ix + 1) 0 _ (show items.size = i + 1 + rest.length by omega) ?_ (fun j q' e => ?_) ?_ ?_ hm2 fun h' tk hd' k => ?_⟩
    · have z := storedH_length acc q.2.1 q.2.2.1 q.2.2.2
      omega
    · obtain ⟨r1, r2, r3, r4, r5, r6, r7⟩ := ht (j + 1) q' (by simpa using e)
      refine ⟨?_, r2, r3, r4, r5, (r6.extBut hs1.extBut r3).extBut hs2.extBut r2, is_keeps (is_keeps r7 fun o _ e => hs1.extBut _ _ r5 e) fun o _ e => hs2.extBut _ _ r4 e⟩
      rw [show i + 1 + j = i + (j + 1) by omega]
      exact r1
    · exact hit1.at fun o' e => hs2.extBut I o' (Ne.symm nSI) e
    · exact l1.extBut hs2.extBut (Ne.symm nSl)
    · exact hR h' tk hd' fun c oc h3 h4 e => k c oc h3 h4 (hs2.extBut c oc h3 (hs1.extBut c oc h4 e))
/-- dict(l) of a list of pairs (tuple, value) -/
theorem call_dictT_raw {E : Value → Shared → Prop} {s : Shared} {l : Addr} {ol : Obj} {items : Array Value} {n : Nat} {prs : List (Addr × Tr)} {Q : Value → Shared → Prop} (hh : A.handled = none) (hu : A.units + 2 < cLine) (hl : s.heap.get? l = some ol) (hc : ol.cls = .type "list") (hd : ol.dict = none)
    (hdat : ol.data = .seq items n) (hsz : items.size = prs.length) (hln : prs.length ≤ sizeLine)
    (ht : ∀ (j : Nat) (q : Addr × Tr), prs[j]? = some q → items[j]? = some (.ref q.1) ∧ IsTup s.heap q.1 #[.ref q.2.2.1, q.2.2.2] ∧ (tkd prog w).is s.heap q.2.1 q.2.2.1)
    (h : ∀ h' tk, h'.DictOfH (tkd prog w) s.heap.objs.size (storedAllH [] (prs.map (·.2))) → (∀ b o, s.heap.get? b = some o → h'.get? b = some o) → Q (.ref s.heap.objs.size) { s with heap := h', toks := tk }) :
    wpAny (model prog w) A (call (.type "dict") [.ref l]) Q E s := by
  refine callType_codes (Q₁ := fun obj z => obj = .ref s.heap.objs.size ∧ z = { s with heap := s.heap.push { cls := .type "dict", data := .dict #[] } }) PySem.F.kt_called_dict (PySem.F.kt_typeCall_dict_1 _) PySem.F.entry_dict_init (kt_code_dict_new _ ⟨rfl, rfl⟩) ?_
  rintro obj z ⟨rfl, rfl⟩
  have fresh : (s.heap.push { cls := .type "dict", data := .dict #[] }).get? s.heap.objs.size = some { cls := .type "dict", data := .dict #[] } := Heap.get?_push_size _ rfl
  have old : ∀ b o, s.heap.get? b = some o → (s.heap.push { cls := .type "dict", data := .dict #[] }).get? b = some o := fun b o e => Heap.get?_push_of_some _ e
  refine ⟨⟨_, fresh, rfl⟩, PySem.F.args_dict_init_2 _ _, ?_⟩
  unfold Builtin.«dict.__init__»
  refine wpAny_bind ?_
  unfold Builtin.Dict.selfAndRest
  refine wpAny_bind (wpAny_notOrdered_dict ⟨_, fresh, rfl⟩ ?_)
  show wpAny _ _ (pure (s.heap.objs.size, [Value.ref l])) _ _ _
  refine wpAny_pure ?_
  show wpAny _ _ (Builtin.Dict.updateFrom "dict.__init__" s.heap.objs.size (.ref l) [] .none) _ _ _
  unfold Builtin.Dict.updateFrom
  refine wpAny_bind (wpAny_typeOf (T := "list") ⟨ol, old _ _ hl, hc⟩ ?_)
  rw [if_pos (by first | decide | rfl | simp)]
  refine wpAny_bind (miss_list (old _ _ hl) hc hdat hd hh fun h1 t1 up1 => ?_)
  rw [if_pos (show (none : Option Value).isNone = true from rfl)]
  refine wpAny_bind (wpAny_rule ?_)
  have l1 : h1.IsList l items := ⟨ol, up1 _ _ (old _ _ hl), hc, n, hdat⟩
  have below : s.heap.objs.size < h1.objs.size := Heap.lt_size (up1 _ _ fresh)
  refine wpAny_bind (wpAny_pyIter_list l1 ?_)
  have up2 : ∀ b o, s.heap.get? b = some o → (h1.push { cls := .type "list_iterator", data := .fields #[.ref l, .int 0 0] }).get? b = some o := fun b o e => Heap.get?_push_of_some _ (up1 _ _ (old _ _ e))
  have ll : l < s.heap.objs.size := Heap.lt_size hl
  have done := updT_loop (prog := prog) (w := w) (A := A.in1) (R := wants (fun r z => r = .none ∧ Q (.ref s.heap.objs.size) z) E) (S := s.heap.objs.size) (I := h1.objs.size) (l := l) (items := items) (res := Value.none) hh (show A.units + 1 + 1 < cLine by omega)
    (Nat.ne_of_lt (Nat.lt_trans ll below)) (Nat.ne_of_lt below) (Nat.ne_of_gt ll) prs 0 [] 0 0
    { s with heap := h1.push { cls := .type "list_iterator", data := .fields #[.ref l, .int 0 0] }, toks := t1 } (by rw [hsz, Nat.zero_add]) (by rw [List.length_nil, Nat.zero_add]; exact hln)
    (fun j q e => by
      obtain ⟨e1, e2, e3⟩ := ht j q e
      have b1 : q.1 < s.heap.objs.size := e2.lt
      have b2 : q.2.2.1 < s.heap.objs.size := by
        obtain ⟨o2, its, n2, k1, _⟩ := e3
        exact Heap.lt_size k1
      exact ⟨by rw [Nat.zero_add]; exact e1, Nat.ne_of_lt b1, Nat.ne_of_lt (Nat.lt_trans b1 below), Nat.ne_of_lt b2, Nat.ne_of_lt (Nat.lt_trans b2 below), e2.keeps fun c o z => up2 _ _ z, is_keeps e3 fun o _ z => up2 _ _ z⟩)
    ⟨_, Heap.get?_push_size _ rfl, rfl, rfl⟩ (l1.at fun o e => Heap.get?_push_of_some _ e)
    ⟨_, #[], 0, Heap.get?_push_of_some _ (up1 _ _ fresh), ⟨rfl, rfl, rfl⟩, rfl, rfl, (fun x hx => nomatch hx), List.nodup_nil⟩
    (fun h' tk hd' k => ⟨rfl, h h' tk hd' fun b o e => k b o (Nat.ne_of_lt (Heap.lt_size e)) (Nat.ne_of_lt (Nat.lt_trans (Heap.lt_size e) below)) (up2 _ _ e)⟩)
  first
    | exact wpAny_pure ⟨plainId_quiet ud_plain _, done⟩
    | exact wpAny_bind (wpAny_pure (wpAny_pure ⟨plainId_quiet ud_plain _, done⟩))
end
section
variable {X : Cx} {K : PySem.W.Frag}
/-- the pairs (tuple, value) at ps -/
def PairsT (H : Hp) : List Addr → List (List Key × V) → Prop
  | [], [] => True
  | p :: ps, kv :: kvs => (∃ c, TU H p [.ref c, kv.2] ∧ TU H c (kv.1.map kV)) ∧ PairsT H ps kvs
  | _, _ => False
theorem pairsT_of {pins : List (Addr × Obj)} {σ : L2.St} {H : Hp} {s : Shared} (I : Inv X pins σ H s) : ∀ {ps : List Addr} {kvs : List (List Key × V)}, PairsT H ps kvs →
    ∃ prs : List (Addr × Tr), KT H kvs (prs.map (·.2)) ∧ prs.map (·.1) = ps ∧ ∀ (j : Nat) (q : Addr × Tr), prs[j]? = some q → IsTup s.heap q.1 #[.ref q.2.2.1, q.2.2.2] ∧ (tkd X.prog X.w).is s.heap q.2.1 q.2.2.1
  | [], [], _ => ⟨[], .nil, rfl, fun j q e => by simp at e⟩
  | p :: ps, kv :: kvs, ⟨⟨c, h1, h2⟩, t⟩ => by
    obtain ⟨prs, r, e1, hp⟩ := pairsT_of I t
    obtain ⟨its, rv, ht, _⟩ := I.tuple (SqT.of (K := X.K) h1)
    obtain ⟨u, y, ei, ru, ry⟩ := vals2 rv
    subst ei
    cases ru
    refine ⟨(p, kv.1, c, y) :: prs, .cons ⟨rfl, h2, ry⟩ r, by rw [List.map_cons, e1], fun j q e => ?_⟩
    cases j with
    | zero =>
      cases e
      exact ⟨ht, key_of I.hok h2⟩
    | succ j => exact hp j q (by simpa using e)
theorem KT.stored {H : Hp} : ∀ {more : List (List Key × V)} {ms : List Tr} {kvs : List (List Key × V)} {xs : List Tr}, KT H more ms → KT H kvs xs → KT H (mergeT kvs more) (storedAllH xs ms)
  | [], [], _, _, _, r => r
  | _, _, kvs, xs, .cons (a := p) (b := q) h t, r => by
    obtain ⟨k, c, u⟩ := q
    obtain ⟨h1, h2, h3⟩ := h
    have h1 : p.1 = k := h1
    subst h1
    have z := KT.stored t (L2.KT.put r p.1 h2 h3)
    exact z
theorem length_mergeT : ∀ (more kvs : List (List Key × V)), (mergeT kvs more).length ≤ kvs.length + more.length
  | [], kvs => by show kvs.length ≤ kvs.length + 0; omega
  | p :: r, kvs => by
    have h1 := length_mergeT r (putK kvs p.1 p.2)
    have h2 := length_putK kvs p.1 p.2
    show (mergeT (putK kvs p.1 p.2) r).length ≤ _
    rw [List.length_cons]
    omega
theorem call_dictT (hK : X.K = K) (hcalm : X.calm = true) (hu : X.A.units + 65 < cLine) : CallR X (.type "dict") (fun xs H Q => ∃ (a : Addr) (ps : List Addr) (kvs : List (List Key × V)), xs = [.ref a] ∧ SqL K H a (ps.map V.ref) ∧ PairsT H ps kvs ∧ ∀ p, H p = none → Q (.ref p) (upd H p (.dT (mergeT [] kvs)))) := by
  subst hK
  intro pins s σ H xs us Q I r q
  obtain ⟨a, ps, kvs, ex, hq, hp, q⟩ := q
  subst ex
  obtain ⟨u, eu, rx⟩ := vals1 r
  subst eu
  cases rx
  obtain ⟨its, rv, pl, hz⟩ := I.list hq
  obtain rfl := refs_at rv
  rw [List.length_map] at hz
  obtain ⟨prs, rel, e1, hpr⟩ := pairsT_of I hp
  subst e1
  rw [List.length_map] at hz
  obtain ⟨o, n, ho, hc, hd, hdat⟩ := pl
  refine call_dictT_raw (prs := prs) (I.ok.hd hcalm) (by omega) ho hc hd hdat (by simp) hz (fun j q' e => ?_) fun h' tk d2 k => ?_
  · obtain ⟨e2, e3⟩ := hpr j q' e
    exact ⟨by simp [e], e2, e3⟩
  · have big : (s.heap.objs.size == sysModules) = false := beq_eq_false_iff_ne.mpr (Nat.ne_of_gt I.big)
    have fr := I.hok.fresh (Nat.le_refl s.heap.objs.size)
    have hlen : (mergeT [] kvs).length ≤ sizeLine := by
      refine Nat.le_trans (length_mergeT kvs []) ?_
      have := Paired.length rel
      rw [List.length_map] at this
      rw [List.length_nil]
      omega
    obtain ⟨ob, es, ep, g1, g2, g3, g4, _, g5⟩ := d2
    refine ⟨.ref s.heap.objs.size, upd H s.heap.objs.size (.dT (mergeT [] kvs)), I.laid (t' := tk) k (Nat.le_refl _) ⟨hlen, big, _, (KT.stored rel .nil).keeps fun b ys e => ?_, ob, es, ep, g1, g2, g3, g4, g5⟩, rfl, q _ fr⟩
    rw [upd_ne (ne_of_none e fr)]
    exact e
end
end En
set_option maxHeartbeats 4000000
/-! A dict comprehension whose keys are tuples; Y of tuple-key dicts, displays, dict(..). -/
namespace En
open PySem PySem.Spec PyProof.Rows L2
section
variable {X : Cx}
/-- {k: v for ..}, k a tuple -/
def tDcT (wi : TI) (g : TG) (tt : TT) (tk tv : TE) (vs : List Nat) : TE := fun σ H Q => wi σ H fun J H1 => ∀ D, H1 D = none → ∃ W : Nat → Nat → Hp → Prop, (∃ m, W 0 m (upd H1 D (.dT []))) ∧ ∀ i m H, W i m H →
  (J.stop i H ∧ Q (.ref D) H) ∨ (J.go i H ∧ ∃ Nz : Hp → Prop, (∀ G, Nz G → ∃ m2, m2 < m ∧ W (i + 1) m2 G) ∧ ∀ x G, J.yld i H x G → g x (wipe σ vs) G fun τ2 G2 => wipe τ2 vs = wipe σ vs ∧ tt τ2 G2 fun b G3 =>
    if b = true then tk τ2 G3 fun y G4 => tv τ2 G4 fun z G5 => ∃ kvs k kb, y = .ref kb ∧ G5 kb = some (.tup (k.map kV)) ∧ G5 D = some (.dT kvs) ∧ kvs.length < sizeLine ∧ Nz (upd G5 D (.dT (putK kvs k z))) else Nz G3)
theorem dcT_core {pins : List (Addr × Obj)} {s : Shared} {σ : L2.St} {H : Hp} {Q : VK} {kx vx tg iter : Expr} {ifs : List Expr} {scope : Scope} {own : List (Str × Nat)} {pos pos' : Pos}
    {wi : TI} {g : TG} {tt : TT} {tk tv : TE} {use : Option (Value → Sem Unit)} {Qf : Value → Shared → Prop} (hu : X.A.units + 1 < cLine)
    (hc : X.calm = true) (hN : X.N.Nodup) (I : Inv X pins σ H s) (hi : PI X tg iter wi) (ok : BlkOk X.N X.env.scope scope own)
    (hg : ∀ s H C cl fp, PG (BlkOf X scope s H C cl fp) tg g) (ht : ∀ s H C cl fp, PTs (BlkOf X scope s H C cl fp) ifs tt)
    (hk : ∀ s H C cl fp, PE (BlkOf X scope s H C cl fp) kx tk) (he : ∀ s H C cl fp, PE (BlkOf X scope s H C cl fp) vx tv) (hs : ∀ x, foldedSetIterable iter X.env x = pure x)
    (h : tDcT wi g tt tk tv (own.map (·.2)) σ H Q)
    (hRR : ∀ D C s' m H', Inv X pins σ H' s' → Q (.ref D) H' → s'.heap.Ns C m → FpOk X pins H' C → compPost (model X.prog X.w) X.A X.xe use Qf (.ref D) C (.ok .next) s') :
    wpAny (model X.prog X.w) X.A (comprehension (.DictComp kx vx [⟨tg, iter, ifs, 0⟩] scope pos) scope X.env pos' newDict false (eval iter X.env) use) Qf X.xe s := by
  have fv : ∀ y ∈ scope.names, y.2 = .free → ∃ c, X.env.cells.lookup y.1 = some c := fun y hy e => by
    rcases ok.free y hy e with k | k
    · exact I.ok.has _ (.inl k)
    · exact I.ok.has _ (.inr k)
  refine wpAny_comprehension_free (use := use) rfl hs (closure_ok fv) ok.kind (fun y hy e => by rw [ok.uniq y hy, e])
    (thn (hi.run pins s σ H _ I h) fun xv z1 hx => thn hx fun itv z2 h2 => ?_)
  obtain ⟨itr, fps, tno, J, G2, e, J2, T, tn2, fo2, q⟩ := h2
  subst e
  refine wpAny_newObj_type (newEnv_comp ?_)
  generalize dq : z2.heap.objs.size = D
  have dn : G2 D = none := J2.hok.fresh (Nat.le_of_eq dq)
  obtain ⟨W, ⟨k0, wt0⟩, step0⟩ := q D dn
  -- the new list
  generalize q3 : ({ z2 with heap := z2.heap.push { cls := .type "dict", data := .dict #[] } } : Shared) = z3
  have J3 : Inv X pins σ (upd G2 D (.dT [])) z3 := by
    rw [← q3]
    refine J2.laid (t' := z2.toks) (fun b o e => Heap.get?_push_of_some _ e) (Nat.le_of_eq dq) ?_
    rw [← dq]
    exact dt_empty z2.heap J2.big
  have e3 : z3.heap = z2.heap.push { cls := .type "dict", data := .dict #[] } := by rw [← q3]
  have inb : ∀ b ∈ fps, b < z2.heap.objs.size := fun b bm => by
    obtain ⟨o, e, _⟩ := T.obj _ _ tn2 b bm
    exact Heap.lt_size e
  have fo3 : ∀ b ∈ fps, FpOk X pins (upd G2 D (.dT [])) b ∧ b < z3.heap.objs.size := fun b bm => by
    have below := inb b bm
    refine ⟨⟨?_, (fo2 b bm).2⟩, by rw [e3, Heap.size_push]; exact Nat.lt_succ_of_lt below⟩
    rw [upd_ne (by rw [← dq]; exact Nat.ne_of_lt below)]
    exact (fo2 b bm).1
  have tn3 : tno 0 z3.heap := T.keep _ _ _ tn2 fun b _ o e => by rw [e3]; exact Heap.get?_push_of_some _ e
  have J4 := block_start J3 ok hN fo3
  have tgp : PG (X.blk z3 (upd G2 D (.dT [])) scope (compEnvC scope (cellsFrom (z3.heap.objs.size + 1) scope.names (cloFrom X.env.cells scope.names [])) z3.heap.objs.size X.env) fps) tg g := hg z3 (upd G2 D (.dT [])) z3.heap.objs.size (cellsFrom (z3.heap.objs.size + 1) scope.names (cloFrom X.env.cells scope.names [])) fps
  have tsp : PTs (X.blk z3 (upd G2 D (.dT [])) scope (compEnvC scope (cellsFrom (z3.heap.objs.size + 1) scope.names (cloFrom X.env.cells scope.names [])) z3.heap.objs.size X.env) fps) ifs tt := ht z3 (upd G2 D (.dT [])) z3.heap.objs.size (cellsFrom (z3.heap.objs.size + 1) scope.names (cloFrom X.env.cells scope.names [])) fps
  have kyp : PE (X.blk z3 (upd G2 D (.dT [])) scope (compEnvC scope (cellsFrom (z3.heap.objs.size + 1) scope.names (cloFrom X.env.cells scope.names [])) z3.heap.objs.size X.env) fps) kx tk := hk z3 (upd G2 D (.dT [])) z3.heap.objs.size (cellsFrom (z3.heap.objs.size + 1) scope.names (cloFrom X.env.cells scope.names [])) fps
  have vlp : PE (X.blk z3 (upd G2 D (.dT [])) scope (compEnvC scope (cellsFrom (z3.heap.objs.size + 1) scope.names (cloFrom X.env.cells scope.names [])) z3.heap.objs.size X.env) fps) vx tv := he z3 (upd G2 D (.dT [])) z3.heap.objs.size (cellsFrom (z3.heap.objs.size + 1) scope.names (cloFrom X.env.cells scope.names [])) fps
  show codeAny _ _ (.compStart (.DictComp kx vx [⟨tg, iter, ifs, 0⟩] scope pos) 0 (.ref itr) (.ref D) (compEnvC scope (cellsFrom (z3.heap.objs.size + 1) scope.names (cloFrom X.env.cells scope.names [])) z3.heap.objs.size X.env)) (compPost (model X.prog X.w) X.A X.xe use Qf (.ref D) z3.heap.objs.size) { z3 with heap := pushCells (z3.heap.push { cls := .type "dict", data := .dict #[] }) scope.names }
  have nf : ∀ b ∈ fps, (upd G2 D (.dT [])) b = none := fun b bm => (fo3 b bm).1.1
  generalize qce : compEnvC scope (cellsFrom (z3.heap.objs.size + 1) scope.names (cloFrom X.env.cells scope.names [])) z3.heap.objs.size X.env = env2 at J4 tgp tsp kyp vlp ⊢
  have eL : env2.locals = z3.heap.objs.size := by subst qce; rfl
  generalize qH : upd G2 D (.dT []) = G3 at J3 J4 tgp tsp kyp vlp wt0 nf fo3
  generalize q4 : ({ z3 with heap := pushCells (z3.heap.push { cls := .type "dict", data := .dict #[] }) scope.names } : Shared) = z4 at J4 ⊢
  have tn4 : tno 0 z4.heap := T.keep _ _ _ tn3 fun b _ o e => by rw [← q4]; exact pushCells_keeps _ _ _ _ (Heap.get?_push_of_some _ e)
  have fpk : ∀ {τx : L2.St} {Gx : Hp} {zx : Shared}, Inv (X.blk z3 G3 scope env2 fps) [] τx Gx zx → (∀ b ∈ fps, Gx b = none) → ∀ b ∈ fps, FpOk (X.blk z3 G3 scope env2 fps) [] Gx b := fun {τx Gx zx} Jx hns b bm =>
    ⟨hns b bm, (Jx.ok.exf b bm).1, Jx.ok.exfs b bm, .inl bm, fun x c e => (Jx.ok.exf b bm).2 x c e, fun p hp => absurd (show p ∈ ([] : List (Addr × Obj)) ++ [] from hp) (by simp)⟩
  have main : codeAny (model X.prog X.w) X.A (.compLoop (.DictComp kx vx [⟨tg, iter, ifs, 0⟩] scope pos) 0 (.ref itr) (.ref D) env2) (compPost (model X.prog X.w) X.A X.xe use Qf (.ref D) z3.heap.objs.size) z4 := by
    refine compLoop_anyD (fun n zx => ∃ i Gx, Inv (X.blk z3 G3 scope env2 fps) [] (wipe σ (own.map (·.2))) Gx zx ∧ tno i zx.heap ∧ (∀ b ∈ fps, Gx b = none) ∧ W i n Gx) ?_ k0 ⟨0, G3, J4, tn4, nf, wt0⟩
    rintro n z5 ⟨i, G5, J5, tn5, n5, wt5⟩
    rcases step0 i n G5 wt5 with ⟨halt, qd⟩ | ⟨go, Nz, nxt, goes⟩
    · have td0 := T.done (X.blk z3 G3 scope env2 fps) rfl rfl rfl hc i [] z5 _ G5 (fun _ _ => False) J5 (fpk J5 n5) tn5 halt
      refine thnF td0 fun r z6 ⟨isr, J6⟩ => ?_
      subst isr
      -- back in the def's context
      have J7 : Inv X pins σ G5 z6 := J3.call' (ch := fps) J6.os J6.base J6.hok J6.bare fun b bm => ⟨(fo3 b bm).1.2.2.2.1, (fo3 b bm).1.2.1, (fo3 b bm).1.2.2.2.2.1, (fo3 b bm).1.2.2.2.2.2⟩
      have cfr : G5 z3.heap.objs.size = none := by
        have z : G5 env2.locals = none := J6.free
        rw [eL] at z
        exact z
      obtain ⟨m, hns, _⟩ := J6.loc
      have hns : z6.heap.Ns env2.locals m := hns
      rw [eL] at hns
      exact hRR D z3.heap.objs.size z6 m G5 J7 qd hns (J3.fpOk (Nat.le_refl _) cfr)
    · have ti0 := T.item (X.blk z3 G3 scope env2 fps) rfl rfl rfl hc i [] z5 _ G5 (fun _ _ => False) J5 (fpk J5 n5) tn5 go
      refine thnF ti0 fun r z6 ⟨u, isr, h6⟩ => ?_
      subst isr
      refine thnF h6 fun _ z7 ⟨x, G7, J7, r7, y7, tn7, n7⟩ => ?_
      have J7p := J7.pinned (fpk J7 n7) (T.obj _ _ tn7)
      refine thnF (tgp.run _ z7 _ G7 x u _ J7p r7 (goes x G7 y7)) fun _ z8 ⟨τ8, G8, J8, wp8, q8⟩ => ?_
      refine thnF (tsp.run _ z8 τ8 G8 _ J8 q8) fun b z9 ⟨G9, J9, q9⟩ => ?_
      -- the turn's end
      have ends : ∀ {zx : Shared} {Gx : Hp}, Inv (X.blk z3 G3 scope env2 fps) ([] ++ pinsAt fps z7.heap) τ8 Gx zx → Nz Gx → ∃ m, m < n ∧ ∃ i Gx, Inv (X.blk z3 G3 scope env2 fps) [] (wipe σ (own.map (·.2))) Gx zx ∧ tno i zx.heap ∧ (∀ b ∈ fps, Gx b = none) ∧ W i m Gx := fun {zx Gx} Jx nx => by
        obtain ⟨mx, lt1, wtx⟩ := nxt Gx nx
        have pinx : ∀ b ∈ fps, ∀ o, z7.heap.get? b = some o → zx.heap.get? b = some o ∧ Gx b = none := fun b bm o e =>
          let z := Jx.pin (b, o) (List.mem_append_right _ (List.mem_append_right _ (mem_pinsAt bm e)))
          ⟨z.1, z.2.1⟩
        have lens : (wipe σ (own.map (·.2))).length = τ8.length := by rw [← wp8, wipe_length]
        refine ⟨mx, lt1, i + 1, Gx, (Jx.unpinned (pins := [])).weak lens (fun j v e => ?_), T.keep _ _ _ tn7 fun b bm o e => (pinx b bm o e).1, fun b bm => ?_, wtx⟩
        · rw [← wp8] at e
          exact (wipe_some e).1
        · obtain ⟨o, e, _⟩ := T.obj _ _ tn7 b bm
          exact (pinx b bm o e).2
      cases b with
      | false =>
        rw [if_neg Bool.false_ne_true] at q9
        rw [if_neg Bool.false_ne_true]
        exact ends J9 q9
      | true =>
        rw [if_pos rfl] at q9
        rw [if_pos rfl]
        refine thnF (kyp.run _ z9 τ8 G9 _ J9 q9) fun c1 z10 ⟨yk, G10, J10, r10, q10⟩ => ?_
        refine thnF (vlp.run _ z10 τ8 G10 _ J10 q10) fun c2 z11 ⟨yv, G11, J11, r11, kvs, k, kb, ek, hkb, dG, lG, nx⟩ => ?_
        subst ek
        obtain rfl : c1 = Value.ref kb := r10
        exact d_dictSetT (X := X.blk z3 G3 scope env2 fps) (Nat.lt_of_succ_lt hu) J11 dG lG hkb r11 fun z12 J12 => ends J12 nx
  exact codeAny_compStart_dict main (T.self X.A 0 _ _ _ tn4 main)
theorem pe_dcT {kx vx tg iter : Expr} {ifs : List Expr} {scope : Scope} {own : List (Str × Nat)} {pos : Pos} {wi : TI} {g : TG} {tt : TT} {tk tv : TE} (hu : X.A.units + 1 < cLine)
    (hc : X.calm = true) (hN : X.N.Nodup) (hi : PI X tg iter wi) (ok : BlkOk X.N X.env.scope scope own)
    (hg : ∀ s H C cl fp, PG (BlkOf X scope s H C cl fp) tg g) (ht : ∀ s H C cl fp, PTs (BlkOf X scope s H C cl fp) ifs tt)
    (hk : ∀ s H C cl fp, PE (BlkOf X scope s H C cl fp) kx tk) (he : ∀ s H C cl fp, PE (BlkOf X scope s H C cl fp) vx tv) (hs : ∀ x, foldedSetIterable iter X.env x = pure x := by intro _; rfl) :
    PE X (.DictComp kx vx [⟨tg, iter, ifs, 0⟩] scope pos) (tDcT wi g tt tk tv (own.map (·.2))) := by
  constructor
  intro pins s σ H Q I h
  rw [arm_eval_DictComp]
  refine dcT_core hu hc hN I hi ok hg ht hk he hs h fun D C z m G J q hns fr => ⟨m, hns, fun z2 sb => ?_⟩
  obtain ⟨g0, g1, g2, g3, g4, g5⟩ := fr
  exact ⟨.ref D, G, J.turned (t' := z.toks) (fun b o hb e => (sb.2 b hb).trans e) g0 g1 g3 g4 g5, rfl, q⟩
end
end En
set_option maxHeartbeats 4000000
/-! Y of displays, dict(..), tuple-key dicts, methods. -/
namespace En
open PySem PySem.Spec PyProof.Rows L2
theorem fold_put {κ : Type} [DecidableEq κ] : ∀ (more acc : List (κ × V)), ((acc ++ more).map (·.1)).Nodup → more.foldl (fun a kv => putK a kv.1 kv.2) acc = acc ++ more
  | [], acc, _ => by rw [List.append_nil]; rfl
  | p :: more, acc, h => by
    have e : putK acc p.1 p.2 = acc ++ [p] := by
      unfold putK
      rw [if_neg]
      intro z
      obtain ⟨kv, h1, h2⟩ := List.any_eq_true.mp z
      have h3 : kv.1 = p.1 := of_decide_eq_true h2
      rw [List.map_append, List.map_cons] at h
      exact (List.nodup_append.mp h).2.2 _ (List.mem_map_of_mem h1) _ (List.mem_cons_self ..) h3
    rw [List.foldl_cons, e, fold_put more (acc ++ [p]) (by rw [List.append_assoc]; exact h), List.append_assoc]
    rfl
theorem nodup_map {α β : Type} {f : α → β} (hf : ∀ x y, f x = f y → x = y) {l : List α} (h : l.Nodup) : (l.map f).Nodup := List.pairwise_map.mpr (List.Pairwise.imp (fun n e => n (hf _ _ e)) h)
section
variable {σ : L2.St} {H : Hp} {P : Pr} {t ta tb tk' tv : TE} {α : Type} {r : α → Pr} {K : PySem.W.Frag}
theorem Ad.nodup {d : List (Str × α)} {kvs : List (Key × V)} (h : Ad H r d kvs) (n : (En.keys d).Nodup) : (kvs.map (·.1)).Nodup := by
  rw [h.keys]
  exact nodup_map (fun x y e => keyS_iff.mp e) n
theorem Aq.keys : ∀ {d : List ((Str × Str) × α)} {kvs : List (List Key × V)}, Aq H r d kvs → kvs.map (·.1) = (En.keys d).map tk
  | [], [], _ => rfl
  | x :: d, p :: kvs, h => by
    show p.1 :: kvs.map (·.1) = tk x.1 :: (En.keys d).map tk
    rw [show p.1 = tk x.1 from h.1, Aq.keys h.2.2]
theorem Aq.nodup {d : List ((Str × Str) × α)} {kvs : List (List Key × V)} (h : Aq H r d kvs) (n : (En.keys d).Nodup) : (kvs.map (·.1)).Nodup := by
  rw [h.keys]
  exact nodup_map (fun x y e => tk_of.mp e) n
theorem Aq.snoc : ∀ {d : List ((Str × Str) × α)} {kvs : List (List Key × V)} {k : Str × Str} {x : α} {v : V}, Aq H r d kvs → r x v H → Aq H r (d ++ [(k, x)]) (kvs ++ [(tk k, v)])
  | [], [], _, _, _, _, hx => ⟨rfl, hx, trivial⟩
  | _ :: _, _ :: _, _, _, _, h, hx => ⟨h.1, h.2.1, Aq.snoc h.2.2 hx⟩
theorem putK_fresh {κ : Type} [DecidableEq κ] {kvs : List (κ × V)} {k : κ} (v : V) (h : k ∉ kvs.map (·.1)) : putK kvs k v = kvs ++ [(k, v)] := by
  unfold putK
  rw [if_neg]
  intro z
  obtain ⟨kv, h1, h2⟩ := List.any_eq_true.mp z
  exact h (by rw [← of_decide_eq_true h2]; exact List.mem_map_of_mem h1)
theorem Aq.fresh {d : List ((Str × Str) × α)} {kvs : List (List Key × V)} {k : Str × Str} (v : V) (h : Aq H r d kvs) (hk : k ∉ En.keys d) : putK kvs (tk k) v = kvs ++ [(tk k, v)] := putK_fresh v (by
  rw [h.keys]
  intro z
  obtain ⟨k', h5, h6⟩ := List.mem_map.mp z
  rw [tk_of.mp h6] at h5
  exact hk h5)
theorem Aq.put : ∀ {d : List ((Str × Str) × α)} {kvs : List (List Key × V)} {k : Str × Str} {x : α} {v : V}, Aq H r d kvs → (En.keys d).Nodup → r x v H → Aq H r (En.put d k x) (putK kvs (tk k) v) := by
  intro d
  induction d with
  | nil =>
    intro kvs k x v h _ hx
    cases kvs with
    | nil => exact ⟨rfl, hx, trivial⟩
    | cons _ _ => exact h.elim
  | cons y d ih =>
    intro kvs k x v h hn hx
    cases kvs with
    | nil => exact h.elim
    | cons p kvs =>
      have hn' := List.nodup_cons.mp (show (y.1 :: En.keys d).Nodup from hn)
      have e1 : p.1 = tk y.1 := h.1
      have split : putK (p :: kvs) (tk k) v = if y.1 = k then (tk k, v) :: kvs else p :: putK kvs (tk k) v := by
        by_cases e : y.1 = k
        · rw [if_pos e]
          have hp : p.1 = tk k := by rw [e1, e]
          have rest : kvs.map (fun kv => if kv.1 = tk k then (kv.1, v) else kv) = kvs := by
            refine (List.map_congr_left (g := id) fun kv hkv => ?_).trans (List.map_id _)
            rw [if_neg]
            · rfl
            intro h3
            have h4 : kv.1 ∈ kvs.map (·.1) := List.mem_map_of_mem hkv
            rw [Aq.keys h.2.2, h3] at h4
            obtain ⟨k', h5, h6⟩ := List.mem_map.mp h4
            rw [tk_of.mp h6] at h5
            exact hn'.1 (by rw [e]; exact h5)
          unfold putK
          rw [if_pos (by rw [List.any_cons, Bool.or_eq_true]; exact .inl (decide_eq_true hp)), List.map_cons, rest, if_pos hp, hp]
        · rw [if_neg e]
          have hp : ¬ p.1 = tk k := by rw [e1]; exact fun z => e (tk_of.mp z)
          unfold putK
          rw [List.any_cons, decide_eq_false hp, Bool.false_or]
          split
          · rw [List.map_cons, if_neg hp]
          · rfl
      rw [split]
      show Aq H r (if y.1 = k then (k, x) :: d else y :: En.put d k x) _
      by_cases e : y.1 = k
      · rw [if_pos e, if_pos e]
        exact ⟨rfl, hx, h.2.2⟩
      · rw [if_neg e, if_neg e]
        exact ⟨h.1, h.2.1, ih h.2.2 hn'.2 hx⟩
/-! ### pairs in a list -/
def iqP (r : α → Pr) (x : (Str × Str) × α) : Pr := TP [pP x.1, r x.2]
instance {x : (Str × Str) × α} [s : ∀ x, Sty (r x)] : Sty (iqP r x) := inferInstanceAs (Sty (TP [pP x.1, r x.2]))
theorem y_it {tr : TA} {x : Str} {y : α} [s : ∀ x, Sty (r x)] (h : Ya tr σ H [sP x, r y]) : Y (tTup tr) σ H (itP r (x, y)) := y_tup h
theorem y_iq {tr : TA} {x : Str × Str} {y : α} [s : ∀ x, Sty (r x)] (h : Ya tr σ H [pP x, r y]) : Y (tTup tr) σ H (iqP r (x, y)) := y_tup h
theorem Al.prs : ∀ {xs : List (Str × α)} {vs : List V}, Al H (xs.map (itP r)) vs → ∃ ps kvs, vs = ps.map V.ref ∧ Paired (fun p kv => SqT K H p [kV kv.1, kv.2]) ps kvs ∧ Ad H r xs kvs
  | [], [], _ => ⟨[], [], rfl, .nil, trivial⟩
  | x :: xs, v :: vs, ⟨h1, h2⟩ => by
    obtain ⟨ps, kvs, e, hp, ha⟩ := Al.prs h2
    obtain ⟨a, v1, v2, rfl, ht, e1, e2⟩ := TP.two h1
    obtain rfl : v1 = V.str x.1 := e1
    exact ⟨a :: ps, (.inr x.1, v2) :: kvs, by rw [e] <;> rfl, .cons (ht.sq) hp, rfl, e2, ha⟩
theorem Al.prq : ∀ {xs : List ((Str × Str) × α)} {vs : List V}, Al H (xs.map (iqP r)) vs → ∃ ps kvs, vs = ps.map V.ref ∧ PairsT H ps kvs ∧ Aq H r xs kvs
  | [], [], _ => ⟨[], [], rfl, trivial, trivial⟩
  | x :: xs, v :: vs, ⟨h1, h2⟩ => by
    obtain ⟨ps, kvs, e, hp, ha⟩ := Al.prq h2
    obtain ⟨a, v1, v2, rfl, ht, e1, e2⟩ := TP.two h1
    obtain ⟨c, rfl, hc⟩ := pP_tk e1
    exact ⟨a :: ps, (En.tk x.1, v2) :: kvs, by rw [e] <;> rfl, ⟨⟨c, ht, hc⟩, hp⟩, rfl, e2, ha⟩
theorem b_dictP {xs : List (Str × α)} [s : ∀ x, Sty (r x)] (hn : (keys xs).Nodup) : Rbn (fun xs H Q => ∃ (a : Addr) (ps : List Addr) (kvs : List (Key × V)), xs = [.ref a] ∧ SqL K H a (ps.map V.ref) ∧ Paired (fun p kv => SqT K H p [kV kv.1, kv.2]) ps kvs ∧ ∀ p, H p = none → Q (.ref p) (upd H p (.dK (mergeK [] kvs)))) (lP (itP r) xs) (isD r xs) :=
  fun x H1 ⟨a, vs, e, hl, al, z⟩ Q q => by
    obtain ⟨ps, kvs, rfl, hp, ha⟩ := Al.prs (K := K) al
    refine ⟨a, ps, kvs, by rw [e], hl.sq, hp, fun p hp => q p _ _ (same_new _ hp) hp L2.upd_same ⟨_, rfl, ?_, by rw [List.length_map] at z; exact z⟩⟩
    rw [show mergeK [] kvs = kvs from fold_put kvs [] (ha.nodup hn)]
    exact ha.up (up_new _ hp)
theorem b_dictT {xs : List ((Str × Str) × α)} [s : ∀ x, Sty (r x)] (hn : (keys xs).Nodup) : Rbn (fun xs H Q => ∃ (a : Addr) (ps : List Addr) (kvs : List (List Key × V)), xs = [.ref a] ∧ SqL K H a (ps.map V.ref) ∧ PairsT H ps kvs ∧ ∀ p, H p = none → Q (.ref p) (upd H p (.dT (mergeT [] kvs)))) (lP (iqP r) xs) (isQ r xs) :=
  fun x H1 ⟨a, vs, e, hl, al, z⟩ Q q => by
    obtain ⟨ps, kvs, rfl, hp, ha⟩ := Al.prq al
    refine ⟨a, ps, kvs, by rw [e], hl.sq, hp, fun p hp => q p _ _ (same_new _ hp) hp L2.upd_same ⟨_, rfl, ?_, by rw [List.length_map] at z; exact z⟩⟩
    rw [show mergeT [] kvs = kvs from fold_put kvs [] (ha.nodup hn)]
    exact ha.up (up_new _ hp)
/-- a list display of one kind -/
def Yl (r : α → Pr) (t : TA) (σ : L2.St) (H : Hp) (xs : List α) : Prop := Ya t σ H (xs.map r)
theorem yl_nil : Yl r tNil σ H [] := ya_nil
theorem yl_cons {tr : TA} {x : α} {xs : List α} [s : ∀ x, Sty (r x)] (y : Y ta σ H (r x)) (h : Yl r tr σ H xs) : Yl r (tCons ta tr) σ H (x :: xs) := ya_cons y h
theorem yn_lsts {tr : TA} {xs : List α} [s : ∀ x, Sty (r x)] (h : Yl r tr σ H xs) (hl : xs.length ≤ 1000 := by simp) : Yn (tLst tr) σ H (isL (xs.map r)) := yn_lst h (by rw [List.length_map]; exact hl)
/-! ### displays -/
def Yd (trs : List (TE × TE)) (σ : L2.St) (H : Hp) (r : α → Pr) (xs : List (Str × α)) : Prop := ∀ H1, Same H H1 → ∀ Q : List (V × V) → Hp → Prop, (∀ kvs H2, Same H1 H2 → Ad H2 r xs kvs → Q (kvs.map fun kv => (kV kv.1, kv.2)) H2) → tPairs trs σ H1 Q
theorem yd_nil : Yd [] σ H r [] := fun H1 u Q q => q [] H1 (Same.refl _) trivial
theorem yd_cons {trs : List (TE × TE)} {k : Str} {x : α} {xs : List (Str × α)} [s : ∀ x, Sty (r x)] (yk : Y tk' σ H (sP k)) (yv : Y tv σ H (r x)) (yr : Yd trs σ H r xs) : Yd ((tk', tv) :: trs) σ H r ((k, x) :: xs) := fun H1 u Q q =>
  yk H1 u _ fun v H2 s2 p => yv H2 (u.trans s2) _ fun y H3 s3 p3 => yr H3 ((u.trans s2).trans s3) _ fun kvs H4 s4 ha => by
    have := q ((.inr k, y) :: kvs) H4 ((s2.trans s3).trans s4) ⟨rfl, (s x).up (up_same s4) p3, ha⟩
    rw [show v = V.str k from p]
    exact this
theorem yn_disp {trs : List (TE × TE)} {xs : List (Str × α)} [s : ∀ x, Sty (r x)] (y : Yd trs σ H r xs) (hn : (keys xs).Nodup ∧ xs.length ≤ 15) : Yn (tDisp trs) σ H (isD r xs) := fun H1 u Q q p hp =>
  y _ (u.trans (same_new _ hp)) _ fun kvs H2 s2 ha => by
    have e2 := s2 _ _ L2.upd_same
    refine ⟨e2, kvs, rfl, by rw [ha.length]; exact hn.2, ?_⟩
    rw [show mergeK [] kvs = kvs from fold_put kvs [] (ha.nodup hn.1)]
    exact q p _ _ (same_mut _ ((same_new _ hp).trans s2) hp) hp L2.upd_same ⟨kvs, rfl, ha.up (up_mut _ e2 fun z => z), by rw [sizeLine_eq]; omega⟩
theorem yn_dispT {k : Str × Str} {x : α} [s : ∀ x, Sty (r x)] (yk : Y tk' σ H (pP k)) (yv : Y tv σ H (r x)) : Yn (tDispT tk' tv) σ H (isQ r [(k, x)]) := fun H1 u Q q p hp =>
  yk _ (u.trans (same_new _ hp)) _ fun v H2 s2 pk => yv H2 ((u.trans (same_new _ hp)).trans s2) _ fun y H3 s3 px => by
    obtain ⟨b, e, hb⟩ := pP_tk pk
    have e3 := s3 _ _ (s2 _ _ L2.upd_same)
    exact ⟨b, tk k, y |> fun _ => e, s3 _ _ hb, e3, q p _ _ (same_mut _ (((same_new _ hp).trans s2).trans s3) hp) hp L2.upd_same ⟨_, rfl, ⟨rfl, (s x).up (up_mut _ e3 fun z => z) px, trivial⟩, by rw [sizeLine_eq]; simp⟩⟩
theorem y_wld {b : Book} {x : Str} (y1 : Y ta σ H (dP rP b)) (y2 : Y tb σ H (sP x)) : Y (tFz (tLst (tCons ta (tCons tb tNil)))) σ H (wP (b, x)) := y_fzL (yn_lst (ya_cons y1 (ya_cons y2 ya_nil)))
theorem y_neg {i : Int} (y : Y ta σ H (iP i)) : Y (tUn (rU fun i => .int (-i)) ta) σ H (iP (-i)) := fun H1 u Q q => y H1 u _ fun v H2 s2 p => ⟨i, p, q _ H2 s2 rfl⟩
theorem yn_rev {xs : List α} [s : ∀ x, Sty (r x)] [w : VL P r xs] (y : Y ta σ H P) : Yn (tRevL K ta) σ H (isL ((xs.reverse).map r)) := fun H1 u Q q => y H1 u _ fun v H2 s2 p => by
  obtain ⟨a, vs, e, hl, al, z⟩ := w.vw p
  refine ⟨a, vs, e, .inl hl, fun p hp => q p _ _ (s2.trans (same_new _ hp)) (s2.free hp) L2.upd_same ⟨_, rfl, ?_, by rw [List.length_map, List.length_reverse]; rw [List.length_map] at z; exact z⟩⟩
  rw [List.map_reverse]
  exact Al.rev (al_same (same_new _ hp) al)
/-! ### comprehensions with tuple keys, methods -/
theorem yn_dcT0 {β : Type} {wi : TI} {g : TG} {tk te : TE} {vs : List Nat} {xs : List α} {r' : β → Pr} [s' : ∀ y, Sty (r' y)] (kf : α → Str × Str) (f : α → β) (yi : Yi wi σ H (xs.map r))
    (hb : ∀ x ∈ xs, ∀ v H1, Same H H1 → r x v H1 → Bk g tYes tk te σ vs v H1 true (pP (kf x)) (r' (f x))) (hn : (xs.map kf).Nodup) : Yn (tDcT wi g tYes tk te vs) σ H (isQ r' (xs.map fun x => (kf x, f x))) := fun H1 u Q q =>
  yi H1 u _ fun J H2 s2 wk z D hD => by
    rw [List.length_map] at z
    have nD : H1 D = none := s2.free hD
    refine ⟨fun i m H' => m = xs.length - i ∧ i ≤ xs.length ∧ Same H2 H' ∧ ∃ acc, H' D = some (.dT acc) ∧ Aq H' r' ((xs.take i).map fun x => (kf x, f x)) acc, ⟨_, rfl, Nat.zero_le _, same_new _ hD, [], L2.upd_same, by simp [Aq]⟩, ?_⟩
    rintro i m H' ⟨rfl, hi, sH, acc, hacc, al⟩
    obtain ⟨w1, w2⟩ := wk H' (up_same sH)
    by_cases hlt : i < xs.length
    · refine .inr ?_
      have hx : xs[i]? = some xs[i] := List.getElem?_eq_getElem hlt
      obtain ⟨go, yl⟩ := w1 i (r xs[i]) (by rw [List.getElem?_map, hx]; rfl)
      refine ⟨go, fun H' => i + 1 ≤ xs.length ∧ Same H2 H' ∧ ∃ acc, H' D = some (.dT acc) ∧ Aq H' r' ((xs.take (i + 1)).map fun x => (kf x, f x)) acc, fun H3 n3 => ⟨xs.length - (i + 1), by omega, rfl, n3⟩, fun x H3 hy => ?_⟩
      obtain ⟨s3, px⟩ := yl x H3 hy
      obtain ⟨σ2, hg, hw, ht, he⟩ := hb xs[i] (List.getElem_mem hlt) x H3 (u.trans ((s2.trans sH).trans s3)) px
      refine hg _ ⟨hw, ht H3 (Same.refl _) _ fun H4 s4 => ?_⟩
      have ha4 := s4 _ _ (s3 _ _ hacc)
      have al4 := al.up (up_same (s3.trans s4))
      have hl := al.length
      rw [List.length_map, List.length_take] at hl
      obtain ⟨yk, ye⟩ := he rfl
      refine yk H4 s4 _ fun k H5 s5 pk => ye H5 (s4.trans s5) _ fun y H6 s6 py => ?_
      have ha6 := s6 _ _ (s5 _ _ ha4)
      have al6 := al4.up (up_same (s5.trans s6))
      obtain ⟨b, eb, hb⟩ := pP_tk pk
      refine ⟨acc, En.tk (kf xs[i]), b, eb, s6 _ _ hb, ha6, by omega, hlt, same_mut _ ((((sH.trans s3).trans s4).trans s5).trans s6) hD, _, L2.upd_same, ?_⟩
      have um := up_mut (H := H6) (.dT (putK acc (En.tk (kf xs[i])) y)) ha6 (fun z => z)
      have hk : kf xs[i] ∉ keys ((xs.take i).map fun x => (kf x, f x)) := by
        have e : xs = xs.take i ++ xs[i] :: xs.drop (i + 1) := by rw [List.getElem_cons_drop, List.take_append_drop]
        have hn2 := hn
        rw [e, List.map_append, List.map_cons] at hn2
        intro hm
        unfold keys at hm
        rw [List.map_map] at hm
        exact (List.nodup_append.mp hn2).2.2 _ hm _ (List.mem_cons_self ..) rfl
      rw [Aq.fresh y al6 hk] at um ⊢
      rw [take_one hx, List.map_append]
      exact Aq.snoc (al6.up um) ((s' _).up um py)
    · have e : i = xs.length := by omega
      subst e
      refine .inl ⟨by rw [List.length_map] at w2; exact w2, q D _ _ (s2.trans sH) nD hacc ⟨acc, rfl, ?_, by rw [List.length_map]; exact z⟩⟩
      rw [List.take_length] at al
      exact al
theorem y_meth1 {β : Type} {p2 : β → Pr} {ok : Hd → β → Prop} {post : Hd → β → Pr} {m : Str} {a : Hd} {b : β} [s2 : ∀ a, Sts (p2 a)] (ya : Y ta σ H (hdP K a)) (yb : Y tb σ H (p2 b)) (h : ok a b)
    (hm : ∀ b1 b2 b3 : V, List.lookup m [("elder", b1), ("viable", b2), ("newer", b3)] = none := by intros; rfl) : Y (tMeth (cHeld K) m (Sp2 (hdP K) p2 ok post) [] E0 ta (tCons tb tNil)) σ H (post a b) := fun H1 u Q q =>
  ya H1 u _ fun x H2 e2 pa => by
    obtain ⟨ad, dx, b1, b2, b3, rfl, h1, h2, h3, h4⟩ := id pa
    refine ⟨ad, dx, _, rfl, h1, hm b1 b2 b3, yb H2 (u.trans e2) _ fun y H3 e3 pb => ?_⟩
    exact ⟨_, y, a, b, rfl, up_ e3 pa, pb, h, fun u' H' s' hp => q u' H' ((e2.trans e3).trans s') hp⟩
end
end En
set_option maxHeartbeats 4000000
/-! Objects that are written: what stays beside them, the statements that write. -/
namespace En
open PySem PySem.Spec PyProof.Rows L2
/-- all stays but what stands at ps -/
def Mx (ps : List Addr) (H H' : Hp) : Prop := ∀ b o, b ∉ ps → H b = some o → H' b = some o
section
variable {ps : List Addr} {H H0 H1 H2 H' : Hp} {p : Addr}
theorem Mx.rfl : Mx ps H H := fun _ _ _ h => h
theorem Mx.of (s : Same H H') : Mx ps H H' := fun b o _ h => s b o h
theorem Mx.trans (a : Mx ps H H1) (b : Mx ps H1 H2) : Mx ps H H2 := fun c o n h => b c o n (a c o n h)
theorem Mx.put {u : HO} (hp : p ∈ ps) : Mx ps H (upd H p u) := fun b o n h => by
  rw [upd_ne (fun e => n (by rw [e]; exact hp))]
  exact h
theorem Mx.same (m : Mx ps H H') (s : Same H0 H) (n : ∀ p ∈ ps, H0 p = none) : Same H0 H' := fun b o h => m b o (fun hb => by rw [n b hb] at h; cases h) (s b o h)
theorem Mx.up (m : Mx ps H H') (n : ∀ p ∈ ps, ∀ u, H p = some u → ¬ Imm u) : Up H H' := fun b o i h => m b o (fun hb => n b hb o h i) h
/-- a dict, a list at p that is written -/
def Md {α : Type} (r : α → Pr) (d : List (Str × α)) (p : Addr) (H : Hp) : Prop := ∃ kvs, H p = some (.dK kvs) ∧ Ad H r d kvs ∧ (keys d).Nodup ∧ d.length ≤ sizeLine
def Mq {α : Type} (r : α → Pr) (d : List ((Str × Str) × α)) (p : Addr) (H : Hp) : Prop := ∃ kvs, H p = some (.dT kvs) ∧ Aq H r d kvs ∧ (keys d).Nodup ∧ d.length ≤ sizeLine
def Ml {α : Type} (r : α → Pr) (xs : List α) (p : Addr) (H : Hp) : Prop := ∃ vs, H p = some (.lst vs) ∧ Al H (xs.map r) vs ∧ (xs.map r).length ≤ sizeLine
section
variable {α : Type} {r : α → Pr}
theorem Md.g {d : List (Str × α)} (h : Md r d p H) : gdP r d (.ref p) H := let ⟨kvs, h1, h2, _, z⟩ := h; ⟨p, kvs, Eq.refl _, .inl h1, h2, z⟩
theorem Mq.g {d : List ((Str × Str) × α)} (h : Mq r d p H) : gqP r d (.ref p) H := let ⟨kvs, h1, h2, _, z⟩ := h; ⟨p, kvs, Eq.refl _, .inl h1, h2, z⟩
theorem Ml.g {xs : List α} (h : Ml r xs p H) : glP r xs (.ref p) H := let ⟨kvs, h1, h2, z⟩ := h; ⟨p, kvs, Eq.refl _, .inl h1, h2, z⟩
theorem Md.up [∀ x, Sty (r x)] {d : List (Str × α)} (h : Md r d p H) (e : Up H H') (k : ∀ o, H p = some o → H' p = some o) : Md r d p H' := let ⟨kvs, h1, h2, n, z⟩ := h; ⟨kvs, k _ h1, h2.up e, n, z⟩
theorem Mq.up [∀ x, Sty (r x)] {d : List ((Str × Str) × α)} (h : Mq r d p H) (e : Up H H') (k : ∀ o, H p = some o → H' p = some o) : Mq r d p H' := let ⟨kvs, h1, h2, n, z⟩ := h; ⟨kvs, k _ h1, h2.up e, n, z⟩
theorem Ml.up [∀ x, Sty (r x)] {d : List α} (h : Ml r d p H) (e : Up H H') (k : ∀ o, H p = some o → H' p = some o) : Ml r d p H' := let ⟨kvs, h1, h2, z⟩ := h; ⟨kvs, k _ h1, (inferInstance : StyL (d.map r)).up e h2, z⟩
theorem Md.same [∀ x, Sty (r x)] {d : List (Str × α)} (h : Md r d p H) (e : Same H H') : Md r d p H' := h.up (up_same e) fun o q => e p o q
theorem Mq.same [∀ x, Sty (r x)] {d : List ((Str × Str) × α)} (h : Mq r d p H) (e : Same H H') : Mq r d p H' := h.up (up_same e) fun o q => e p o q
theorem Ml.same [∀ x, Sty (r x)] {d : List α} (h : Ml r d p H) (e : Same H H') : Ml r d p H' := h.up (up_same e) fun o q => e p o q
theorem Md.ni {d : List (Str × α)} (h : Md r d p H) : ∀ u, H p = some u → ¬ Imm u := fun u e => by
  obtain ⟨kvs, h1, _⟩ := h
  rw [h1] at e
  cases e
  exact fun z => z
theorem Mq.ni {d : List ((Str × Str) × α)} (h : Mq r d p H) : ∀ u, H p = some u → ¬ Imm u := fun u e => by
  obtain ⟨kvs, h1, _⟩ := h
  rw [h1] at e
  cases e
  exact fun z => z
theorem Ml.ni {d : List α} (h : Ml r d p H) : ∀ u, H p = some u → ¬ Imm u := fun u e => by
  obtain ⟨kvs, h1, _⟩ := h
  rw [h1] at e
  cases e
  exact fun z => z
theorem Md.of {u : HO} {d : List (Str × α)} (e : H p = some u) (h : isD r d u H) (n : (keys d).Nodup) : Md r d p H := by
  obtain ⟨kvs, rfl, ha, z⟩ := h
  exact ⟨kvs, e, ha, n, z⟩
theorem Mq.of {u : HO} {d : List ((Str × Str) × α)} (e : H p = some u) (h : isQ r d u H) (n : (keys d).Nodup) : Mq r d p H := by
  obtain ⟨kvs, rfl, ha, z⟩ := h
  exact ⟨kvs, e, ha, n, z⟩
theorem Ml.of {u : HO} {d : List α} (e : H p = some u) (h : isL (d.map r) u H) : Ml r d p H := by
  obtain ⟨kvs, rfl, ha, z⟩ := h
  exact ⟨kvs, e, ha, z⟩
end
end
section
variable {κ α : Type} [DecidableEq κ]
theorem keys_put : ∀ (d : List (κ × α)) (k : κ) (x : α), keys (put d k x) = if k ∈ keys d then keys d else keys d ++ [k]
  | [], k, x => by simp [put, keys]
  | y :: d, k, x => by
    have ih := keys_put d k x
    show keys (if y.1 = k then (k, x) :: d else y :: put d k x) = if k ∈ y.1 :: keys d then y.1 :: keys d else (y.1 :: keys d) ++ [k]
    by_cases e : y.1 = k
    · rw [if_pos e, if_pos (by rw [e]; exact List.mem_cons_self ..)]
      show k :: keys d = y.1 :: keys d
      rw [e]
    · rw [if_neg e]
      show y.1 :: keys (put d k x) = _
      rw [ih]
      have e' : ¬ k = y.1 := fun z => e z.symm
      by_cases h : k ∈ keys d
      · rw [if_pos h, if_pos (List.mem_cons_of_mem _ h)]
      · rw [if_neg h, if_neg (by rw [List.mem_cons]; exact fun z => z.elim e' h)]
        rfl
theorem mem_put {d : List (κ × α)} {k k' : κ} {x : α} : k' ∈ keys (put d k x) ↔ k' = k ∨ k' ∈ keys d := by
  rw [keys_put]
  by_cases h : k ∈ keys d
  · rw [if_pos h]
    constructor
    · exact .inr
    · rintro (e | e)
      · rw [e]; exact h
      · exact e
  · rw [if_neg h, List.mem_append, List.mem_singleton, or_comm]
theorem nodup_put {d : List (κ × α)} {k : κ} {x : α} (h : (keys d).Nodup) : (keys (put d k x)).Nodup := by
  rw [keys_put]
  by_cases hk : k ∈ keys d
  · rw [if_pos hk]; exact h
  · rw [if_neg hk]
    exact List.nodup_append.mpr ⟨h, List.nodup_cons.mpr ⟨List.not_mem_nil, List.nodup_nil⟩, fun a ha b hb => by rw [List.mem_singleton.mp hb]; exact fun e => hk (e ▸ ha)⟩
theorem len_put (d : List (κ × α)) (k : κ) (x : α) : (put d k x).length ≤ d.length + 1 := by
  have h := keys_put d k x
  have h1 : (keys (put d k x)).length = (put d k x).length := List.length_map _
  have h2 : (keys d).length = d.length := List.length_map _
  rw [← h1, h]
  split
  · omega
  · rw [List.length_append, h2]
    exact Nat.le_refl _
theorem put_new {d : List (κ × α)} {k : κ} {x : α} (h : k ∉ keys d) : put d k x = d ++ [(k, x)] := by
  induction d with
  | nil => rfl
  | cons y d ih =>
    have h' : ¬ (k = y.1 ∨ k ∈ keys d) := fun z => h (List.mem_cons.mpr z)
    unfold put
    rw [if_neg fun z => h' (.inl z.symm), ih fun z => h' (.inr z)]
    rfl
end
section
variable {σ : L2.St} {H : Hp} {P : Pr} {t ta tb ty tv : TE} {α : Type} {r : α → Pr} {K : PySem.W.Frag} {D : Ends} {p : Addr} {i : Nat}
theorem y_gl {xs : List α} [w : VL P r xs] (y : Y t σ H P) : Y t σ H (glP r xs) := y.mono fun _ _ h => w.vw h
theorem y_gd {d : List (Str × α)} [w : VD P r d] (y : Y t σ H P) : Y t σ H (gdP r d) := y.mono fun _ _ h => w.vw h
theorem y_gq {d : List ((Str × Str) × α)} [w : VQ P r d] (y : Y t σ H P) : Y t σ H (gqP r d) := y.mono fun _ _ h => w.vw h
/-- name = a new object that will be written -/
theorem ys_new {R : HO → Hp → Prop} (y : Yn t σ H R) (q : ∀ p H2 u, Same H H2 → H p = none → H2 p = some u → R u H2 → D.nx (σ.set i (some (.ref p))) H2) : tAsg t (gName i) D σ H := y H (Same.refl _) _ q
theorem ys_dput {d : List (Str × α)} {k : Str} {x : α} [∀ x, Sty (r x)] (yv : Y tv σ H (r x)) (e : σ[i]? = some (some (.ref p))) (m : Md r d p H) (yk : Y ty σ H (sP k)) (hl : d.length < 1000000)
    (q : ∀ H2, Mx [p] H H2 → Md r (put d k x) p H2 → D.nx σ H2) : sDPut (tVar i) ty tv D σ H := yv H (Same.refl _) _ fun v H1 s1 px => ⟨_, e, yk H1 s1 _ fun y H2 s2 pk => by
  obtain ⟨kvs, h1, h2, n, z⟩ := m.same (s1.trans s2)
  have hlen := h2.length
  refine ⟨p, _, rfl, .inl ⟨kvs, .inr k, h1, pk, by rw [hlen, sizeLine_eq]; omega, rfl⟩, q _ ((Mx.of (s1.trans s2)).trans (Mx.put (List.mem_singleton.mpr rfl))) ⟨_, L2.upd_same, ?_, nodup_put n, ?_⟩⟩
  · have um := up_mut (.dK (putK kvs (.inr k) v)) h1 (fun z => z)
    exact Ad.up um (Ad.put h2 n ((inferInstance : Sty (r x)).up (up_same s2) px))
  · have := len_put d k x
    rw [sizeLine_eq]
    omega⟩
theorem ys_qput {d : List ((Str × Str) × α)} {k : Str × Str} {x : α} [∀ x, Sty (r x)] (yv : Y tv σ H (r x)) (e : σ[i]? = some (some (.ref p))) (m : Mq r d p H) (yk : Y ty σ H (pP k)) (hl : d.length < 1000000)
    (q : ∀ H2, Mx [p] H H2 → Mq r (put d k x) p H2 → D.nx σ H2) : sDPut (tVar i) ty tv D σ H := yv H (Same.refl _) _ fun v H1 s1 px => ⟨_, e, yk H1 s1 _ fun y H2 s2 pk => by
  obtain ⟨kvs, h1, h2, n, z⟩ := m.same (s1.trans s2)
  obtain ⟨b, eb, hb⟩ := pP_tk pk
  have hlen := h2.length
  refine ⟨p, _, rfl, .inr ⟨kvs, tk k, b, h1, eb, hb, by rw [hlen, sizeLine_eq]; omega, rfl⟩, q _ ((Mx.of (s1.trans s2)).trans (Mx.put (List.mem_singleton.mpr rfl))) ⟨_, L2.upd_same, ?_, nodup_put n, ?_⟩⟩
  · have um := up_mut (.dT (putK kvs (tk k) v)) h1 (fun z => z)
    exact Aq.up um (Aq.put h2 n ((inferInstance : Sty (r x)).up (up_same s2) px))
  · have := len_put d k x
    rw [sizeLine_eq]
    omega⟩
theorem y_fzMl {xs : List α} [∀ x, Sty (r x)] (e : σ[i]? = some (some (.ref p))) (m : Ml r xs p H) : ∀ Q : VK, (∀ v H2, Mx [p] H H2 → lP r xs v H2 → Q v H2) → tFz (tVar i) σ H Q := fun Q q => by
  obtain ⟨vs, h1, h2, z⟩ := m
  refine ⟨_, e, p, _, rfl, h1, trivial, fun o => q _ _ (Mx.put (List.mem_singleton.mpr rfl)) ⟨p, vs, rfl, ⟨o, L2.upd_same⟩, (inferInstance : StyL (xs.map r)).up (up_mut _ h1 fun z => z) h2, z⟩⟩
theorem y_fzMd {d : List (Str × α)} [∀ x, Sty (r x)] (e : σ[i]? = some (some (.ref p))) (m : Md r d p H) : ∀ Q : VK, (∀ v H2, Mx [p] H H2 → dP r d v H2 → Q v H2) → tFz (tVar i) σ H Q := fun Q q => by
  obtain ⟨vs, h1, h2, n, z⟩ := m
  refine ⟨_, e, p, _, rfl, h1, trivial, fun o => q _ _ (Mx.put (List.mem_singleton.mpr rfl)) ⟨p, vs, rfl, ⟨o, L2.upd_same⟩, h2.up (up_mut _ h1 fun z => z), z⟩⟩
theorem y_fzMq {d : List ((Str × Str) × α)} [∀ x, Sty (r x)] (e : σ[i]? = some (some (.ref p))) (m : Mq r d p H) : ∀ Q : VK, (∀ v H2, Mx [p] H H2 → qP r d v H2 → Q v H2) → tFz (tVar i) σ H Q := fun Q q => by
  obtain ⟨vs, h1, h2, n, z⟩ := m
  refine ⟨_, e, p, _, rfl, h1, trivial, fun o => q _ _ (Mx.put (List.mem_singleton.mpr rfl)) ⟨p, vs, rfl, ⟨o, L2.upd_same⟩, h2.up (up_mut _ h1 fun z => z), z⟩⟩
theorem ys_app {xs : List α} {x : α} {te : TE} [∀ x, Sty (r x)] (e : σ[i]? = some (some (.ref p))) (m : Ml r xs p H) (yv : Y te σ H (r x)) (hl : xs.length < 1000000)
    (q : ∀ H2, Mx [p] H H2 → Ml r (xs ++ [x]) p H2 → D.nx σ H2) : tDrop (tBM K "list" rAppend (tVar i) (tCons te tNil)) D σ H := by
  refine ⟨_, e, ?_, yv H (Same.refl _) _ fun v H1 s1 px => ?_⟩
  · obtain ⟨vs, h1, _⟩ := m
    exact .inl ⟨rfl, vs, .inl (.inl h1)⟩
  · obtain ⟨vs, h1, h2, z⟩ := m.same s1
    have hlen := h2.length
    rw [List.length_map] at hlen
    have um := up_mut (.lst (vs ++ [v])) h1 (fun z => z)
    refine ⟨p, vs, v, rfl, rfl, h1, by rw [hlen, sizeLine_eq]; omega, q _ ((Mx.of s1).trans (Mx.put (List.mem_singleton.mpr rfl))) ⟨_, L2.upd_same, ?_, ?_⟩⟩
    · rw [List.map_append]
      exact Al.app ((inferInstance : StyL (xs.map r)).up um h2) ⟨(inferInstance : Sty (r x)).up um px, trivial⟩
    · rw [List.length_map, List.length_append, sizeLine_eq]
      simp
      omega
/-- return [a dict that was written, a text] -/
theorem ys_retW {b : Book} {x : Str} (e : σ[i]? = some (some (.ref p))) (m : Md rP b p H) (ys : ∀ H2, Mx [p] H H2 → Y tb σ H2 (sP x)) (q : ∀ v H2, Mx [p] H H2 → wP (b, x) v H2 → D.rt v H2) :
    tRet (tFz (tLst (tCons (tFz (tVar i)) (tCons tb tNil)))) D σ H := by
  have hni := m.ni
  refine y_fzMd e m _ fun vb H2 mx hb => (ys H2 mx) H2 (Same.refl _) _ fun y H3 s3 py => ⟨by rw [sizeLine_eq]; simp, fun p' hp' => ⟨p', _, rfl, L2.upd_same, trivial, fun o => ?_⟩⟩
  have s4 : Same H3 (upd (upd H3 p' (.lst [vb, y])) p' (.frz o (.lst [vb, y]))) := same_mut _ (same_new _ hp') hp'
  refine q _ _ (mx.trans (Mx.of (s3.trans s4))) ⟨p', _, rfl, ⟨o, L2.upd_same⟩, ⟨up_ (s3.trans s4) hb, py, trivial⟩, by rw [sizeLine_eq]; simp⟩
end
end En
set_option maxHeartbeats 4000000
/-! sorted of lists that read as data; < of two pairs. -/
namespace En
open PySem PySem.Spec PyProof.Rows L2
open PySem.W (EachIs AllAlike Sortable dataLe dataLt alike alikeAll)
section
variable {X : Cx} {K : PySem.W.Frag} {β : Type}
def rSortD (K : PySem.W.Frag) (enc : β → PyData) : List V → Hp → VK → Prop := fun vs H Q => ∃ (a : Addr) (xs : List V) (bs : List β), vs = [.ref a] ∧ SqL K H a xs ∧ DpAll K H xs (bs.map enc) ∧ AllAlike (bs.map enc) ∧ Sortable (bs.map enc) ∧ (∀ b ∈ bs, (enc b).depth ≤ 20) ∧
  ∀ ys p, H p = none → EachIs (fun x b => (x, b) ∈ xs.zip bs) ys (bs.mergeSort (dataLe false enc)) → Q (.ref p) (upd H p (.lst ys))
theorem each_zip {α : Type} : ∀ {xs : List V} {us : List Value} {bs : List β}, Vals xs us → xs.length = bs.length → EachIs (fun u b => ∃ x, RelV x u ∧ (x, b) ∈ xs.zip bs) us bs
  | _, _, [], .nil, _ => .nil
  | _, _, b :: bs, .cons r t, h => by
    refine .cons ⟨_, r, List.mem_cons_self ..⟩ ?_
    exact (each_zip (α := α) t (Nat.succ.inj h)).mono fun u b ⟨x, h1, h2⟩ => ⟨x, h1, List.mem_cons_of_mem _ h2⟩
theorem each_back {xs : List V} {bs0 : List β} : ∀ {out : List Value} {bs : List β}, EachIs (fun u b => ∃ x, RelV x u ∧ (x, b) ∈ xs.zip bs0) out bs → ∃ ys, Vals ys out ∧ EachIs (fun x b => (x, b) ∈ xs.zip bs0) ys bs
  | _, _, .nil => ⟨[], .nil, .nil⟩
  | _, _, .cons ⟨x, h1, h2⟩ t => by
    obtain ⟨ys, h3, h4⟩ := each_back t
    exact ⟨x :: ys, .cons h1 h3, .cons h2 h4⟩
theorem dpAll_len {H : Hp} : ∀ {xs : List V} {ds : List PyData}, DpAll K H xs ds → xs.length = ds.length
  | _, _, .nil => rfl
  | _, _, .cons _ t => congrArg Nat.succ (dpAll_len t)
theorem cr_sortedD {enc : β → PyData} (hK : X.K = K) (hc : X.calm = true) (hu : X.A.units + 65 < cLine) : CallR X (.builtin "sorted") (rSortD K enc) := by
  subst hK
  intro pins s σ H vs us Q I r q
  obtain ⟨a, xs, bs, ex, hq, hd, hal, hs, hdep, q⟩ := q
  subst ex
  obtain ⟨u, eu, rx⟩ := vals1 r
  subst eu
  cases rx
  obtain ⟨its, rv, pl, hz⟩ := I.list hq
  have hlen := dpAll_len hd
  rw [List.length_map] at hlen
  obtain ⟨as, ra⟩ := Dp.readsAll I _ _ _ hd rv
  refine PySem.W.sorted_data (enc := enc) pl.isList (each_zip (α := Unit) rv hlen) (PySem.W.readsAll_each enc ra) hal hs (by rw [← hlen]; exact hz) (fun b hb => by have := hdep b hb; omega) fun out hol he => ?_
  obtain ⟨ys, h1, h2⟩ := each_back he
  have yl : ys.length ≤ sizeLine := by
    have e1 := h1.length
    omega
  have hfr := I.hok.fresh (Nat.le_succ s.heap.objs.size)
  refine ⟨.ref (s.heap.objs.size + 1), upd H (s.heap.objs.size + 1) (.lst ys), ?_, rfl, q ys _ hfr h2⟩
  obtain ⟨n, hat⟩ := sortedAll_at s.heap its out.toArray
  exact I.laid (t' := s.toks) (fun b o e => sortedAll_old e) (Nat.le_succ _) ⟨yl, out, n, h1, hat⟩
end
section
variable {K : PySem.W.Frag} {H : Hp} {P : Pr} {α : Type} {r : α → Pr} {enc : α → PyData}
theorem mem_zip_al : ∀ {xs : List α} {vs : List V} {v : V} {x : α}, Al H (xs.map r) vs → (v, x) ∈ vs.zip xs → r x v H
  | [], [], _, _, _, h => by cases h
  | x :: xs, v :: vs, v', x', ⟨h1, h2⟩, h => by
    rcases List.mem_cons.mp (show (v', x') ∈ (v, x) :: vs.zip xs from h) with e | h
    · cases e
      exact h1
    · exact mem_zip_al h2 h
theorem al_each {Z : List (V × α)} (hz : ∀ v x, (v, x) ∈ Z → r x v H) : ∀ {ys : List V} {bs : List α}, EachIs (fun v x => (v, x) ∈ Z) ys bs → Al H (bs.map r) ys
  | _, _, .nil => trivial
  | _, _, .cons h t => ⟨hz _ _ h, al_each hz t⟩
theorem b_sortedEnc {xs : List α} [s : ∀ x, Sty (r x)] [w : VL P r xs] (hd : ∀ x v H, r x v H → Dp K H v (enc x)) (hal : AllAlike (xs.map enc)) (hs : Sortable (xs.map enc)) (hdep : ∀ x ∈ xs, (enc x).depth ≤ 20) :
    Rbn (rSortD K enc) P (isL ((xs.mergeSort (dataLe false enc)).map r)) := fun x H1 px Q q => by
  obtain ⟨a, vs, e, hl, al, z⟩ := w.vw px
  refine ⟨a, vs, xs, by rw [e], .inl hl, dp_all (fun x v => hd x v H1) al, hal, hs, hdep, fun ys p hp he => ?_⟩
  refine q p _ _ (same_new _ hp) hp L2.upd_same ⟨_, rfl, al_same (same_new _ hp) (al_each (fun v x h => mem_zip_al al h) he), ?_⟩
  rw [List.length_map, List.length_mergeSort]
  rw [List.length_map] at z
  exact z
/-! ### pairs of texts -/
theorem alike_p (x y : Str × Str) : alike (dPr x) (dPr y) = true := by
  unfold dPr
  simp only [alike, alikeAll, Bool.and_self]
theorem alike_ps : ∀ xs ys : List (Str × Str), alikeAll (xs.map dPr) (ys.map dPr) = true
  | [], _ => by simp [alikeAll]
  | _ :: _, [] => by simp [alikeAll]
  | x :: xs, y :: ys => by
    simp only [List.map_cons, alikeAll]
    rw [alike_p, alike_ps xs ys]
    rfl
abbrev dLs (l : List (Str × Str)) : PyData := .list (l.map dPr)
theorem alike_l (x y : List (Str × Str)) : alike (dLs x) (dLs y) = true := by
  unfold dLs
  simp only [alike]
  exact alike_ps x y
theorem depth_p (x : Str × Str) : (dPr x).depth = 1 := by
  unfold dPr
  simp [PyData.depth, PyData.depthAll]
theorem depth_l (x : List (Str × Str)) : (dLs x).depth ≤ 2 := by
  unfold dLs
  simp only [PyData.depth]
  have : PyData.depthAll (x.map dPr) ≤ 1 := by
    induction x with
    | nil => simp [PyData.depthAll]
    | cons y x ih =>
      simp only [List.map_cons, PyData.depthAll]
      rw [depth_p]
      omega
  omega
/-- p before q -/
def ltP (p q : Str × Str) : Bool := if p.1 = q.1 then decide (p.2.cps.toList < q.2.cps.toList) else decide (p.1.cps.toList < q.1.cps.toList)
theorem dataLt_p (p q : Str × Str) : dataLt (dPr p) (dPr q) = ltP p q := by
  unfold dPr ltP
  rw [PySem.W.dataLt_tuple]
  by_cases e : p.1 = q.1
  · rw [if_pos e, PySem.W.dataLt_all_yes (by simp [alike]) (by rw [eqv_s]; exact decide_eq_true e)]
    by_cases e2 : p.2 = q.2
    · rw [PySem.W.dataLt_all_yes (by simp [alike]) (by rw [eqv_s]; exact decide_eq_true e2), e2]
      rw [← PySem.W.dataLt_list]
      have := PySem.W.dataLt_str q.2 q.2
      rw [show dataLt (.str q.2) (.str q.2) = false from PySem.W.dataLt_self _] at this
      rw [← this]
      exact PySem.W.dataLt_self _
    · rw [PySem.W.dataLt_all_no (by simp [alike]) (by rw [eqv_s]; exact decide_eq_false e2), PySem.W.dataLt_str]
  · rw [if_neg e, PySem.W.dataLt_all_no (by simp [alike]) (by rw [eqv_s]; exact decide_eq_false e), PySem.W.dataLt_str]
def sortP (xs : List (Str × Str)) : List (Str × Str) := xs.mergeSort (dataLe false dPr)
theorem sortP_perm (xs : List (Str × Str)) : (sortP xs).Perm xs := List.mergeSort_perm _ _
theorem b_sortedP {xs : List (Str × Str)} [w : VL P pP xs] (u : Unit) : Rbn (rSortD K dPr) P (isL ((sortP xs).map pP)) :=
  b_sortedEnc (fun x v H h => dp_p h) (PySem.W.AllAlike.of fun b b' => alike_p b b') (PySem.W.Sortable.tuples fun b => ⟨_, _, rfl⟩) fun x _ => by rw [depth_p]; decide
def sortL (xs : List (List (Str × Str))) : List (List (Str × Str)) := xs.mergeSort (dataLe false dLs)
theorem sortL_perm (xs : List (List (Str × Str))) : (sortL xs).Perm xs := List.mergeSort_perm _ _
theorem b_sortedL {xs : List (List (Str × Str))} [w : VL P (lP pP) xs] (u : Unit) : Rbn (rSortD K dLs) P (isL ((sortL xs).map (lP pP))) :=
  b_sortedEnc (fun x v H h => dp_l (f := dPr) (fun _ _ h => dp_p h) h) (PySem.W.AllAlike.of fun b b' => alike_l b b') (PySem.W.Sortable.others fun b => ⟨fun e => (by cases e), fun xs e => (by cases e)⟩) fun x _ => by have := depth_l x; omega
end
/-! ### < of two pairs -/
section
variable {X : Cx} {K : PySem.W.Frag}
def rLtP (K : PySem.W.Frag) : R2 := fun x y H Q => ∃ p q : Str × Str, Dp K H x (dPr p) ∧ Dp K H y (dPr q) ∧ Q (.bl (ltP p q)) H
theorem op_ltP (hK : X.K = K) (hu : X.A.units + 64 < cLine) : OpR X (compareOp .Lt) (rLtP K) := by
  subst hK
  intro pins s σ H x y v u Q I rx ry h
  obtain ⟨p, q, hp, hq, k⟩ := h
  obtain ⟨as, ra⟩ := hp.reads I _ _ _ rx
  obtain ⟨bs, rb⟩ := hq.reads I _ _ _ ry
  refine PySem.W.rcLt_alike _ _ X.A s v u as bs ra rb (alike_p p q) (fun e => by unfold dPr at e; cases e) ?_ X.prog X.w _ _ ?_
  · rw [depth_p, depth_p]
    omega
  · rw [dataLt_p]
    exact ⟨.bl _, H, I, rfl, k⟩
theorem r_ltP {p q : Str × Str} : R2s (rLtP K) (pP p) (pP q) (bP (ltP p q)) := fun _ _ H1 h1 h2 Q k => ⟨p, q, dp_p h1, dp_p h2, k _ H1 (Same.refl _) rfl⟩
end
end En
set_option maxHeartbeats 4000000
/-! The same rules, told of both operands at once (what is read is found as soon as the operands are known). -/
namespace En
open PySem PySem.Spec PyProof.Rows L2
section
variable {σ : L2.St} {H : Hp} {P P2 : Pr} {ta tb : TE} {α : Type} {r : α → Pr} {K : PySem.W.Frag}
theorem y_inS {x : Str} {xs : List Str} (ya : Y ta σ H (sP x)) (yb : Y tb σ H P) [w : VL P sP xs] : Y (tOp (rIn K false) ta tb) σ H (bP (decide (x ∈ xs))) := y_op r_inS ya yb
theorem y_notInS {x : Str} {xs : List Str} (ya : Y ta σ H (sP x)) (yb : Y tb σ H P) [w : VL P sP xs] : Y (tOp (rIn K true) ta tb) σ H (bP (!decide (x ∈ xs))) := y_op r_notInS ya yb
theorem y_inP {x : Str × Str} {xs : List (Str × Str)} (ya : Y ta σ H (pP x)) (yb : Y tb σ H P) [w : VL P pP xs] (h : OkP x) (hs : ∀ y ∈ xs, OkP y) : Y (tOp (rInD K) ta tb) σ H (bP (decide (x ∈ xs))) := y_op (r_inP h hs) ya yb
theorem y_notInP {x : Str × Str} {xs : List (Str × Str)} (ya : Y ta σ H (pP x)) (yb : Y tb σ H P) [w : VL P pP xs] (h : OkP x) (hs : ∀ y ∈ xs, OkP y) : Y (tOp (rNotInD K) ta tb) σ H (bP (!decide (x ∈ xs))) := y_op (r_notInP h hs) ya yb
theorem y_neP {xs ys : List (Str × Str)} [s : Sts P] (ya : Y ta σ H P) (yb : Y tb σ H P2) [w : VL P pP xs] [w2 : VL P2 pP ys] (hx : ∀ y ∈ xs, OkP y) (hs : ∀ y ∈ ys, OkP y) : Y (tOp (rNeD K) ta tb) σ H (bP (!decide (xs = ys))) := y_op (r_neP hx hs) ya yb
theorem y_neNilP {xs : List (Str × Str)} [s : Sts P] (ya : Y ta σ H P) [w : VL P pP xs] (hx : ∀ y ∈ xs, OkP y) : Y (tOp (rNeD K) ta (tFz (tLst tNil))) σ H (bP (!xs.isEmpty)) := y_op (r_neNilP hx) ya (y_fzL (yn_lst ya_nil))
theorem y_neNilS {xs : List Str} [s : Sts P] (ya : Y ta σ H P) [w : VL P sP xs] (hx : ∀ y ∈ xs, OkS y) : Y (tOp (rNeD K) ta (tFz (tLst tNil))) σ H (bP (!xs.isEmpty)) := y_op (r_neNilS hx) ya (y_fzL (yn_lst ya_nil))
theorem y_lenL {xs : List α} (ya : Y ta σ H P) [w : VL P r xs] : Y (tCB (rLenA K) (tCons ta tNil)) σ H (iP xs.length) := y_cb b_lenL ya
theorem y_lenD {d : List (Str × α)} (ya : Y ta σ H P) [w : VD P r d] : Y (tCB (rLenA K) (tCons ta tNil)) σ H (iP d.length) := y_cb b_lenD ya
theorem y_lenQ {d : List ((Str × Str) × α)} (ya : Y ta σ H P) [w : VQ P r d] : Y (tCB (rLenA K) (tCons ta tNil)) σ H (iP d.length) := y_cb b_lenQ ya
theorem yn_listD {d : List (Str × α)} (ya : Y ta σ H P) [w : VD P r d] : Yn (tCB (fun xs H Q => ∃ (a : Addr) (kvs : List (Key × V)), xs = [.ref a] ∧ Rd H a (.dK kvs) ∧ ∀ p, H p = none → Q (.ref p) (upd H p (.lst (kvs.map fun kv => kV kv.1)))) (tCons ta tNil)) σ H (isL ((keys d).map sP)) := yn_cb b_listD ya
theorem yn_listOf {xs : List α} (ya : Y ta σ H P) [s : ∀ x, Sty (r x)] [w : VL P r xs] : Yn (tCB (rListOf K) (tCons ta tNil)) σ H (isL (xs.map r)) := yn_cb b_listOf ya
theorem yn_listQ {d : List ((Str × Str) × α)} (ya : Y ta σ H P) [s : ∀ x, Sty (r x)] [w : VQ P r d] : Yn (tCB (fun xs H Q => ∃ d kvs, xs = [V.ref d] ∧ Rd H d (.dT kvs) ∧ ∀ p bs, H p = none → IsKeys H kvs bs → Q (.ref p) (upd H p (.lst (bs.map V.ref)))) (tCons ta tNil)) σ H (isL ((keys d).map pP)) := yn_cb b_listQ ya
theorem yn_sortedS {ks : List Str} (ya : Y ta σ H P) [w : VL P sP ks] (hl : ks.length < 64) : Yn (tCB (rSortedS K) (tCons ta tNil)) σ H (isL ((sortS ks).map sP)) := yn_cb (b_sortedS hl) ya
theorem yn_sortedD {d : List (Str × α)} (ya : Y ta σ H P) [w : VD P r d] (hl : d.length < 64) :
    Yn (tCB (fun xs H Q => ∃ (a : Addr) (kvs : List (Key × V)) (ks : List Str), xs = [.ref a] ∧ Rd H a (.dK kvs) ∧ kvs.map (·.1) = ks.map Sum.inr ∧ ks.length < 64 ∧ ∀ ys p, ys.Perm ks → sortedS ys = true → H p = none → Q (.ref p) (upd H p (.lst (ys.map V.str)))) (tCons ta tNil)) σ H (isL ((sortS (keys d)).map sP)) := yn_cb (b_sortedD hl) ya
theorem yn_sortedP {xs : List (Str × Str)} (ya : Y ta σ H P) [w : VL P pP xs] : Yn (tCB (rSortD K dPr) (tCons ta tNil)) σ H (isL ((sortP xs).map pP)) := yn_cb (b_sortedP ()) ya
theorem yn_sortedL {xs : List (List (Str × Str))} (ya : Y ta σ H P) [w : VL P (lP pP) xs] : Yn (tCB (rSortD K dLs) (tCons ta tNil)) σ H (isL ((sortL xs).map (lP pP))) := yn_cb (b_sortedL ()) ya
theorem y_cs {v : V} [s : Sts P] (h : P v H) : Y (tC v) σ H P := fun H1 u Q q => q v H1 (Same.refl _) (s.same u h)
/-- first ta, then the rest over its value -/
theorem y_bind {C : TE → TE} (ya : Y ta σ H P) (k : ∀ v H1, Same H H1 → P v H1 → Y (C (tC v)) σ H1 P2) (hC : ∀ σ H Q, C ta σ H Q = ta σ H fun v H1 => C (tC v) σ H1 Q := by intros; rfl) : Y (C ta) σ H P2 := fun H1 u Q q => by
  rw [hC]
  exact ya H1 u _ fun v H2 s2 p => k v H2 (u.trans s2) p H2 (Same.refl _) Q fun w H3 s3 p3 => q w H3 (s2.trans s3) p3
end
end En
set_option maxHeartbeats 4000000
/-! The law's plain defs, first part. -/
namespace En
open PySem PySem.Spec PyProof.Rows L2
variable {P : Program} {w : World} {K : PySem.W.Frag} {mg : Str → Option Value} {base : Heap}
/-! ### books -/
def turnK : List (Str × Str) := [("says", "hears"), ("hears", "says"), ("done", "done")]
def KindOk (k : Str) : Prop := k ∈ keys turnK
structure WfRow (b : Book) (r : Str × Row) : Prop where
  kind : KindOk r.2.1
  ok : OkS r.1
  nd : (keys r.2.2).Nodup
  len : r.2.2.length < 64
  words : ∀ t ∈ r.2.2, OkS t.1
  goals : ∀ t ∈ r.2.2, t.2 ∈ keys b
  fin : r.2.1 = "done" ↔ r.2.2 = []
structure WfB (b : Book) : Prop where
  nd : (keys b).Nodup
  len : b.length < 64
  row : ∀ r ∈ b, WfRow b r
theorem look_mem {κ α : Type} [DecidableEq κ] [Inhabited α] : ∀ {d : List (κ × α)} {k : κ}, k ∈ keys d → (k, look d k) ∈ d
  | [], k, h => by cases h
  | x :: d, k, h => by
    unfold look
    by_cases e : x.1 = k
    · rw [if_pos e, ← e]
      exact List.mem_cons_self ..
    · rw [if_neg e]
      rcases List.mem_cons.mp (show k ∈ x.1 :: keys d from h) with z | z
      · exact absurd z.symm e
      · exact List.mem_cons_of_mem _ (look_mem z)
theorem look_of {κ α : Type} [DecidableEq κ] [Inhabited α] : ∀ {d : List (κ × α)} {k : κ} {v : α}, (keys d).Nodup → (k, v) ∈ d → look d k = v
  | [], _, _, _, h => by cases h
  | x :: d, k, v, hn, h => by
    have hn' := List.nodup_cons.mp (show (x.1 :: keys d).Nodup from hn)
    unfold look
    rcases List.mem_cons.mp h with e | h
    · rw [← e, if_pos rfl]
    · rw [if_neg]
      · exact look_of hn'.2 h
      · intro e
        exact hn'.1 (by rw [e]; exact List.mem_map_of_mem h)
theorem mem_keys {κ α : Type} {d : List (κ × α)} {x : κ × α} (h : x ∈ d) : x.1 ∈ keys d := List.mem_map_of_mem h
theorem WfB.at (h : WfB b) {k : Str} (hk : k ∈ keys b) : WfRow b (k, look b k) := h.row _ (look_mem hk)
theorem has_iff {κ α : Type} [DecidableEq κ] {d : List (κ × α)} {k : κ} : has d k = true ↔ k ∈ keys d := by
  unfold has
  exact decide_eq_true_iff
theorem keys_mk {α β κ : Type} (l : List α) (kf : α → κ) (f : α → β) : keys (l.map fun x => (kf x, f x)) = l.map kf := by
  unfold keys
  rw [List.map_map]
  rfl
theorem P_eq {α : Type} {r : α → Pr} {a b : α} {v : V} {H : Hp} (e : a = b) (h : r a v H) : r b v H := e ▸ h
theorem nx_ {u : L2.St → Hp → Prop} {rt : VK} {bk ct : L2.St → Hp → Prop} {σ : L2.St} {H : Hp} (h : u σ H) : Ends.nx ⟨u, rt, bk, ct⟩ σ H := h
theorem keys_length {κ α : Type} (d : List (κ × α)) : (keys d).length = d.length := List.length_map _
/-! ### _law_leaves -/
def leaves (b : Book) (lot : List (Str × Str)) : Bool := b.all fun r => r.2.2.isEmpty || !(keys r.2.2).all fun wd => decide ((r.1, wd) ∈ lot)
abbrev sp_l_leaves : Sp := Sp2 wP (glP pP) (fun wd lot => WfB wd.1 ∧ ∀ y ∈ lot, OkP y) (fun wd lot => bP (leaves wd.1 lot))
theorem look_at {b : Book} {i : Nat} {x : Str} (hn : (keys b).Nodup) (hx : (keys b)[i]? = some x) : b[i]? = some (x, look b x) := by
  unfold keys at hx
  obtain ⟨r, hr, e⟩ := nth_map hx
  subst e
  rw [hr]
  have hm : (r.1, r.2) ∈ b := List.mem_of_getElem? hr
  rw [look_of hn hm]
theorem mem_at {α : Type} {l : List α} {i : Nat} {x : α} (h : l[i]? = some x) : x ∈ l := List.mem_of_getElem? h
abbrev N_l_leaves : List Str := ["_law_world_here", "_law_some", "_law_state", "_law_turns_here", "_law_word_here"]
theorem nd_l_leaves : N_l_leaves.Nodup := by decide
theorem c_l_leaves (T : Tf w K mg) : C8.Cal P w K mg base 1 "_law_leaves" sp_l_leaves [] := by
  refine T.cal (d := d_l_leaves) (N := N_l_leaves) (ps := ["_law_world_here", "_law_some"]) 71 rfl rfl (by simp [fa, fa0, fa1, fa2, fa3]) rfl rfl (by decide +kernel) (len2 _ _) (fun _ _ _ _ _ _ us hl => match us, hl with | [_, _], _ => rfl) (fun f cdv A outer s H vs Q E hr hsp => ?_)
  obtain ⟨v_world, v_some, a_world, a_some, rfl, h_world, h_some, hok, hq⟩ := hsp
  refine ⟨_, (pss_cons (ps_for PassesOwn.never rfl (pi_keys (pe_ix (k_ix_list (K := K) rfl) (pv 0) pe_int (fun _ _ => rfl))) (pg_name (i := 2) nd_l_leaves rfl (Or.inr rfl))
    (pss_cons (ps_set (i := 3) nd_l_leaves rfl (Or.inl rfl) (pe_ix (k_ix_tup (K := K) rfl) (pe_dget (hu_of hr) (pe_ix (k_ix_list (K := K) rfl) (pv 0) pe_int (fun _ _ => rfl)) (pv 2) (fun _ _ => rfl)) pe_int (fun _ _ => rfl)))
    (pss_one (ps_if (PW.pt (pw_and (pt_cmpR (op_neE (hu0 hr)) (pv 3) pe_dnewK (nomark _)) (pw_and1 (pt_val (pe_callB (k_all (K := K) rfl rfl) (by rfl) T.n_all (by decide +kernel) (pa_cons (pe_fz (pe_lc (own := [("_law_word_here", 4)]) rfl nd_l_leaves (pi_keys (pv 3)) (blkOk_by (own := [("_law_word_here", 4)]) (by first | decide +kernel | rfl)) (fun _ _ _ _ _ => (pg_name (i := 4) nd_l_leaves rfl (Or.inl rfl))) (fun _ _ _ _ _ => pts_nil) (fun _ _ _ _ _ => (pe_cmpR (k_inD (K := K) rfl (hu65 hr)) (pe_tup (pa_cons (pv 2) (pa_cons (pv 4) pa_nil))) (pv 1) rfl)))) pa_nil)))))) (pss_one (ps_ret pe_bl))
    pss_nil))))
    (pss_one (ps_ret pe_bl))), ?_⟩
  refine ys_seq (ys_for (yi_keys (y_w0 (y_var rfl h_world))) fun H1 s1 => ⟨fun i σ' H' => (∃ a b c, σ' = [some v_world, some v_some, a, b, c]) ∧ Same H1 H' ∧ (a_world.1.take i).all (fun r => r.2.2.isEmpty || !(keys r.2.2).all fun wd => decide ((r.1, wd) ∈ a_some)) = true, ⟨⟨_, _, _, rfl⟩, Same.refl _, rfl⟩, fun i σ' H' p => up_same p.2.1, ?_, ?_⟩)
  · rintro i x σ' H' hx ⟨⟨a, b, c, rfl⟩, sH, pre⟩ v H2 s2 h_state
    have hk := mem_at hx
    have row := hok.1.at hk
    refine ys_seq (ys_set (y_r1 (y_dget (y_w0 (y_var rfl (up_ ((s1.trans sH).trans s2) h_world))) (y_var rfl h_state) hk)) fun v_turns H3 s3 h_turns => ?_)
    refine (ys_if (yt_and (yt_test (y_neE (y_var rfl h_turns))) fun b3 => (yt_b (y_cb b_all (y_fzl (yn_lc0 (r' := bP)  _ (yi_keys (y_var rfl h_turns)) (fun x2 m2 v2 H2 s2' h2 => bd1 ⟨rfl, yt_yes, fun e2 => (y_op (r_inP ⟨row.ok, ?_⟩ hok.2) (y_pair (ya_cons (y_var rfl (up_ (s3.trans s2') h_state)) (ya_cons (y_var rfl h2) ya_nil))) (y_var rfl (up_ ((((s1.trans sH).trans s2).trans s3).trans s2') h_some)))⟩)))))) (fun b4 H4 s4 => ?_) (fun b4 H4 s4 => ?_))
    · obtain ⟨t, ht, e⟩ := List.mem_map.mp m2
      rw [← e]
      exact row.words t ht
    · refine ys_ret y_bl fun v H5 s5 h => ?_
      refine hq v _ (((((s1.trans sH).trans s2).trans s3).trans s4).trans s5) (bP_eq ?_ h)
      unfold leaves
      rw [eq_comm, List.all_eq_false]
      refine ⟨_, look_mem hk, ?_⟩
      simpa [List.all_map, Function.comp_def] using b4
    · refine ⟨⟨_, _, _, rfl⟩, ((sH.trans s2).trans s3).trans s4, ?_⟩
      rw [take_one (look_at hok.1.nd hx), List.all_append, pre, Bool.true_and, List.all_cons, List.all_nil, Bool.and_true]
      rw [Bool.and_eq_false_iff] at b4
      rcases b4 with e | e
      · simp at e
        simp [e]
      · rw [List.all_map] at e
        rw [Bool.or_eq_true]
        right
        simpa [Function.comp_def] using e
  · rintro σ' H' ⟨⟨a, b, c, rfl⟩, sH, pre⟩
    refine nx_ (ys_ret y_bl fun v H5 s5 h => ?_)
    refine hq v _ ((s1.trans sH).trans s5) (bP_eq ?_ h)
    unfold leaves
    rw [keys_length, List.take_length] at pre
    rw [pre]
/-! ### _law_matched_by -/
abbrev Good := List (Str × List Str)
def mtB (g : Good) (e n : World') (p : Str × Str) : Bool :=
  if (look e.1 p.1).1 = (look n.1 p.2).1 then
    if (look e.1 p.1).1 = "says" then (keys (look n.1 p.2).2).all fun wd => has (look e.1 p.1).2 wd
    else decide ((look e.1 p.1).1 = "done") || (look g p.1).all fun wd => has (look n.1 p.2).2 wd
  else false
abbrev sp_l_matched_by : Sp := Sp4 (dP (lP sP)) wP wP pP (fun g e n p => p.1 ∈ keys e.1 ∧ p.2 ∈ keys n.1 ∧ p.1 ∈ keys g) (fun g e n p => bP (mtB g e n p))
abbrev N_l_matched_by : List Str := ["_law_good_here", "_law_elder", "_law_newer", "_law_pair", "_law_first", "_law_second", "_law_word_here"]
theorem nd_l_matched_by : N_l_matched_by.Nodup := by decide
theorem c_l_matched_by (T : Tf w K mg) : C8.Cal P w K mg base 1 "_law_matched_by" sp_l_matched_by [] := by
  refine T.cal (d := d_l_matched_by) (N := N_l_matched_by) (ps := ["_law_good_here", "_law_elder", "_law_newer", "_law_pair"]) 59 rfl rfl (by simp [fa, fa0, fa1, fa2, fa3]) rfl rfl (by decide +kernel) (len4 _ _ _ _) (fun _ _ _ _ _ _ us hl => match us, hl with | [_, _, _, _], _ => rfl) (fun f cdv A outer s H vs Q E hr hsp => ?_)
  obtain ⟨v_good, v_elder, v_newer, v_pair, a_good, a_elder, a_newer, a_pair, rfl, h_good, h_elder, h_newer, h_pair, hok, hq⟩ := hsp
  refine ⟨_, (pss_cons (ps_asg (pe_tup (pa_cons (pe_dget (hu_of hr) (pe_ix (k_ix_list (K := K) rfl) (pv 1) pe_int (fun _ _ => rfl)) (pe_ix (k_ix_tup (K := K) rfl) (pv 3) pe_int (fun _ _ => rfl)) (fun _ _ => rfl)) (pa_cons (pe_dget (hu_of hr) (pe_ix (k_ix_list (K := K) rfl) (pv 2) pe_int (fun _ _ => rfl)) (pe_ix (k_ix_tup (K := K) rfl) (pv 3) pe_int (fun _ _ => rfl)) (fun _ _ => rfl)) pa_nil))) (k_pg_tup (K := K) rfl rfl (pgs_cons (pg_name (i := 4) nd_l_matched_by rfl (Or.inr rfl)) (pgs_cons (pg_name (i := 5) nd_l_matched_by rfl (Or.inr rfl)) pgs_nil))))
    (pss_cons (ps_if (pt_cmpR op_ne (pe_ix (k_ix_tup (K := K) rfl) (pv 4) pe_int (fun _ _ => rfl)) (pe_ix (k_ix_tup (K := K) rfl) (pv 5) pe_int (fun _ _ => rfl)) (nomark _)) (pss_one (ps_ret pe_bl))
    pss_nil)
    (pss_cons (ps_if (pt_cmpR op_eq (pe_ix (k_ix_tup (K := K) rfl) (pv 4) pe_int (fun _ _ => rfl)) pe_str (nomark _)) (pss_one (ps_ret (pe_callB (k_all (K := K) rfl rfl) (by rfl) T.n_all (by decide +kernel) (pa_cons (pe_fz (pe_lc (own := [("_law_word_here", 6)]) rfl nd_l_matched_by (pi_keys (pe_ix (k_ix_tup (K := K) rfl) (pv 5) pe_int (fun _ _ => rfl))) (blkOk_by (own := [("_law_word_here", 6)]) (by first | decide +kernel | rfl)) (fun _ _ _ _ _ => (pg_name (i := 6) nd_l_matched_by rfl (Or.inl rfl))) (fun _ _ _ _ _ => pts_nil) (fun _ _ _ _ _ => (pe_cmp (pc_din (hu_of hr) (pv 6) (pe_ix (k_ix_tup (K := K) rfl) (pv 4) pe_int (fun _ _ => rfl))) rfl)))) pa_nil))))
    pss_nil)
    (pss_one (ps_ret (pe_or (pe_cmpR op_eq (pe_ix (k_ix_tup (K := K) rfl) (pv 4) pe_int (fun _ _ => rfl)) pe_str (nomark _)) (pe_one (pe_callB (k_all (K := K) rfl rfl) (by rfl) T.n_all (by decide +kernel) (pa_cons (pe_fz (pe_lc (own := [("_law_word_here", 6)]) rfl nd_l_matched_by (k_list (K := K) rfl (pe_dget (hu_of hr) (pv 0) (pe_ix (k_ix_tup (K := K) rfl) (pv 3) pe_int (fun _ _ => rfl)) (fun _ _ => rfl))) (blkOk_by (own := [("_law_word_here", 6)]) (by first | decide +kernel | rfl)) (fun _ _ _ _ _ => (pg_name (i := 6) nd_l_matched_by rfl (Or.inl rfl))) (fun _ _ _ _ _ => pts_nil) (fun _ _ _ _ _ => (pe_cmp (pc_din (hu_of hr) (pv 6) (pe_ix (k_ix_tup (K := K) rfl) (pv 5) pe_int (fun _ _ => rfl))) rfl)))) pa_nil))))))))), ?_⟩
  -- _law_first, _law_second = (_law_elder[0][_law_pair[0]], _law_newer[0][_law_pair[1]])
  refine ys_seq (ys_tup2 (y_tup (ya_cons (y_dget (y_w0 (y_var rfl h_elder)) (y_p0 (y_var rfl h_pair)) ?_) (ya_cons (y_dget (y_w0 (y_var rfl h_newer)) (y_p1 (y_var rfl h_pair)) ?_) ya_nil))) fun v_first v_second H1 s1 h_first h_second => ?_)
  · exact hok.1
  · exact hok.2.1
  -- if _law_first[0] != _law_second[0]
  refine ys_seq (ys_if (yt_test (y_op r_neS (y_r0 (y_var rfl h_first)) (y_r0 (y_var rfl h_second)))) (fun b2 H2 s2 => ?_) (fun b2 H2 s2 => ?_))
  · -- then
    -- return False
    refine ys_ret y_bl fun v H3 s3 h => ?_
    exact hq v _ ((s1.trans s2).trans s3) (by exact bP_eq (by unfold mtB; simp_all) h)
  -- if _law_first[0] == 'says'
  refine ys_seq (ys_if (yt_test (y_op r_eqS (y_r0 (y_var rfl (up_ s2 h_first))) y_str)) (fun b4 H4 s4 => ?_) (fun b4 H4 s4 => ?_))
  · -- then
    -- return all([_law_word_here in _law_first[1] for _law_word_here in _law_second[1]])
    refine ys_ret (y_cb b_all (y_fzl (yn_lc0 (r' := bP)  _ (yi_keys (y_r1 (y_var rfl (up_ (s2.trans s4) h_second)))) (fun x5 m5 v5 H5 s5 h5 => bd1 ⟨rfl, yt_yes, fun e5 => (y_din (y_var rfl h5) (y_r1 (y_var rfl (up_ ((s2.trans s4).trans s5) h_first))))⟩)))) fun v H6 s6 h => ?_
    exact hq v _ (((s1.trans s2).trans s4).trans s6) (by exact bP_eq (by unfold mtB; simp_all) h)
  -- return _law_first[0] == 'done' or all([_law_word_here in _law_second[1] for _law_word_here in _law_g
  refine ys_ret (y_or (y_op r_eqS (y_r0 (y_var rfl (up_ (s2.trans s4) h_first))) y_str) fun b8 => (y_cb b_all (y_fzl (yn_lc0 (r' := bP)  _ (yi_l (y_dget (y_var rfl (up_ ((s1.trans s2).trans s4) h_good)) (y_p0 (y_var rfl (up_ ((s1.trans s2).trans s4) h_pair))) ?_)) (fun x7 m7 v7 H7 s7 h7 => bd1 ⟨rfl, yt_yes, fun e7 => (y_din (y_var rfl h7) (y_r1 (y_var rfl (up_ ((s2.trans s4).trans s7) h_second))))⟩))))) fun v H9 s9 h => ?_
  · exact hok.2.2
  exact hq v _ (((s1.trans s2).trans s4).trans s9) (by exact bP_eq (by unfold mtB; simp_all) h)
/-! ### _law_steps_by -/
def spB (g : Good) (e n : World') (p : Str × Str) : List (Str × (Str × Str)) :=
  if (look e.1 p.1).1 = (look n.1 p.2).1 then ((look g p.1).filter fun wd => has (look n.1 p.2).2 wd).map fun wd => (wd, (look (look e.1 p.1).2 wd, look (look n.1 p.2).2 wd)) else []
abbrev sp_l_steps_by : Sp := Sp4 (dP (lP sP)) wP wP pP (fun g e n p => p.1 ∈ keys e.1 ∧ p.2 ∈ keys n.1 ∧ p.1 ∈ keys g ∧ (look g p.1).Nodup ∧ ∀ wd ∈ look g p.1, wd ∈ keys (look e.1 p.1).2) (fun g e n p => dP pP (spB g e n p))
abbrev N_l_steps_by : List Str := ["_law_good_here", "_law_elder", "_law_newer", "_law_pair", "_law_first", "_law_second", "_law_words_here", "_law_word_here"]
theorem nd_l_steps_by : N_l_steps_by.Nodup := by decide
theorem c_l_steps_by (T : Tf w K mg) : C8.Cal P w K mg base 1 "_law_steps_by" sp_l_steps_by [] := by
  refine T.cal (d := d_l_steps_by) (N := N_l_steps_by) (ps := ["_law_good_here", "_law_elder", "_law_newer", "_law_pair"]) 60 rfl rfl (by simp [fa, fa0, fa1, fa2, fa3]) rfl rfl (by decide +kernel) (len4 _ _ _ _) (fun _ _ _ _ _ _ us hl => match us, hl with | [_, _, _, _], _ => rfl) (fun f cdv A outer s H vs Q E hr hsp => ?_)
  obtain ⟨v_good, v_elder, v_newer, v_pair, a_good, a_elder, a_newer, a_pair, rfl, h_good, h_elder, h_newer, h_pair, hok, hq⟩ := hsp
  refine ⟨_, (pss_cons (ps_asg (pe_tup (pa_cons (pe_dget (hu_of hr) (pe_ix (k_ix_list (K := K) rfl) (pv 1) pe_int (fun _ _ => rfl)) (pe_ix (k_ix_tup (K := K) rfl) (pv 3) pe_int (fun _ _ => rfl)) (fun _ _ => rfl)) (pa_cons (pe_dget (hu_of hr) (pe_ix (k_ix_list (K := K) rfl) (pv 2) pe_int (fun _ _ => rfl)) (pe_ix (k_ix_tup (K := K) rfl) (pv 3) pe_int (fun _ _ => rfl)) (fun _ _ => rfl)) pa_nil))) (k_pg_tup (K := K) rfl rfl (pgs_cons (pg_name (i := 4) nd_l_steps_by rfl (Or.inr rfl)) (pgs_cons (pg_name (i := 5) nd_l_steps_by rfl (Or.inr rfl)) pgs_nil))))
    (pss_cons (ps_set (i := 6) nd_l_steps_by rfl (Or.inl rfl) (pe_ifExp (pt_cmpR op_eq (pe_ix (k_ix_tup (K := K) rfl) (pv 4) pe_int (fun _ _ => rfl)) (pe_ix (k_ix_tup (K := K) rfl) (pv 5) pe_int (fun _ _ => rfl)) (nomark _)) (pe_fz (pe_lc (own := [("_law_word_here", 7)]) rfl nd_l_steps_by (k_list (K := K) rfl (pe_dget (hu_of hr) (pv 0) (pe_ix (k_ix_tup (K := K) rfl) (pv 3) pe_int (fun _ _ => rfl)) (fun _ _ => rfl))) (blkOk_by (own := [("_law_word_here", 7)]) (by first | decide +kernel | rfl)) (fun _ _ _ _ _ => (pg_name (i := 7) nd_l_steps_by rfl (Or.inl rfl))) (fun _ _ _ _ _ => (pts_one (pt_cmp (pc_din (hu_of hr) (pv 7) (pe_ix (k_ix_tup (K := K) rfl) (pv 5) pe_int (fun _ _ => rfl))) rfl))) (fun _ _ _ _ _ => (pv 7)))) (pe_fz (pe_lst pa_nil))))
    (pss_one (ps_ret (pe_fz (pe_callTy (k_dictP (K := K) rfl rfl) (by rfl) T.n_dict (by decide +kernel) (pa_cons (pe_fz (pe_lc (own := [("_law_word_here", 7)]) rfl nd_l_steps_by (k_list (K := K) rfl (pv 6)) (blkOk_by (own := [("_law_word_here", 7)]) (by first | decide +kernel | rfl)) (fun _ _ _ _ _ => (pg_name (i := 7) nd_l_steps_by rfl (Or.inl rfl))) (fun _ _ _ _ _ => pts_nil) (fun _ _ _ _ _ => (pe_tup (pa_cons (pv 7) (pa_cons (pe_tup (pa_cons (pe_dget (hu_of hr) (pe_ix (k_ix_tup (K := K) rfl) (pv 4) pe_int (fun _ _ => rfl)) (pv 7) (fun _ _ => rfl)) (pa_cons (pe_dget (hu_of hr) (pe_ix (k_ix_tup (K := K) rfl) (pv 5) pe_int (fun _ _ => rfl)) (pv 7) (fun _ _ => rfl)) pa_nil))) pa_nil)))))) pa_nil))))))), ?_⟩
  -- _law_first, _law_second = (_law_elder[0][_law_pair[0]], _law_newer[0][_law_pair[1]])
  refine ys_seq (ys_tup2 (y_tup (ya_cons (y_dget (y_w0 (y_var rfl h_elder)) (y_p0 (y_var rfl h_pair)) ?_) (ya_cons (y_dget (y_w0 (y_var rfl h_newer)) (y_p1 (y_var rfl h_pair)) ?_) ya_nil))) fun v_first v_second H1 s1 h_first h_second => ?_)
  · exact hok.1
  · exact hok.2.1
  -- _law_words_here = [_law_word_here for _law_word_here in _law_good_here[_law_pair[0]] if _law_word_he
  refine ys_seq (ys_set (y_if (r := (lP sP)) (yt_test (y_op r_eqS (y_r0 (y_var rfl h_first)) (y_r0 (y_var rfl h_second)))) (fun c2 => (y_fzl (yn_lc (r' := sP) _ _ (yi_l (y_dget (y_var rfl (up_ s1 h_good)) (y_p0 (y_var rfl (up_ s1 h_pair))) ?_)) (fun x3 m3 v3 H3 s3 h3 => bd1 ⟨rfl, (yt_b (y_din (y_var rfl h3) (y_r1 (y_var rfl (up_ s3 h_second))))), fun e3 => (y_var rfl h3)⟩)))) (fun c2 => (y_fzl (yn_lsts yl_nil)))) fun v_words H4 s4 h_words => ?_)
  · exact hok.2.2.1
  -- return dict([(_law_word_here, (_law_first[1][_law_word_here], _law_second[1][_law_word_here])) for _
  refine ys_ret (y_fzD (yn_cb (b_dictP ?_) (y_fzl (yn_lc0 (r' := (itP pP))  _ (yi_l (y_var rfl h_words)) (fun x5 m5 v5 H5 s5 h5 => bd1 ⟨rfl, yt_yes, fun e5 => (y_it (ya_cons (y_var rfl h5) (ya_cons (y_pair (ya_cons (y_dget (y_r1 (y_var rfl (up_ (s4.trans s5) h_first))) (y_var rfl h5) ?_) (ya_cons (y_dget (y_r1 (y_var rfl (up_ (s4.trans s5) h_second))) (y_var rfl h5) ?_) ya_nil))) ya_nil)))⟩))))) fun v H6 s6 h => ?_
  · rw [keys_mk, List.map_id']
    split
    · rw [List.map_id']
      exact hok.2.2.2.1.filter _
    · exact List.nodup_nil
  · split at m5
    · rw [List.map_id'] at m5
      exact hok.2.2.2.2 _ (List.mem_filter.mp m5).1
    · cases m5
  · split at m5
    · rw [List.map_id'] at m5
      exact has_iff.mp (List.mem_filter.mp m5).2
    · cases m5
  exact hq v _ ((s1.trans s4).trans s6) (by exact P_eq (by unfold spB; rw [List.map_id']; by_cases e : (look a_elder.1 a_pair.1).1 = (look a_newer.1 a_pair.2).1 <;> simp [e]) h)
/-! ### _law_items -/
def itemsOf (b : Book) (kd : Str) : List (Str × Str) := (sortS (keys b)).flatMap fun st => if (look b st).1 = kd then (sortS (keys (look b st).2)).map fun wd => (st, wd) else []
theorem mem_sortS {x : Str} {l : List Str} : x ∈ sortS l ↔ x ∈ l := (sortS_perm l).mem_iff
abbrev sp_l_items : Sp := Sp2 wP sP (fun wd kd => WfB wd.1) (fun wd kd => lP pP (itemsOf wd.1 kd))
theorem items_len {b : Book} (h : WfB b) {kd : Str} : ∀ l : List Str, (∀ x ∈ l, x ∈ keys b) → (l.flatMap fun st => if (look b st).1 = kd then (sortS (keys (look b st).2)).map fun wd => (st, wd) else []).length ≤ l.length * 64
  | [], _ => by simp
  | x :: l, hl => by
    have ih := items_len h (kd := kd) l fun y hy => hl y (List.mem_cons_of_mem _ hy)
    have r := (h.at (hl x (List.mem_cons_self ..))).len
    have r : (look b x).2.length < 64 := r
    rw [List.flatMap_cons, List.length_append, List.length_cons]
    split
    · rw [List.length_map, (sortS_perm _).length_eq, keys_length]
      omega
    · rw [List.length_nil]
      omega
abbrev N_l_items : List Str := ["_law_world_here", "_law_kind", "_law_found", "_law_state", "_law_word_here"]
theorem nd_l_items : N_l_items.Nodup := by decide
theorem c_l_items (T : Tf w K mg) : C8.Cal P w K mg base 1 "_law_items" sp_l_items [] := by
  refine T.cal (d := d_l_items) (N := N_l_items) (ps := ["_law_world_here", "_law_kind"]) 68 rfl rfl (by simp [fa, fa0, fa1, fa2, fa3]) rfl rfl (by decide +kernel) (len2 _ _) (fun _ _ _ _ _ _ us hl => match us, hl with | [_, _], _ => rfl) (fun f cdv A outer s H vs Q E hr hsp => ?_)
  obtain ⟨v_world, v_kind, a_world, a_kind, rfl, h_world, h_kind, hok, hq⟩ := hsp
  refine ⟨_, (pss_cons (ps_set (i := 2) nd_l_items rfl (Or.inl rfl) (pe_fz (pe_lst pa_nil)))
    (pss_cons (ps_for PassesOwn.never rfl (k_list (K := K) rfl (pe_fz (pe_callB (call_sortedD rfl) (by rfl) T.n_sorted (by decide +kernel) (pa_cons (pe_ix (k_ix_list (K := K) rfl) (pv 0) pe_int (fun _ _ => rfl)) pa_nil)))) (pg_name (i := 3) nd_l_items rfl (Or.inr rfl))
    (pss_one (ps_if (pt_cmpR op_eq (pe_ix (k_ix_tup (K := K) rfl) (pe_dget (hu_of hr) (pe_ix (k_ix_list (K := K) rfl) (pv 0) pe_int (fun _ _ => rfl)) (pv 3) (fun _ _ => rfl)) pe_int (fun _ _ => rfl)) (pv 1) (nomark _)) (pss_one (ps_set (i := 2) nd_l_items rfl (Or.inl rfl) (pe_fz (pe_op op_catS (pv 2) (pe_fz (pe_lc (own := [("_law_word_here", 4)]) rfl nd_l_items (k_list (K := K) rfl (pe_fz (pe_callB (call_sortedD rfl) (by rfl) T.n_sorted (by decide +kernel) (pa_cons (pe_ix (k_ix_tup (K := K) rfl) (pe_dget (hu_of hr) (pe_ix (k_ix_list (K := K) rfl) (pv 0) pe_int (fun _ _ => rfl)) (pv 3) (fun _ _ => rfl)) pe_int (fun _ _ => rfl)) pa_nil)))) (blkOk_by (own := [("_law_word_here", 4)]) (by first | decide +kernel | rfl)) (fun _ _ _ _ _ => (pg_name (i := 4) nd_l_items rfl (Or.inl rfl))) (fun _ _ _ _ _ => pts_nil) (fun _ _ _ _ _ => (pe_tup (pa_cons (pv 3) (pa_cons (pv 4) pa_nil))))))))))
    pss_nil)))
    (pss_one (ps_ret (pv 2))))), ?_⟩
  refine ys_seq (ys_set (y_fzl (yn_lsts (r := pP) yl_nil)) fun v_found H0 s0 h_found => ?_)
  refine ys_seq (ys_for (yi_l (y_fzl (yn_cb (b_sortedD hok.len) (y_w0 (y_var rfl (up_ s0 h_world)))))) fun H1 s1 => ⟨fun i σ' H' => (∃ f a b, σ' = [some v_world, some v_kind, some f, a, b] ∧
      lP pP (((sortS (keys a_world.1)).take i).flatMap fun st => if (look a_world.1 st).1 = a_kind then (sortS (keys (look a_world.1 st).2)).map fun wd => (st, wd) else []) f H') ∧ Same H1 H',
      ⟨⟨_, _, _, rfl, up_ s1 h_found⟩, Same.refl _⟩, fun i σ' H' p => up_same p.2, ?_, ?_⟩)
  · rintro i x σ' H' hx ⟨⟨f', a, b, rfl, h_found⟩, sH⟩ v H2 s2 h_state
    have hk := mem_sortS.mp (mem_at hx)
    have row := hok.at hk
    have z := items_len hok (kd := a_kind) ((sortS (keys a_world.1)).take i) fun y hy => mem_sortS.mp (List.mem_of_mem_take hy)
    have z2 : ((sortS (keys a_world.1)).take i).length ≤ 64 := by
      have := hok.len
      rw [List.length_take, (sortS_perm _).length_eq, keys_length]
      omega
    refine (ys_if (yt_test (y_op r_eqS (y_r0 (y_dget (y_w0 (y_var rfl (up_ (((s0.trans s1).trans sH).trans s2) h_world))) (y_var rfl h_state) hk)) (y_var rfl (up_ (((s0.trans s1).trans sH).trans s2) h_kind)))) (fun b2 H3 s3 => ?_) (fun b2 H3 s3 => ?_))
    · have e := of_decide_eq_true b2
      refine (ys_set (y_fzl (yn_catl (y_var rfl (up_ (s2.trans s3) h_found)) (y_fzl (yn_lc0 (r' := pP)  _ (yi_l (y_fzl (yn_cb (b_sortedD row.len) (y_r1 (y_dget (y_w0 (y_var rfl (up_ ((((s0.trans s1).trans sH).trans s2).trans s3) h_world))) (y_var rfl (up_ s3 h_state)) hk))))) (fun x3 m3 v3 H3 s3' h3 => bd1 ⟨rfl, yt_yes, fun e3 => (y_pair (ya_cons (y_var rfl (up_ (s3.trans s3') h_state)) (ya_cons (y_var rfl h3) ya_nil)))⟩))) ?_)) fun v_found H4 s4 h_found => ?_)
      · rw [List.length_map, (sortS_perm _).length_eq, keys_length, sizeLine_eq]
        have := row.len
        have : (look a_world.1 x).2.length < 64 := this
        omega
      · refine ⟨⟨_, _, _, rfl, P_eq ?_ h_found⟩, ((sH.trans s2).trans s3).trans s4⟩
        rw [take_one hx, List.flatMap_append, List.flatMap_cons, List.flatMap_nil, List.append_nil, if_pos e]
    · have e := of_decide_eq_false b2
      refine ⟨⟨_, _, _, rfl, P_eq ?_ (up_ (s2.trans s3) h_found)⟩, (sH.trans s2).trans s3⟩
      rw [take_one hx, List.flatMap_append, List.flatMap_cons, List.flatMap_nil, List.append_nil, if_neg e, List.append_nil]
  · rintro σ' H' ⟨⟨f', a, b, rfl, h_found⟩, sH⟩
    refine nx_ (ys_ret (y_var rfl h_found) fun v H5 s5 h => ?_)
    refine hq v _ (((s0.trans s1).trans sH).trans s5) (P_eq ?_ h)
    rw [List.take_length]
    rfl
end En
set_option maxHeartbeats 4000000
/-! The mathematics: greatest sets whose members come near a base within the set; viable states, matched pairs, lost pairs. -/
namespace En
open PySem
structure Fix (α : Type) where
  base : α → Prop
  uni : α → Prop
  lo : α → Prop
  succ : α → List α
section
variable {α : Type} {D : Fix α} {L M R : α → Prop} {x : α}
inductive Near (D : Fix α) (L : α → Prop) : α → Prop
  | base {x : α} : L x → D.base x → Near D L x
  | lo {x : α} : L x → (D.uni x → ∀ y ∈ D.succ x, L y) → D.lo x → Near D L x
  | step {x y : α} : L x → (D.uni x → ∀ y ∈ D.succ x, L y) → y ∈ D.succ x → Near D L y → Near D L x
theorem Near.sub (h : Near D L x) : L x := by cases h <;> assumption
theorem Near.mono (h : Near D L x) (s : ∀ x, L x → M x) : Near D M x := by
  induction h with
  | base h1 h2 => exact .base (s _ h1) h2
  | lo h1 h2 h3 => exact .lo (s _ h1) (fun u y hy => s _ (h2 u y hy)) h3
  | step h1 h2 h3 _ ih => exact .step (s _ h1) (fun u y hy => s _ (h2 u y hy)) h3 ih
def Cond (D : Fix α) (L R : α → Prop) (x : α) : Prop := D.base x ∨ ((D.uni x → ∀ y ∈ D.succ x, L y) ∧ (D.lo x ∨ ∃ y ∈ D.succ x, R y))
theorem Near.intro (h : L x) (c : Cond D L (Near D L) x) : Near D L x := by
  rcases c with c | ⟨c, d | ⟨y, hy, d⟩⟩
  · exact .base h c
  · exact .lo h c d
  · exact .step h c hy d
/-- what is closed under the rule holds all that is near -/
theorem Near.closed (c : ∀ x, L x → Cond D L R x → R x) (h : Near D L x) : R x := by
  induction h with
  | base h1 h2 => exact c _ h1 (.inl h2)
  | lo h1 h2 h3 => exact c _ h1 (.inr ⟨h2, .inl h3⟩)
  | step h1 h2 h3 _ ih => exact c _ h1 (.inr ⟨h2, .inr ⟨_, h3, ih⟩⟩)
def Gfp (D : Fix α) (x : α) : Prop := ∃ L : α → Prop, L x ∧ ∀ y, L y → Near D L y
theorem Gfp.of (h : ∀ y, L y → Near D L y) (hx : L x) : Gfp D x := ⟨L, hx, h⟩
theorem Gfp.near (h : Gfp D x) : Near D (Gfp D) x := by
  obtain ⟨L, hx, hL⟩ := h
  exact (hL x hx).mono fun y hy => ⟨L, hy, hL⟩
/-- within a set that is closed under the steps of what is no base -/
theorem Gfp.within {C : α → Prop} (cl : ∀ x, C x → ¬ D.base x → ∀ y ∈ D.succ x, C y) (hC : C x) (h : Gfp D x) : ∃ L : α → Prop, L x ∧ (∀ y, L y → C y) ∧ ∀ y, L y → Near D L y := by
  refine ⟨fun y => C y ∧ Gfp D y, ⟨hC, h⟩, fun y hy => hy.1, fun y hy => ?_⟩
  have key : ∀ z, Near D (Gfp D) z → C z → Near D (fun y => C y ∧ Gfp D y) z := by
    intro z hz
    induction hz with
    | @base x h1 h2 => exact fun c => .base ⟨c, h1⟩ h2
    | @lo x h1 h2 h3 =>
      intro c
      by_cases hb : D.base x
      · exact .base ⟨c, h1⟩ hb
      · exact .lo ⟨c, h1⟩ (fun u y hy => ⟨cl _ c hb y hy, h2 u y hy⟩) h3
    | @step x y h1 h2 h3 _ ih =>
      intro c
      by_cases hb : D.base x
      · exact .base ⟨c, h1⟩ hb
      · exact .step ⟨c, h1⟩ (fun u y hy => ⟨cl _ c hb y hy, h2 u y hy⟩) h3 (ih (cl _ c hb y h3))
  exact key y hy.2.near hy.1
theorem Near.congr {D' : Fix α} (hb : ∀ x, L x → (D.base x ↔ D'.base x)) (hc : ∀ x, L x → ¬ D.base x → ((D.uni x ↔ D'.uni x) ∧ (D.lo x ↔ D'.lo x) ∧ ∀ y, y ∈ D.succ x ↔ y ∈ D'.succ x)) (h : Near D L x) : Near D' L x := by
  induction h with
  | base h1 h2 => exact .base h1 ((hb _ h1).mp h2)
  | @lo x h1 h2 h3 =>
    by_cases b : D.base x
    · exact .base h1 ((hb _ h1).mp b)
    · obtain ⟨e1, e2, e3⟩ := hc x h1 b
      exact .lo h1 (fun u y hy => h2 (e1.mpr u) y ((e3 y).mpr hy)) (e2.mp h3)
  | @step x y h1 h2 h3 _ ih =>
    by_cases b : D.base x
    · exact .base h1 ((hb _ h1).mp b)
    · obtain ⟨e1, e2, e3⟩ := hc x h1 b
      exact .step h1 (fun u y hy => h2 (e1.mpr u) y ((e3 y).mpr hy)) ((e3 y).mp h3) ih
/-- from x, step by step -/
inductive Reach (succ : α → List α) (x : α) : α → Prop
  | refl : Reach succ x x
  | tail {y z : α} : Reach succ x y → z ∈ succ y → Reach succ x z
end
/-! ### the statement's notions -/
/-- viable states -/
def viaD (b : Book) : Fix Str := ⟨fun s => (look b s).1 = "done", fun s => (look b s).1 = "says", fun _ => False, fun s => (look b s).2.map (·.2)⟩
def Via (b : Book) (s : Str) : Prop := Gfp (viaD b) s
open Classical in
noncomputable def viaL (b : Book) : List Str := sortS ((keys b).filter fun s => decide (Via b s))
theorem look_default {κ α : Type} [DecidableEq κ] [Inhabited α] : ∀ {d : List (κ × α)} {k : κ}, k ∉ keys d → look d k = default
  | [], _, _ => rfl
  | x :: d, k, h => by
    have h' : ¬ (k = x.1 ∨ k ∈ keys d) := fun z => h (List.mem_cons.mpr z)
    unfold look
    rw [if_neg fun z => h' (.inl z.symm)]
    exact look_default fun z => h' (.inr z)
theorem Via.key {b : Book} {s : Str} (h : Via b s) : s ∈ keys b := by
  apply Classical.byContradiction
  intro hn
  have e := look_default hn
  cases h.near with
  | base _ h2 =>
    have h2 : (look b s).1 = "done" := h2
    rw [e] at h2
    exact absurd h2 (by decide)
  | lo _ _ h3 => exact h3.elim
  | step _ _ h3 _ =>
    have h3 : _ ∈ (look b s).2.map (·.2) := h3
    rw [e] at h3
    cases h3
theorem mem_viaL {b : Book} {s : Str} : s ∈ viaL b ↔ Via b s := by
  unfold viaL
  rw [mem_sortS, List.mem_filter]
  exact ⟨fun h => @of_decide_eq_true _ (Classical.propDecidable _) h.2, fun h => ⟨h.key, @decide_eq_true _ (Classical.propDecidable _) h⟩⟩
/-- the words that may be heard to an end, all words that are said -/
noncomputable def goodW (b : Book) (s : Str) : List Str := sortS ((keys (look b s).2).filter fun wd => decide ((look b s).1 = "says") || decide (look (look b s).2 wd ∈ viaL b))
noncomputable def mt (e n : Book) (p : Str × Str) : Bool :=
  if (look e p.1).1 = (look n p.2).1 then
    if (look e p.1).1 = "says" then (keys (look n p.2).2).all fun wd => has (look e p.1).2 wd
    else decide ((look e p.1).1 = "done") || (goodW e p.1).all fun wd => has (look n p.2).2 wd
  else false
noncomputable def stp (e n : Book) (p : Str × Str) : List (Str × (Str × Str)) :=
  if (look e p.1).1 = (look n p.2).1 then ((goodW e p.1).filter fun wd => has (look n p.2).2 wd).map fun wd => (wd, (look (look e p.1).2 wd, look (look n p.2).2 wd)) else []
noncomputable def led (e n : Book) (p : Str × Str) : List (Str × Str) := if mt e n p then (stp e n p).map (·.2) else []
/-- the common pairs -/
def Com (e n : World') (p : Str × Str) : Prop := Reach (led e.1 n.1) (e.2, n.2) p
noncomputable def lostD (e n : Book) : Fix (Str × Str) := ⟨fun p => mt e n p = false, fun p => (look e p.1).1 = "says", fun p => (look e p.1).1 = "says" ∧ (look e p.1).2.length > (look n p.2).2.length, fun p => (stp e n p).map (·.2)⟩
/-- n stands for e -/
def Stands (e n : World') : Prop := Via e.1 e.2 → ∀ p, Com e n p → ¬ Gfp (lostD e.1 n.1) p
open Classical in
noncomputable def standsB (e n : World') : Bool := decide (Stands e n)
end En
set_option maxHeartbeats 4000000
/-! _law_viable. -/
namespace En
open PySem PySem.Spec PyProof.Rows L2
variable {P : Program} {w : World} {K : PySem.W.Frag} {mg : Str → Option Value} {base : Heap}
theorem not_mem_take {α : Type} {l : List α} {i : Nat} {x : α} (hn : l.Nodup) (hx : l[i]? = some x) : x ∉ l.take i := by
  intro hm
  have h1 := hn.sublist (List.take_sublist (i + 1) l)
  rw [take_one hx] at h1
  exact (List.nodup_append.mp h1).2.2 x hm x (List.mem_singleton.mpr rfl) rfl
section
variable {σ : L2.St} {H : Hp} {D : Ends} {ta tb : TE} {i j : Nat}
theorem ys_parN {R : HO → Hp → Prop} {Pb : Pr} (y1 : Yn ta σ H R) (y2 : Y tb σ H Pb) (q : ∀ p H2 H3 u v', Same H H2 → H p = none → H2 p = some u → R u H2 → Same H2 H3 → Pb v' H3 → D.nx ((σ.set i (some (.ref p))).set j (some v')) H3) : tPar i j (tCons ta (tCons tb tNil)) D σ H :=
  y1 H (Same.refl _) _ fun p H2 u s2 n e r => y2 H2 s2 _ fun v' H3 s3 pb => ⟨_, _, rfl, q p H2 H3 u v' s2 n e r s3 pb⟩
theorem oneq {P : Addr → Prop} {p : Addr} (h : P p) : ∀ q ∈ [p], P q := fun q hq => by rw [List.mem_singleton.mp hq]; exact h
end
theorem len_sub {α : Type} [DecidableEq α] : ∀ {l m : List α}, l.Nodup → (∀ x ∈ l, x ∈ m) → l.length ≤ m.length
  | [], m, _, _ => Nat.zero_le _
  | x :: l, m, hn, hs => by
    have hn' := List.nodup_cons.mp hn
    have hx := hs x (List.mem_cons_self ..)
    have ih := len_sub (l := l) (m := m.erase x) hn'.2 fun y hy => by
      rw [List.mem_erase_of_ne (fun e => hn'.1 (by rw [← e]; exact hy))]
      exact hs y (List.mem_cons_of_mem _ hy)
    rw [List.length_erase_of_mem hx] at ih
    have := List.length_pos_of_mem hx
    rw [List.length_cons]
    omega
/-- as long, and within: the same members -/
theorem sub_eq {α : Type} [DecidableEq α] {l m : List α} (hn : l.Nodup) (hm : m.Nodup) (hs : ∀ x ∈ l, x ∈ m) (hl : l.length = m.length) : ∀ x ∈ m, x ∈ l := fun x hx => by
  apply Classical.byContradiction
  intro hxl
  have h := len_sub (l := x :: l) (m := m) (List.nodup_cons.mpr ⟨hxl, hn⟩) fun y hy => by
    rcases List.mem_cons.mp hy with e | hy
    · rw [e]; exact hx
    · exact hs y hy
  rw [List.length_cons] at h
  omega
theorem mx_p {ps qs : List Addr} {H H' : Hp} (h : Mx ps H H') (s : ∀ p ∈ ps, p ∈ qs) : Mx qs H H' := fun b o n e => h b o (fun z => n (s b z)) e
section
variable {σ : L2.St} {H : Hp} {D : Ends} {ta tb tc : TE} {i j l : Nat}
theorem ys_tupN {R : HO → Hp → Prop} {Pb : Pr} [s : Sts Pb] (y1 : Yn ta σ H R) (y2 : Y tb σ H Pb) (q : ∀ p H2 H3 u v', Same H H2 → H p = none → H2 p = some u → R u H2 → Same H2 H3 → Pb v' H3 → D.nx ((σ.set i (some (.ref p))).set j (some v')) H3) :
    tAsg (tTup (tCons ta (tCons tb tNil))) (gTup K 2 (gCons (gName i) (gCons (gName j) gNil))) D σ H :=
  y1 H (Same.refl _) _ fun p H2 u s2 n e r => y2 H2 s2 _ fun v' H3 s3 pb => ⟨by rw [sizeLine_eq]; simp, fun p' hp' => ⟨p', _, rfl, SqT.of L2.upd_same, rfl, _, _, rfl, _, _, rfl, rfl, q p H2 _ u v' s2 n e r (s3.trans (same_new _ hp')) (s.same (same_new _ hp') pb)⟩⟩
end
/-- which states a pass adds -/
def viaC (b : Book) (L N : List Str) (s : Str) : Bool := decide ((look b s).1 = "done") || (((look b s).2.map (·.2)).any fun g => decide (g ∈ N)) && (decide ((look b s).1 = "hears") || ((look b s).2.map (·.2)).all fun g => decide (g ∈ L))
theorem viaC_iff {b : Book} (h : WfB b) {L N : List Str} {s : Str} (hs : s ∈ keys b) : viaC b L N s = true ↔ Cond (viaD b) (· ∈ L) (· ∈ N) s := by
  have hk := (h.at hs).kind
  have hk : (look b s).1 = "says" ∨ (look b s).1 = "hears" ∨ (look b s).1 = "done" := by
    have : (look b s).1 ∈ (["says", "hears", "done"] : List Str) := hk
    simpa using this
  unfold viaC Cond viaD
  simp only [Bool.or_eq_true, Bool.and_eq_true, decide_eq_true_eq, List.any_eq_true, List.all_eq_true, false_or]
  constructor
  · rintro (h1 | ⟨⟨g, h2, h3⟩, h4⟩)
    · exact .inl h1
    · refine .inr ⟨fun hsay => ?_, g, h2, h3⟩
      rcases h4 with h4 | h4
      · rw [hsay] at h4
        exact absurd h4 (by decide)
      · exact h4
  · rintro hc
    by_cases hd : (look b s).1 = "done"
    · exact .inl hd
    · rcases hc with h1 | ⟨h2, g, h3, h4⟩
      · exact .inl h1
      · refine .inr ⟨⟨g, h3, h4⟩, ?_⟩
        rcases hk with hk | hk | hk
        · exact .inr (h2 hk)
        · exact .inl hk
        · exact absurd hk hd
/-- the set within a pass -/
structure VN (b : Book) (L : List Str) (N : List Str) : Prop where
  nd : N.Nodup
  near : ∀ s ∈ N, Near (viaD b) (· ∈ L) s
theorem VN.sub {b : Book} {L N : List Str} (h : VN b L N) : ∀ s ∈ N, s ∈ L := fun s hs => (h.near s hs).sub
structure VL' (b : Book) (L : List Str) : Prop where
  nd : L.Nodup
  sub : ∀ s ∈ L, s ∈ keys b
  via : ∀ s, Via b s → s ∈ L
theorem VN.full {b : Book} {L N : List Str} (hb : WfB b) (hL : VL' b L) (h : VN b L N) (c : ∀ s ∈ L, s ∉ N → viaC b L N s = false) (s : Str) : s ∈ N ↔ Near (viaD b) (· ∈ L) s := by
  refine ⟨h.near s, Near.closed (R := (· ∈ N)) fun x hx hc => ?_⟩
  apply Classical.byContradiction
  intro hn
  have h1 := c x hx hn
  rw [(viaC_iff hb (hL.sub x hx)).mpr hc] at h1
  cases h1
theorem perm_of {α : Type} [DecidableEq α] {l m : List α} (hn : l.Nodup) (hm : m.Nodup) (h : ∀ x, x ∈ l ↔ x ∈ m) : l.Perm m := by
  rw [List.perm_iff_count]
  intro a
  rw [hn.count, hm.count]
  simp [h a]
theorem sortS_of' {l m : List Str} (p : l.Perm m) : sortS l = sortS m := sort_uniq leS_anti (((sortS_perm l).trans p).trans (sortS_perm m).symm) (sortS_sorted l) (sortS_sorted m)
theorem map_look {α : Type} [Inhabited α] {d : List (Str × α)} (h : (keys d).Nodup) : (keys d).map (fun x => look d x) = d.map (·.2) := by
  unfold keys
  rw [List.map_map]
  exact List.map_congr_left fun r hr => look_of h (show (r.1, r.2) ∈ d from hr)
theorem Y_eq {α : Type} {r : α → Pr} {a b : α} {t : TE} {σ : L2.St} {H : Hp} (e : a = b) (y : Y t σ H (r a)) : Y t σ H (r b) := e ▸ y
noncomputable abbrev sp_l_viable : Sp := Sp1 wP (fun wd => WfB wd.1) (fun wd => lP sP (viaL wd.1))
abbrev N_l_viable : List Str := ["_law_world_here", "_law_state", "_law_kept", "_law_turn", "_law_near", "_law_many", "_law_kind", "_law_turns_here", "_law_goals", "_law_is_near", "_law_word_here", "_law_goal"]
theorem nd_l_viable : N_l_viable.Nodup := by decide
theorem c_l_viable (T : Tf w K mg) : C8.Cal P w K mg base 1 "_law_viable" sp_l_viable [] := by
  refine T.cal (d := d_l_viable) (N := N_l_viable) (ps := ["_law_world_here"]) 56 rfl rfl (by simp [fa, fa0, fa1, fa2, fa3]) rfl rfl (by decide +kernel) (len1 _) (fun _ _ _ _ _ _ us hl => match us, hl with | [_], _ => rfl) (fun f cdv A outer s H vs Q E hr hsp => ?_)
  obtain ⟨v_world, a_world, rfl, h_world, hok, hq⟩ := hsp
  refine ⟨_, (pss_cons (ps_set (i := 2) nd_l_viable rfl (Or.inr rfl) (pe_fz (pe_callTy (k_dictP (K := K) rfl rfl) (by rfl) T.n_dict (by decide +kernel) (pa_cons (pe_fz (pe_lc (own := [("_law_state", 1)]) rfl nd_l_viable (pi_keys (pe_ix (k_ix_list (K := K) rfl) (pv 0) pe_int (fun _ _ => rfl))) (blkOk_by (own := [("_law_state", 1)]) (by first | decide +kernel | rfl)) (fun _ _ _ _ _ => (pg_name (i := 1) nd_l_viable rfl (Or.inl rfl))) (fun _ _ _ _ _ => pts_nil) (fun _ _ _ _ _ => (pe_tup (pa_cons (pv 1) (pa_cons pe_bl pa_nil)))))) pa_nil))))
    (pss_cons (ps_for PassesOwn.never rfl (pi_range1 rfl T.n_range (pa_cons (pe_op op_add (pe_callB (k_lenA (K := K) rfl) (by rfl) T.n_len (by decide +kernel) (pa_cons (pe_ix (k_ix_list (K := K) rfl) (pv 0) pe_int (fun _ _ => rfl)) pa_nil)) pe_int) pa_nil)) (pg_name (i := 3) nd_l_viable rfl (Or.inl rfl))
    (pss_cons (ps_asg (pe_tup (pa_cons pe_dnewK (pa_cons (pe_un un_neg pe_int) pa_nil))) (k_pg_tup (K := K) rfl rfl (pgs_cons (pg_name (i := 4) nd_l_viable rfl (Or.inr rfl)) (pgs_cons (pg_name (i := 5) nd_l_viable rfl (Or.inl rfl)) pgs_nil))))
    (pss_cons (ps_while PassesOwn.never (pt_cmpR op_lt (pv 5) (pe_callB (k_lenA (K := K) rfl) (by rfl) T.n_len (by decide +kernel) (pa_cons (pv 4) pa_nil)) (nomark _))
    (pss_cons (ps_set (i := 5) nd_l_viable rfl (Or.inl rfl) (pe_callB (k_lenA (K := K) rfl) (by rfl) T.n_len (by decide +kernel) (pa_cons (pv 4) pa_nil)))
    (pss_one (ps_for PassesOwn.never rfl (k_list (K := K) rfl (pe_fz (pe_lc (own := [("_law_state", 1)]) rfl nd_l_viable (pi_keys (pv 2)) (blkOk_by (own := [("_law_state", 1)]) (by first | decide +kernel | rfl)) (fun _ _ _ _ _ => (pg_name (i := 1) nd_l_viable rfl (Or.inl rfl))) (fun _ _ _ _ _ => (pts_one (pt_cmp (pc_dnotin (hu_of hr) (pv 1) (pv 4)) rfl))) (fun _ _ _ _ _ => (pv 1))))) (pg_name (i := 1) nd_l_viable rfl (Or.inl rfl))
    (pss_cons (ps_asg (pe_dget (hu_of hr) (pe_ix (k_ix_list (K := K) rfl) (pv 0) pe_int (fun _ _ => rfl)) (pv 1) (fun _ _ => rfl)) (k_pg_tup (K := K) rfl rfl (pgs_cons (pg_name (i := 6) nd_l_viable rfl (Or.inl rfl)) (pgs_cons (pg_name (i := 7) nd_l_viable rfl (Or.inr rfl)) pgs_nil))))
    (pss_cons (ps_setLcF (i := 8) (own := [("_law_word_here", 10)]) rfl nd_l_viable rfl rfl (sw_true rfl rfl rfl (by decide +kernel)) (pi_keys (pv 7)) (blkOk_by (own := [("_law_word_here", 10)]) (by first | decide +kernel | rfl)) (fun _ _ _ _ _ => (pg_name (i := 10) nd_l_viable rfl (Or.inl rfl))) (fun _ _ _ _ _ => pts_nil) (fun _ _ _ _ _ => (pe_dget (hu_of hr) (pv 7) (pv 10) (fun _ _ => rfl))))
    (pss_cons (ps_set (i := 9) nd_l_viable rfl (Or.inl rfl) (pe_callB (k_any (K := K) rfl rfl) (by rfl) T.n_any (by decide +kernel) (pa_cons (pe_fz (pe_lc (own := [("_law_goal", 11)]) rfl nd_l_viable (k_list (K := K) rfl (pv 8)) (blkOk_by (own := [("_law_goal", 11)]) (by first | decide +kernel | rfl)) (fun _ _ _ _ _ => (pg_name (i := 11) nd_l_viable rfl (Or.inl rfl))) (fun _ _ _ _ _ => pts_nil) (fun _ _ _ _ _ => (pe_cmp (pc_din (hu_of hr) (pv 11) (pv 4)) rfl)))) pa_nil)))
    (pss_one (ps_if (PW.pt (pw_or (pt_cmpR op_eq (pv 6) pe_str (nomark _)) (pw_or1 (PW.pt (pw_and (pt_val (pv 9)) (pw_and1 (PW.pt (pw_or (pt_cmpR op_eq (pv 6) pe_str (nomark _)) (pw_or1 (pt_val (pe_callB (k_all (K := K) rfl rfl) (by rfl) T.n_all (by decide +kernel) (pa_cons (pe_fz (pe_lc (own := [("_law_goal", 11)]) rfl nd_l_viable (k_list (K := K) rfl (pv 8)) (blkOk_by (own := [("_law_goal", 11)]) (by first | decide +kernel | rfl)) (fun _ _ _ _ _ => (pg_name (i := 11) nd_l_viable rfl (Or.inl rfl))) (fun _ _ _ _ _ => pts_nil) (fun _ _ _ _ _ => (pe_cmp (pc_din (hu_of hr) (pv 11) (pv 2)) rfl)))) pa_nil)))))))))))) (pss_one (ps_dput (hu_of hr) (pv 4) (pv 1) pe_bl rfl))
    pss_nil)))))))))
    (pss_cons (ps_if (pt_cmpR op_eq (pe_callB (k_lenA (K := K) rfl) (by rfl) T.n_len (by decide +kernel) (pa_cons (pv 4) pa_nil)) (pe_callB (k_lenA (K := K) rfl) (by rfl) T.n_len (by decide +kernel) (pa_cons (pv 2) pa_nil)) (nomark _)) (pss_one (ps_ret (pe_fz (pe_callB (call_sortedD rfl) (by rfl) T.n_sorted (by decide +kernel) (pa_cons (pv 4) pa_nil)))))
    pss_nil)
    (pss_one (ps_set (i := 2) nd_l_viable rfl (Or.inr rfl) (pe_fz (pv 4))))))))
    (pss_one (ps_ret (pe_fz (pe_callB (call_sortedD rfl) (by rfl) T.n_sorted (by decide +kernel) (pa_cons (pv 2) pa_nil))))))), ?_⟩
  have nb := hok.nd
  refine ys_seq (ys_set (y_fzD (yn_cb (b_dictP ?_) (y_fzl (yn_lc0 (r' := (itP bP))  _ (yi_keys (y_w0 (y_var rfl h_world))) (fun x1 m1 v1 H1 s1 h1 => bd1 ⟨rfl, yt_yes, fun e1 => (y_it (ya_cons (y_var rfl h1) (ya_cons y_bl ya_nil)))⟩))))) fun v_kept H2 s2 h_kept => ?_)
  · rw [keys_mk, List.map_id']
    exact nb
  have hlen := hok.len
  refine ys_seq (ys_for (yi_range1 (n := a_world.1.length + 1) (y_op r_add (y_lenD (y_w0 (y_var rfl (up_ s2 h_world)))) y_int) (by omega)) fun H3 s3 => ⟨fun i σ' H' => ∃ (kp : V) (d : List (Str × Bool)) (c1 c3 c4 c5 c6 c7 c8 c9 c10 c11 : Option V), σ' = [some v_world, c1, some kp, c3, c4, c5, c6, c7, c8, c9, c10, c11] ∧ Same H3 H' ∧ dP bP d kp H' ∧ VL' a_world.1 (keys d) ∧ d.length + i ≤ a_world.1.length,
    ⟨v_kept, _, _, _, _, _, _, _, _, _, _, _, rfl, Same.refl _, up_ s3 h_kept, ⟨by rw [keys_mk, List.map_id']; exact nb, fun s hs => by rw [keys_mk, List.map_id'] at hs; exact hs, fun s hs => by rw [keys_mk, List.map_id']; exact hs.key⟩, by rw [List.length_map, keys_length]; exact Nat.le_refl _⟩, fun i σ' H' p => by obtain ⟨_, _, _, _, _, _, _, _, _, _, _, _, _, h, _⟩ := p; exact up_same h, ?_, ?_⟩)
  · rintro i x σ' H' hx ⟨kp, d, c1, c3, c4, c5, c6, c7, c8, c9, c10, c11, rfl, sH, h_kept, hL, hl⟩ v H4 s4 h_turn
    have s04 : Same H H4 := ((s2.trans s3).trans sH).trans s4
    refine ys_seq (ys_tupN (yn_newK (r := bP)) (y_neg y_int) fun p H5 H6 u0 v_many s5 np e0 i0 s6 h_many => ?_)
    have md0 : Md bP [] p H6 := (Md.of e0 i0 List.nodup_nil).same s6
    have s46 : Same H4 H6 := s5.trans s6
    have np4 : H4 p = none := np
    have kp6 : dP bP d kp H6 := up_ (s4.trans s46) h_kept
    have s06 : Same H H6 := s04.trans s46
    have np0 : H p = none := s04.free np4
    have Lb : (keys d).length ≤ a_world.1.length := by rw [keys_length]; omega
    refine ys_seq (ys_while (fun M σ' H' => ∃ (m : Int) (nd : List (Str × Bool)) (c1 c6 c7 c8 c9 c10 c11 : Option V), M = 2 * (a_world.1.length - nd.length) + (if m = nd.length then 0 else 1) ∧ σ' = [some v_world, c1, some kp, some v, some (.ref p), some (.int m), c6, c7, c8, c9, c10, c11] ∧ Mx [p] H6 H' ∧ Md bP nd p H' ∧ VN a_world.1 (keys d) (keys nd) ∧ m ≤ nd.length ∧ (m = nd.length → ∀ s ∈ keys d, s ∉ keys nd → viaC a_world.1 (keys d) (keys nd) s = false))
      _ ⟨-1, [], _, _, _, _, _, _, _, rfl, by rw [show v_many = .int (-1) from h_many]; rfl, Mx.rfl, md0, ⟨List.nodup_nil, fun s hs => by cases hs⟩, by decide, fun e => by cases e⟩ ?_)
    rintro M σ' H' ⟨m, nd, c1, c6, c7, c8, c9, c10, c11, rfl, rfl, mx, md, vn, hm, hcl⟩
    have s0' : Same H H' := mx.same s06 (oneq np0)
    have kp' : dP bP d kp H' := Sty.up (mx.up (oneq md0.ni)) kp6
    have ndL : nd.length ≤ a_world.1.length := by
      have := len_sub vn.nd vn.sub
      rw [keys_length] at this
      omega
    refine ⟨_, yt_test (y_op r_lt (y_var rfl (show iP m _ _ from rfl)) (y_lenD (y_var rfl md.g))), fun hb H7 s7 => ?_, fun hb H7 s7 => ?_⟩
    · have em : m = nd.length := by have := of_decide_eq_false hb; omega
      have full := vn.full hok hL (hcl em)
      have md7 := md.same s7
      have kp7 := up_ s7 kp'
      refine nx_ (ys_seq (ys_if (yt_test (y_op r_eqI (y_lenD (y_var rfl md7.g)) (y_lenD (y_var rfl kp7)))) (fun b18 H8 s8 => ?_) (fun b18 H8 s8 => ?_)))
      · have e := of_decide_eq_true b18
        have hn : ∀ s ∈ keys d, s ∈ keys nd := sub_eq vn.nd hL.nd vn.sub (by rw [keys_length, keys_length]; omega)
        have hvia : ∀ s, s ∈ keys nd ↔ Via a_world.1 s := fun s => ⟨fun hs => Gfp.of (L := (· ∈ keys d)) (fun y hy => (full y).mp (hn y hy)) (vn.sub s hs), fun hs => hn s (hL.via s hs)⟩
        refine ys_ret (y_fzl (yn_sortedD (y_var rfl (md7.same s8).g) (by omega))) fun v' H9 s9 h => ?_
        refine hq v' _ (((s0'.trans s7).trans s8).trans s9) (P_eq (r := lP sP) ?_ h)
        unfold viaL
        refine sortS_of' ?_
        refine perm_of vn.nd (nb.filter _) fun s => ?_
        rw [hvia, List.mem_filter]
        exact ⟨fun h => ⟨h.key, @decide_eq_true _ (Classical.propDecidable _) h⟩, fun h => @of_decide_eq_true _ (Classical.propDecidable _) h.2⟩
      · have e := of_decide_eq_false b18
        refine nx_ (y_fzMd rfl (md7.same s8) _ fun vk H9 mx9 hk9 => ?_)
        have lt : nd.length < d.length := by
          have := len_sub vn.nd vn.sub
          rw [keys_length, keys_length] at this
          omega
        refine ⟨vk, nd, _, _, _, _, _, _, _, _, _, _, rfl, ?_, hk9, ⟨vn.nd, fun s hs => hL.sub s (vn.sub s hs), fun s hs => (full s).mpr (hs.near.mono fun y hy => hL.via y hy)⟩, by omega⟩
        exact ((mx.trans (Mx.of (s7.trans s8))).trans mx9).same ((sH.trans s4).trans s46) (oneq ((sH.trans s4).free np4))
    · have lt : m < nd.length := of_decide_eq_true hb
      have md7 := md.same s7
      have kp7 := up_ s7 kp'
      refine ys_seq (ys_set (y_lenD (y_var rfl md7.g)) fun v_m2 H8 s8 h_m2 => ?_)
      have md8 := md7.same s8
      have kp8 := up_ s8 kp7
      refine (ys_for (xs := (keys d).filter fun s => !has nd s) (yi_l (Y_eq (List.map_id' _) (y_fzl (yn_lc (r' := sP) _ _ (yi_keys (y_var rfl kp8)) (fun x6 m6 v6 H6 s6 h6 => bd1 ⟨rfl, (yt_b (y_dnotin (y_var rfl h6) (y_var rfl (md8.same s6).g))), fun e6 => (y_var rfl h6)⟩))))) fun H9 s9 => ⟨fun j σ' H' => ∃ (nd' : List (Str × Bool)) (c1 c6 c7 c8 c9 c10 c11 : Option V), σ' = [some v_world, c1, some kp, some v, some (.ref p), some (.int nd.length), c6, c7, c8, c9, c10, c11] ∧ Mx [p] H9 H' ∧ Md bP nd' p H' ∧ VN a_world.1 (keys d) (keys nd') ∧ ((keys nd' = keys nd ∧ ∀ s ∈ ((keys d).filter fun s => !has nd s).take j, viaC a_world.1 (keys d) (keys nd) s = false) ∨ nd.length < nd'.length),
        ⟨nd, _, _, _, _, _, _, _, by rw [show v_m2 = .int nd.length from h_m2]; rfl, Mx.rfl, md8.same s9, vn, .inl ⟨rfl, fun s hs => by cases hs⟩⟩, fun i σ' H' p' => by obtain ⟨_, _, _, _, _, _, _, _, _, h, _⟩ := p'; exact h.up (oneq (md8.same s9).ni), ?_, ?_⟩)
      · rintro j st σ' H' hst ⟨nd', c1, c6, c7, c8, c9, c10, c11, rfl, mx', md', vn', hcase⟩ v' H10 s10 h_state
        have hm := mem_at hst
        obtain ⟨hd, hnew⟩ := List.mem_filter.mp hm
        have hkb := hL.sub st hd
        have upx : Up H9 H' := mx'.up (oneq (md8.same s9).ni)
        have s0b : Same H H10 := (((mx.trans (Mx.of ((s7.trans s8).trans s9))).trans mx').same s06 (oneq np0)).trans s10
        have kp10 : dP bP d kp H10 := up_ s10 (Sty.up upx (up_ s9 kp8))
        have md10 := md'.same s10
        refine ys_seq (ys_tup2 (y_dget (y_w0 (y_var rfl (up_ s0b h_world))) (y_var rfl h_state) hkb) fun v_kind v_turns H11 s11 h_kind h_turns => ?_)
        refine ys_seq (ys_set (y_fzl (yn_lc0 (r' := sP)  _ (yi_keys (y_var rfl h_turns)) (fun x9 m9 v9 H9 s9 h9 => bd1 ⟨rfl, yt_yes, fun e9 => (y_dget (y_var rfl (up_ s9 h_turns)) (y_var rfl h9) m9)⟩))) fun v_goals H12 s12 h_goals => ?_)
        have hgl : (keys (look a_world.1 st).2).map (fun x9 => look (look a_world.1 st).2 x9) = (look a_world.1 st).2.map (·.2) := map_look (hok.at hkb).nd
        rw [hgl] at h_goals
        refine ys_seq (ys_set (y_cb b_any (y_fzl (yn_lc0 (r' := bP)  _ (yi_l (y_var rfl h_goals)) (fun x11 m11 v11 H11' s11' h11 => bd1 ⟨rfl, yt_yes, fun e11 => (y_din (y_var rfl h11) (y_var rfl (md10.same ((s11.trans s12).trans s11')).g))⟩)))) fun v_is_near H13 s13 h_is_near => ?_)
        refine (ys_if (b := viaC a_world.1 (keys d) (keys nd') st) (Yt.eq (yt_or (yt_test (y_op r_eqS (y_var rfl (up_ (s12.trans s13) h_kind)) y_str)) fun b16 => (yt_and (yt_b (y_var rfl h_is_near)) fun b15 => (yt_or (yt_test (y_op r_eqS (y_var rfl (up_ (s12.trans s13) h_kind)) y_str)) fun b14 => (yt_b (y_cb b_all (y_fzl (yn_lc0 (r' := bP)  _ (yi_l (y_var rfl (up_ s13 h_goals))) (fun x13 m13 v13 H13' s13' h13 => bd1 ⟨rfl, yt_yes, fun e13 => (y_din (y_var rfl h13) (y_var rfl (up_ (((s11.trans s12).trans s13).trans s13') kp10)))⟩)))))))) ?_) (fun b17 H14 s14 => ?_) (fun b17 H14 s14 => ?_))
        · unfold viaC has
          rw [List.any_map, List.all_map]
          rfl
        · have s1014 := ((s11.trans s12).trans s13).trans s14
          refine ys_dput (k := st) (x := true) y_bl rfl (md10.same s1014) (y_var rfl (up_ s1014 h_state)) ?_ (fun H15 mx15 md15 => ?_)
          · have := len_sub vn'.nd vn'.sub
            rw [keys_length] at this
            omega
          · have hnear : Near (viaD a_world.1) (· ∈ keys d) st := by
              refine Near.intro hd ?_
              rcases (viaC_iff hok hkb).mp b17 with c | ⟨c, e⟩
              · exact .inl c
              · refine .inr ⟨c, e.elim .inl fun ⟨y, hy, h⟩ => .inr ⟨y, hy, vn'.near y h⟩⟩
            refine ⟨put nd' st true, _, _, _, _, _, _, _, rfl, ((mx'.trans (Mx.of (s10.trans s1014)))).trans mx15, md15, ⟨nodup_put vn'.nd, fun s hs => ?_⟩, .inr ?_⟩
            · rcases mem_put.mp hs with e | h
              · rw [e]; exact hnear
              · exact vn'.near s h
            · have hk := keys_put nd' st true
              have h1 : (keys (put nd' st true)).length = (put nd' st true).length := List.length_map _
              have h2 : (keys nd').length = nd'.length := List.length_map _
              have h3 : (keys nd).length = nd.length := List.length_map _
              rcases hcase with ⟨e, _⟩ | h
              · have : st ∉ keys nd' := by
                  rw [e]
                  intro z
                  rw [has_iff.mpr z] at hnew
                  cases hnew
                rw [if_neg this] at hk
                rw [← h1, hk, List.length_append, e, h3]
                simp
              · rw [← h1, hk]
                split
                · omega
                · rw [List.length_append]
                  omega
        · refine ⟨nd', _, _, _, _, _, _, _, rfl, mx'.trans (Mx.of (((((s10.trans s11).trans s12).trans s13).trans s14))), md10.same (((s11.trans s12).trans s13).trans s14), vn', ?_⟩
          rcases hcase with ⟨e, h⟩ | h
          · refine .inl ⟨e, fun s hs => ?_⟩
            rw [take_one hst] at hs
            rcases List.mem_append.mp hs with hs | hs
            · exact h s hs
            · rw [List.mem_singleton.mp hs, ← e]
              exact b17
          · exact .inr h
      · rintro σ' H' ⟨nd', c1, c6, c7, c8, c9, c10, c11, rfl, mx', md', vn', hcase⟩
        have ndL' : nd'.length ≤ a_world.1.length := by
          have := len_sub vn'.nd vn'.sub
          rw [keys_length] at this
          omega
        have h2 : (keys nd').length = nd'.length := List.length_map _
        have h3 : (keys nd).length = nd.length := List.length_map _
        refine ⟨_, ?_, (nd.length : Int), nd', _, _, _, _, _, _, _, rfl, rfl, (mx.trans (Mx.of ((s7.trans s8).trans s9))).trans mx', md', vn', ?_, fun e => ?_⟩
        · rw [if_neg (show ¬ m = (nd.length : Int) by omega)]
          rcases hcase with ⟨e, _⟩ | h
          · have : nd'.length = nd.length := by rw [← h2, e, h3]
            rw [this, if_pos rfl]
            omega
          · split
            · omega
            · omega
        · rcases hcase with ⟨e, _⟩ | h
          · rw [← h2, e, h3]
            exact Int.le_refl _
          · omega
        · rcases hcase with ⟨e2, h⟩ | h
          · intro s hs hn
            rw [e2] at hn ⊢
            refine h s ?_
            rw [List.take_length]
            refine List.mem_filter.mpr ⟨hs, ?_⟩
            cases z : has nd s with
            | true => exact absurd (has_iff.mp z) hn
            | false => rfl
          · omega
  · rintro σ' H' ⟨kp, d, c1, c3, c4, c5, c6, c7, c8, c9, c10, c11, rfl, sH, h_kept, hL, hl⟩
    rw [List.length_range] at hl
    omega
end En
set_option maxHeartbeats 4000000
/-! The law's plain defs, second part. -/
namespace En
open PySem PySem.Spec PyProof.Rows L2
variable {P : Program} {w : World} {K : PySem.W.Frag} {mg : Str → Option Value} {base : Heap}
/-! ### _law_without -/
def cutRow (st : Str) (lot : List (Str × Str)) (r : Row) : Row := (r.1, ((keys r.2).filter fun wd => !decide ((st, wd) ∈ lot)).map fun wd => (wd, look r.2 wd))
def cutB (b : Book) (lot : List (Str × Str)) : Book := (keys b).map fun st => (st, cutRow st lot (look b st))
theorem put_end {α : Type} {l : List Str} {f : Str → α} {x : Str} (h : x ∉ l) : put (l.map fun y => (y, f y)) x (f x) = (l ++ [x]).map fun y => (y, f y) := by
  rw [put_new, List.map_append]
  · rfl
  · rw [keys_mk, List.map_id']
    exact h
abbrev sp_l_without : Sp := Sp2 wP (glP pP) (fun wd lot => WfB wd.1 ∧ ∀ y ∈ lot, OkP y) (fun wd lot => wP (cutB wd.1 lot, wd.2))
abbrev N_l_without : List Str := ["_law_world_here", "_law_some", "_law_book", "_law_state", "_law_kind", "_law_turns_here", "_law_word_here"]
theorem nd_l_without : N_l_without.Nodup := by decide
theorem c_l_without (T : Tf w K mg) : C8.Cal P w K mg base 1 "_law_without" sp_l_without [] := by
  refine T.cal (d := d_l_without) (N := N_l_without) (ps := ["_law_world_here", "_law_some"]) 69 rfl rfl (by simp [fa, fa0, fa1, fa2, fa3]) rfl rfl (by decide +kernel) (len2 _ _) (fun _ _ _ _ _ _ us hl => match us, hl with | [_, _], _ => rfl) (fun f cdv A outer s H vs Q E hr hsp => ?_)
  obtain ⟨v_world, v_some, a_world, a_some, rfl, h_world, h_some, hok, hq⟩ := hsp
  refine ⟨_, (pss_cons (ps_set (i := 2) nd_l_without rfl (Or.inl rfl) pe_dnewK)
    (pss_cons (ps_for PassesOwn.never rfl (pi_keys (pe_ix (k_ix_list (K := K) rfl) (pv 0) pe_int (fun _ _ => rfl))) (pg_name (i := 3) nd_l_without rfl (Or.inr rfl))
    (pss_cons (ps_asg (pe_dget (hu_of hr) (pe_ix (k_ix_list (K := K) rfl) (pv 0) pe_int (fun _ _ => rfl)) (pv 3) (fun _ _ => rfl)) (k_pg_tup (K := K) rfl rfl (pgs_cons (pg_name (i := 4) nd_l_without rfl (Or.inl rfl)) (pgs_cons (pg_name (i := 5) nd_l_without rfl (Or.inr rfl)) pgs_nil))))
    (pss_one (ps_dput (hu_of hr) (pv 2) (pv 3) (pe_tup (pa_cons (pv 4) (pa_cons (pe_fz (pe_callTy (k_dictP (K := K) rfl rfl) (by rfl) T.n_dict (by decide +kernel) (pa_cons (pe_fz (pe_lc (own := [("_law_word_here", 6)]) rfl nd_l_without (pi_keys (pv 5)) (blkOk_by (own := [("_law_word_here", 6)]) (by first | decide +kernel | rfl)) (fun _ _ _ _ _ => (pg_name (i := 6) nd_l_without rfl (Or.inl rfl))) (fun _ _ _ _ _ => (pts_one (pt_cmpR (k_notInD (K := K) rfl (hu65 hr)) (pe_tup (pa_cons (pv 3) (pa_cons (pv 6) pa_nil))) (pv 1) rfl))) (fun _ _ _ _ _ => (pe_tup (pa_cons (pv 6) (pa_cons (pe_dget (hu_of hr) (pv 5) (pv 6) (fun _ _ => rfl)) pa_nil)))))) pa_nil))) pa_nil))) rfl))))
    (pss_one (ps_ret (pe_fz (pe_lst (pa_cons (pe_fz (pv 2)) (pa_cons (pe_ix (k_ix_list (K := K) rfl) (pv 0) pe_int (fun _ _ => rfl)) pa_nil)))))))), ?_⟩
  refine ys_seq (ys_new (yn_newK (r := rP)) fun p H0 u0 s0 np e0 i0 => ?_)
  have m0 : Md rP [] p H0 := Md.of e0 i0 List.nodup_nil
  refine ys_seq (ys_for (yi_keys (y_w0 (y_var rfl (up_ s0 h_world)))) fun H1 s1 => ⟨fun i σ' H' => (∃ a b c d, σ' = [some v_world, some v_some, some (.ref p), a, b, c, d]) ∧ Mx [p] H1 H' ∧ Md rP (((keys a_world.1).take i).map fun st => (st, cutRow st a_some (look a_world.1 st))) p H',
    ⟨⟨_, _, _, _, rfl⟩, Mx.rfl, m0.same s1⟩, fun i σ' H' p' => p'.2.1.up (by rintro q hq; rw [List.mem_singleton.mp hq]; exact (m0.same s1).ni), ?_, ?_⟩)
  · rintro i x σ' H' hx ⟨⟨a, b, c, d, rfl⟩, mx, md⟩ v H2 s2 h_state
    have hk := mem_at hx
    have row := hok.1.at hk
    have s02 : Same H H2 := (mx.same (s0.trans s1) (by rintro q hq; rw [List.mem_singleton.mp hq]; exact np)).trans s2
    refine ys_seq (ys_tup2 (y_dget (y_w0 (y_var rfl (up_ s02 h_world))) (y_var rfl h_state) hk) fun v_kind v_turns H3 s3 h_kind h_turns => ?_)
    refine ys_dput (x := cutRow x a_some (look a_world.1 x)) (y_row (ya_cons (y_var rfl h_kind) (ya_cons (y_fzD (yn_cb (b_dictP ?_) (y_fzl (yn_lc (r' := (itP sP)) _ _ (yi_keys (y_var rfl h_turns)) (fun x4 m4 v4 H4 s4 h4 => bd1 ⟨rfl, (yt_test (y_op (r_notInP ⟨row.ok, ?_⟩ hok.2) (y_pair (ya_cons (y_var rfl (up_ (s3.trans s4) h_state)) (ya_cons (y_var rfl h4) ya_nil))) (y_var rfl (up_ ((s02.trans s3).trans s4) h_some)))), fun e4 => (y_it (ya_cons (y_var rfl h4) (ya_cons (y_dget (y_var rfl (up_ s4 h_turns)) (y_var rfl h4) m4) ya_nil)))⟩))))) ya_nil))) rfl (md.same (s2.trans s3)) (y_var rfl (up_ s3 h_state)) ?_ (fun H4 mx4 md4 => ?_)
    · rw [keys_mk, List.map_id']
      exact row.nd.filter _
    · obtain ⟨t, ht, e⟩ := List.mem_map.mp m4
      rw [← e]
      exact row.words t ht
    · have := hok.1.len
      rw [List.length_map, List.length_take, keys_length]
      omega
    · refine ⟨⟨_, _, _, _, rfl⟩, (mx.trans (Mx.of (s2.trans s3))).trans mx4, ?_⟩
      rw [take_one hx, ← put_end (f := fun st => cutRow st a_some (look a_world.1 st)) (not_mem_take hok.1.nd hx)]
      exact md4
  · rintro σ' H' ⟨⟨a, b, c, d, rfl⟩, mx, md⟩
    have s02 : Same H H' := mx.same (s0.trans s1) (by rintro q hq; rw [List.mem_singleton.mp hq]; exact np)
    refine nx_ (ys_retW rfl md (fun H2 mx2 => y_w1 (y_var rfl (up_ (mx2.same s02 (by rintro q hq; rw [List.mem_singleton.mp hq]; exact np)) h_world))) fun v H2 mx2 h => ?_)
    refine hq v _ (mx2.same s02 (by rintro q hq; rw [List.mem_singleton.mp hq]; exact np)) (P_eq ?_ h)
    rw [List.take_length]
    rfl
/-! ### _law_turned -/
def turnB (b : Book) : Book := (keys b).map fun st => (st, (look turnK (look b st).1, (look b st).2))
abbrev sp_l_turned : Sp := Sp1 wP (fun wd => WfB wd.1) (fun wd => wP (turnB wd.1, wd.2))
abbrev N_l_turned : List Str := ["_law_world_here", "_law_theirs", "_law_state"]
theorem nd_l_turned : N_l_turned.Nodup := by decide
theorem c_l_turned (T : Tf w K mg) : C8.Cal P w K mg base 1 "_law_turned" sp_l_turned [] := by
  refine T.cal (d := d_l_turned) (N := N_l_turned) (ps := ["_law_world_here"]) 55 rfl rfl (by simp [fa, fa0, fa1, fa2, fa3]) rfl rfl (by decide +kernel) (len1 _) (fun _ _ _ _ _ _ us hl => match us, hl with | [_], _ => rfl) (fun f cdv A outer s H vs Q E hr hsp => ?_)
  obtain ⟨v_world, a_world, rfl, h_world, hok, hq⟩ := hsp
  refine ⟨_, (pss_cons (ps_set (i := 1) nd_l_turned rfl (Or.inr rfl) (pe_fz (pe_disp (pps_cons pe_str pe_str (pps_cons pe_str pe_str (pps_cons pe_str pe_str pps_nil))) (by rfl) (by rfl) (fun z => by cases z) (by decide))))
    (pss_one (ps_ret (pe_fz (pe_lst (pa_cons (pe_fz (pe_callTy (k_dictP (K := K) rfl rfl) (by rfl) T.n_dict (by decide +kernel) (pa_cons (pe_fz (pe_lc (own := [("_law_state", 2)]) rfl nd_l_turned (pi_keys (pe_ix (k_ix_list (K := K) rfl) (pv 0) pe_int (fun _ _ => rfl))) (blkOk_by (own := [("_law_state", 2)]) (by first | decide +kernel | rfl)) (fun _ _ _ _ _ => (pg_name (i := 2) nd_l_turned rfl (Or.inl rfl))) (fun _ _ _ _ _ => pts_nil) (fun _ _ _ _ _ => (pe_tup (pa_cons (pv 2) (pa_cons (pe_tup (pa_cons (pe_dget (hu_of hr) (pv 1) (pe_ix (k_ix_tup (K := K) rfl) (pe_dget (hu_of hr) (pe_ix (k_ix_list (K := K) rfl) (pv 0) pe_int (fun _ _ => rfl)) (pv 2) (fun _ _ => rfl)) pe_int (fun _ _ => rfl)) (fun _ _ => rfl)) (pa_cons (pe_ix (k_ix_tup (K := K) rfl) (pe_dget (hu_of hr) (pe_ix (k_ix_list (K := K) rfl) (pv 0) pe_int (fun _ _ => rfl)) (pv 2) (fun _ _ => rfl)) pe_int (fun _ _ => rfl)) pa_nil))) pa_nil)))))) pa_nil))) (pa_cons (pe_ix (k_ix_list (K := K) rfl) (pv 0) pe_int (fun _ _ => rfl)) pa_nil))))))), ?_⟩
  -- _law_theirs = {'says': 'hears', 'hears': 'says', 'done': 'done'}
  refine ys_seq (ys_set (y_fzD (yn_disp (yd_cons y_str y_str (yd_cons y_str y_str (yd_cons y_str y_str yd_nil))) ?_)) fun v_theirs H1 s1 h_theirs => ?_)
  · decide
  -- return [dict([(_law_state, (_law_theirs[_law_world_here[0][_law_state][0]], _law_world_here[0][_law_
  refine ys_ret (y_wld (y_fzD (yn_cb (b_dictP ?_) (y_fzl (yn_lc0 (r' := (itP rP))  _ (yi_keys (y_w0 (y_var rfl (up_ s1 h_world)))) (fun x2 m2 v2 H2 s2 h2 => bd1 ⟨rfl, yt_yes, fun e2 => (y_it (ya_cons (y_var rfl h2) (ya_cons (y_row (ya_cons (y_dget (y_var rfl (up_ s2 h_theirs)) (y_r0 (y_dget (y_w0 (y_var rfl (up_ (s1.trans s2) h_world))) (y_var rfl h2) ?_)) ?_) (ya_cons (y_r1 (y_dget (y_w0 (y_var rfl (up_ (s1.trans s2) h_world))) (y_var rfl h2) ?_)) ya_nil))) ya_nil)))⟩))))) (y_w1 (y_var rfl (up_ s1 h_world)))) fun v H3 s3 h => ?_
  · rw [keys_mk, List.map_id']; exact hok.nd
  · exact m2
  · exact (hok.at m2).kind
  · exact m2
  exact hq v _ (s1.trans s3) (by exact h)
/-! ### _law_good -/
noncomputable def good (b : Book) : List (Str × List Str) := (keys b).map fun st => (st, goodW b st)
noncomputable abbrev sp_l_good : Sp := Sp1 wP (fun wd => WfB wd.1) (fun wd => dP (lP sP) (good wd.1))
abbrev N_l_good : List Str := ["_law_world_here", "_law_viable_here", "_law_word_here", "_law_state"]
theorem nd_l_good : N_l_good.Nodup := by decide
theorem c_l_good (T : Tf w K mg) : C8.Cal P w K mg base 2 "_law_good" sp_l_good [] := by
  refine T.cal (d := d_l_good) (N := N_l_good) (ps := ["_law_world_here"]) 58 rfl rfl (by simp [fa, fa0, fa1, fa2, fa3]) rfl rfl (by decide +kernel) (len1 _) (fun _ _ _ _ _ _ us hl => match us, hl with | [_], _ => rfl) (fun f cdv A outer s H vs Q E hr hsp => ?_)
  obtain ⟨v_world, a_world, rfl, h_world, hok, hq⟩ := hsp
  refine ⟨_, (pss_cons (ps_set (i := 1) nd_l_good rfl (Or.inr rfl) (C8.pe_c (c_l_viable T) hr (by decide) rfl (pa_cons (pv 0) pa_nil)))
    (pss_one (ps_ret (pe_fz (pe_callTy (k_dictP (K := K) rfl rfl) (by rfl) T.n_dict (by decide +kernel) (pa_cons (pe_fz (pe_lc (own := [("_law_state", 3)]) rfl nd_l_good (pi_keys (pe_ix (k_ix_list (K := K) rfl) (pv 0) pe_int (fun _ _ => rfl))) (blkOk_by (own := [("_law_state", 3)]) (by first | decide +kernel | rfl)) (fun _ _ _ _ _ => (pg_name (i := 3) nd_l_good rfl (Or.inr rfl))) (fun _ _ _ _ _ => pts_nil) (fun _ _ _ _ _ => (pe_tup (pa_cons (pv 3) (pa_cons (pe_fz (pe_callB (k_sortedS (K := K) rfl) (by rfl) T.n_sorted (by decide +kernel) (pa_cons (pe_fz (pe_lc (own := [("_law_word_here", 2)]) rfl nd_l_good (pi_keys (pe_ix (k_ix_tup (K := K) rfl) (pe_dget (hu_of hr) (pe_ix (k_ix_list (K := K) rfl) (pv 0) pe_int (fun _ _ => rfl)) (pv 3) (fun _ _ => rfl)) pe_int (fun _ _ => rfl))) (blkOk_by (own := [("_law_word_here", 2)]) (by first | decide +kernel | rfl)) (fun _ _ _ _ _ => (pg_name (i := 2) nd_l_good rfl (Or.inl rfl))) (fun _ _ _ _ _ => (pts_one (PW.pt (pw_or (pt_cmpR op_eq (pe_ix (k_ix_tup (K := K) rfl) (pe_dget (hu_of hr) (pe_ix (k_ix_list (K := K) rfl) (pv 0) pe_int (fun _ _ => rfl)) (pv 3) (fun _ _ => rfl)) pe_int (fun _ _ => rfl)) pe_str (nomark _)) (pw_or1 (pt_cmpR (k_in_seq (K := K) rfl) (pe_dget (hu_of hr) (pe_ix (k_ix_tup (K := K) rfl) (pe_dget (hu_of hr) (pe_ix (k_ix_list (K := K) rfl) (pv 0) pe_int (fun _ _ => rfl)) (pv 3) (fun _ _ => rfl)) pe_int (fun _ _ => rfl)) (pv 2) (fun _ _ => rfl)) (pv 1) rfl)))))) (fun _ _ _ _ _ => (pv 2)))) pa_nil))) pa_nil)))))) pa_nil)))))), ?_⟩
  -- _law_viable_here = _law_viable(_law_world_here)
  refine ys_seq (ys_set (y_call1 (y_var rfl h_world) ?_) fun v_viable H1 s1 h_viable => ?_)
  · exact hok
  -- return dict([(_law_state, sorted([_law_word_here for _law_word_here in _law_world_here[0][_law_state
  refine ys_ret (y_fzD (yn_cb (b_dictP ?_) (y_fzl (yn_lc0 (r' := (itP (lP sP)))  _ (yi_keys (y_w0 (y_var rfl (up_ s1 h_world)))) (fun x2 m2 v2 H2 s2 h2 => bd1 ⟨rfl, yt_yes, fun e2 => (y_it (ya_cons (y_var rfl h2) (ya_cons (y_fzl (yn_sortedS (y_fzl (yn_lc (r' := sP) _ _ (yi_keys (y_r1 (y_dget (y_w0 (y_var rfl (up_ (s1.trans s2) h_world))) (y_var rfl h2) ?_))) (fun x3 m3 v3 H3 s3 h3 => bd1 ⟨rfl, (yt_or (yt_test (y_op r_eqS (y_r0 (y_dget (y_w0 (y_var rfl (up_ ((s1.trans s2).trans s3) h_world))) (y_var rfl (up_ s3 h2)) ?_)) y_str)) fun b4 => (yt_test (y_inS (y_dget (y_r1 (y_dget (y_w0 (y_var rfl (up_ ((s1.trans s2).trans s3) h_world))) (y_var rfl (up_ s3 h2)) ?_)) (y_var rfl h3) ?_) (y_var rfl (up_ (s2.trans s3) h_viable))))), fun e3 => (y_var rfl h3)⟩))) ?_)) ya_nil)))⟩))))) fun v H5 s5 h => ?_
  · rw [keys_mk, List.map_id']; exact hok.nd
  · exact m2
  · exact m2
  · exact m2
  · exact m3
  · rw [List.map_id']; have := (hok.at m2).len; have h2 := List.length_filter_le (fun x3 => decide ((look a_world.1 x2).1 = "says") || decide (look (look a_world.1 x2).2 x3 ∈ viaL a_world.1)) (keys (look a_world.1 x2).2); rw [keys_length] at h2; have : (look a_world.1 x2).2.length < 64 := this; omega
  exact hq v _ (s1.trans s5) (by exact P_eq (by unfold good goodW; congr 1; funext x; rw [List.map_id']) h)
theorem look_mk {α κ : Type} [DecidableEq κ] [Inhabited α] {f : κ → α} : ∀ {l : List κ} {k : κ}, k ∈ l → look (l.map fun x => (x, f x)) k = f k
  | [], _, h => by cases h
  | x :: l, k, h => by
    rw [List.map_cons]
    unfold look
    by_cases e : x = k
    · rw [if_pos e, e]
    · rw [if_neg e]
      rcases List.mem_cons.mp h with z | z
      · exact absurd z.symm e
      · exact look_mk z
theorem keys_good (b : Book) : keys (good b) = keys b := by
  unfold good
  rw [keys_mk, List.map_id']
theorem look_good {b : Book} {s : Str} (h : s ∈ keys b) : look (good b) s = goodW b s := look_mk h
theorem mtB_mt {e n : World'} {p : Str × Str} (h : p.1 ∈ keys e.1) : mtB (good e.1) e n p = mt e.1 n.1 p := by
  unfold mtB mt
  rw [look_good h]
theorem spB_stp {e n : World'} {p : Str × Str} (h : p.1 ∈ keys e.1) : spB (good e.1) e n p = stp e.1 n.1 p := by
  unfold spB stp
  rw [look_good h]
theorem goodW_sub {b : Book} {s wd : Str} (h : wd ∈ goodW b s) : wd ∈ keys (look b s).2 := by
  unfold goodW at h
  exact (List.mem_filter.mp (mem_sortS.mp h)).1
theorem goodW_nodup {b : Book} (h : WfB b) {s : Str} (hs : s ∈ keys b) : (goodW b s).Nodup := by
  unfold goodW
  exact ((sortS_perm _).nodup_iff).mpr ((h.at hs).nd.filter _)
/-! ### _law_held_steps -/
noncomputable def heldS (e n : Book) : List ((Str × Str) × List (Str × (Str × Str))) := (keys e).flatMap fun s => (keys n).map fun g => ((s, g), stp e n (s, g))
theorem keys_heldS (e n : Book) : keys (heldS e n) = (keys e).flatMap fun s => (keys n).map fun g => (s, g) := by
  unfold heldS keys
  rw [List.map_flatMap]
  congr 1
  funext s
  rw [List.map_map]
  rfl
theorem mem_heldS {e n : Book} {p : Str × Str} : p ∈ keys (heldS e n) ↔ p.1 ∈ keys e ∧ p.2 ∈ keys n := by
  rw [keys_heldS, List.mem_flatMap]
  constructor
  · rintro ⟨s, hs, h⟩
    obtain ⟨g, hg, rfl⟩ := List.mem_map.mp h
    exact ⟨hs, hg⟩
  · rintro ⟨h1, h2⟩
    exact ⟨p.1, h1, List.mem_map.mpr ⟨p.2, h2, rfl⟩⟩
theorem flat_len {κ α γ : Type} (n : List α) (F : κ → α → γ) : ∀ l : List κ, (l.flatMap fun s => n.map fun g => F s g).length = l.length * n.length
  | [] => by simp
  | x :: l => by
    rw [List.flatMap_cons, List.length_append, List.length_map, flat_len n F l, List.length_cons, Nat.add_mul]
    omega
noncomputable abbrev sp_l_held_steps : Sp := Sp2 wP wP (fun e n => WfB e.1 ∧ WfB n.1) (fun e n => qP (dP pP) (heldS e.1 n.1))
abbrev N_l_held_steps : List Str := ["_law_elder", "_law_newer", "_law_found", "_law_good_here", "_law_state", "_law_guest"]
theorem nd_l_held_steps : N_l_held_steps.Nodup := by decide
theorem c_l_held_steps (T : Tf w K mg) : C8.Cal P w K mg base 3 "_law_held_steps" sp_l_held_steps [] := by
  refine T.cal (d := d_l_held_steps) (N := N_l_held_steps) (ps := ["_law_elder", "_law_newer"]) 61 rfl rfl (by simp [fa, fa0, fa1, fa2, fa3]) rfl rfl (by decide +kernel) (len2 _ _) (fun _ _ _ _ _ _ us hl => match us, hl with | [_, _], _ => rfl) (fun f cdv A outer s H vs Q E hr hsp => ?_)
  obtain ⟨v_elder, v_newer, a_elder, a_newer, rfl, h_elder, h_newer, hok, hq⟩ := hsp
  refine ⟨_, (pss_cons (ps_par (i := 2) (j := 3) rfl nd_l_held_steps rfl rfl (by decide) rfl rfl (pa_cons pe_dnewT (pa_cons (C8.pe_c (c_l_good T) hr (by decide) rfl (pa_cons (pv 0) pa_nil)) pa_nil)) (by rfl))
    (pss_cons (ps_for PassesOwn.never rfl (pi_keys (pe_ix (k_ix_list (K := K) rfl) (pv 0) pe_int (fun _ _ => rfl))) (pg_name (i := 4) nd_l_held_steps rfl (Or.inl rfl))
    (pss_one (ps_for PassesOwn.never rfl (pi_keys (pe_ix (k_ix_list (K := K) rfl) (pv 1) pe_int (fun _ _ => rfl))) (pg_name (i := 5) nd_l_held_steps rfl (Or.inl rfl))
    (pss_one (ps_dput (hu_of hr) (pv 2) (pe_tup (pa_cons (pv 4) (pa_cons (pv 5) pa_nil))) (C8.pe_c (c_l_steps_by T) hr (by decide) rfl (pa_cons (pv 3) (pa_cons (pv 0) (pa_cons (pv 1) (pa_cons (pe_tup (pa_cons (pv 4) (pa_cons (pv 5) pa_nil))) pa_nil))))) rfl)))))
    (pss_one (ps_ret (pe_fz (pv 2)))))), ?_⟩
  refine ys_seq (ys_parN (yn_newT (r := dP pP)) (y_call1 (y_var rfl h_elder) hok.1) fun p H0 H1 u0 v_good s0 np e0 i0 s1 h_good => ?_)
  have m0 : Mq (dP pP) [] p H1 := (Mq.of e0 i0 List.nodup_nil).same s1
  have s01 := s0.trans s1
  have ln := hok.2.len
  have le := hok.1.len
  refine ys_seq (ys_for (yi_keys (y_w0 (y_var rfl (up_ s01 h_elder)))) fun H2 s2 => ⟨fun i σ' H' => (∃ a b, σ' = [some v_elder, some v_newer, some (.ref p), some v_good, a, b]) ∧ Mx [p] H2 H' ∧ Mq (dP pP) (((keys a_elder.1).take i).flatMap fun s => (keys a_newer.1).map fun g => ((s, g), stp a_elder.1 a_newer.1 (s, g))) p H',
    ⟨⟨_, _, rfl⟩, Mx.rfl, m0.same s2⟩, fun i σ' H' p' => p'.2.1.up (oneq (m0.same s2).ni), ?_, ?_⟩)
  · rintro i x σ' H' hx ⟨⟨a, b, rfl⟩, mx, md⟩ v H3 s3 h_state
    have hk := mem_at hx
    have s03 : Same H H3 := (mx.same (s01.trans s2) (oneq np)).trans s3
    have g3 : dP (lP sP) (good a_elder.1) v_good H3 := up_ s3 (Sty.up (mx.up (oneq (m0.same s2).ni)) (up_ s2 h_good))
    have md3 := md.same s3
    refine (ys_for (yi_keys (y_w0 (y_var rfl (up_ s03 h_newer)))) fun H4 s4 => ⟨fun j σ' H' => (∃ b, σ' = [some v_elder, some v_newer, some (.ref p), some v_good, some v, b]) ∧ Mx [p] H4 H' ∧ Mq (dP pP) ((((keys a_elder.1).take i).flatMap fun s => (keys a_newer.1).map fun g => ((s, g), stp a_elder.1 a_newer.1 (s, g))) ++ ((keys a_newer.1).take j).map fun g => ((x, g), stp a_elder.1 a_newer.1 (x, g))) p H',
      ⟨⟨_, rfl⟩, Mx.rfl, by rw [List.take_zero, List.map_nil, List.append_nil]; exact md3.same s4⟩, fun i σ' H' p' => p'.2.1.up (oneq (md3.same s4).ni), ?_, ?_⟩)
    · rintro j y σ' H' hy ⟨⟨b, rfl⟩, mx4, md4⟩ v' H5 s5 h_guest
      have hk' := mem_at hy
      have s05 : Same H H5 := (mx4.same (s03.trans s4) (oneq np)).trans s5
      have g5 : dP (lP sP) (good a_elder.1) v_good H5 := up_ s5 (Sty.up (mx4.up (oneq (md3.same s4).ni)) (up_ s4 g3))
      have st5 : sP x v H5 := h_state
      refine ys_qput (k := (x, y)) (Y_eq (r := dP pP) (spB_stp hk) (y_call4 (y_var rfl g5) (y_var rfl (up_ s05 h_elder)) (y_var rfl (up_ s05 h_newer)) (y_pair (ya_cons (y_var rfl st5) (ya_cons (y_var rfl h_guest) ya_nil))) ?_)) rfl (md4.same s5) (y_pair (ya_cons (y_var rfl st5) (ya_cons (y_var rfl h_guest) ya_nil))) ?_ (fun H6 mx6 md6 => ?_)
      · exact ⟨hk, hk', by rw [keys_good]; exact hk, by rw [look_good hk]; exact goodW_nodup hok.1 hk, fun wd hw => by rw [look_good hk] at hw; exact goodW_sub hw⟩
      · rw [List.length_append, List.length_map, List.length_take, flat_len (keys a_newer.1) (fun s g => ((s, g), stp a_elder.1 a_newer.1 (s, g))), List.length_take, keys_length, keys_length]
        have : min i a_elder.1.length * a_newer.1.length ≤ 64 * 64 := Nat.mul_le_mul (by omega) (by omega)
        omega
      · refine ⟨⟨_, rfl⟩, (mx4.trans (Mx.of s5)).trans mx6, ?_⟩
        rw [take_one hy, List.map_append, ← List.append_assoc, List.map_cons, List.map_nil, ← put_new]
        · exact md6
        · intro hm
          unfold keys at hm
          rw [List.map_append, List.mem_append] at hm
          rcases hm with hm | hm
          · obtain ⟨q, hq, e⟩ := List.mem_map.mp hm
            obtain ⟨s', hs', h2⟩ := List.mem_flatMap.mp hq
            obtain ⟨g', hg', rfl⟩ := List.mem_map.mp h2
            cases e
            exact not_mem_take hok.1.nd hx hs'
          · obtain ⟨q, hq, e⟩ := List.mem_map.mp hm
            obtain ⟨g', hg', rfl⟩ := List.mem_map.mp hq
            cases e
            exact not_mem_take hok.2.nd hy hg'
    · rintro σ' H' ⟨⟨b, rfl⟩, mx4, md4⟩
      refine ⟨⟨_, _, rfl⟩, ((mx.trans (Mx.of s3)).trans (Mx.of s4)).trans mx4, ?_⟩
      rw [take_one hx, List.flatMap_append, List.flatMap_cons, List.flatMap_nil, List.append_nil]
      rw [List.take_length] at md4
      exact md4
  · rintro σ' H' ⟨⟨a, b, rfl⟩, mx, md⟩
    refine nx_ (y_fzMq rfl md _ fun v H5 mx5 h => ?_)
    refine hq v _ ((mx.trans mx5).same (s01.trans s2) (oneq np)) (P_eq (r := qP (dP pP)) ?_ h)
    rw [List.take_length]
    rfl
end En
set_option maxHeartbeats 4000000
/-! The law's plain defs, third part: what is reached, common pairs. -/
namespace En
open PySem PySem.Spec PyProof.Rows L2
variable {P : Program} {w : World} {K : PySem.W.Frag} {mg : Str → Option Value} {base : Heap}
/-! ### _law_closed -/
abbrev Dq := List ((Str × Str) × List (Str × (Str × Str)))
def sucOf (st : Dq) (p : Str × Str) : List (Str × Str) := if has st p then (look st p).map (·.2) else []
def clP (st : Dq) (p : Str × Str) : Pr := fun v H => ∃ l, lP pP l v H ∧ l.Nodup ∧ ∀ q, q ∈ l ↔ Reach (sucOf st) p q
instance {st : Dq} {p : Str × Str} : Sty (clP st p) := ⟨fun e ⟨l, h1, h2⟩ => ⟨l, Sty.up e h1, h2⟩⟩
def allOf (st : Dq) (p : Str × Str) : List (Str × Str) := p :: st.flatMap fun s => s.2.map (·.2)
theorem mem_allOf {st : Dq} {p q r : Str × Str} (h : r ∈ sucOf st q) : r ∈ allOf st p := by
  unfold sucOf at h
  split at h
  · rename_i hh
    obtain ⟨t, ht, e⟩ := List.mem_map.mp h
    exact List.mem_cons_of_mem _ (List.mem_flatMap.mpr ⟨_, look_mem (has_iff.mp hh), List.mem_map.mpr ⟨t, ht, e⟩⟩)
  · cases h
abbrev sp_l_closed : Sp := Sp2 (qP (dP pP)) pP (fun st p => (∀ s ∈ st, (keys s.2).Nodup) ∧ (allOf st p).length < 900000) (fun st p => clP st p)
section
variable {σ : L2.St} {H : Hp} {D : Ends} {ta tb tc : TE} {i j l : Nat}
theorem ys_par3N {R R2 : HO → Hp → Prop} {Pc : Pr} (y1 : Yn ta σ H R) (y2 : Yn tb σ H R2) (y3 : Y tc σ H Pc) (q : ∀ p p2 H2 H3 H4 u u2 v', Same H H2 → H p = none → H2 p = some u → R u H2 → Same H2 H3 → H2 p2 = none → H3 p2 = some u2 → R2 u2 H3 → Same H3 H4 → Pc v' H4 → D.nx (((σ.set i (some (.ref p))).set j (some (.ref p2))).set l (some v')) H4) : tPar3 i j l (tCons ta (tCons tb (tCons tc tNil))) D σ H :=
  y1 H (Same.refl _) _ fun p H2 u s2 n e r => y2 H2 s2 _ fun p2 H3 u2 s3 n3 e3 r3 => y3 H3 (s2.trans s3) _ fun v' H4 s4 pc => ⟨_, _, _, rfl, q p p2 H2 H3 H4 u u2 v' s2 n e r s3 n3 e3 r3 s4 pc⟩
end
structure ClI (st : Dq) (x : Str × Str) (l : List (Str × Str)) (at_ : Nat) : Prop where
  nd : l.Nodup
  fst : x ∈ l
  le : at_ ≤ l.length
  snd : ∀ q ∈ l, Reach (sucOf st) x q
  cl : ∀ i q, i < at_ → l[i]? = some q → ∀ r ∈ sucOf st q, r ∈ l
theorem ClI.sub {st : Dq} {x : Str × Str} {l : List (Str × Str)} {n : Nat} (h : ClI st x l n) : ∀ q ∈ l, q ∈ allOf st x := fun q hq => by
  cases h.snd q hq with
  | refl => exact List.mem_cons_self ..
  | tail _ h2 => exact mem_allOf h2
theorem ClI.len {st : Dq} {x : Str × Str} {l : List (Str × Str)} {n : Nat} (h : ClI st x l n) : l.length ≤ (allOf st x).length := len_sub h.nd h.sub
theorem ClI.done {st : Dq} {x : Str × Str} {l : List (Str × Str)} (h : ClI st x l l.length) (q : Str × Str) : q ∈ l ↔ Reach (sucOf st) x q := by
  refine ⟨h.snd q, fun hr => ?_⟩
  induction hr with
  | refl => exact h.fst
  | tail _ h2 ih =>
    obtain ⟨i, hi, e⟩ := List.getElem_of_mem ih
    exact h.cl i _ hi (by rw [List.getElem?_eq_getElem hi, e]) _ h2
abbrev N_l_closed : List Str := ["_law_steps", "_law_first", "_law_found", "_law_known", "_law_at", "_law_goals", "_law_word_here"]
theorem nd_l_closed : N_l_closed.Nodup := by decide
theorem c_l_closed (T : Tf w K mg) : C8.Cal P w K mg base 1 "_law_closed" sp_l_closed [] := by
  refine T.cal (d := d_l_closed) (N := N_l_closed) (ps := ["_law_steps", "_law_first"]) 57 rfl rfl (by simp [fa, fa0, fa1, fa2, fa3]) rfl rfl (by decide +kernel) (len2 _ _) (fun _ _ _ _ _ _ us hl => match us, hl with | [_, _], _ => rfl) (fun f cdv A outer s H vs Q E hr hsp => ?_)
  obtain ⟨v_steps, v_first, a_steps, a_first, rfl, h_steps, h_first, hok, hq⟩ := hsp
  refine ⟨_, (pss_cons (ps_par3 (i := 2) (j := 3) (l := 4) rfl nd_l_closed rfl rfl rfl (by decide) (by decide) (by decide) rfl rfl rfl (pa_cons (pe_lst (pa_cons (pv 1) pa_nil)) (pa_cons (pe_dispT (hu_of hr) (pv 1) pe_bl) (pa_cons pe_int pa_nil))) (by rfl))
    (pss_cons (ps_while PassesOwn.never (pt_cmpR op_lt (pv 4) (pe_callB (k_lenA (K := K) rfl) (by rfl) T.n_len (by decide +kernel) (pa_cons (pv 2) pa_nil)) (nomark _))
    (pss_cons (ps_set (i := 5) nd_l_closed rfl (Or.inl rfl) (pe_ifExp (pt_cmp (pc_din (hu_of hr) (pe_ix (k_ix_list (K := K) rfl) (pv 2) (pv 4) (fun _ _ => rfl)) (pv 0)) rfl) (pe_dget (hu_of hr) (pv 0) (pe_ix (k_ix_list (K := K) rfl) (pv 2) (pv 4) (fun _ _ => rfl)) (fun _ _ => rfl)) (pe_fz pe_dnewK)))
    (pss_cons (ps_for PassesOwn.never rfl (pi_keys (pv 5)) (pg_name (i := 6) nd_l_closed rfl (Or.inl rfl))
    (pss_one (ps_if (pt_cmp (pc_dnotin (hu_of hr) (pe_dget (hu_of hr) (pv 5) (pv 6) (fun _ _ => rfl)) (pv 3)) rfl) (pss_cons (ps_dput (hu_of hr) (pv 3) (pe_dget (hu_of hr) (pv 5) (pv 6) (fun _ _ => rfl)) pe_bl rfl)
    (pss_one (ps_expr (pe_bm PySem.F.plainAttrs_list PySem.F.slot_list_append PySem.F.type_list_append mt_append (pv 2) (pa_cons (pe_dget (hu_of hr) (pv 5) (pv 6) (fun _ _ => rfl)) pa_nil)))))
    pss_nil)))
    (pss_one (ps_set (i := 4) nd_l_closed rfl (Or.inl rfl) (pe_op op_add (pv 4) pe_int))))))
    (pss_one (ps_ret (pe_fz (pv 2)))))), ?_⟩
  refine ys_seq (ys_par3N (yn_lsts (r := pP) (yl_cons (y_var rfl h_first) yl_nil)) (yn_dispT (y_var rfl h_first) y_bl) y_int fun f k H0 H1 H2 u0 u1 v_at s0 nf e0 i0 s1 nk e1 i1 s2 h_at => ?_)
  have nk0 : H k = none := s0.free nk
  have s02 := (s0.trans s1).trans s2
  have fk : f ≠ k := fun e => by rw [e, nk] at e0; cases e0
  have ml0 : Ml pP [a_first] f H2 := (Ml.of e0 i0).same (s1.trans s2)
  have mk0 : Mq bP [(a_first, true)] k H2 := (Mq.of e1 i1 (by simp [keys])).same s2
  have two : ∀ q ∈ [f, k], H q = none := by
    intro q hq
    rcases List.mem_cons.mp hq with e | hq
    · rw [e]; exact nf
    · rw [List.mem_singleton.mp hq]; exact nk0
  refine ys_seq (ys_while (fun m σ' H' => ∃ (n : Nat) (l : List (Str × Str)) (d : List ((Str × Str) × Bool)) (a b : Option V), m = (allOf a_steps a_first).length - n ∧ σ' = [some v_steps, some v_first, some (.ref f), some (.ref k), some (.int n), a, b] ∧ Mx [f, k] H2 H' ∧ Ml pP l f H' ∧ Mq bP d k H' ∧ keys d = l ∧ ClI a_steps a_first l n)
    _ ⟨0, [a_first], [(a_first, true)], _, _, rfl, by rw [show v_at = .int 0 from h_at]; rfl, Mx.rfl, ml0, mk0, rfl, ⟨by simp, by simp, Nat.zero_le _, fun q hq => by rw [List.mem_singleton.mp hq]; exact .refl, fun i q hi => absurd hi (Nat.not_lt_zero _)⟩⟩ ?_)
  rintro m σ' H' ⟨n, l, d, a, b, rfl, rfl, mx, ml, mk, hkd, I⟩
  have upx : Up H2 H' := mx.up (by
    intro q hq
    rcases List.mem_cons.mp hq with e | hq
    · rw [e]; exact ml0.ni
    · rw [List.mem_singleton.mp hq]; exact mk0.ni)
  have s03 : Same H H' := mx.same s02 two
  have hlen := I.len
  refine ⟨_, yt_test (y_op r_lt (y_var rfl (show iP n _ _ from rfl)) (y_lenL (y_var rfl ml.g))), fun hb H3 s3 => ?_, fun hb H3 s3 => ?_⟩
  · have hge : ¬ ((n : Int) < l.length) := of_decide_eq_false hb
    have en : n = l.length := by have := I.le; omega
    subst en
    refine nx_ (y_fzMl rfl (ml.same s3) _ fun v H4 mx4 h => ?_)
    refine hq v _ ((mx_p mx4 (fun q hq => by rw [List.mem_singleton.mp hq]; exact List.mem_cons_self ..)).same (s03.trans s3) two) ⟨l, h, I.nd, I.done⟩
  · have hlt : n < l.length := by have := of_decide_eq_true hb; omega
    obtain ⟨x, hx⟩ : ∃ x, l[n]? = some x := ⟨_, List.getElem?_eq_getElem hlt⟩
    have ml3 := ml.same s3
    have mk3 := mk.same s3
    have s33 := s03.trans s3
    refine ys_seq (ys_set (y_if (r := (dP pP)) (yt_b (y_qin (y_ixl (y_var rfl ml3.g) (y_var rfl (show iP n _ _ from rfl)) hx) (y_var rfl (up_ s33 h_steps)))) (fun c2 => (y_qget (y_var rfl (up_ s33 h_steps)) (y_ixl (y_var rfl ml3.g) (y_var rfl (show iP n _ _ from rfl)) hx) (has_iff.mp c2))) (fun c2 => (y_fzD yn_newK))) fun v_goals H4 s4 h_goals => ?_)
    generalize hg : (if has a_steps x = true then look a_steps x else []) = g at h_goals
    have gn : (keys g).Nodup := by
      rw [← hg]
      split
      · rename_i hh
        exact hok.1 _ (look_mem (has_iff.mp hh))
      · exact List.nodup_nil
    have gs : sucOf a_steps x = g.map (·.2) := by
      rw [← hg]
      unfold sucOf
      split
      · rfl
      · rfl
    have ml4 := ml3.same s4
    have mk4 := mk3.same s4
    refine ys_seq (ys_for (yi_keys (y_var rfl h_goals)) fun H5 s5 => ⟨fun i σ' H' => ∃ (l' : List (Str × Str)) (d' : List ((Str × Str) × Bool)) (b : Option V), σ' = [some v_steps, some v_first, some (.ref f), some (.ref k), some (.int n), some v_goals, b] ∧ Mx [f, k] H5 H' ∧ Ml pP l' f H' ∧ Mq bP d' k H' ∧ keys d' = l' ∧ ClI a_steps a_first l' n ∧ l'[n]? = some x ∧ ∀ wd ∈ (keys g).take i, look g wd ∈ l',
      ⟨l, d, _, rfl, Mx.rfl, ml4.same s5, mk4.same s5, hkd, I, hx, fun wd hw => by cases hw⟩, ?_, ?_, ?_⟩)
    · rintro i σ' H' ⟨l', d', b, rfl, mx', _⟩
      refine mx'.up ?_
      intro q hq
      rcases List.mem_cons.mp hq with e | hq
      · rw [e]; exact (ml4.same s5).ni
      · rw [List.mem_singleton.mp hq]; exact (mk4.same s5).ni
    · rintro i wd σ' H' hw ⟨l', d', b, rfl, mx', ml', mk', hkd', I', hx', hall⟩ v H6 s6 h_word
      have hk := mem_at hw
      have up5 : Up H5 H' := mx'.up (by
        intro q hq
        rcases List.mem_cons.mp hq with e | hq
        · rw [e]; exact (ml4.same s5).ni
        · rw [List.mem_singleton.mp hq]; exact (mk4.same s5).ni)
      have g6 : dP pP g v_goals H6 := up_ s6 (Sty.up up5 (up_ s5 h_goals))
      have hsuc : look g wd ∈ sucOf a_steps x := by
        rw [gs]
        exact List.mem_map.mpr ⟨_, look_mem hk, rfl⟩
      have hlen' := I'.len
      refine (ys_if (yt_b (y_qnotin (y_dget (y_var rfl g6) (y_var rfl h_word) hk) (y_var rfl (mk'.same s6).g))) (fun b5 H7 s7 => ?_) (fun b5 H7 s7 => ?_))
      · have hnew : look g wd ∉ l' := by
          rw [← hkd']
          intro z
          rw [has_iff.mpr z] at b5
          cases b5
        have g7 := up_ s7 g6
        have w7 : sP wd v H7 := h_word
        refine ys_seq (ys_qput (k := look g wd) (x := true) y_bl rfl (mk'.same (s6.trans s7)) (y_dget (y_var rfl g7) (y_var rfl w7) hk) ?_ (fun H8 mx8 mk8 => ?_))
        · have : d'.length = l'.length := by rw [← hkd', keys_length]
          omega
        · have up78 : Up H7 H8 := mx8.up (oneq (mk'.same (s6.trans s7)).ni)
          have ml8 : Ml pP l' f H8 := (ml'.same (s6.trans s7)).up up78 fun o e => mx8 f o (fun z => fk (List.mem_singleton.mp z)) e
          refine nx_ (ys_app (x := look g wd) rfl ml8 (y_dget (y_var rfl (Sty.up up78 g7)) (y_var rfl w7) hk) (by omega) (fun H9 mx9 ml9 => ?_))
          have mk9 : Mq bP (put d' (look g wd) true) k H9 := mk8.up (mx9.up (oneq ml8.ni)) fun o e => mx9 k o (fun z => fk (List.mem_singleton.mp z).symm) e
          refine ⟨l' ++ [look g wd], put d' (look g wd) true, _, rfl, ((mx'.trans (Mx.of (s6.trans s7))).trans (mx_p mx8 (fun q hq => by rw [List.mem_singleton.mp hq]; simp))).trans (mx_p mx9 (fun q hq => by rw [List.mem_singleton.mp hq]; simp)), ml9, mk9, ?_, ⟨?_, ?_, ?_, ?_, ?_⟩, ?_, ?_⟩
          · rw [keys_put, hkd', if_neg hnew]
          · exact List.nodup_append.mpr ⟨I'.nd, by simp, fun a ha b hb => by rw [List.mem_singleton.mp hb]; exact fun e => hnew (e ▸ ha)⟩
          · exact List.mem_append_left _ I'.fst
          · rw [List.length_append]
            have := I'.le
            omega
          · intro q hq
            rcases List.mem_append.mp hq with h | h
            · exact I'.snd q h
            · rw [List.mem_singleton.mp h]
              exact .tail (I'.snd x (mem_at hx')) hsuc
          · intro i q hi hq r hr
            refine List.mem_append_left _ (I'.cl i q hi ?_ r hr)
            rw [List.getElem?_append_left (by have := I'.le; omega)] at hq
            exact hq
          · rw [List.getElem?_append_left (by have := (List.getElem?_eq_some_iff.mp hx').1; exact this)]
            exact hx'
          · intro wd' hw'
            rw [take_one hw] at hw'
            rcases List.mem_append.mp hw' with h | h
            · exact List.mem_append_left _ (hall wd' h)
            · rw [List.mem_singleton.mp h]
              exact List.mem_append_right _ (List.mem_singleton.mpr rfl)
      · have hold : look g wd ∈ l' := by
          rw [← hkd', ← has_iff]
          cases z : has d' (look g wd) with
          | true => rfl
          | false => rw [z] at b5; cases b5
        refine ⟨l', d', _, rfl, mx'.trans (Mx.of (s6.trans s7)), ml'.same (s6.trans s7), mk'.same (s6.trans s7), hkd', I', hx', fun wd' hw' => ?_⟩
        rw [take_one hw] at hw'
        rcases List.mem_append.mp hw' with h | h
        · exact hall wd' h
        · rw [List.mem_singleton.mp h]
          exact hold
    · rintro σ' H' ⟨l', d', b, rfl, mx', ml', mk', hkd', I', hx', hall⟩
      refine nx_ (ys_set (y_op r_add (y_var rfl (show iP n _ _ from rfl)) y_int) fun v_at H6 s6 h_at => ?_)
      have hlen' := I'.len
      have hx2 := (List.getElem?_eq_some_iff.mp hx').1
      refine ⟨_, ?_, n + 1, l', d', _, _, rfl, by rw [show v_at = .int (n + 1) from h_at]; rfl, (((mx.trans (Mx.of (s3.trans s4))).trans (Mx.of s5)).trans mx').trans (Mx.of s6), ml'.same s6, mk'.same s6, hkd', ⟨I'.nd, I'.fst, hx2, I'.snd, ?_⟩⟩
      · omega
      · intro i q hi hq r hr
        by_cases e : i = n
        · subst e
          rw [hx'] at hq
          cases hq
          rw [gs] at hr
          obtain ⟨t, ht, e⟩ := List.mem_map.mp hr
          have hz := hall t.1 (by rw [List.take_length]; exact mem_keys ht)
          rw [look_of gn (show (t.1, t.2) ∈ g from ht)] at hz
          rw [← e]
          exact hz
        · exact I'.cl i q (by omega) hq r hr
/-! ### _law_common -/
def comP (e n : World') : Pr := fun v H => ∃ l, lP pP l v H ∧ ∀ q, q ∈ l ↔ Com e n q
theorem stp_mem {e n : Book} (he : WfB e) (hn : WfB n) {p : Str × Str} (h1 : p.1 ∈ keys e) (h2 : p.2 ∈ keys n) {t : Str × (Str × Str)} (ht : t ∈ stp e n p) : t.2.1 ∈ keys e ∧ t.2.2 ∈ keys n ∧ t.1 ∈ goodW e p.1 ∧ t.1 ∈ keys (look n p.2).2 := by
  unfold stp at ht
  split at ht
  · obtain ⟨wd, hw, rfl⟩ := List.mem_map.mp ht
    obtain ⟨h3, h4⟩ := List.mem_filter.mp hw
    have h5 := has_iff.mp h4
    exact ⟨(he.at h1).goals _ (look_mem (goodW_sub h3)), (hn.at h2).goals (wd, look (look n p.2).2 wd) (look_mem h5), h3, h5⟩
  · cases ht
theorem stp_nodup {e n : Book} (he : WfB e) {p : Str × Str} (h1 : p.1 ∈ keys e) : (keys (stp e n p)).Nodup := by
  unfold stp
  split
  · rw [keys_mk, List.map_id']
    exact (goodW_nodup he h1).filter _
  · exact List.nodup_nil
theorem stp_len {e n : Book} (he : WfB e) {p : Str × Str} (h1 : p.1 ∈ keys e) : (stp e n p).length < 64 := by
  have h2 : (goodW e p.1).length < 64 := by
    unfold goodW
    rw [(sortS_perm _).length_eq]
    have h := List.length_filter_le (fun wd => decide ((look e p.1).1 = "says") || decide (look (look e p.1).2 wd ∈ viaL e)) (keys (look e p.1).2)
    rw [keys_length] at h
    have := (he.at h1).len
    have : (look e p.1).2.length < 64 := this
    omega
  unfold stp
  split
  · rw [List.length_map]
    exact Nat.lt_of_le_of_lt (List.length_filter_le _ _) h2
  · decide
noncomputable def ledD (e n : Book) : Dq := (keys (heldS e n)).map fun p => (p, if mt e n p = true then look (heldS e n) p else [])
theorem look_held {e n : Book} {p : Str × Str} (h : p ∈ keys (heldS e n)) : look (heldS e n) p = stp e n p := by
  have e1 : heldS e n = (keys (heldS e n)).map fun q => (q, stp e n q) := by
    rw [keys_heldS, List.map_flatMap]
    unfold heldS
    congr 1
    funext s
    rw [List.map_map]
    rfl
  rw [e1, look_mk h]
theorem suc_led {e n : Book} (he : WfB e) (hn : WfB n) {p : Str × Str} : sucOf (ledD e n) p = if p.1 ∈ keys e ∧ p.2 ∈ keys n then led e n p else [] := by
  have hk : keys (ledD e n) = keys (heldS e n) := by
    unfold ledD
    rw [keys_mk, List.map_id']
  unfold sucOf
  by_cases h : p.1 ∈ keys e ∧ p.2 ∈ keys n
  · have h1 := mem_heldS.mpr h
    rw [if_pos h, if_pos (has_iff.mpr (by rw [hk]; exact h1))]
    unfold ledD led
    rw [look_mk h1, look_held h1]
    split <;> rfl
  · rw [if_neg h, if_neg]
    intro z
    have z := has_iff.mp z
    rw [hk] at z
    exact h (mem_heldS.mp z)
theorem led_keys {e n : Book} (he : WfB e) (hn : WfB n) {p q : Str × Str} (h : p.1 ∈ keys e ∧ p.2 ∈ keys n) (hq : q ∈ led e n p) : q.1 ∈ keys e ∧ q.2 ∈ keys n := by
  unfold led at hq
  split at hq
  · obtain ⟨t, ht, rfl⟩ := List.mem_map.mp hq
    have := stp_mem he hn h.1 h.2 ht
    exact ⟨this.1, this.2.1⟩
  · cases hq
theorem reach_led {e n : Book} (he : WfB e) (hn : WfB n) {x : Str × Str} (hx : x.1 ∈ keys e ∧ x.2 ∈ keys n) (q : Str × Str) : Reach (sucOf (ledD e n)) x q ↔ Reach (led e n) x q := by
  have key : ∀ q, Reach (led e n) x q → q.1 ∈ keys e ∧ q.2 ∈ keys n := fun q h => by
    induction h with
    | refl => exact hx
    | tail _ h2 ih => exact led_keys he hn ih h2
  constructor
  · intro h
    induction h with
    | refl => exact .refl
    | tail _ h2 ih =>
      rw [suc_led he hn, if_pos (key _ ih)] at h2
      exact .tail ih h2
  · intro h
    induction h with
    | refl => exact .refl
    | tail h1 h2 ih =>
      refine .tail ih ?_
      rw [suc_led he hn, if_pos (key _ h1)]
      exact h2
theorem heldS_nodup {e n : Book} (he : WfB e) (hn : WfB n) : (keys (heldS e n)).Nodup := by
  rw [keys_heldS]
  refine List.pairwise_flatMap.mpr ⟨fun s _ => nodup_map (fun a b e => by cases e; rfl) hn.nd, List.Pairwise.imp ?_ he.nd⟩
  intro a b hab x h1 y h2 e
  obtain ⟨g, _, rfl⟩ := List.mem_map.mp h1
  obtain ⟨g', _, rfl⟩ := List.mem_map.mp h2
  cases e
  exact hab rfl
theorem heldS_len {e n : Book} (he : WfB e) (hn : WfB n) : (heldS e n).length ≤ 4096 := by
  unfold heldS
  rw [flat_len (keys n) (fun s g => ((s, g), stp e n (s, g))), keys_length, keys_length]
  have := he.len
  have := hn.len
  have : e.length * n.length ≤ 64 * 64 := Nat.mul_le_mul (by omega) (by omega)
  omega
theorem flat_le {α β : Type} (f : α → List β) (k : Nat) : ∀ l : List α, (∀ x ∈ l, (f x).length ≤ k) → (l.flatMap f).length ≤ l.length * k
  | [], _ => by simp
  | x :: l, h => by
    rw [List.flatMap_cons, List.length_append, List.length_cons, Nat.add_mul]
    have h1 := h x (List.mem_cons_self ..)
    have h2 := flat_le f k l fun y hy => h y (List.mem_cons_of_mem _ hy)
    omega
theorem allOf_len {e n : Book} (he : WfB e) (hn : WfB n) {x : Str × Str} : (allOf (ledD e n) x).length < 900000 := by
  unfold allOf
  rw [List.length_cons]
  have h := flat_le (fun s : (Str × Str) × List (Str × (Str × Str)) => s.2.map (·.2)) 64 (ledD e n) fun s hs => by
    unfold ledD at hs
    obtain ⟨p, hp, rfl⟩ := List.mem_map.mp hs
    rw [List.length_map]
    split
    · rw [look_held hp]
      exact Nat.le_of_lt (stp_len he (mem_heldS.mp hp).1)
    · exact Nat.zero_le _
  have h2 : (ledD e n).length ≤ 4096 := by
    unfold ledD
    rw [List.length_map, keys_length]
    exact heldS_len he hn
  have h3 : (ledD e n).length * 64 ≤ 4096 * 64 := Nat.mul_le_mul_right _ h2
  omega
noncomputable abbrev sp_l_common : Sp := Sp2 wP wP (fun e n => WfB e.1 ∧ WfB n.1 ∧ e.2 ∈ keys e.1 ∧ n.2 ∈ keys n.1) (fun e n => comP e n)
abbrev N_l_common : List Str := ["_law_elder", "_law_newer", "_law_steps", "_law_good_here", "_law_led", "_law_pair"]
theorem nd_l_common : N_l_common.Nodup := by decide
theorem c_l_common (T : Tf w K mg) : C8.Cal P w K mg base 4 "_law_common" sp_l_common [] := by
  refine T.cal (d := d_l_common) (N := N_l_common) (ps := ["_law_elder", "_law_newer"]) 62 rfl rfl (by simp [fa, fa0, fa1, fa2, fa3]) rfl rfl (by decide +kernel) (len2 _ _) (fun _ _ _ _ _ _ us hl => match us, hl with | [_, _], _ => rfl) (fun f cdv A outer s H vs Q E hr hsp => ?_)
  obtain ⟨v_elder, v_newer, a_elder, a_newer, rfl, h_elder, h_newer, hok, hq⟩ := hsp
  refine ⟨_, (pss_cons (ps_asg (pe_tup (pa_cons (C8.pe_c (c_l_held_steps T) hr (by decide) rfl (pa_cons (pv 0) (pa_cons (pv 1) pa_nil))) (pa_cons (C8.pe_c (c_l_good T) hr (by decide) rfl (pa_cons (pv 0) pa_nil)) pa_nil))) (k_pg_tup (K := K) rfl rfl (pgs_cons (pg_name (i := 2) nd_l_common rfl (Or.inr rfl)) (pgs_cons (pg_name (i := 3) nd_l_common rfl (Or.inr rfl)) pgs_nil))))
    (pss_cons (ps_set (i := 4) nd_l_common rfl (Or.inl rfl) (pe_fz (pe_callTy (call_dictT (K := K) rfl rfl (hu65 hr)) (by rfl) T.n_dict (by decide +kernel) (pa_cons (pe_fz (pe_lc (own := [("_law_pair", 5)]) rfl nd_l_common (pi_keys (pv 2)) (blkOk_by (own := [("_law_pair", 5)]) (by first | decide +kernel | rfl)) (fun _ _ _ _ _ => (pg_name (i := 5) nd_l_common rfl (Or.inl rfl))) (fun _ _ _ _ _ => pts_nil) (fun _ _ _ _ _ => (pe_tup (pa_cons (pv 5) (pa_cons (pe_ifExp (pt_val (C8.pe_c (c_l_matched_by T) hr (by decide) rfl (pa_cons (pv 3) (pa_cons (pv 0) (pa_cons (pv 1) (pa_cons (pv 5) pa_nil)))))) (pe_dget (hu_of hr) (pv 2) (pv 5) (fun _ _ => rfl)) (pe_fz pe_dnewK)) pa_nil)))))) pa_nil))))
    (pss_one (ps_ret (pe_fz (pe_callB (cr_sortedD (enc := dPr) (K := K) rfl rfl (hu65 hr)) (by rfl) T.n_sorted (by decide +kernel) (pa_cons (C8.pe_c (c_l_closed T) hr (by decide) rfl (pa_cons (pv 4) (pa_cons (pe_tup (pa_cons (pe_ix (k_ix_list (K := K) rfl) (pv 0) pe_int (fun _ _ => rfl)) (pa_cons (pe_ix (k_ix_list (K := K) rfl) (pv 1) pe_int (fun _ _ => rfl)) pa_nil))) pa_nil))) pa_nil))))))), ?_⟩
  refine ys_seq (ys_tup2 (y_tup (ya_cons (y_call2 (y_var rfl h_elder) (y_var rfl h_newer) ⟨hok.1, hok.2.1⟩) (ya_cons (y_call1 (y_var rfl h_elder) hok.1) ya_nil))) fun v_steps v_good H1 s1 h_steps h_good => ?_)
  refine ys_seq (ys_set (y_fzQ (yn_cb (b_dictT ?_) (y_fzl (yn_lc0 (r' := (iqP (dP pP)))  _ (yi_qkeys (y_var rfl h_steps)) (fun x2 m2 v2 H2 s2 h2 => bd1 ⟨rfl, yt_yes, fun e2 => (y_iq (ya_cons (y_var rfl h2) (ya_cons (y_if (r := (dP pP)) (yt_b (y_call4 (y_var rfl (up_ s2 h_good)) (y_var rfl (up_ (s1.trans s2) h_elder)) (y_var rfl (up_ (s1.trans s2) h_newer)) (y_var rfl h2) ?_)) (fun c3 => (y_qget (y_var rfl (up_ s2 h_steps)) (y_var rfl h2) m2)) (fun c3 => (y_fzD yn_newK))) ya_nil)))⟩))))) fun v_led H4 s4 h_led => ?_)
  · rw [keys_mk, List.map_id']
    exact heldS_nodup hok.1 hok.2.1
  · have hh := mem_heldS.mp m2
    exact ⟨hh.1, hh.2, by rw [keys_good]; exact hh.1⟩
  have hl : qP (dP pP) (ledD a_elder.1 a_newer.1) v_led H4 := P_eq (r := qP (dP pP)) (List.map_congr_left fun p hp => by rw [mtB_mt (mem_heldS.mp hp).1]) h_led
  have hx : (a_elder.2, a_newer.2).1 ∈ keys a_elder.1 ∧ (a_elder.2, a_newer.2).2 ∈ keys a_newer.1 := hok.2.2
  refine nx_ (ys_ret (y_bind (C := fun t => tFz (tCB (rSortD K dPr) (tCons t tNil))) (P2 := comP a_elder a_newer) (y_call2 (y_var rfl hl) (y_pair (ya_cons (y_w1 (y_var rfl (up_ (s1.trans s4) h_elder))) (ya_cons (y_w1 (y_var rfl (up_ (s1.trans s4) h_newer))) ya_nil))) ⟨?_, allOf_len hok.1 hok.2.1⟩)
    (fun v H5 s5 ⟨l, hl, nd, hr⟩ => (y_fzl (yn_sortedP (y_cs hl))).mono fun w H6 h6 => ⟨_, h6, fun q => ((sortP_perm l).mem_iff.trans (hr q)).trans (reach_led hok.1 hok.2.1 hx q)⟩)) fun v H5 s5 h => hq v _ ((s1.trans s4).trans s5) h)
  intro s hs
  unfold ledD at hs
  obtain ⟨p, hp, rfl⟩ := List.mem_map.mp hs
  show (keys (if mt a_elder.1 a_newer.1 p = true then look (heldS a_elder.1 a_newer.1) p else [])).Nodup
  split
  · rw [look_held hp]
    exact stp_nodup hok.1 (mem_heldS.mp hp).1
  · exact List.nodup_nil
end En
set_option maxHeartbeats 4000000
/-! _law_lost. -/
namespace En
open PySem PySem.Spec PyProof.Rows L2
variable {P : Program} {w : World} {K : PySem.W.Frag} {mg : Str → Option Value} {base : Heap}
def inL {κ : Type} [DecidableEq κ] (x : κ) (l : List κ) : Bool := decide (x ∈ l)
theorem inL_iff {κ : Type} [DecidableEq κ] {x : κ} {l : List κ} : inL x l = true ↔ x ∈ l := by
  unfold inL
  exact decide_eq_true_iff
noncomputable def lostC (e n : Book) (L N : List (Str × Str)) (p : Str × Str) : Bool :=
  (decide ((look e p.1).1 = "hears") && ((stp e n p).map (·.2)).any fun g => inL g N && inL g L) ||
  (decide ((look e p.1).1 = "says") && (((stp e n p).map (·.2)).all (fun g => inL g L) && (decide (((look n p.2).2.length : Int) < ((look e p.1).2.length : Int)) || ((stp e n p).map (·.2)).any fun g => inL g N && inL g L)))
theorem stp_done {e n : Book} (he : WfB e) {p : Str × Str} (h1 : p.1 ∈ keys e) (hd : (look e p.1).1 = "done") : stp e n p = [] := by
  have h2 : (look e p.1).2 = [] := ((he.at h1).fin).mp hd
  have h3 : goodW e p.1 = [] := by
    unfold goodW
    rw [h2]
    exact List.perm_nil.mp (sortS_perm _)
  unfold stp
  rw [h3]
  split <;> rfl
theorem lostC_iff {e n : Book} (he : WfB e) {L N : List (Str × Str)} (hs : ∀ x ∈ N, x ∈ L) {p : Str × Str} (h1 : p.1 ∈ keys e) (hm : mt e n p = true) : lostC e n L N p = true ↔ Cond (lostD e n) (· ∈ L) (· ∈ N) p := by
  have hk := (he.at h1).kind
  have hk : (look e p.1).1 = "says" ∨ (look e p.1).1 = "hears" ∨ (look e p.1).1 = "done" := by
    have : (look e p.1).1 ∈ (["says", "hears", "done"] : List Str) := hk
    simpa using this
  have hany : (((stp e n p).map (·.2)).any fun g => inL g N && inL g L) = true ↔ ∃ y ∈ (stp e n p).map (·.2), y ∈ N := by
    rw [List.any_eq_true]
    constructor
    · rintro ⟨y, hy, h⟩
      rw [Bool.and_eq_true, inL_iff] at h
      exact ⟨y, hy, h.1⟩
    · rintro ⟨y, hy, h⟩
      exact ⟨y, hy, by rw [Bool.and_eq_true, inL_iff, inL_iff]; exact ⟨h, hs y h⟩⟩
  have hb : ¬ (lostD e n).base p := fun z => by
    have z : mt e n p = false := z
    rw [hm] at z
    cases z
  unfold lostC Cond
  rw [Bool.or_eq_true, Bool.and_eq_true, Bool.and_eq_true, Bool.and_eq_true, Bool.or_eq_true, hany, decide_eq_true_eq, decide_eq_true_eq, decide_eq_true_eq, List.all_eq_true]
  constructor
  · rintro (⟨h2, h3⟩ | ⟨h2, h3, h4⟩)
    · refine .inr ⟨fun z => ?_, .inr h3⟩
      have z : (look e p.1).1 = "says" := z
      rw [z] at h2
      exact absurd h2 (by decide)
    · refine .inr ⟨fun _ y hy => inL_iff.mp (h3 y hy), ?_⟩
      rcases h4 with h4 | h4
      · exact .inl ⟨h2, by omega⟩
      · exact .inr h4
  · rintro (h | ⟨h2, h3⟩)
    · exact absurd h hb
    · rcases hk with hk | hk | hk
      · refine .inr ⟨hk, fun y hy => inL_iff.mpr (h2 hk y hy), ?_⟩
        rcases h3 with h3 | h3
        · exact .inl (by have := h3.2; omega)
        · exact .inr h3
      · refine .inl ⟨hk, ?_⟩
        rcases h3 with h3 | h3
        · have := h3.1
          rw [hk] at this
          exact absurd this (by decide)
        · exact h3
      · rcases h3 with h3 | ⟨y, hy, _⟩
        · have := h3.1
          rw [hk] at this
          exact absurd this (by decide)
        · have hy : y ∈ (stp e n p).map (·.2) := hy
          rw [stp_done he h1 hk] at hy
          cases hy
structure LN (e n : Book) (L N : List (Str × Str)) : Prop where
  nd : N.Nodup
  near : ∀ s ∈ N, Near (lostD e n) (· ∈ L) s
  un : ∀ p ∈ keys (heldS e n), mt e n p = false → p ∈ N
theorem LN.sub {e n : Book} {L N : List (Str × Str)} (h : LN e n L N) : ∀ s ∈ N, s ∈ L := fun s hs => (h.near s hs).sub
structure LL (e n : Book) (L : List (Str × Str)) : Prop where
  nd : L.Nodup
  sub : ∀ s ∈ L, s ∈ keys (heldS e n)
  lost : ∀ s ∈ keys (heldS e n), Gfp (lostD e n) s → s ∈ L
  un : ∀ p ∈ keys (heldS e n), mt e n p = false → p ∈ L
theorem LN.full {e n : Book} {L N : List (Str × Str)} (he : WfB e) (hL : LL e n L) (h : LN e n L N) (c : ∀ s ∈ L, mt e n s = true → s ∉ N → lostC e n L N s = false) (s : Str × Str) : s ∈ N ↔ Near (lostD e n) (· ∈ L) s := by
  refine ⟨h.near s, Near.closed (R := (· ∈ N)) fun x hx hc => ?_⟩
  apply Classical.byContradiction
  intro hn
  have hxu := hL.sub x hx
  cases hm : mt e n x with
  | false => exact hn (h.un x hxu hm)
  | true =>
    have h1 := c x hx hm hn
    rw [(lostC_iff he h.sub (mem_heldS.mp hxu).1 hm).mpr hc] at h1
    cases h1
/-- what is near and in the whole is lost, if the whole is near -/
theorem near_gfp {e n : Book} (he : WfB e) (hn : WfB n) {L : List (Str × Str)} (hL : LL e n L) {p : Str × Str} (hp : p ∈ keys (heldS e n)) (h : Gfp (lostD e n) p) : Near (lostD e n) (· ∈ L) p := by
  obtain ⟨M, hM, hs, hf⟩ := Gfp.within (C := (· ∈ keys (heldS e n))) (fun x hx hb y hy => by
    have hk := mem_heldS.mp hx
    obtain ⟨t, ht, rfl⟩ := List.mem_map.mp hy
    have := stp_mem he hn hk.1 hk.2 ht
    exact mem_heldS.mpr ⟨this.1, this.2.1⟩) hp h
  exact (hf p hM).mono fun y hy => hL.lost y (hs y hy) (Gfp.of hf hy)
def losP (e n : Book) : Pr := fun v H => ∃ d, qP bP d v H ∧ ∀ p, p ∈ keys d ↔ p ∈ keys (heldS e n) ∧ Gfp (lostD e n) p
section
variable {σ : L2.St} {H : Hp} {D : Ends} {ta tb tc : TE} {i j l : Nat}
theorem ys_tup3N {R : HO → Hp → Prop} {Pa Pc : Pr} [sa : Sts Pa] [sc : Sts Pc] (y1 : Y ta σ H Pa) (y2 : Yn tb σ H R) (y3 : Y tc σ H Pc) (q : ∀ va p H2 H3 u vc, Same H H2 → H p = none → H2 p = some u → R u H2 → Same H2 H3 → Pa va H3 → Pc vc H3 → D.nx (((σ.set i (some va)).set j (some (.ref p))).set l (some vc)) H3) :
    tAsg (tTup (tCons ta (tCons tb (tCons tc tNil)))) (gTup K 3 (gCons (gName i) (gCons (gName j) (gCons (gName l) gNil)))) D σ H :=
  y1 H (Same.refl _) _ fun va H1 s1 pa => y2 H1 s1 _ fun p H2 u s2 n e r => y3 H2 (s1.trans s2) _ fun vc H3 s3 pc => ⟨by rw [sizeLine_eq]; simp, fun p' hp' => ⟨p', _, rfl, SqT.of L2.upd_same, rfl, _, _, rfl, _, _, rfl, _, _, rfl, rfl, q va p H2 _ u vc (s1.trans s2) (s1.free n) e r (s3.trans (same_new _ hp')) (sa.same ((s2.trans s3).trans (same_new _ hp')) pa) (sc.same (same_new _ hp') pc)⟩⟩
end
theorem Yi_eq {α : Type} {r : α → Pr} {xs ys : List α} {wi : TI} {σ : L2.St} {H : Hp} (e : xs = ys) (y : Yi wi σ H (xs.map r)) : Yi wi σ H (ys.map r) := e ▸ y
noncomputable abbrev sp_l_lost : Sp := Sp2 wP wP (fun e n => WfB e.1 ∧ WfB n.1) (fun e n => losP e.1 n.1)
abbrev N_l_lost : List Str := ["_law_elder", "_law_newer", "_law_steps", "_law_kept", "_law_good_here", "_law_pair", "_law_fit", "_law_turn", "_law_near", "_law_many", "_law_kind", "_law_goals", "_law_is_less", "_law_is_near", "_law_word_here", "_law_goal"]
theorem nd_l_lost : N_l_lost.Nodup := by decide
theorem c_l_lost (T : Tf w K mg) : C8.Cal P w K mg base 4 "_law_lost" sp_l_lost [] := by
  refine T.cal (d := d_l_lost) (N := N_l_lost) (ps := ["_law_elder", "_law_newer"]) 63 rfl rfl (by simp [fa, fa0, fa1, fa2, fa3]) rfl rfl (by decide +kernel) (len2 _ _) (fun _ _ _ _ _ _ us hl => match us, hl with | [_, _], _ => rfl) (fun f cdv A outer s H vs Q E hr hsp => ?_)
  obtain ⟨v_elder, v_newer, a_elder, a_newer, rfl, h_elder, h_newer, hok, hq⟩ := hsp
  refine ⟨_, (pss_cons (ps_asg (pe_tup (pa_cons (C8.pe_c (c_l_held_steps T) hr (by decide) rfl (pa_cons (pv 0) (pa_cons (pv 1) pa_nil))) (pa_cons pe_dnewT (pa_cons (C8.pe_c (c_l_good T) hr (by decide) rfl (pa_cons (pv 0) pa_nil)) pa_nil)))) (k_pg_tup (K := K) rfl rfl (pgs_cons (pg_name (i := 2) nd_l_lost rfl (Or.inr rfl)) (pgs_cons (pg_name (i := 3) nd_l_lost rfl (Or.inr rfl)) (pgs_cons (pg_name (i := 4) nd_l_lost rfl (Or.inr rfl)) pgs_nil)))))
    (pss_cons (ps_set (i := 6) nd_l_lost rfl (Or.inr rfl) (pe_fz (pe_callTy (call_dictT (K := K) rfl rfl (hu65 hr)) (by rfl) T.n_dict (by decide +kernel) (pa_cons (pe_fz (pe_lc (own := [("_law_pair", 5)]) rfl nd_l_lost (pi_keys (pv 2)) (blkOk_by (own := [("_law_pair", 5)]) (by first | decide +kernel | rfl)) (fun _ _ _ _ _ => (pg_name (i := 5) nd_l_lost rfl (Or.inl rfl))) (fun _ _ _ _ _ => (pts_one (pt_val (C8.pe_c (c_l_matched_by T) hr (by decide) rfl (pa_cons (pv 4) (pa_cons (pv 0) (pa_cons (pv 1) (pa_cons (pv 5) pa_nil)))))))) (fun _ _ _ _ _ => (pe_tup (pa_cons (pv 5) (pa_cons pe_bl pa_nil)))))) pa_nil))))
    (pss_cons (ps_for PassesOwn.never rfl (pi_keys (pv 2)) (pg_name (i := 5) nd_l_lost rfl (Or.inr rfl))
    (pss_one (ps_dput (hu_of hr) (pv 3) (pv 5) pe_bl rfl)))
    (pss_cons (ps_for PassesOwn.never rfl (pi_range1 rfl T.n_range (pa_cons (pe_op op_add (pe_callB (k_lenA (K := K) rfl) (by rfl) T.n_len (by decide +kernel) (pa_cons (pv 2) pa_nil)) pe_int) pa_nil)) (pg_name (i := 7) nd_l_lost rfl (Or.inl rfl))
    (pss_cons (ps_set (i := 8) nd_l_lost rfl (Or.inr rfl) (pe_callTy (call_dictT (K := K) rfl rfl (hu65 hr)) (by rfl) T.n_dict (by decide +kernel) (pa_cons (pe_fz (pe_lc (own := [("_law_pair", 5)]) rfl nd_l_lost (pi_keys (pv 2)) (blkOk_by (own := [("_law_pair", 5)]) (by first | decide +kernel | rfl)) (fun _ _ _ _ _ => (pg_name (i := 5) nd_l_lost rfl (Or.inl rfl))) (fun _ _ _ _ _ => (pts_one (pt_cmp (pc_dnotin (hu_of hr) (pv 5) (pv 6)) rfl))) (fun _ _ _ _ _ => (pe_tup (pa_cons (pv 5) (pa_cons pe_bl pa_nil)))))) pa_nil)))
    (pss_cons (ps_set (i := 9) nd_l_lost rfl (Or.inl rfl) (pe_un un_neg pe_int))
    (pss_cons (ps_while PassesOwn.never (pt_cmpR op_lt (pv 9) (pe_callB (k_lenA (K := K) rfl) (by rfl) T.n_len (by decide +kernel) (pa_cons (pv 8) pa_nil)) (nomark _))
    (pss_cons (ps_set (i := 9) nd_l_lost rfl (Or.inl rfl) (pe_callB (k_lenA (K := K) rfl) (by rfl) T.n_len (by decide +kernel) (pa_cons (pv 8) pa_nil)))
    (pss_one (ps_for PassesOwn.never rfl (k_list (K := K) rfl (pe_fz (pe_lc (own := [("_law_pair", 5)]) rfl nd_l_lost (pi_keys (pv 6)) (blkOk_by (own := [("_law_pair", 5)]) (by first | decide +kernel | rfl)) (fun _ _ _ _ _ => (pg_name (i := 5) nd_l_lost rfl (Or.inl rfl))) (fun _ _ _ _ _ => (pts_one (PW.pt (pw_and (pt_cmp (pc_din (hu_of hr) (pv 5) (pv 3)) rfl) (pw_and1 (pt_cmp (pc_dnotin (hu_of hr) (pv 5) (pv 8)) rfl)))))) (fun _ _ _ _ _ => (pv 5))))) (pg_name (i := 5) nd_l_lost rfl (Or.inr rfl))
    (pss_cons (ps_par (i := 10) (j := 11) rfl nd_l_lost rfl rfl (by decide) rfl rfl (pa_cons (pe_ix (k_ix_tup (K := K) rfl) (pe_dget (hu_of hr) (pe_ix (k_ix_list (K := K) rfl) (pv 0) pe_int (fun _ _ => rfl)) (pe_ix (k_ix_tup (K := K) rfl) (pv 5) pe_int (fun _ _ => rfl)) (fun _ _ => rfl)) pe_int (fun _ _ => rfl)) (pa_cons (pe_fz (pe_lc (own := [("_law_word_here", 14)]) rfl nd_l_lost (pi_keys (pe_dget (hu_of hr) (pv 2) (pv 5) (fun _ _ => rfl))) (blkOk_by (own := [("_law_word_here", 14)]) (by first | decide +kernel | rfl)) (fun _ _ _ _ _ => (pg_name (i := 14) nd_l_lost rfl (Or.inl rfl))) (fun _ _ _ _ _ => pts_nil) (fun _ _ _ _ _ => (pe_dget (hu_of hr) (pe_dget (hu_of hr) (pv 2) (pv 5) (fun _ _ => rfl)) (pv 14) (fun _ _ => rfl))))) pa_nil)) (by rfl))
    (pss_cons (ps_set (i := 12) nd_l_lost rfl (Or.inl rfl) (pe_cmpR op_gt (pe_callB (k_lenA (K := K) rfl) (by rfl) T.n_len (by decide +kernel) (pa_cons (pe_ix (k_ix_tup (K := K) rfl) (pe_dget (hu_of hr) (pe_ix (k_ix_list (K := K) rfl) (pv 0) pe_int (fun _ _ => rfl)) (pe_ix (k_ix_tup (K := K) rfl) (pv 5) pe_int (fun _ _ => rfl)) (fun _ _ => rfl)) pe_int (fun _ _ => rfl)) pa_nil)) (pe_callB (k_lenA (K := K) rfl) (by rfl) T.n_len (by decide +kernel) (pa_cons (pe_ix (k_ix_tup (K := K) rfl) (pe_dget (hu_of hr) (pe_ix (k_ix_list (K := K) rfl) (pv 1) pe_int (fun _ _ => rfl)) (pe_ix (k_ix_tup (K := K) rfl) (pv 5) pe_int (fun _ _ => rfl)) (fun _ _ => rfl)) pe_int (fun _ _ => rfl)) pa_nil)) (nomark _)))
    (pss_cons (ps_set (i := 13) nd_l_lost rfl (Or.inl rfl) (pe_callB (k_any (K := K) rfl rfl) (by rfl) T.n_any (by decide +kernel) (pa_cons (pe_fz (pe_lc (own := [("_law_goal", 15)]) rfl nd_l_lost (k_list (K := K) rfl (pv 11)) (blkOk_by (own := [("_law_goal", 15)]) (by first | decide +kernel | rfl)) (fun _ _ _ _ _ => (pg_name (i := 15) nd_l_lost rfl (Or.inl rfl))) (fun _ _ _ _ _ => pts_nil) (fun _ _ _ _ _ => (pe_and (pe_cmp (pc_din (hu_of hr) (pv 15) (pv 8)) rfl) (pe_one (pe_cmp (pc_din (hu_of hr) (pv 15) (pv 3)) rfl)))))) pa_nil)))
    (pss_one (ps_if (PW.pt (pw_or (PW.pt (pw_and (pt_cmpR op_eq (pv 10) pe_str (nomark _)) (pw_and1 (pt_val (pv 13))))) (pw_or1 (PW.pt (pw_and (pt_cmpR op_eq (pv 10) pe_str (nomark _)) (pw_and (pt_val (pe_callB (k_all (K := K) rfl rfl) (by rfl) T.n_all (by decide +kernel) (pa_cons (pe_fz (pe_lc (own := [("_law_goal", 15)]) rfl nd_l_lost (k_list (K := K) rfl (pv 11)) (blkOk_by (own := [("_law_goal", 15)]) (by first | decide +kernel | rfl)) (fun _ _ _ _ _ => (pg_name (i := 15) nd_l_lost rfl (Or.inl rfl))) (fun _ _ _ _ _ => pts_nil) (fun _ _ _ _ _ => (pe_cmp (pc_din (hu_of hr) (pv 15) (pv 3)) rfl)))) pa_nil))) (pw_and1 (PW.pt (pw_or (pt_val (pv 12)) (pw_or1 (pt_val (pv 13)))))))))))) (pss_one (ps_dput (hu_of hr) (pv 8) (pv 5) pe_bl rfl))
    pss_nil)))))))))
    (pss_cons (ps_if (pt_cmpR op_eq (pe_callB (k_lenA (K := K) rfl) (by rfl) T.n_len (by decide +kernel) (pa_cons (pv 8) pa_nil)) (pe_callB (k_lenA (K := K) rfl) (by rfl) T.n_len (by decide +kernel) (pa_cons (pv 3) pa_nil)) (nomark _)) (pss_one (ps_ret (pe_fz (pv 8))))
    pss_nil)
    (pss_one (ps_set (i := 3) nd_l_lost rfl (Or.inr rfl) (pv 8))))))))
    (pss_one (ps_ret (pe_fz (pv 3)))))))), ?_⟩
  obtain ⟨he, hn⟩ := hok
  refine ys_seq (ys_tup3N (y_call2 (y_var rfl h_elder) (y_var rfl h_newer) ⟨he, hn⟩) (yn_newT (r := bP)) (y_call1 (y_var rfl h_elder) he) fun v_steps q0 H0 H1 u0 v_good s0 nq e0 i0 s1 h_steps h_good => ?_)
  generalize hU : keys (heldS a_elder.1 a_newer.1) = U
  have Un : U.Nodup := by rw [← hU]; exact heldS_nodup he hn
  have Uk : ∀ p ∈ U, p.1 ∈ keys a_elder.1 ∧ p.2 ∈ keys a_newer.1 := fun p hp => mem_heldS.mp (by rw [hU]; exact hp)
  have Ul : U.length ≤ 4096 := by rw [← hU, keys_length]; exact heldS_len he hn
  have Ulh : (heldS a_elder.1 a_newer.1).length = U.length := by rw [← hU, keys_length]
  have mk1 : Mq bP [] q0 H1 := (Mq.of e0 i0 List.nodup_nil).same s1
  have s01 : Same H H1 := s0.trans s1
  refine ys_seq (ys_set (y_fzQ (yn_cb (b_dictT ?_) (y_fzl (yn_lc (r' := (iqP bP)) _ _ (yi_qkeys (y_var rfl h_steps)) (fun x2 m2 v2 H2 s2 h2 => bd1 ⟨rfl, (yt_b (y_call4 (y_var rfl (up_ s2 h_good)) (y_var rfl (up_ (s01.trans s2) h_elder)) (y_var rfl (up_ (s01.trans s2) h_newer)) (y_var rfl h2) ?_)), fun e2 => (y_iq (ya_cons (y_var rfl h2) (ya_cons y_bl ya_nil)))⟩))))) fun v_fit H3 s3 h_fit => ?_)
  · rw [keys_mk, List.map_id', hU]
    exact Un.filter _
  · have hh := mem_heldS.mp m2
    exact ⟨hh.1, hh.2, by rw [keys_good]; exact hh.1⟩
  generalize hF : ((keys (heldS a_elder.1 a_newer.1)).filter fun x2 => mtB (good a_elder.1) a_elder a_newer x2).map (fun x2 => (x2, true)) = fit at h_fit
  have Fk : ∀ p, p ∈ keys fit ↔ p ∈ U ∧ mt a_elder.1 a_newer.1 p = true := fun p => by
    rw [← hF, keys_mk, List.map_id', List.mem_filter, hU]
    constructor
    · rintro ⟨h1, h2⟩
      rw [mtB_mt (Uk p h1).1] at h2
      exact ⟨h1, h2⟩
    · rintro ⟨h1, h2⟩
      refine ⟨h1, ?_⟩
      rw [mtB_mt (Uk p h1).1]
      exact h2
  have s03 := s01.trans s3
  -- all pairs are kept
  refine ys_seq (ys_for (xs := U) (Yi_eq hU (yi_qkeys (y_var rfl (up_ s3 h_steps)))) fun H4 s4 => ⟨fun i σ' H' => ∃ c : Option V, σ' = [some v_elder, some v_newer, some v_steps, some (.ref q0), some v_good, c, some v_fit, none, none, none, none, none, none, none, none, none] ∧ Mx [q0] H4 H' ∧ Mq bP ((U.take i).map fun p => (p, true)) q0 H',
    ⟨_, rfl, Mx.rfl, (mk1.same s3).same s4⟩, fun i σ' H' p' => by obtain ⟨_, _, h, _⟩ := p'; exact h.up (oneq ((mk1.same s3).same s4).ni), ?_, ?_⟩)
  · rintro i x σ' H' hx ⟨c, rfl, mx, mk⟩ v H5 s5 h_pair
    refine ys_qput (k := x) (x := true) y_bl rfl (mk.same s5) (y_var rfl h_pair) ?_ (fun H6 mx6 mk6 => ?_)
    · rw [List.length_map, List.length_take]
      omega
    · refine ⟨_, rfl, (mx.trans (Mx.of s5)).trans mx6, ?_⟩
      rw [take_one hx, List.map_append, List.map_cons, List.map_nil, ← put_new]
      · exact mk6
      · rw [keys_mk, List.map_id']
        exact not_mem_take Un hx
  rintro σ' H5 ⟨c0, rfl, mx5, mk5⟩
  rw [List.take_length] at mk5
  have up45 : Up H4 H5 := mx5.up (oneq ((mk1.same s3).same s4).ni)
  have s05 : Same H H5 := mx5.same (s03.trans s4) (oneq nq)
  have st5 : qP (dP pP) (heldS a_elder.1 a_newer.1) v_steps H5 := Sty.up up45 (up_ (s3.trans s4) h_steps)
  have fit5 : qP bP fit v_fit H5 := Sty.up up45 (up_ s4 h_fit)
  refine nx_ (ys_seq (ys_for (yi_range1 (n := U.length + 1) (y_op r_add (Y_eq (r := fun n : Nat => iP n) Ulh (y_lenQ (y_var rfl st5))) y_int) (by omega)) fun H6 s6 => ⟨fun i σ' H' => ∃ (q : Addr) (d : List ((Str × Str) × Bool)) (c5 c7 c8 c9 c10 c11 c12 c13 c14 c15 : Option V), σ' = [some v_elder, some v_newer, some v_steps, some (.ref q), some v_good, c5, some v_fit, c7, c8, c9, c10, c11, c12, c13, c14, c15] ∧ Same H6 H' ∧ Mq bP d q H' ∧ LL a_elder.1 a_newer.1 (keys d) ∧ d.length + i ≤ U.length,
    ⟨q0, _, _, _, _, _, _, _, _, _, _, _, rfl, Same.refl _, mk5.same s6, ?_, by rw [List.length_map]; exact Nat.le_refl _⟩, fun i σ' H' p => by obtain ⟨_, _, _, _, _, _, _, _, _, _, _, _, _, h, _⟩ := p; exact up_same h, ?_, ?_⟩))
  · have ek : keys (U.map fun p => (p, true)) = U := by rw [keys_mk, List.map_id']
    rw [ek]
    exact ⟨Un, fun s hs => by rw [hU]; exact hs, fun s hs _ => by rw [hU] at hs; exact hs, fun s hs _ => by rw [hU] at hs; exact hs⟩
  · rintro i x σ' H' hx ⟨q, d, c5, c7, c8, c9, c10, c11, c12, c13, c14, c15, rfl, sH, mk, hL, hl⟩ v H7 s7 h_turn
    have s07 : Same H H7 := ((s05.trans s6).trans sH).trans s7
    have s57 : Same H5 H7 := (s6.trans sH).trans s7
    have hLU : ∀ s ∈ keys d, s ∈ U := fun s hs => by have := hL.sub s hs; rw [hU] at this; exact this
    have Lb : (keys d).length ≤ U.length := by rw [keys_length]; omega
    refine ys_seq (ys_new (yn_cb (b_dictT ?_) (y_fzl (yn_lc (r' := (iqP bP)) _ _ (yi_qkeys (y_var rfl (up_ s57 st5))) (fun x6 m6 v6 H6 s6 h6 => bd1 ⟨rfl, (yt_b (y_qnotin (y_var rfl h6) (y_var rfl (up_ (s57.trans s6) fit5)))), fun e6 => (y_iq (ya_cons (y_var rfl h6) (ya_cons y_bl ya_nil)))⟩)))) fun p H8 u0 s8 np e0 i0 => ?_)
    · rw [keys_mk, List.map_id', hU]
      exact Un.filter _
    generalize hN0 : ((keys (heldS a_elder.1 a_newer.1)).filter fun x6 => !has fit x6).map (fun x6 => (x6, true)) = n0 at i0
    have N0k : ∀ s, s ∈ keys n0 ↔ s ∈ U ∧ mt a_elder.1 a_newer.1 s = false := fun s => by
      rw [← hN0, keys_mk, List.map_id', List.mem_filter, hU]
      constructor
      · rintro ⟨h1, h2⟩
        refine ⟨h1, ?_⟩
        cases z : mt a_elder.1 a_newer.1 s with
        | false => rfl
        | true =>
          rw [has_iff.mpr ((Fk s).mpr ⟨h1, z⟩)] at h2
          cases h2
      · rintro ⟨h1, h2⟩
        refine ⟨h1, ?_⟩
        cases z : has fit s with
        | false => rfl
        | true =>
          have := ((Fk s).mp (has_iff.mp z)).2
          rw [h2] at this
          cases this
    have n0n : (keys n0).Nodup := by
      rw [← hN0, keys_mk, List.map_id', hU]
      exact Un.filter _
    have n0L : ∀ s ∈ keys n0, s ∈ keys d := fun s hs => hL.un s (by rw [hU]; exact ((N0k s).mp hs).1) ((N0k s).mp hs).2
    refine ys_seq (ys_set (y_neg y_int) fun v_many H9 s9 h_many => ?_)
    have md0 : Mq bP n0 p H9 := (Mq.of e0 i0 n0n).same s9
    have s79 : Same H7 H9 := s8.trans s9
    have s09 : Same H H9 := s07.trans s79
    have np0 : H p = none := s07.free np
    have mk9 : Mq bP d q H9 := (mk.same s7).same s79
    have pq : q ≠ p := fun e => by
      obtain ⟨kvs, h1, _⟩ := mk.same s7
      rw [e, np] at h1
      cases h1
    have vn0 : LN a_elder.1 a_newer.1 (keys d) (keys n0) := ⟨n0n, fun s hs => .base (n0L s hs) ((N0k s).mp hs).2, fun s hs hm => (N0k s).mpr ⟨by rw [hU] at hs; exact hs, hm⟩⟩
    refine ys_seq (ys_while (fun M σ' H' => ∃ (m : Int) (nd : List ((Str × Str) × Bool)) (c5 c10 c11 c12 c13 c14 c15 : Option V), M = 2 * (U.length - nd.length) + (if m = nd.length then 0 else 1) ∧ σ' = [some v_elder, some v_newer, some v_steps, some (.ref q), some v_good, c5, some v_fit, some v, some (.ref p), some (.int m), c10, c11, c12, c13, c14, c15] ∧ Mx [p] H9 H' ∧ Mq bP nd p H' ∧ LN a_elder.1 a_newer.1 (keys d) (keys nd) ∧ m ≤ nd.length ∧ (m = nd.length → ∀ s ∈ keys d, mt a_elder.1 a_newer.1 s = true → s ∉ keys nd → lostC a_elder.1 a_newer.1 (keys d) (keys nd) s = false))
      _ ⟨-1, n0, _, _, _, _, _, _, _, rfl, by rw [show v_many = .int (-1) from h_many]; rfl, Mx.rfl, md0, vn0, by omega, fun e => by omega⟩ ?_)
    rintro M σ' H' ⟨m, nd, c5, c10, c11, c12, c13, c14, c15, rfl, rfl, mx, md, vn, hm, hcl⟩
    have s0' : Same H H' := mx.same s09 (oneq np0)
    have s5' : Same H5 H' := mx.same (s57.trans s79) (oneq (s57.free np))
    have mk' : Mq bP d q H' := mk9.up (mx.up (oneq md0.ni)) fun o e => mx q o (fun z => pq (List.mem_singleton.mp z)) e
    have ndL : nd.length ≤ U.length := by
      have := len_sub vn.nd vn.sub
      rw [keys_length] at this
      omega
    refine ⟨_, yt_test (y_op r_lt (y_var rfl (show iP m _ _ from rfl)) (y_lenQ (y_var rfl md.g))), fun hb H10 s10 => ?_, fun hb H10 s10 => ?_⟩
    · have em : m = nd.length := by have := of_decide_eq_false hb; omega
      have full := vn.full he hL (hcl em)
      have md7 := md.same s10
      have mk7 := mk'.same s10
      refine nx_ (ys_seq (ys_if (yt_test (y_op r_eqI (y_lenQ (y_var rfl md7.g)) (y_lenQ (y_var rfl mk7.g)))) (fun b18 H11 s11 => ?_) (fun b18 H11 s11 => ?_)))
      · have e := of_decide_eq_true b18
        have hnn : ∀ s ∈ keys d, s ∈ keys nd := sub_eq vn.nd hL.nd vn.sub (by rw [keys_length, keys_length]; omega)
        refine y_fzMq rfl (md7.same s11) _ fun vk H12 mx12 hk12 => ?_
        refine hq vk _ (mx12.same ((s0'.trans s10).trans s11) (oneq np0)) ⟨nd, hk12, fun s => ⟨fun hs => ⟨hL.sub s (vn.sub s hs), Gfp.of (L := (· ∈ keys d)) (fun y hy => (full y).mp (hnn y hy)) (vn.sub s hs)⟩, fun hs => hnn s (hL.lost s hs.1 hs.2)⟩⟩
      · have e := of_decide_eq_false b18
        have lt : nd.length < d.length := by
          have := len_sub vn.nd vn.sub
          rw [keys_length, keys_length] at this
          omega
        refine nx_ (ys_set (P := eP (.ref p)) (y_var rfl rfl) fun vk H12 s12 hk12 => ?_)
        cases hk12
        refine ⟨p, nd, _, _, _, _, _, _, _, _, _, _, rfl, ?_, ((md7.same s11).same s12), ⟨vn.nd, fun s hs => hL.sub s (vn.sub s hs), fun s hs hg => (full s).mpr (near_gfp he hn hL hs hg), vn.un⟩, by omega⟩
        exact (mx.trans (Mx.of ((s10.trans s11).trans s12))).same ((sH.trans s7).trans s79) (oneq ((sH.trans s7).free np))
    · have lt : m < nd.length := of_decide_eq_true hb
      have md7 := md.same s10
      have mk7 := mk'.same s10
      refine ys_seq (ys_set (y_lenQ (y_var rfl md7.g)) fun v_m2 H11 s11 h_m2 => ?_)
      have md8 := md7.same s11
      have mk8 := mk7.same s11
      have s511 : Same H5 H11 := (s5'.trans s10).trans s11
      refine (ys_for (xs := (keys fit).filter fun s => has d s && !has nd s) (yi_l (Y_eq (List.map_id' _) (y_fzl (yn_lc (r' := pP) _ _ (yi_qkeys (y_var rfl (up_ s511 fit5))) (fun x10 m10 v10 H10 s10 h10 => bd1 ⟨rfl, (yt_and (yt_b (y_qin (y_var rfl h10) (y_var rfl (mk8.same s10).g))) fun b11 => (yt_b (y_qnotin (y_var rfl h10) (y_var rfl (md8.same s10).g)))), fun e10 => (y_var rfl h10)⟩))))) fun H12 s12 => ⟨fun j σ' H' => ∃ (nd' : List ((Str × Str) × Bool)) (c5 c10 c11 c12 c13 c14 c15 : Option V), σ' = [some v_elder, some v_newer, some v_steps, some (.ref q), some v_good, c5, some v_fit, some v, some (.ref p), some (.int nd.length), c10, c11, c12, c13, c14, c15] ∧ Mx [p] H12 H' ∧ Mq bP nd' p H' ∧ LN a_elder.1 a_newer.1 (keys d) (keys nd') ∧ ((keys nd' = keys nd ∧ ∀ s ∈ ((keys fit).filter fun s => has d s && !has nd s).take j, lostC a_elder.1 a_newer.1 (keys d) (keys nd) s = false) ∨ nd.length < nd'.length),
        ⟨nd, _, _, _, _, _, _, _, by rw [show v_m2 = .int nd.length from h_m2]; rfl, Mx.rfl, md8.same s12, vn, .inl ⟨rfl, fun s hs => by cases hs⟩⟩, fun i σ' H' p' => by obtain ⟨_, _, _, _, _, _, _, _, _, h, _⟩ := p'; exact h.up (oneq (md8.same s12).ni), ?_, ?_⟩)
      · rintro j st σ' H' hst ⟨nd', c5, c10, c11, c12, c13, c14, c15, rfl, mx', md', vn', hcase⟩ v' H13 s13 h_pair
        have hmm := mem_at hst
        obtain ⟨hfit, hnew⟩ := List.mem_filter.mp hmm
        rw [Bool.and_eq_true] at hnew
        obtain ⟨hd, hnew⟩ := hnew
        have hd := has_iff.mp hd
        obtain ⟨hU1, hmt⟩ := (Fk st).mp hfit
        obtain ⟨hk1, hk2⟩ := Uk st hU1
        have hUs : st ∈ keys (heldS a_elder.1 a_newer.1) := by rw [hU]; exact hU1
        have upx : Up H12 H' := mx'.up (oneq (md8.same s12).ni)
        have mx0 : Mx [p] H9 H' := (mx.trans (Mx.of ((s10.trans s11).trans s12))).trans mx'
        have s0b : Same H H13 := (mx0.same s09 (oneq np0)).trans s13
        have s5b : Same H5 H13 := (mx0.same (s57.trans s79) (oneq (s57.free np))).trans s13
        have mk13 : Mq bP d q H13 := (((mk8.same s12).up upx fun o e => mx' q o (fun z => pq (List.mem_singleton.mp z)) e)).same s13
        have md13 := md'.same s13
        have lk : look (heldS a_elder.1 a_newer.1) st = stp a_elder.1 a_newer.1 st := look_held hUs
        refine ys_seq (ys_par (ya_cons (y_r0 (y_dget (y_w0 (y_var rfl (up_ s0b h_elder))) (y_p0 (y_var rfl h_pair)) hk1)) (ya_cons (y_fzl (yn_lc0 (r' := pP)  _ (yi_keys (Y_eq (r := dP pP) lk (y_qget (y_var rfl (up_ s5b st5)) (y_var rfl h_pair) hUs))) (fun x14 m14 v14 H14 s14 h14 => bd1 ⟨rfl, yt_yes, fun e14 => (y_dget (Y_eq (r := dP pP) lk (y_qget (y_var rfl (up_ (s5b.trans s14) st5)) (y_var rfl (up_ s14 h_pair)) hUs)) (y_var rfl h14) m14)⟩))) ya_nil)) fun v_kind v_goals H14 s14 h_kind h_goals => ?_)
        have hgl : (keys (stp a_elder.1 a_newer.1 st)).map (fun x14 => look (stp a_elder.1 a_newer.1 st) x14) = (stp a_elder.1 a_newer.1 st).map (·.2) := map_look (stp_nodup he hk1)
        rw [hgl] at h_goals
        refine ys_seq (ys_set (y_op r_gt (y_lenD (y_r1 (y_dget (y_w0 (y_var rfl (up_ (s0b.trans s14) h_elder))) (y_p0 (y_var rfl (up_ s14 h_pair))) hk1))) (y_lenD (y_r1 (y_dget (y_w0 (y_var rfl (up_ (s0b.trans s14) h_newer))) (y_p1 (y_var rfl (up_ s14 h_pair))) hk2)))) fun v_is_less H15 s15 h_is_less => ?_)
        refine ys_seq (ys_set (y_cb b_any (y_fzl (yn_lc0 (r' := bP)  _ (yi_l (y_var rfl (up_ s15 h_goals))) (fun x16 m16 v16 H16 s16 h16 => bd1 ⟨rfl, yt_yes, fun e16 => (y_and (y_qin (y_var rfl h16) (y_var rfl (md13.same ((s14.trans s15).trans s16)).g)) fun b17 => (y_qin (y_var rfl h16) (y_var rfl (mk13.same ((s14.trans s15).trans s16)).g)))⟩)))) fun v_is_near H18 s18 h_is_near => ?_)
        refine (ys_if (b := lostC a_elder.1 a_newer.1 (keys d) (keys nd') st) (Yt.eq (yt_or (yt_and (yt_test (y_op r_eqS (y_var rfl (up_ (s15.trans s18) h_kind)) y_str)) fun b19 => (yt_b (y_var rfl h_is_near))) fun b24 => (yt_and (yt_test (y_op r_eqS (y_var rfl (up_ (s15.trans s18) h_kind)) y_str)) fun b23 => (yt_and (yt_b (y_cb b_all (y_fzl (yn_lc0 (r' := bP)  _ (yi_l (y_var rfl (up_ (s15.trans s18) h_goals))) (fun x20 m20 v20 H20 s20 h20 => bd1 ⟨rfl, yt_yes, fun e20 => (y_qin (y_var rfl h20) (y_var rfl (mk13.same (((s14.trans s15).trans s18).trans s20)).g))⟩))))) fun b22 => (yt_or (yt_b (y_var rfl (up_ s18 h_is_less))) fun b21 => (yt_b (y_var rfl h_is_near)))))) ?_) (fun b25 H25 s25 => ?_) (fun b25 H25 s25 => ?_))
        · unfold lostC has
          rw [List.any_map, List.all_map]
          rfl
        · have s1325 := ((s14.trans s15).trans s18).trans s25
          refine ys_qput (k := st) (x := true) y_bl rfl (md13.same s1325) (y_var rfl (up_ s1325 h_pair)) ?_ (fun H26 mx26 md26 => ?_)
          · have := len_sub vn'.nd vn'.sub
            rw [keys_length] at this
            omega
          · have hnear : Near (lostD a_elder.1 a_newer.1) (· ∈ keys d) st := by
              refine Near.intro hd ?_
              rcases (lostC_iff he vn'.sub hk1 hmt).mp b25 with c | ⟨c, e⟩
              · exact .inl c
              · refine .inr ⟨c, e.elim .inl fun ⟨y, hy, h⟩ => .inr ⟨y, hy, vn'.near y h⟩⟩
            refine ⟨put nd' st true, _, _, _, _, _, _, _, rfl, (mx'.trans (Mx.of (s13.trans s1325))).trans mx26, md26, ⟨nodup_put vn'.nd, fun s hs => ?_, fun s hs hm => mem_put.mpr (.inr (vn'.un s hs hm))⟩, .inr ?_⟩
            · rcases mem_put.mp hs with e | h
              · rw [e]; exact hnear
              · exact vn'.near s h
            · have hk := keys_put nd' st true
              have h1 : (keys (put nd' st true)).length = (put nd' st true).length := List.length_map _
              have h2 : (keys nd').length = nd'.length := List.length_map _
              have h3 : (keys nd).length = nd.length := List.length_map _
              rcases hcase with ⟨e, _⟩ | h
              · have : st ∉ keys nd' := by
                  rw [e]
                  intro z
                  rw [has_iff.mpr z] at hnew
                  cases hnew
                rw [if_neg this] at hk
                rw [← h1, hk, List.length_append, e, h3]
                simp
              · rw [← h1, hk]
                split
                · omega
                · rw [List.length_append]
                  omega
        · refine ⟨nd', _, _, _, _, _, _, _, rfl, mx'.trans (Mx.of ((((s13.trans s14).trans s15).trans s18).trans s25)), md13.same (((s14.trans s15).trans s18).trans s25), vn', ?_⟩
          rcases hcase with ⟨e, h⟩ | h
          · refine .inl ⟨e, fun s hs => ?_⟩
            rw [take_one hst] at hs
            rcases List.mem_append.mp hs with hs | hs
            · exact h s hs
            · rw [List.mem_singleton.mp hs, ← e]
              exact b25
          · exact .inr h
      · rintro σ' H' ⟨nd', c5, c10, c11, c12, c13, c14, c15, rfl, mx', md', vn', hcase⟩
        have ndL' : nd'.length ≤ U.length := by
          have := len_sub vn'.nd vn'.sub
          rw [keys_length] at this
          omega
        have h2 : (keys nd').length = nd'.length := List.length_map _
        have h3 : (keys nd).length = nd.length := List.length_map _
        refine ⟨_, ?_, (nd.length : Int), nd', _, _, _, _, _, _, _, rfl, rfl, (mx.trans (Mx.of ((s10.trans s11).trans s12))).trans mx', md', vn', ?_, fun e => ?_⟩
        · rw [if_neg (show ¬ m = (nd.length : Int) by omega)]
          rcases hcase with ⟨e, _⟩ | h
          · have : nd'.length = nd.length := by rw [← h2, e, h3]
            rw [this, if_pos rfl]
            omega
          · split
            · omega
            · omega
        · rcases hcase with ⟨e, _⟩ | h
          · rw [← h2, e, h3]
            exact Int.le_refl _
          · omega
        · rcases hcase with ⟨e2, h⟩ | h
          · intro s hs hmts hn'
            rw [e2] at hn' ⊢
            refine h s ?_
            rw [List.take_length]
            refine List.mem_filter.mpr ⟨(Fk s).mpr ⟨hLU s hs, hmts⟩, ?_⟩
            rw [Bool.and_eq_true]
            refine ⟨has_iff.mpr hs, ?_⟩
            cases z : has nd s with
            | true => exact absurd (has_iff.mp z) hn'
            | false => rfl
          · omega
  · rintro σ' H' ⟨q, d, c5, c7, c8, c9, c10, c11, c12, c13, c14, c15, rfl, sH, mk, hL, hl⟩
    rw [List.length_range] at hl
    omega
end En
set_option maxHeartbeats 4000000
/-! _law_stands, _law_is_spare, _law_lots. -/
namespace En
open PySem PySem.Spec PyProof.Rows L2
variable {P : Program} {w : World} {K : PySem.W.Frag} {mg : Str → Option Value} {base : Heap}
theorem Com.key {e n : World'} (he : WfB e.1) (hn : WfB n.1) (h1 : e.2 ∈ keys e.1) (h2 : n.2 ∈ keys n.1) {q : Str × Str} (h : Com e n q) : q.1 ∈ keys e.1 ∧ q.2 ∈ keys n.1 := by
  induction h with
  | refl => exact ⟨h1, h2⟩
  | tail _ h2 ih => exact led_keys he hn ih h2
open Classical in
theorem standsB_iff {e n : World'} : standsB e n = true ↔ Stands e n := by
  unfold standsB
  exact decide_eq_true_iff
theorem bool_eq {a b : Bool} (h : a = true ↔ b = true) : a = b := by
  cases a <;> cases b <;> simp_all
structure WfW (w : World') : Prop where
  b : WfB w.1
  s : w.2 ∈ keys w.1
noncomputable abbrev sp_l_stands : Sp := Sp2 wP wP (fun e n => WfW e ∧ WfW n) (fun e n => bP (standsB e n))
abbrev N_l_stands : List Str := ["_law_elder", "_law_newer", "_law_lost_here", "_law_pair"]
theorem nd_l_stands : N_l_stands.Nodup := by decide
theorem c_l_stands (T : Tf w K mg) : C8.Cal P w K mg base 5 "_law_stands" sp_l_stands [] := by
  refine T.cal (d := d_l_stands) (N := N_l_stands) (ps := ["_law_elder", "_law_newer"]) 64 rfl rfl (by simp [fa, fa0, fa1, fa2, fa3]) rfl rfl (by decide +kernel) (len2 _ _) (fun _ _ _ _ _ _ us hl => match us, hl with | [_, _], _ => rfl) (fun f cdv A outer s H vs Q E hr hsp => ?_)
  obtain ⟨v_elder, v_newer, a_elder, a_newer, rfl, h_elder, h_newer, hok, hq⟩ := hsp
  refine ⟨_, (pss_cons (ps_if (pt_cmpR (k_notIn_seq (K := K) rfl) (pe_ix (k_ix_list (K := K) rfl) (pv 0) pe_int (fun _ _ => rfl)) (C8.pe_c (c_l_viable T) hr (by decide) rfl (pa_cons (pv 0) pa_nil)) rfl) (pss_one (ps_ret pe_bl))
    pss_nil)
    (pss_cons (ps_set (i := 2) nd_l_stands rfl (Or.inr rfl) (C8.pe_c (c_l_lost T) hr (by decide) rfl (pa_cons (pv 0) (pa_cons (pv 1) pa_nil))))
    (pss_one (ps_ret (pe_not (pe_callB (k_any (K := K) rfl rfl) (by rfl) T.n_any (by decide +kernel) (pa_cons (pe_fz (pe_lc (own := [("_law_pair", 3)]) rfl nd_l_stands (k_list (K := K) rfl (C8.pe_c (c_l_common T) hr (by decide) rfl (pa_cons (pv 0) (pa_cons (pv 1) pa_nil)))) (blkOk_by (own := [("_law_pair", 3)]) (by first | decide +kernel | rfl)) (fun _ _ _ _ _ => (pg_name (i := 3) nd_l_stands rfl (Or.inl rfl))) (fun _ _ _ _ _ => pts_nil) (fun _ _ _ _ _ => (pe_cmp (pc_din (hu_of hr) (pv 3) (pv 2)) rfl)))) pa_nil))))))), ?_⟩
  obtain ⟨we, wn⟩ := hok
  refine ys_seq (ys_if (yt_test (y_notInS (y_w1 (y_var rfl h_elder)) (y_call1 (y_var rfl h_elder) we.b))) (fun b1 H1 s1 => ?_) (fun b1 H1 s1 => ?_))
  · refine ys_ret y_bl fun v H2 s2 h => hq v _ (s1.trans s2) (bP_eq ?_ h)
    refine (standsB_iff.mpr fun hv => ?_).symm
    rw [decide_eq_true (mem_viaL.mpr hv)] at b1
    cases b1
  have hv : Via a_elder.1 a_elder.2 := by
    apply Classical.byContradiction
    intro z
    rw [decide_eq_false (fun h => z (mem_viaL.mp h))] at b1
    cases b1
  refine ys_seq (ys_set (y_call2 (y_var rfl (up_ s1 h_elder)) (y_var rfl (up_ s1 h_newer)) ⟨we.b, wn.b⟩) fun v_lost H3 s3 h_lost => ?_)
  obtain ⟨d, hd, hk⟩ := h_lost
  refine nx_ (ys_ret (y_bind (C := fun t => tNotV (tCB (rAny K) (tCons (tFz (tLc (iList K t) (gName 3) tYes (tDIn (tVar 3) (tVar 2)) (List.map (fun x => x.2) [(Str.ofString "_law_pair", 3)]))) tNil))) (P2 := bP (standsB a_elder a_newer))
    (y_call2 (y_var rfl (up_ (s1.trans s3) h_elder)) (y_var rfl (up_ (s1.trans s3) h_newer)) ⟨we.b, wn.b, we.s, wn.s⟩) (fun v H4 s4 ⟨l, hl, hr⟩ => Y.eqB (y_not (y_cb b_any (y_fzl (yn_lc0 (r' := bP) _ (yi_l (y_cs hl)) (fun x4 m4 v4 H4 s4' h4 => bd1 ⟨rfl, yt_yes, fun e4 => (y_qin (y_var rfl h4) (y_var rfl (up_ (s4.trans s4') hd)))⟩))))) ?_)) fun v H5 s5 h => hq v _ ((s1.trans s3).trans s5) h)
  refine bool_eq ?_
  rw [standsB_iff, List.any_map, Bool.not_eq_true', List.any_eq_false]
  constructor
  · intro h _ p hp hg
    have hkey := Com.key we.b wn.b we.s wn.s hp
    refine h p ((hr p).mpr hp) ?_
    exact has_iff.mpr ((hk p).mpr ⟨mem_heldS.mpr hkey, hg⟩)
  · intro h p hp hg
    exact h hv p ((hr p).mp hp) ((hk p).mp (has_iff.mp hg)).2
/-! ### _law_is_spare -/
theorem keys_cutB (b : Book) (lot : List (Str × Str)) : keys (cutB b lot) = keys b := by
  unfold cutB
  rw [keys_mk, List.map_id']
theorem look_cutB {b : Book} {lot : List (Str × Str)} {s : Str} (h : s ∈ keys b) : look (cutB b lot) s = cutRow s lot (look b s) := look_mk h
theorem keys_cutRow (s : Str) (lot : List (Str × Str)) (r : Row) : keys (cutRow s lot r).2 = (keys r.2).filter fun wd => !decide ((s, wd) ∈ lot) := by
  unfold cutRow
  rw [keys_mk, List.map_id']
theorem leaves_iff {b : Book} {lot : List (Str × Str)} : leaves b lot = true ↔ ∀ r ∈ b, r.2.2 = [] ∨ ∃ wd ∈ keys r.2.2, (r.1, wd) ∉ lot := by
  unfold leaves
  rw [List.all_eq_true]
  refine forall_congr' fun r => forall_congr' fun _ => ?_
  rw [Bool.or_eq_true, List.isEmpty_iff, Bool.not_eq_true', List.all_eq_false]
  simp
theorem wf_cut {b : Book} {lot : List (Str × Str)} (h : WfB b) (hl : leaves b lot = true) : WfB (cutB b lot) := by
  refine ⟨by rw [keys_cutB]; exact h.nd, by unfold cutB; rw [List.length_map, keys_length]; exact h.len, fun r hr => ?_⟩
  unfold cutB at hr
  obtain ⟨s, hs, rfl⟩ := List.mem_map.mp hr
  have row := h.at hs
  have sub : ∀ t ∈ (cutRow s lot (look b s)).2, t.1 ∈ keys (look b s).2 ∧ t ∈ (look b s).2 := fun t ht => by
    unfold cutRow at ht
    obtain ⟨wd, hw, rfl⟩ := List.mem_map.mp ht
    have := (List.mem_filter.mp hw).1
    exact ⟨this, look_mem this⟩
  have hk := keys_cutRow s lot (look b s)
  refine ⟨row.kind, row.ok, ?_, ?_, fun t ht => row.words t (sub t ht).2, fun t ht => by rw [keys_cutB]; exact row.goals t (sub t ht).2, ?_⟩
  · show (keys (cutRow s lot (look b s)).2).Nodup
    rw [hk]
    exact row.nd.filter _
  · show (cutRow s lot (look b s)).2.length < 64
    rw [← keys_length, hk]
    have := row.len
    have : (look b s).2.length < 64 := this
    exact Nat.lt_of_le_of_lt (List.length_filter_le _ _) (by rw [keys_length]; exact this)
  · show (look b s).1 = "done" ↔ (cutRow s lot (look b s)).2 = []
    have fin : (look b s).1 = "done" ↔ (look b s).2 = [] := row.fin
    rw [fin]
    constructor
    · intro e
      unfold cutRow
      rw [e]
      rfl
    · intro e
      rcases leaves_iff.mp hl (s, look b s) (look_mem hs) with h1 | ⟨wd, h1, h2⟩
      · exact h1
      · have : wd ∈ keys (cutRow s lot (look b s)).2 := by
          rw [hk]
          refine List.mem_filter.mpr ⟨h1, ?_⟩
          rw [Bool.not_eq_true', decide_eq_false_iff_not]
          exact h2
        rw [e] at this
        cases this
noncomputable def spareB (w : World') (lot : List (Str × Str)) : Bool := leaves w.1 lot && standsB w (cutB w.1 lot, w.2)
noncomputable abbrev sp_l_is_spare : Sp := Sp2 wP (glP pP) (fun wd lot => WfW wd ∧ ∀ y ∈ lot, OkP y) (fun wd lot => bP (spareB wd lot))
abbrev N_l_is_spare : List Str := ["_law_world_here", "_law_some"]
theorem nd_l_is_spare : N_l_is_spare.Nodup := by decide
theorem c_l_is_spare (T : Tf w K mg) : C8.Cal P w K mg base 6 "_law_is_spare" sp_l_is_spare [] := by
  refine T.cal (d := d_l_is_spare) (N := N_l_is_spare) (ps := ["_law_world_here", "_law_some"]) 72 rfl rfl (by simp [fa, fa0, fa1, fa2, fa3]) rfl rfl (by decide +kernel) (len2 _ _) (fun _ _ _ _ _ _ us hl => match us, hl with | [_, _], _ => rfl) (fun f cdv A outer s H vs Q E hr hsp => ?_)
  obtain ⟨v_world, v_some, a_world, a_some, rfl, h_world, h_some, hok, hq⟩ := hsp
  refine ⟨_, (pss_one (ps_ret (pe_and (C8.pe_c (c_l_leaves T) hr (by decide) rfl (pa_cons (pv 0) (pa_cons (pv 1) pa_nil))) (pe_one (C8.pe_c (c_l_stands T) hr (by decide) rfl (pa_cons (pv 0) (pa_cons (C8.pe_c (c_l_without T) hr (by decide) rfl (pa_cons (pv 0) (pa_cons (pv 1) pa_nil))) pa_nil))))))), ?_⟩
  -- return _law_leaves(_law_world_here, _law_some) and _law_stands(_law_world_here, _law_without(_law_wo
  refine ys_ret (y_and (y_call2 (y_var rfl h_world) (y_gl (y_var rfl h_some)) ?_) fun b1 => (y_call2 (y_var rfl h_world) (y_call2 (y_var rfl h_world) (y_gl (y_var rfl h_some)) ?_) ?_)) fun v H2 s2 h => ?_
  · exact ⟨hok.1.b, hok.2⟩
  · exact ⟨hok.1.b, hok.2⟩
  · exact ⟨hok.1, wf_cut hok.1.b b1, by rw [keys_cutB]; exact hok.1.s⟩
  exact hq v _ s2 (by exact h)
/-! ### _law_lots -/
def lots : List (Str × Str) → List (List (Str × Str)) → List (List (Str × Str))
  | [], f => f
  | x :: xs, f => lots xs (f ++ f.map fun l => l ++ [x])
theorem lots_len : ∀ (xs : List (Str × Str)) (f : List (List (Str × Str))), (lots xs f).length = 2 ^ xs.length * f.length
  | [], f => by simp [lots]
  | x :: xs, f => by
    unfold lots
    rw [lots_len xs, List.length_append, List.length_map, List.length_cons, Nat.pow_succ]
    rw [Nat.mul_assoc]
    congr 1
    omega
theorem lots_step : ∀ (xs : List (Str × Str)) (f : List (List (Str × Str))) (i : Nat) (x : Str × Str), xs[i]? = some x → lots (xs.take (i + 1)) f = lots (xs.take i) f ++ (lots (xs.take i) f).map fun l => l ++ [x]
  | [], _, _, _, h => by simp at h
  | y :: xs, f, 0, x, h => by
    cases h
    simp [lots]
  | y :: xs, f, i + 1, x, h => by
    rw [List.take_succ_cons, List.take_succ_cons]
    unfold lots
    exact lots_step xs _ i x (by simpa using h)
theorem lots_item : ∀ (xs : List (Str × Str)) (f : List (List (Str × Str))) (k : Nat), (∀ l ∈ f, l.length ≤ k) → ∀ l ∈ lots xs f, l.length ≤ k + xs.length
  | [], f, k, h, l, hl => by simpa using h l hl
  | x :: xs, f, k, h, l, hl => by
    unfold lots at hl
    have := lots_item xs _ (k + 1) (fun l hl => by
      rcases List.mem_append.mp hl with hl | hl
      · have := h l hl
        omega
      · obtain ⟨l', h1, rfl⟩ := List.mem_map.mp hl
        have := h l' h1
        rw [List.length_append]
        simp
        omega) l hl
    rw [List.length_cons]
    omega
abbrev sp_l_lots : Sp := Sp1 (lP pP) (fun xs => xs.length ≤ 6) (fun xs => lP (lP pP) (sortL (lots xs [[]])))
abbrev N_l_lots : List Str := ["_law_things", "_law_found", "_law_thing", "_law_lot"]
theorem nd_l_lots : N_l_lots.Nodup := by decide
theorem c_l_lots (T : Tf w K mg) : C8.Cal P w K mg base 1 "_law_lots" sp_l_lots [] := by
  refine T.cal (d := d_l_lots) (N := N_l_lots) (ps := ["_law_things"]) 70 rfl rfl (by simp [fa, fa0, fa1, fa2, fa3]) rfl rfl (by decide +kernel) (len1 _) (fun _ _ _ _ _ _ us hl => match us, hl with | [_], _ => rfl) (fun f cdv A outer s H vs Q E hr hsp => ?_)
  obtain ⟨v_things, a_things, rfl, h_things, hok, hq⟩ := hsp
  refine ⟨_, (pss_cons (ps_set (i := 1) nd_l_lots rfl (Or.inl rfl) (pe_fz (pe_lst (pa_cons (pe_fz (pe_lst pa_nil)) pa_nil))))
    (pss_cons (ps_for PassesOwn.never rfl (k_list (K := K) rfl (pv 0)) (pg_name (i := 2) nd_l_lots rfl (Or.inr rfl))
    (pss_one (ps_set (i := 1) nd_l_lots rfl (Or.inl rfl) (pe_fz (pe_op op_catS (pv 1) (pe_fz (pe_lc (own := [("_law_lot", 3)]) rfl nd_l_lots (k_list (K := K) rfl (pv 1)) (blkOk_by (own := [("_law_lot", 3)]) (by first | decide +kernel | rfl)) (fun _ _ _ _ _ => (pg_name (i := 3) nd_l_lots rfl (Or.inl rfl))) (fun _ _ _ _ _ => pts_nil) (fun _ _ _ _ _ => (pe_fz (pe_op op_catS (pv 3) (pe_fz (pe_lst (pa_cons (pv 2) pa_nil)))))))))))))
    (pss_one (ps_ret (pe_fz (pe_callB (cr_sortedD (enc := dLs) (K := K) rfl rfl (hu65 hr)) (by rfl) T.n_sorted (by decide +kernel) (pa_cons (pv 1) pa_nil))))))), ?_⟩
  have z : ∀ i, (lots (a_things.take i) [[]]).length ≤ 64 := fun i => by
    rw [lots_len, List.length_take]
    have : 2 ^ (min i a_things.length) ≤ 2 ^ 6 := Nat.pow_le_pow_right (by decide) (by omega)
    simpa using this
  refine ys_seq (ys_set (y_fzl (yn_lsts (r := lP pP) (yl_cons (y_fzl (yn_lsts (r := pP) yl_nil)) yl_nil))) fun v_found H1 s1 h_found => ?_)
  refine ys_seq (ys_for (yi_l (y_var rfl (up_ s1 h_things))) fun H2 s2 => ⟨fun i σ' H' => (∃ f a b, σ' = [some v_things, some f, a, b] ∧ lP (lP pP) (lots (a_things.take i) [[]]) f H') ∧ Same H2 H', ⟨⟨_, _, _, rfl, up_ s2 h_found⟩, Same.refl _⟩, fun i σ' H' p => up_same p.2, ?_, ?_⟩)
  · rintro i x σ' H' hx ⟨⟨f', a, b, rfl, h_found⟩, sH⟩ v H3 s3 h_thing
    refine (ys_set (y_fzl (yn_catl (y_var rfl (up_ s3 h_found)) (y_fzl (yn_lc0 (r' := (lP pP))  _ (yi_l (y_var rfl (up_ s3 h_found))) (fun x3 m3 v3 H3 s3 h3 => bd1 ⟨rfl, yt_yes, fun e3 => (y_fzl (yn_catl (y_var rfl h3) (y_fzl (yn_lsts (r := pP) (yl_cons (y_var rfl (up_ s3 h_thing)) yl_nil))) ?_))⟩))) ?_)) fun v_found H4 s4 h_found => ?_)
    · have := lots_item (a_things.take i) [[]] 0 (fun l hl => by rw [List.mem_singleton.mp hl]; exact Nat.le_refl _) x3 m3
      rw [List.length_take] at this
      rw [sizeLine_eq, List.length_singleton]
      omega
    · have := z i
      rw [List.length_map, sizeLine_eq]
      omega
    · refine ⟨⟨_, _, _, rfl, P_eq (r := lP (lP pP)) ?_ h_found⟩, (sH.trans s3).trans s4⟩
      rw [lots_step a_things _ i x hx]
  · rintro σ' H' ⟨⟨f', a, b, rfl, h_found⟩, sH⟩
    refine nx_ (ys_ret (y_fzl (yn_sortedL (y_var rfl h_found))) fun v H5 s5 h => hq v _ (((s1.trans s2).trans sH).trans s5) (P_eq (r := lP (lP pP)) ?_ h))
    rw [List.take_length]
end En
set_option maxHeartbeats 4000000
/-! The program: viable states. -/
namespace En
open PySem PySem.Spec PyProof.Rows L2
variable {P : Program} {w : World} {K : PySem.W.Frag} {mg : Str → Option Value} {base : Heap}
section
variable {σ : L2.St} {H : Hp} {D : Ends} {ta tb tc : TE} {i j l : Nat}
theorem ys_tupNYY {R : HO → Hp → Prop} {Pb Pc : Pr} [sb : Sts Pb] [sc : Sts Pc] (y1 : Yn ta σ H R) (y2 : Y tb σ H Pb) (y3 : Y tc σ H Pc) (q : ∀ p H2 H3 u vb vc, Same H H2 → H p = none → H2 p = some u → R u H2 → Same H2 H3 → Pb vb H3 → Pc vc H3 → D.nx (((σ.set i (some (.ref p))).set j (some vb)).set l (some vc)) H3) :
    tAsg (tTup (tCons ta (tCons tb (tCons tc tNil)))) (gTup K 3 (gCons (gName i) (gCons (gName j) (gCons (gName l) gNil)))) D σ H :=
  y1 H (Same.refl _) _ fun p H2 u s2 n e r => y2 H2 s2 _ fun vb H3 s3 pb => y3 H3 (s2.trans s3) _ fun vc H4 s4 pc => ⟨by rw [sizeLine_eq]; simp, fun p' hp' => ⟨p', _, rfl, SqT.of L2.upd_same, rfl, _, _, rfl, _, _, rfl, _, _, rfl, rfl, q p H2 _ u vb vc s2 n e r ((s3.trans s4).trans (same_new _ hp')) (sb.same (s4.trans (same_new _ hp')) pb) (sc.same (same_new _ hp') pc)⟩⟩
theorem ys_par3Y {R : HO → Hp → Prop} {Pa Pc : Pr} [sa : Sts Pa] (y1 : Y ta σ H Pa) (y2 : Yn tb σ H R) (y3 : Y tc σ H Pc) (q : ∀ va p H2 H3 u vc, Same H H2 → H p = none → H2 p = some u → R u H2 → Same H2 H3 → Pa va H3 → Pc vc H3 → D.nx (((σ.set i (some va)).set j (some (.ref p))).set l (some vc)) H3) : tPar3 i j l (tCons ta (tCons tb (tCons tc tNil))) D σ H :=
  y1 H (Same.refl _) _ fun va H1 s1 pa => y2 H1 s1 _ fun p H2 u s2 n e r => y3 H2 (s1.trans s2) _ fun vc H3 s3 pc => ⟨_, _, _, rfl, q va p H2 H3 u vc (s1.trans s2) (s1.free n) e r s3 (sa.same (s2.trans s3) pa) pc⟩
/-- over a list that may be written, but is not -/
theorem ys_forM {α : Type} {r : α → Pr} {xs : List α} {p : Addr} {g : TG} {tb : TS} (e : σ[i]? = some (some (.ref p))) (m : Ml r xs p H) (Pv : Nat → L2.St → Hp → Prop) (h0 : Pv 0 σ H) (hm : ∀ j σ' H', Pv j σ' H' → Ml r xs p H')
    (hs : ∀ j x σ' H', xs[j]? = some x → Pv j σ' H' → ∀ v, r x v H' → g v σ' H' fun σ2 H3 => tb { D with nx := Pv (j + 1), ct := Pv (j + 1), bk := D.nx } σ2 H3) (hd : ∀ σ' H', Pv xs.length σ' H' → D.nx σ' H') : tFor (iList K (tVar i)) g tb D σ H := by
  obtain ⟨vs, h1, h2, z⟩ := m
  refine ⟨_, e, p, rfl, ⟨vs, .inl (.inl h1)⟩, fun j m σ' H' => m = xs.length - j ∧ j ≤ xs.length ∧ Pv j σ' H', ⟨_, rfl, Nat.zero_le _, h0⟩, ?_⟩
  rintro j m σ' H' ⟨rfl, hj, pv⟩
  obtain ⟨vs', h1', h2', z'⟩ := hm j σ' H' pv
  have hl := h2'.length
  rw [List.length_map] at hl
  by_cases hlt : j < xs.length
  · have hx : xs[j]? = some xs[j] := List.getElem?_eq_getElem hlt
    obtain ⟨v, hv, rv⟩ := h2'.get (i := j) (P := r xs[j]) (by rw [List.getElem?_map, hx]; rfl)
    refine .inr ⟨⟨vs', v, .inl (.inl h1'), hv⟩, Pv (j + 1), fun σ3 H3 p3 => ⟨xs.length - (j + 1), by omega, rfl, hlt, p3⟩, fun x H3 hy => ?_⟩
    obtain ⟨e3, hy⟩ := hy
    subst e3
    have := hy vs' (.inl (.inl h1'))
    rw [hv] at this
    cases this
    exact hs j xs[j] σ' _ hx pv v rv
  · have e : j = xs.length := by omega
    subst e
    exact .inl ⟨⟨vs', .inl (.inl h1'), by omega⟩, hd σ' H' pv⟩
end
/-- what a pass of the program's own loop adds -/
def rkC (b : Book) (L N : List Str) (s : Str) : Bool := (((look b s).2.map (·.2)).any fun g => inL g N) && (decide ((look b s).1 = "hears") || ((look b s).2.map (·.2)).all fun g => inL g L)
theorem rkC_via {b : Book} {L N : List Str} {s : Str} : viaC b L N s = (decide ((look b s).1 = "done") || rkC b L N s) := rfl
def rkP (b : Book) (L : List Str) : Pr := fun v H => ∃ d, dP iP d v H ∧ (keys d).Nodup ∧ ∀ s, s ∈ keys d ↔ Near (viaD b) (· ∈ L) s
abbrev sp_ranked_viable : Sp := Sp2 (dP rP) (lP sP) (fun b L => WfB b ∧ L.Nodup ∧ ∀ s ∈ L, s ∈ keys b) (fun b L => rkP b L)
abbrev N_ranked_viable : List Str := ["rows", "left", "state", "ranks", "depth", "more", "found", "kind", "goals", "goal"]
theorem nd_ranked_viable : N_ranked_viable.Nodup := by decide
theorem c_ranked_viable (T : Tf w K mg) : C8.Cal P w K mg base 1 "ranked_viable" sp_ranked_viable [] := by
  refine T.cal (d := d_ranked_viable) (N := N_ranked_viable) (ps := ["rows", "left"]) 26 rfl rfl (by simp [fa, fa0, fa1, fa2, fa3]) rfl rfl (by decide +kernel) (len2 _ _) (fun _ _ _ _ _ _ us hl => match us, hl with | [_, _], _ => rfl) (fun f cdv A outer s H vs Q E hr hsp => ?_)
  obtain ⟨v_rows, v_left, a_rows, a_left, rfl, h_rows, h_left, hok, hq⟩ := hsp
  refine ⟨_, (pss_cons (ps_asg (pe_tup (pa_cons (pe_dc (own := [("state", 2)]) rfl nd_ranked_viable (k_list (K := K) rfl (pv 1)) (blkOk_by (own := [("state", 2)]) (by first | decide +kernel | rfl)) (fun _ _ _ _ _ => (pg_name (i := 2) nd_ranked_viable rfl (Or.inl rfl))) (fun _ _ _ _ _ => (pts_one (pt_cmpR op_eq (pe_ix (k_ix_tup (K := K) rfl) (pe_dget (hu_of hr) (pv 0) (pv 2) (fun _ _ => rfl)) pe_int (fun _ _ => rfl)) pe_str (nomark _)))) (fun _ _ _ _ _ => (pv 2)) (fun _ _ _ _ _ => pe_int)) (pa_cons pe_int (pa_cons pe_bl pa_nil)))) (k_pg_tup (K := K) rfl rfl (pgs_cons (pg_name (i := 3) nd_ranked_viable rfl (Or.inr rfl)) (pgs_cons (pg_name (i := 4) nd_ranked_viable rfl (Or.inl rfl)) (pgs_cons (pg_name (i := 5) nd_ranked_viable rfl (Or.inl rfl)) pgs_nil)))))
    (pss_cons (ps_while PassesOwn.never (pt_val (pv 5))
    (pss_cons (ps_aug (i := 4) nd_ranked_viable rfl (Or.inl rfl) pe_int ip_add)
    (pss_cons (ps_set (i := 6) nd_ranked_viable rfl (Or.inl rfl) (pe_lst pa_nil))
    (pss_cons (ps_for PassesOwn.never rfl (k_list (K := K) rfl (pe_fz (pe_lc (own := [("state", 2)]) rfl nd_ranked_viable (k_list (K := K) rfl (pv 1)) (blkOk_by (own := [("state", 2)]) (by first | decide +kernel | rfl)) (fun _ _ _ _ _ => (pg_name (i := 2) nd_ranked_viable rfl (Or.inl rfl))) (fun _ _ _ _ _ => (pts_one (pt_cmp (pc_dnotin (hu_of hr) (pv 2) (pv 3)) rfl))) (fun _ _ _ _ _ => (pv 2))))) (pg_name (i := 2) nd_ranked_viable rfl (Or.inl rfl))
    (pss_cons (ps_par (i := 7) (j := 8) rfl nd_ranked_viable rfl rfl (by decide) rfl rfl (pa_cons (pe_ix (k_ix_tup (K := K) rfl) (pe_dget (hu_of hr) (pv 0) (pv 2) (fun _ _ => rfl)) pe_int (fun _ _ => rfl)) (pa_cons (pe_fz (pe_listVals rfl T.n_list (pe_ix (k_ix_tup (K := K) rfl) (pe_dget (hu_of hr) (pv 0) (pv 2) (fun _ _ => rfl)) pe_int (fun _ _ => rfl)))) pa_nil)) (by rfl))
    (pss_one (ps_if (PW.pt (pw_and (pt_val (pe_callB (k_any (K := K) rfl rfl) (by rfl) T.n_any (by decide +kernel) (pa_cons (pe_fz (pe_lc (own := [("goal", 9)]) rfl nd_ranked_viable (k_list (K := K) rfl (pv 8)) (blkOk_by (own := [("goal", 9)]) (by first | decide +kernel | rfl)) (fun _ _ _ _ _ => (pg_name (i := 9) nd_ranked_viable rfl (Or.inl rfl))) (fun _ _ _ _ _ => pts_nil) (fun _ _ _ _ _ => (pe_cmp (pc_din (hu_of hr) (pv 9) (pv 3)) rfl)))) pa_nil))) (pw_and1 (PW.pt (pw_or (pt_cmpR op_eq (pv 7) pe_str (nomark _)) (pw_or1 (pt_val (pe_callB (k_all (K := K) rfl rfl) (by rfl) T.n_all (by decide +kernel) (pa_cons (pe_fz (pe_lc (own := [("goal", 9)]) rfl nd_ranked_viable (k_list (K := K) rfl (pv 8)) (blkOk_by (own := [("goal", 9)]) (by first | decide +kernel | rfl)) (fun _ _ _ _ _ => (pg_name (i := 9) nd_ranked_viable rfl (Or.inl rfl))) (fun _ _ _ _ _ => pts_nil) (fun _ _ _ _ _ => (pe_cmpR (k_in_seq (K := K) rfl) (pv 9) (pv 1) rfl)))) pa_nil))))))))) (pss_one (ps_expr (pe_bm PySem.F.plainAttrs_list PySem.F.slot_list_append PySem.F.type_list_append mt_append (pv 6) (pa_cons (pv 2) pa_nil))))
    pss_nil))))
    (pss_cons (ps_for PassesOwn.never rfl (k_list (K := K) rfl (pv 6)) (pg_name (i := 2) nd_ranked_viable rfl (Or.inl rfl))
    (pss_one (ps_dput (hu_of hr) (pv 3) (pv 2) (pv 4) rfl)))
    (pss_one (ps_set (i := 5) nd_ranked_viable rfl (Or.inl rfl) (pe_cmpR (k_neD (K := K) rfl (hu64 hr)) (pv 6) (pe_fz (pe_lst pa_nil)) (nomark _)))))))))
    (pss_one (ps_ret (pe_fz (pv 3)))))), ?_⟩
  obtain ⟨wb, Ln, Lb⟩ := hok
  have Ll : a_left.length ≤ 64 := by
    have := len_sub Ln Lb
    rw [keys_length] at this
    have := wb.len
    omega
  refine ys_seq (ys_tupNYY (yn_dc (r' := iP) _ _ _ (yi_l (y_var rfl h_left)) (fun x2 m2 v2 H2 s2 h2 => bk1 ⟨rfl, (yt_test (y_op r_eqS (y_r0 (y_dget (y_var rfl (up_ s2 h_rows)) (y_var rfl h2) (Lb _ m2))) y_str)), fun e2 => ⟨(y_var rfl h2), y_int⟩⟩) ?_) y_int y_bl fun p H0 H1 u0 v_depth v_more s0 np e0 i0 s1 h_depth h_more => ?_)
  · rw [List.map_id']
    exact Ln.filter _
  generalize hR0 : (a_left.filter fun x2 => decide ((look a_rows x2).1 = "done")).map (fun x => (x, (0 : Int))) = r0 at i0
  have R0k : ∀ s, s ∈ keys r0 ↔ s ∈ a_left ∧ (look a_rows s).1 = "done" := fun s => by
    rw [← hR0, keys_mk, List.map_id', List.mem_filter, decide_eq_true_eq]
  have r0n : (keys r0).Nodup := by
    rw [← hR0, keys_mk, List.map_id']
    exact Ln.filter _
  have md0 : Md iP r0 p H1 := (Md.of e0 i0 r0n).same s1
  have s01 : Same H H1 := s0.trans s1
  refine ys_seq (ys_while (fun M σ' H' => ∃ (dep : Int) (more : Bool) (rd : List (Str × Int)) (c2 c6 c7 c8 c9 : Option V), M = 2 * (a_left.length - rd.length) + (if more then 1 else 0) ∧ σ' = [some v_rows, some v_left, c2, some (.ref p), some (.int dep), some (.bl more), c6, c7, c8, c9] ∧ Mx [p] H1 H' ∧ Md iP rd p H' ∧ VN a_rows a_left (keys rd) ∧ (∀ s ∈ a_left, (look a_rows s).1 = "done" → s ∈ keys rd) ∧ (more = false → ∀ s ∈ a_left, s ∉ keys rd → rkC a_rows a_left (keys rd) s = false))
    _ ⟨0, true, r0, _, _, _, _, _, rfl, by rw [show v_depth = .int 0 from h_depth, show v_more = .bl true from h_more]; rfl, Mx.rfl, md0, ⟨r0n, fun s hs => .base ((R0k s).mp hs).1 ((R0k s).mp hs).2⟩, fun s hs hd => (R0k s).mpr ⟨hs, hd⟩, fun z => by cases z⟩ ?_)
  rintro M σ' H' ⟨dep, more, rd, c2, c6, c7, c8, c9, rfl, rfl, mx, md, vn, hdone, hcl⟩
  have s0' : Same H H' := mx.same s01 (oneq np)
  have rdL : rd.length ≤ a_left.length := by
    have := len_sub vn.nd vn.sub
    rw [keys_length] at this
    omega
  refine ⟨more, yt_b (y_var rfl (show bP more _ _ from rfl)), fun hb H2 s2 => ?_, fun hb H2 s2 => ?_⟩
  · refine nx_ (y_fzMd rfl (md.same s2) _ fun vk H3 mx3 hk3 => ?_)
    refine hq vk _ (mx3.same (s0'.trans s2) (oneq np)) ⟨rd, hk3, vn.nd, fun s => ⟨vn.near s, Near.closed (R := (· ∈ keys rd)) fun x hx hc => ?_⟩⟩
    apply Classical.byContradiction
    intro hn
    have h1 := hcl hb x hx hn
    have h2 := (viaC_iff wb (Lb x hx)).mpr hc
    rw [rkC_via, h1, Bool.or_false, decide_eq_true_eq] at h2
    exact hn (hdone x hx h2)
  · subst hb
    refine ys_seq ⟨_, rfl, _, _, rfl, rfl, ?_⟩
    refine nx_ (ys_seq (ys_new (yn_lsts (r := sP) yl_nil) fun f H3 u3 s3 nf e3 i3 => ?_))
    have pf : p ≠ f := fun e => by
      obtain ⟨_, h, _⟩ := md.same s2
      rw [e, nf] at h
      cases h
    have nfH : H f = none := (s0'.trans s2).free nf
    have ml3 : Ml sP [] f H3 := Ml.of e3 i3
    have md3 := md.same (s2.trans s3)
    have s03 : Same H H3 := (s0'.trans s2).trans s3
    generalize hT : (a_left.filter fun s => !has rd s) = todo
    refine ys_seq (ys_for (xs := todo) (yi_l (Y_eq (r := lP sP) (show _ = todo by rw [List.map_id']; exact hT) (y_fzl (yn_lc (r' := sP) _ _ (yi_l (y_var rfl (up_ s03 h_left))) (fun x4 m4 v4 H4 s4 h4 => bd1 ⟨rfl, (yt_b (y_dnotin (y_var rfl h4) (y_var rfl (md3.same s4).g))), fun e4 => (y_var rfl h4)⟩))))) fun H4 s4 => ⟨fun j σ' H' => (∃ (c2 c7 c8 c9 : Option V), σ' = [some v_rows, some v_left, c2, some (.ref p), some (.int (dep + 1)), some (.bl true), some (.ref f), c7, c8, c9]) ∧ Mx [f] H4 H' ∧ Ml sP ((todo.take j).filter (rkC a_rows a_left (keys rd))) f H',
      ⟨⟨_, _, _, _, rfl⟩, Mx.rfl, by simpa using ml3.same s4⟩, fun i σ' H' p' => p'.2.1.up (oneq (ml3.same s4).ni), ?_, ?_⟩)
    · rintro j x σ' H' hx ⟨⟨c2, c7, c8, c9, rfl⟩, mx', ml'⟩ v H5 s5 h_state
      have hm := mem_at hx
      rw [← hT] at hm
      obtain ⟨hL, hnew⟩ := List.mem_filter.mp hm
      have hb := Lb x hL
      have s05 : Same H H5 := (mx'.same (s03.trans s4) (oneq nfH)).trans s5
      have md5 : Md iP rd p H5 := ((md3.same s4).up (mx'.up (oneq (ml3.same s4).ni)) fun o e => mx' p o (fun z => pf (List.mem_singleton.mp z)) e).same s5
      refine ys_seq (ys_par (ya_cons (y_r0 (y_dget (y_var rfl (up_ s05 h_rows)) (y_var rfl h_state) hb)) (ya_cons (y_fzl (yn_listVals (y_r1 (y_dget (y_var rfl (up_ s05 h_rows)) (y_var rfl h_state) hb)))) ya_nil)) fun v_kind v_goals H6 s6 h_kind h_goals => ?_)
      refine (ys_if (b := rkC a_rows a_left (keys rd) x) (Yt.eq (yt_and (yt_b (y_cb b_any (y_fzl (yn_lc0 (r' := bP)  _ (yi_l (y_var rfl h_goals)) (fun x7 m7 v7 H7 s7 h7 => bd1 ⟨rfl, yt_yes, fun e7 => (y_din (y_var rfl h7) (y_var rfl (md5.same (s6.trans s7)).g))⟩))))) fun b10 => (yt_or (yt_test (y_op r_eqS (y_var rfl h_kind) y_str)) fun b9 => (yt_b (y_cb b_all (y_fzl (yn_lc0 (r' := bP)  _ (yi_l (y_var rfl h_goals)) (fun x8 m8 v8 H8 s8 h8 => bd1 ⟨rfl, yt_yes, fun e8 => (y_inS (y_var rfl h8) (y_var rfl (up_ ((s05.trans s6).trans s8) h_left)))⟩))))))) ?_) (fun b11 H11 s11 => ?_) (fun b11 H11 s11 => ?_))
      · unfold rkC has
        rw [List.any_map, List.all_map]
        rfl
      · have s511 := s6.trans s11
        refine ys_app (x := x) rfl (ml'.same (s5.trans s511)) (y_var rfl (up_ s511 h_state)) ?_ (fun H12 mx12 ml12 => ?_)
        · have h1 := List.length_filter_le (rkC a_rows a_left (keys rd)) (todo.take j)
          have h2 : todo.length ≤ a_left.length := by rw [← hT]; exact List.length_filter_le _ _
          rw [List.length_take] at h1
          omega
        · refine ⟨⟨_, _, _, _, rfl⟩, (mx'.trans (Mx.of (s5.trans s511))).trans mx12, ?_⟩
          rw [take_one hx, List.filter_append, List.filter_cons, if_pos b11, List.filter_nil]
          exact ml12
      · refine ⟨⟨_, _, _, _, rfl⟩, mx'.trans (Mx.of ((s5.trans s6).trans s11)), ?_⟩
        rw [take_one hx, List.filter_append, List.filter_cons, if_neg (by rw [b11]; exact Bool.false_ne_true), List.filter_nil, List.append_nil]
        exact ml'.same ((s5.trans s6).trans s11)
    · rintro σ' H5 ⟨⟨c2, c7, c8, c9, rfl⟩, mx', ml'⟩
      rw [List.take_length] at ml'
      generalize hF : todo.filter (rkC a_rows a_left (keys rd)) = F at ml'
      have Fk : ∀ s, s ∈ F ↔ s ∈ a_left ∧ s ∉ keys rd ∧ rkC a_rows a_left (keys rd) s = true := fun s => by
        rw [← hF, ← hT, List.mem_filter, List.mem_filter]
        constructor
        · rintro ⟨⟨h1, h2⟩, h3⟩
          refine ⟨h1, fun z => ?_, h3⟩
          rw [has_iff.mpr z] at h2
          cases h2
        · rintro ⟨h1, h2, h3⟩
          refine ⟨⟨h1, ?_⟩, h3⟩
          cases z : has rd s with
          | true => exact absurd (has_iff.mp z) h2
          | false => rfl
      have Fl : F.length ≤ a_left.length := by
        rw [← hF]
        refine Nat.le_trans (List.length_filter_le _ _) ?_
        rw [← hT]
        exact List.length_filter_le _ _
      have Fn : F.Nodup := by
        rw [← hF, ← hT]
        exact (Ln.filter _).filter _
      have md5 : Md iP rd p H5 := (md3.same s4).up (mx'.up (oneq (ml3.same s4).ni)) fun o e => mx' p o (fun z => pf (List.mem_singleton.mp z)) e
      refine nx_ (ys_seq (ys_forM rfl ml' (fun j σ' H' => (∃ (c2 c7 c8 c9 : Option V), σ' = [some v_rows, some v_left, c2, some (.ref p), some (.int (dep + 1)), some (.bl true), some (.ref f), c7, c8, c9]) ∧ Mx [p] H5 H' ∧ Ml sP F f H' ∧ ∃ rd', Md iP rd' p H' ∧ (∀ s, s ∈ keys rd' ↔ s ∈ keys rd ∨ s ∈ F.take j) ∧ rd'.length = rd.length + j ∧ (keys rd').Nodup)
        ⟨⟨_, _, _, _, rfl⟩, Mx.rfl, ml', rd, md5, fun s => by simp, rfl, vn.nd⟩ (fun j σ' H' p' => p'.2.2.1) ?_ ?_))
      · rintro j x σ' H' hx ⟨⟨c2, c7, c8, c9, rfl⟩, mx6, ml6, rd', md6, hk6, hl6, hn6⟩ v h_state
        have hxF := mem_at hx
        have hnew : x ∉ keys rd' := fun z => by
          rcases (hk6 x).mp z with z | z
          · exact ((Fk x).mp hxF).2.1 z
          · exact not_mem_take Fn hx z
        have hj : j < F.length := (List.getElem?_eq_some_iff.mp hx).1
        refine ys_dput (k := x) (x := dep + 1) (y_var (P := iP (dep + 1)) rfl rfl) rfl md6 (y_var (P := sP x) rfl h_state) (by omega) (fun H7 mx7 md7 => ?_)
        refine ⟨⟨_, _, _, _, rfl⟩, mx6.trans mx7, ml6.up (mx7.up (oneq md6.ni)) (fun o e => mx7 f o (fun z => pf (List.mem_singleton.mp z).symm) e), put rd' x (dep + 1), md7, fun s => ?_, ?_, nodup_put hn6⟩
        · rw [mem_put, hk6, take_one hx, List.mem_append, List.mem_singleton]
          constructor
          · rintro (h | h | h)
            · exact .inr (.inr h)
            · exact .inl h
            · exact .inr (.inl h)
          · rintro (h | h | h)
            · exact .inr (.inl h)
            · exact .inr (.inr h)
            · exact .inl h
        · rw [put_new hnew, List.length_append, hl6]
          rfl
      · rintro σ' H6 ⟨⟨c2, c7, c8, c9, rfl⟩, mx6, ml6, rd', md6, hk6, hl6, hn6⟩
        rw [List.take_length] at hk6
        refine nx_ (ys_set (y_neNilS (y_var rfl ml6.g) ?_) fun v_more H7 s7 h_more => ?_)
        · intro y hy
          exact (wb.at (Lb y ((Fk y).mp hy).1)).ok
        · have vn' : VN a_rows a_left (keys rd') := ⟨hn6, fun s hs => by
            rcases (hk6 s).mp hs with h | h
            · exact vn.near s h
            · obtain ⟨h1, h2, h3⟩ := (Fk s).mp h
              refine Near.intro h1 ?_
              rcases (viaC_iff wb (Lb s h1)).mp (show viaC a_rows a_left (keys rd) s = true by rw [rkC_via, h3, Bool.or_true]) with c | ⟨c, e⟩
              · exact .inl c
              · exact .inr ⟨c, e.elim .inl fun ⟨y, hy, h⟩ => .inr ⟨y, hy, vn.near y h⟩⟩⟩
          have rdL' : rd'.length ≤ a_left.length := by
            have := len_sub vn'.nd vn'.sub
            rw [keys_length] at this
            omega
          have mxa : Mx [p, f] H1 H7 := (((((mx_p mx (fun q hq => by rw [List.mem_singleton.mp hq]; simp)).trans (Mx.of ((s2.trans s3).trans s4))).trans (mx_p mx' (fun q hq => by rw [List.mem_singleton.mp hq]; simp))).trans (mx_p mx6 (fun q hq => by rw [List.mem_singleton.mp hq]; simp))).trans (Mx.of s7))
          have nf1 : H1 f = none := by
            cases z : H1 f with
            | none => rfl
            | some u =>
              have := s2 _ _ (mx f u (fun z => pf (List.mem_singleton.mp z).symm) z)
              rw [nf] at this
              cases this
          refine ⟨_, ?_, dep + 1, !F.isEmpty, rd', _, _, _, _, _, rfl, by rw [show v_more = .bl (!F.isEmpty) from h_more]; rfl, ?_, md6.same s7, vn', fun s hs hd => (hk6 s).mpr (.inl (hdone s hs hd)), fun hm s hs hn => ?_⟩
          · rw [if_pos rfl, hl6]
            cases F with
            | nil => simp
            | cons y F =>
              rw [List.length_cons] at hl6 ⊢
              simp
              omega
          · intro b o hb e
            refine mxa b o (fun z => ?_) e
            rcases List.mem_cons.mp z with z | z
            · exact hb (by rw [z]; exact List.mem_singleton.mpr rfl)
            · rw [List.mem_singleton.mp z, nf1] at e
              cases e
          · have hF0 : F = [] := by
              cases F with
              | nil => rfl
              | cons _ _ => cases hm
            have e : ∀ z, z ∈ keys rd' ↔ z ∈ keys rd := fun z => by rw [hk6, hF0]; simp
            have hn2 : s ∉ keys rd := fun z => hn ((e s).mpr z)
            have h1 : rkC a_rows a_left (keys rd) s = false := by
              cases z : rkC a_rows a_left (keys rd) s with
              | false => rfl
              | true =>
                have := (Fk s).mpr ⟨hs, hn2, z⟩
                rw [hF0] at this
                cases this
            rw [← h1]
            unfold rkC inL
            congr 2
            funext g
            exact decide_eq_decide.mpr (e g)
end En
set_option maxHeartbeats 4000000
/-! The program: rounds, ranks, viable states. -/
namespace En
open PySem PySem.Spec PyProof.Rows L2
variable {P : Program} {w : World} {K : PySem.W.Frag} {mg : Str → Option Value} {base : Heap}
section
variable {σ : L2.St} {H : Hp} {ta : TE}
theorem y_isDesk (T : Tf w K mg) {d : World'} (ya : Y ta σ H (dkP K d)) : Y (tCB (rIsi K) (tCons ta (tCons (tC (.ref (cDesk K))) tNil))) σ H (bP true) := fun H1 u Q q => ya H1 u _ fun x H2 s2 ⟨a, dx, b, e, h1, h2⟩ => by
  have c := T.isDesk
  exact ⟨x, .ref (cDesk K), .ref (cDesk K), .ref (cDesk K), true, rfl, .own _, by rw [e]; exact .base (TyOf.ins h1 c.cl c.ha c.hn c.htk c.hm), c.me, q _ H2 s2 rfl⟩
end
/-! ### check_desk -/
abbrev sp_check_desk (K : PySem.W.Frag) : Sp := Sp1 (dkP K) (fun _ => True) (fun _ => nP)
abbrev N_check_desk : List Str := ["value"]
theorem nd_check_desk : N_check_desk.Nodup := by decide
theorem c_check_desk (T : Tf w K mg) : C8.Cal P w K mg base 1 "check_desk" (sp_check_desk K) [] := by
  refine T.cal (d := d_check_desk) (N := N_check_desk) (ps := ["value"]) 7 rfl rfl (by simp [fa, fa0, fa1, fa2, fa3]) rfl rfl (by decide +kernel) (len1 _) (fun _ _ _ _ _ _ us hl => match us, hl with | [_], _ => rfl) (fun f cdv A outer s H vs Q E hr hsp => ?_)
  obtain ⟨v_value, a_value, rfl, h_value, hok, hq⟩ := hsp
  refine ⟨_, (pss_one (ps_if (pt_not (pt_val (pe_callB (k_isi (K := K) rfl) (by rfl) T.n_isinstance (by decide +kernel) (pa_cons (pv 0) (pa_cons (C8.pe_gc (v := .ref (cDesk K)) rfl ⟨_, T.g_Desk, rfl⟩) pa_nil))))) (pss_one ps_never)
    pss_nil)), ?_⟩
  refine (ys_if (yt_not (yt_b (y_isDesk T (y_var rfl h_value)))) (fun b1 H1 s1 => ?_) (fun b1 H1 s1 => ?_))
  · cases b1
  · exact hq _ _ s1 rfl
/-! ### rounds -/
theorem filter_split {α : Type} (p : α → Bool) : ∀ l : List α, (l.filter fun s => !p s).length + (l.filter p).length = l.length
  | [] => rfl
  | x :: l => by
    have := filter_split p l
    rw [List.filter_cons, List.filter_cons, List.length_cons]
    cases p x
    · rw [Bool.not_false, if_pos rfl, if_neg Bool.false_ne_true, List.length_cons]
      omega
    · rw [Bool.not_true, if_neg Bool.false_ne_true, if_pos rfl, List.length_cons]
      omega
def rdP (b : Book) : Pr := fun v H => ∃ d, TP [dP iP d, anyP] v H ∧ (keys d).Nodup ∧ ∀ s, s ∈ keys d ↔ Via b s
abbrev sp_rounds : Sp := Sp1 (dP rP) (fun b => WfB b) (fun b => rdP b)
abbrev N_rounds : List Str := ["rows", "left", "fell", "turn", "ranks", "state"]
theorem nd_rounds : N_rounds.Nodup := by decide
theorem c_rounds (T : Tf w K mg) : C8.Cal P w K mg base 2 "rounds" sp_rounds [] := by
  refine T.cal (d := d_rounds) (N := N_rounds) (ps := ["rows"]) 27 rfl rfl (by simp [fa, fa0, fa1, fa2, fa3]) rfl rfl (by decide +kernel) (len1 _) (fun _ _ _ _ _ _ us hl => match us, hl with | [_], _ => rfl) (fun f cdv A outer s H vs Q E hr hsp => ?_)
  obtain ⟨v_rows, a_rows, rfl, h_rows, hok, hq⟩ := hsp
  refine ⟨_, (pss_cons (ps_par3 (i := 1) (j := 2) (l := 3) rfl nd_rounds rfl rfl rfl (by decide) (by decide) (by decide) rfl rfl rfl (pa_cons (pe_fz (pe_callTy (call_listD rfl) (by rfl) T.n_list (by decide +kernel) (pa_cons (pv 0) pa_nil))) (pa_cons pe_dnewK (pa_cons pe_int pa_nil))) (by rfl))
    (pss_one (ps_while PassesOwn.never (pt_val pe_bl)
    (pss_cons (ps_set (i := 4) nd_rounds rfl (Or.inr rfl) (C8.pe_c (c_ranked_viable T) hr (by decide) rfl (pa_cons (pv 0) (pa_cons (pv 1) pa_nil))))
    (pss_cons (ps_if (pt_cmpR op_eq (pe_callB (k_lenA (K := K) rfl) (by rfl) T.n_len (by decide +kernel) (pa_cons (pv 4) pa_nil)) (pe_callB (k_lenA (K := K) rfl) (by rfl) T.n_len (by decide +kernel) (pa_cons (pv 1) pa_nil)) (nomark _)) (pss_one (ps_ret (pe_tup (pa_cons (pv 4) (pa_cons (pv 2) pa_nil)))))
    pss_nil)
    (pss_cons (ps_for PassesOwn.never rfl (k_list (K := K) rfl (pe_fz (pe_lc (own := [("state", 5)]) rfl nd_rounds (k_list (K := K) rfl (pv 1)) (blkOk_by (own := [("state", 5)]) (by first | decide +kernel | rfl)) (fun _ _ _ _ _ => (pg_name (i := 5) nd_rounds rfl (Or.inl rfl))) (fun _ _ _ _ _ => (pts_one (pt_cmp (pc_dnotin (hu_of hr) (pv 5) (pv 4)) rfl))) (fun _ _ _ _ _ => (pv 5))))) (pg_name (i := 5) nd_rounds rfl (Or.inl rfl))
    (pss_one (ps_dput (hu_of hr) (pv 2) (pv 5) (pv 3) rfl)))
    (pss_one (ps_par (i := 1) (j := 3) rfl nd_rounds rfl rfl (by decide) rfl rfl (pa_cons (pe_fz (pe_lc (own := [("state", 5)]) rfl nd_rounds (k_list (K := K) rfl (pv 1)) (blkOk_by (own := [("state", 5)]) (by first | decide +kernel | rfl)) (fun _ _ _ _ _ => (pg_name (i := 5) nd_rounds rfl (Or.inl rfl))) (fun _ _ _ _ _ => (pts_one (pt_cmp (pc_din (hu_of hr) (pv 5) (pv 4)) rfl))) (fun _ _ _ _ _ => (pv 5)))) (pa_cons (pe_op op_add (pv 3) pe_int) pa_nil)) (by rfl))))))))), ?_⟩
  refine ys_seq (ys_par3Y (y_fzl (yn_listD (y_var rfl h_rows))) (yn_newK (r := iP)) y_int fun v_left p H0 H1 u0 v_turn s0 np e0 i0 s1 h_left h_turn => ?_)
  have md0 : Md iP [] p H1 := (Md.of e0 i0 List.nodup_nil).same s1
  have s01 : Same H H1 := s0.trans s1
  have hlen := hok.len
  refine ys_while (fun M σ' H' => ∃ (vl : V) (L : List Str) (n : Int) (fd : List (Str × Int)) (c4 c5 : Option V), M = L.length ∧ σ' = [some v_rows, some vl, some (.ref p), some (.int n), c4, c5] ∧ Mx [p] H1 H' ∧ lP sP L vl H' ∧ Md iP fd p H' ∧ VL' a_rows L ∧ fd.length + L.length ≤ a_rows.length ∧ (∀ s ∈ L, s ∉ keys fd))
    _ ⟨v_left, keys a_rows, 0, [], _, _, rfl, by rw [show v_turn = .int 0 from h_turn]; rfl, Mx.rfl, h_left, md0, ⟨hok.nd, fun s hs => hs, fun s hs => hs.key⟩, by rw [keys_length]; simp, fun s _ => List.not_mem_nil⟩ ?_
  rintro M σ' H' ⟨vl, L, n, fd, c4, c5, rfl, rfl, mx, h_left, mf, hL, hfl, hfr⟩
  have s0' : Same H H' := mx.same s01 (oneq np)
  have Ll : L.length ≤ 64 := by omega
  refine ⟨true, yt_b y_bl, fun hb => (by cases hb), fun _ H2 s2 => ?_⟩
  have s02 := s0'.trans s2
  refine ys_seq (ys_set (y_call2 (y_var rfl (up_ s02 h_rows)) (y_var rfl (up_ s2 h_left)) ⟨hok, hL.nd, hL.sub⟩) fun v_ranks H3 s3 h_ranks => ?_)
  obtain ⟨d, hd, dn, dk⟩ := h_ranks
  have dL : ∀ s ∈ keys d, s ∈ L := fun s hs => ((dk s).mp hs).sub
  refine nx_ (ys_seq (ys_if (yt_test (y_op r_eqI (y_lenD (y_var rfl hd)) (y_lenL (y_var rfl (up_ (s2.trans s3) h_left))))) (fun b3 H4 s4 => ?_) (fun b3 H4 s4 => ?_)))
  · have e := of_decide_eq_true b3
    have hn : ∀ s ∈ L, s ∈ keys d := sub_eq dn hL.nd dL (by rw [keys_length]; omega)
    refine ys_ret (y_tup (Ps := [dP iP d, anyP]) (ya_cons (y_var rfl (up_ s4 hd)) (ya_cons (y_var (v := .ref p) rfl trivial) ya_nil))) fun v H5 s5 h => ?_
    refine hq v _ (((s02.trans s3).trans s4).trans s5) ⟨d, h, dn, fun s => ⟨fun hs => Gfp.of (L := (· ∈ L)) (fun y hy => (dk y).mp (hn y hy)) (dL s hs), fun hs => hn s (hL.via s hs)⟩⟩
  · have e := of_decide_eq_false b3
    have lt : d.length < L.length := by
      have := len_sub dn dL
      rw [keys_length] at this
      omega
    have md4 := mf.same ((s2.trans s3).trans s4)
    have l4 := up_ ((s2.trans s3).trans s4) h_left
    have d4 := up_ s4 hd
    generalize hT : (L.filter fun s => !has d s) = todo
    have todol : todo.length ≤ L.length := by rw [← hT]; exact List.length_filter_le _ _
    have todon : todo.Nodup := by rw [← hT]; exact hL.nd.filter _
    have todok : ∀ s, s ∈ todo ↔ s ∈ L ∧ s ∉ keys d := fun s => by
      rw [← hT, List.mem_filter]
      refine and_congr_right fun _ => ?_
      rw [Bool.not_eq_true', ← Bool.not_eq_true, has_iff]
    refine ys_seq (ys_for (xs := todo) (yi_l (Y_eq (r := lP sP) (show _ = todo by rw [List.map_id']; exact hT) (y_fzl (yn_lc (r' := sP) _ _ (yi_l (y_var rfl l4)) (fun x5 m5 v5 H5 s5 h5 => bd1 ⟨rfl, (yt_b (y_dnotin (y_var rfl h5) (y_var rfl (up_ s5 d4)))), fun e5 => (y_var rfl h5)⟩))))) fun H5 s5 => ⟨fun j σ' H' => (∃ (c5 : Option V), σ' = [some v_rows, some vl, some (.ref p), some (.int n), some v_ranks, c5]) ∧ Mx [p] H5 H' ∧ ∃ fd', Md iP fd' p H' ∧ fd'.length = fd.length + j ∧ (∀ s, s ∈ keys fd' ↔ s ∈ keys fd ∨ s ∈ todo.take j),
      ⟨⟨_, rfl⟩, Mx.rfl, fd, md4.same s5, rfl, fun s => by simp⟩, fun i σ' H' p' => p'.2.1.up (oneq (md4.same s5).ni), ?_, ?_⟩)
    · rintro j x σ' H' hx ⟨⟨c5, rfl⟩, mx6, fd', md6, hl6, hk6⟩ v H6 s6 h_state
      have hxt := mem_at hx
      have hnew : x ∉ keys fd' := fun z => by
        rcases (hk6 x).mp z with z | z
        · exact hfr x ((todok x).mp hxt).1 z
        · exact not_mem_take todon hx z
      have hj : j < todo.length := (List.getElem?_eq_some_iff.mp hx).1
      refine ys_dput (k := x) (x := n) (y_var (P := iP n) rfl rfl) rfl (md6.same s6) (y_var (P := sP x) rfl h_state) (by omega) (fun H7 mx7 md7 => ?_)
      refine ⟨⟨_, rfl⟩, (mx6.trans (Mx.of s6)).trans mx7, put fd' x n, md7, ?_, fun s => ?_⟩
      · rw [put_new hnew, List.length_append, hl6]
        rfl
      · rw [mem_put, hk6, take_one hx, List.mem_append, List.mem_singleton]
        constructor
        · rintro (h | h | h)
          · exact .inr (.inr h)
          · exact .inl h
          · exact .inr (.inl h)
        · rintro (h | h | h)
          · exact .inr (.inl h)
          · exact .inr (.inr h)
          · exact .inl h
    · rintro σ' H6 ⟨⟨c5, rfl⟩, mx6, fd', md6, hl6, hk6⟩
      rw [List.take_length] at hk6
      have up6 : Up H5 H6 := mx6.up (oneq (md4.same s5).ni)
      have l6 : lP sP L vl H6 := Sty.up up6 (up_ s5 l4)
      have d6 : dP iP d v_ranks H6 := Sty.up up6 (up_ s5 d4)
      refine nx_ (ys_par (ya_cons (y_fzl (yn_lc (r' := sP) _ _ (yi_l (y_var rfl l6)) (fun x8 m8 v8 H8 s8 h8 => bd1 ⟨rfl, (yt_b (y_din (y_var rfl h8) (y_var rfl (up_ s8 d6)))), fun e8 => (y_var rfl h8)⟩))) (ya_cons (y_op r_add (y_var (P := iP n) rfl rfl) y_int) ya_nil)) fun vl' v_turn H8 s8 h_left' h_turn => ?_)
      rw [List.map_id'] at h_left'
      have Lk : ∀ s, s ∈ L.filter (fun s => has d s) ↔ s ∈ keys d := fun s => by
        rw [List.mem_filter, has_iff]
        exact ⟨fun h => h.2, fun h => ⟨dL s h, h⟩⟩
      have Llen : (L.filter fun s => has d s).length = d.length := by
        have h1 := len_sub (hL.nd.filter _) (fun s hs => (Lk s).mp hs)
        have h2 := len_sub dn (fun s hs => (Lk s).mpr hs)
        rw [keys_length] at h1 h2
        omega
      have split : todo.length + (L.filter fun s => has d s).length = L.length := by
        rw [← hT]
        have := filter_split (fun s => has d s) L
        omega
      refine ⟨_, ?_, vl', L.filter (fun s => has d s), n + 1, fd', _, _, rfl, by rw [show v_turn = .int (n + 1) from h_turn]; rfl, (((mx.trans (Mx.of (((s2.trans s3).trans s4).trans s5))).trans mx6)).trans (Mx.of s8), h_left', md6.same s8, ⟨hL.nd.filter _, fun s hs => hL.sub s (List.mem_filter.mp hs).1, fun s hs => (Lk s).mpr ((dk s).mpr (hs.near.mono fun y hy => hL.via y hy))⟩, ?_, ?_⟩
      · rw [Llen]
        exact lt
      · omega
      · intro s hs hf
        rcases (hk6 s).mp hf with h | h
        · exact hfr s (List.mem_filter.mp hs).1 h
        · exact ((todok s).mp h).2 ((Lk s).mp hs)
/-! ### ranks_of, viable_states -/
def rkoP (b : Book) : Pr := fun v H => ∃ d, dP iP d v H ∧ keys d = viaL b
abbrev sp_ranks_of (K : PySem.W.Frag) : Sp := Sp1 (dkP K) (fun d => WfB d.1) (fun d => rkoP d.1)
abbrev N_ranks_of : List Str := ["desk", "ranks", "state"]
theorem nd_ranks_of : N_ranks_of.Nodup := by decide
theorem c_ranks_of (T : Tf w K mg) : C8.Cal P w K mg base 3 "ranks_of" (sp_ranks_of K) [] := by
  refine T.cal (d := d_ranks_of) (N := N_ranks_of) (ps := ["desk"]) 28 rfl rfl (by simp [fa, fa0, fa1, fa2, fa3]) rfl rfl (by decide +kernel) (len1 _) (fun _ _ _ _ _ _ us hl => match us, hl with | [_], _ => rfl) (fun f cdv A outer s H vs Q E hr hsp => ?_)
  obtain ⟨v_desk, a_desk, rfl, h_desk, hok, hq⟩ := hsp
  refine ⟨_, (pss_cons (ps_set (i := 1) nd_ranks_of rfl (Or.inr rfl) (pe_ix (k_ix_tup (K := K) rfl) (C8.pe_c (c_rounds T) hr (by decide) rfl (pa_cons (k_fld (K := K) rfl (pv 0) rfl) pa_nil)) pe_int (fun _ _ => rfl)))
    (pss_one (ps_ret (pe_fz (pe_dc (own := [("state", 2)]) rfl nd_ranks_of (k_list (K := K) rfl (pe_fz (pe_callB (call_sortedD rfl) (by rfl) T.n_sorted (by decide +kernel) (pa_cons (pv 1) pa_nil)))) (blkOk_by (own := [("state", 2)]) (by first | decide +kernel | rfl)) (fun _ _ _ _ _ => (pg_name (i := 2) nd_ranks_of rfl (Or.inl rfl))) (fun _ _ _ _ _ => pts_nil) (fun _ _ _ _ _ => (pv 2)) (fun _ _ _ _ _ => (pe_dget (hu_of hr) (pv 1) (pv 2) (fun _ _ => rfl)))))))), ?_⟩
  refine ys_seq (ys_set (P := fun v H => ∃ d, dP iP d v H ∧ (keys d).Nodup ∧ ∀ s, s ∈ keys d ↔ Via a_desk.1 s) (y_bind (C := fun t => tOp (rIxT K) t (tC (.int 0))) (y_call1 (y_rows T (y_var rfl h_desk)) hok) (fun v H1 s1 ⟨d, h1, h2⟩ => (y_ixT (i := 0) (y_cs h1)).mono fun w H2 h3 => ⟨d, h3, h2⟩)) fun v_ranks H1 s1 h_ranks => ?_)
  obtain ⟨d, hd, dn, dk⟩ := h_ranks
  have dl : d.length < 64 := by
    have := len_sub dn (fun s hs => ((dk s).mp hs).key)
    rw [keys_length, keys_length] at this
    have := hok.len
    omega
  have hvia : sortS (keys d) = viaL a_desk.1 := by
    unfold viaL
    refine sortS_of' (perm_of dn (hok.nd.filter _) fun s => ?_)
    rw [dk, List.mem_filter]
    exact ⟨fun h => ⟨h.key, @decide_eq_true _ (Classical.propDecidable _) h⟩, fun h => @of_decide_eq_true _ (Classical.propDecidable _) h.2⟩
  refine nx_ (ys_ret (y_fzD (yn_dc0 (r' := iP)  _ _ (yi_l (y_fzl (yn_sortedD (y_var rfl hd) dl))) (fun x2 m2 v2 H2 s2 h2 => bk1 ⟨rfl, yt_yes, fun e2 => ⟨(y_var rfl h2), (y_dget (y_var rfl (up_ s2 hd)) (y_var rfl h2) ?_)⟩⟩) ?_)) fun v H3 s3 h => ?_)
  · exact mem_sortS.mp m2
  · rw [List.map_id']
    exact ((sortS_perm _).nodup_iff).mpr dn
  · exact hq v _ (s1.trans s3) ⟨_, h, by rw [keys_mk, List.map_id', hvia]⟩
abbrev sp_viable_states (K : PySem.W.Frag) : Sp := Sp1 (dkP K) (fun d => WfB d.1) (fun d => lP sP (viaL d.1))
abbrev N_viable_states : List Str := ["desk"]
theorem nd_viable_states : N_viable_states.Nodup := by decide
theorem c_viable_states (T : Tf w K mg) : C8.Cal P w K mg base 4 "viable_states" (sp_viable_states K) [] := by
  refine T.cal (d := d_viable_states) (N := N_viable_states) (ps := ["desk"]) 29 rfl rfl (by simp [fa, fa0, fa1, fa2, fa3]) rfl rfl (by decide +kernel) (len1 _) (fun _ _ _ _ _ _ us hl => match us, hl with | [_], _ => rfl) (fun f cdv A outer s H vs Q E hr hsp => ?_)
  obtain ⟨v_desk, a_desk, rfl, h_desk, hok, hq⟩ := hsp
  refine ⟨_, (pss_cons (ps_expr (C8.pe_c (c_check_desk T) hr (by decide) rfl (pa_cons (pv 0) pa_nil)))
    (pss_one (ps_ret (pe_fz (pe_callTy (call_listD rfl) (by rfl) T.n_list (by decide +kernel) (pa_cons (C8.pe_c (c_ranks_of T) hr (by decide) rfl (pa_cons (pv 0) pa_nil)) pa_nil)))))), ?_⟩
  refine ys_seq (ys_drop (y_call1 (y_var rfl h_desk) trivial) fun v_ H1 s1 h_ => ?_)
  refine nx_ (ys_ret (y_bind (C := fun t => tFz (tCB (fun xs H Q => ∃ (a : Addr) (kvs : List (Key × V)), xs = [.ref a] ∧ Rd H a (.dK kvs) ∧ ∀ p, H p = none → Q (.ref p) (upd H p (.lst (kvs.map fun kv => kV kv.1)))) (tCons t tNil))) (P2 := lP sP (viaL a_desk.1)) (y_call1 (y_var rfl (up_ s1 h_desk)) hok)
    (fun v H2 s2 ⟨d, h1, h2⟩ => Y_eq (r := lP sP) h2 (y_fzl (yn_listD (y_cs h1))))) fun v H2 s2 h => hq v _ (s1.trans s2) h)
end En
set_option maxHeartbeats 4000000
/-! The program: what is held. -/
namespace En
open PySem PySem.Spec PyProof.Rows L2
variable {P : Program} {w : World} {K : PySem.W.Frag} {mg : Str → Option Value} {base : Heap}
structure OkH (h : Hd) : Prop where
  we : WfB h.1
  wn : WfB h.2.2
  vk : keys h.2.1 = viaL h.1
def InH (h : Hd) (p : Str × Str) : Prop := p.1 ∈ keys h.1 ∧ p.2 ∈ keys h.2.2
theorem OkH.has (h : Hd) (o : OkH h) (s : Str) : has h.2.1 s = true ↔ Via h.1 s := by
  rw [has_iff, o.vk, mem_viaL]
/-! ### sayable -/
def say (h : Hd) (st : Str) : List Str := if (look h.1 st).1 = "hears" then (keys (look h.1 st).2).filter fun wd => has h.2.1 (look (look h.1 st).2 wd) else []
abbrev sp_Held_sayable (K : PySem.W.Frag) : Sp := Sp2 (hdP K) sP (fun h st => OkH h ∧ st ∈ keys h.1) (fun h st => lP sP (say h st))
abbrev N_Held_sayable : List Str := ["self", "state", "kind", "turns", "word"]
theorem nd_Held_sayable : N_Held_sayable.Nodup := by decide
theorem t_sayable (T : Tf w K mg) : C8.Met P w K mg base 1 (He.ga K "Held") "sayable" (sp_Held_sayable K) [] := by
  refine T.met (c := "Held") (m := "sayable") (d := d_Held_sayable) (N := N_Held_sayable) (ps := ["self", "state"]) 18 rfl rfl (by simp [fa, fa0, fa1, fa2, fa3]) T.clsH rfl rfl (by decide +kernel) (len2 _ _) (fun _ _ _ _ _ _ us hl => match us, hl with | [_, _], _ => rfl) (fun f cdv A outer s H vs Q E hr hsp => ?_)
  obtain ⟨v_self, v_state, a_self, a_state, rfl, h_self, h_state, hok, hq⟩ := hsp
  refine ⟨_, (pss_cons (ps_asg (pe_dget (hu_of hr) (k_fld (K := K) rfl (pv 0) rfl) (pv 1) (fun _ _ => rfl)) (k_pg_tup (K := K) rfl rfl (pgs_cons (pg_name (i := 2) nd_Held_sayable rfl (Or.inl rfl)) (pgs_cons (pg_name (i := 3) nd_Held_sayable rfl (Or.inr rfl)) pgs_nil))))
    (pss_one (ps_ret (pe_ifExp (pt_cmpR op_eq (pv 2) pe_str (nomark _)) (pe_fz (pe_lc (own := [("word", 4)]) rfl nd_Held_sayable (pi_keys (pv 3)) (blkOk_by (own := [("word", 4)]) (by first | decide +kernel | rfl)) (fun _ _ _ _ _ => (pg_name (i := 4) nd_Held_sayable rfl (Or.inl rfl))) (fun _ _ _ _ _ => (pts_one (pt_cmp (pc_din (hu_of hr) (pe_dget (hu_of hr) (pv 3) (pv 4) (fun _ _ => rfl)) (k_fld (K := K) rfl (pv 0) rfl)) rfl))) (fun _ _ _ _ _ => (pv 4)))) (pe_fz (pe_lst pa_nil)))))), ?_⟩
  -- kind, turns = self.elder[state]
  refine ys_seq (ys_tup2 (y_dget (y_elder T (y_var rfl h_self)) (y_var rfl h_state) ?_) fun v_kind v_turns H1 s1 h_kind h_turns => ?_)
  · exact hok.2
  -- return [word for word in turns if turns[word] in self.viable] if kind == 'hears' else []
  refine ys_ret (y_if (r := (lP sP)) (yt_test (y_op r_eqS (y_var rfl h_kind) y_str)) (fun c2 => (y_fzl (yn_lc (r' := sP) _ _ (yi_keys (y_var rfl h_turns)) (fun x3 m3 v3 H3 s3 h3 => bd1 ⟨rfl, (yt_b (y_din (y_dget (y_var rfl (up_ s3 h_turns)) (y_var rfl h3) ?_) (y_viable T (y_var rfl (up_ (s1.trans s3) h_self))))), fun e3 => (y_var rfl h3)⟩)))) (fun c2 => (y_fzl (yn_lsts yl_nil)))) fun v H4 s4 h => ?_
  · exact m3
  exact hq v _ (s1.trans s4) (by exact P_eq (r := lP sP) (by unfold say; rw [List.map_id']; by_cases e : (look a_self.1 a_state).1 = "hears" <;> simp [e]) h)
theorem say_good {h : Hd} (o : OkH h) {st : Str} (hs : st ∈ keys h.1) (hk : (look h.1 st).1 = "hears") (wd : Str) : wd ∈ say h st ↔ wd ∈ goodW h.1 st := by
  unfold say goodW
  rw [if_pos hk, mem_sortS, List.mem_filter, List.mem_filter]
  refine and_congr_right fun _ => ?_
  have hne : ¬ (look h.1 st).1 = "says" := by rw [hk]; decide
  rw [OkH.has h o, Bool.or_eq_true, decide_eq_true_eq, decide_eq_true_eq, mem_viaL]
  exact ⟨.inr, fun z => z.resolve_left hne⟩
theorem y_say {β : Type} {σ : L2.St} {H : Hp} {ta tb : TE} {p2 : β → Pr} {ok : Hd → β → Prop} {post : Hd → β → Pr} {a : Hd} {b : β} [s2 : ∀ a, Sts (p2 a)] (ya : Y ta σ H (hdP K a)) (yb : Y tb σ H (p2 b)) (h : ok a b) : Y (tMeth (cHeld K) "sayable" (Sp2 (hdP K) p2 ok post) [] E0 ta (tCons tb tNil)) σ H (post a b) := y_meth1 ya yb h
/-! ### is_matched -/
noncomputable abbrev sp_Held_is_matched (K : PySem.W.Frag) : Sp := Sp2 (hdP K) pP (fun h p => OkH h ∧ InH h p) (fun h p => bP (mt h.1 h.2.2 p))
theorem kinds {b : Book} (h : WfB b) {s : Str} (hs : s ∈ keys b) : (look b s).1 = "says" ∨ (look b s).1 = "hears" ∨ (look b s).1 = "done" := by
  have hk := (h.at hs).kind
  have : (look b s).1 ∈ (["says", "hears", "done"] : List Str) := hk
  simpa using this
theorem mt_say {h : Hd} (o : OkH h) {p : Str × Str} (hp : InH h p) (hk : (look h.1 p.1).1 = (look h.2.2 p.2).1) (hs : ¬ (look h.1 p.1).1 = "says") : ((say h p.1).all fun wd => has (look h.2.2 p.2).2 wd) = mt h.1 h.2.2 p := by
  unfold mt
  rw [if_pos hk, if_neg hs]
  rcases kinds o.we hp.1 with k | k | k
  · exact absurd k hs
  · have e : decide ((look h.1 p.1).1 = "done") = false := by rw [k]; decide
    rw [e, Bool.false_or]
    refine bool_eq ?_
    rw [List.all_eq_true, List.all_eq_true]
    exact forall_congr' fun wd => by rw [say_good o hp.1 k]
  · rw [decide_eq_true k, Bool.true_or]
    unfold say
    rw [if_neg (by rw [k]; decide)]
    rfl
abbrev N_Held_is_matched : List Str := ["self", "pair", "kind", "mine", "other", "theirs", "word"]
theorem nd_Held_is_matched : N_Held_is_matched.Nodup := by decide
theorem t_is_matched (T : Tf w K mg) : C8.Met P w K mg base 2 (He.ga K "Held") "is_matched" (sp_Held_is_matched K) [] := by
  refine T.met (c := "Held") (m := "is_matched") (d := d_Held_is_matched) (N := N_Held_is_matched) (ps := ["self", "pair"]) 19 rfl rfl (by simp [fa, fa0, fa1, fa2, fa3]) T.clsH rfl rfl (by decide +kernel) (len2 _ _) (fun _ _ _ _ _ _ us hl => match us, hl with | [_, _], _ => rfl) (fun f cdv A outer s H vs Q E hr hsp => ?_)
  obtain ⟨v_self, v_pair, a_self, a_pair, rfl, h_self, h_pair, hok, hq⟩ := hsp
  refine ⟨_, (pss_cons (ps_asg (pe_dget (hu_of hr) (k_fld (K := K) rfl (pv 0) rfl) (pe_ix (k_ix_tup (K := K) rfl) (pv 1) pe_int (fun _ _ => rfl)) (fun _ _ => rfl)) (k_pg_tup (K := K) rfl rfl (pgs_cons (pg_name (i := 2) nd_Held_is_matched rfl (Or.inl rfl)) (pgs_cons (pg_name (i := 3) nd_Held_is_matched rfl (Or.inr rfl)) pgs_nil))))
    (pss_cons (ps_asg (pe_dget (hu_of hr) (k_fld (K := K) rfl (pv 0) rfl) (pe_ix (k_ix_tup (K := K) rfl) (pv 1) pe_int (fun _ _ => rfl)) (fun _ _ => rfl)) (k_pg_tup (K := K) rfl rfl (pgs_cons (pg_name (i := 4) nd_Held_is_matched rfl (Or.inl rfl)) (pgs_cons (pg_name (i := 5) nd_Held_is_matched rfl (Or.inr rfl)) pgs_nil))))
    (pss_cons (ps_if (pt_cmpR op_ne (pv 2) (pv 4) (nomark _)) (pss_one (ps_ret pe_bl))
    pss_nil)
    (pss_cons (ps_if (pt_cmpR op_eq (pv 2) pe_str (nomark _)) (pss_one (ps_ret (pe_callB (k_all (K := K) rfl rfl) (by rfl) T.n_all (by decide +kernel) (pa_cons (pe_fz (pe_lc (own := [("word", 6)]) rfl nd_Held_is_matched (pi_keys (pv 5)) (blkOk_by (own := [("word", 6)]) (by first | decide +kernel | rfl)) (fun _ _ _ _ _ => (pg_name (i := 6) nd_Held_is_matched rfl (Or.inl rfl))) (fun _ _ _ _ _ => pts_nil) (fun _ _ _ _ _ => (pe_cmp (pc_din (hu_of hr) (pv 6) (pv 3)) rfl)))) pa_nil))))
    pss_nil)
    (pss_one (ps_ret (pe_callB (k_all (K := K) rfl rfl) (by rfl) T.n_all (by decide +kernel) (pa_cons (pe_fz (pe_lc (own := [("word", 6)]) rfl nd_Held_is_matched (k_list (K := K) rfl (C8.pe_mt (t_sayable T) hr (by decide) (pv 0) (pa_cons (pe_ix (k_ix_tup (K := K) rfl) (pv 1) pe_int (fun _ _ => rfl)) pa_nil))) (blkOk_by (own := [("word", 6)]) (by first | decide +kernel | rfl)) (fun _ _ _ _ _ => (pg_name (i := 6) nd_Held_is_matched rfl (Or.inl rfl))) (fun _ _ _ _ _ => pts_nil) (fun _ _ _ _ _ => (pe_cmp (pc_din (hu_of hr) (pv 6) (pv 5)) rfl)))) pa_nil)))))))), ?_⟩
  -- kind, mine = self.elder[pair[0]]
  refine ys_seq (ys_tup2 (y_dget (y_elder T (y_var rfl h_self)) (y_p0 (y_var rfl h_pair)) ?_) fun v_kind v_mine H1 s1 h_kind h_mine => ?_)
  · exact hok.2.1
  -- other, theirs = self.newer[pair[1]]
  refine ys_seq (ys_tup2 (y_dget (y_newer T (y_var rfl (up_ s1 h_self))) (y_p1 (y_var rfl (up_ s1 h_pair))) ?_) fun v_other v_theirs H2 s2 h_other h_theirs => ?_)
  · exact hok.2.2
  -- if kind != other
  refine ys_seq (ys_if (yt_test (y_op r_neS (y_var rfl (up_ s2 h_kind)) (y_var rfl h_other))) (fun b3 H3 s3 => ?_) (fun b3 H3 s3 => ?_))
  · -- then
    -- return False
    refine ys_ret y_bl fun v H4 s4 h => ?_
    exact hq v _ (((s1.trans s2).trans s3).trans s4) (by exact bP_eq (by unfold mt; rw [if_neg (by simpa using b3)]) h)
  -- if kind == 'says'
  refine ys_seq (ys_if (yt_test (y_op r_eqS (y_var rfl (up_ (s2.trans s3) h_kind)) y_str)) (fun b5 H5 s5 => ?_) (fun b5 H5 s5 => ?_))
  · -- then
    -- return all([word in mine for word in theirs])
    refine ys_ret (y_cb b_all (y_fzl (yn_lc0 (r' := bP)  _ (yi_keys (y_var rfl (up_ (s3.trans s5) h_theirs))) (fun x6 m6 v6 H6 s6 h6 => bd1 ⟨rfl, yt_yes, fun e6 => (y_din (y_var rfl h6) (y_var rfl (up_ (((s2.trans s3).trans s5).trans s6) h_mine)))⟩)))) fun v H7 s7 h => ?_
    exact hq v _ ((((s1.trans s2).trans s3).trans s5).trans s7) (by exact bP_eq (by unfold mt; rw [if_pos (by simpa using b3), if_pos (of_decide_eq_true b5), List.all_map]; rfl) h)
  -- return all([word in theirs for word in self.sayable(pair[0])])
  refine nx_ (ys_ret (y_cb b_all (y_fzl (yn_lc0 (r' := bP)  _ (yi_l (K := K) (r := sP) (xs := say a_self a_pair.1) (y_say (y_var rfl (up_ (((s1.trans s2).trans s3).trans s5) h_self)) (y_p0 (y_var rfl (up_ (((s1.trans s2).trans s3).trans s5) h_pair))) ?_)) (fun x8 m8 v8 H8 s8 h8 => bd1 ⟨rfl, yt_yes, fun e8 => (y_din (y_var rfl h8) (y_var rfl (up_ ((s3.trans s5).trans s8) h_theirs)))⟩)))) fun v H9 s9 h => ?_)
  · exact ⟨hok.1, hok.2.1⟩
  exact hq v _ ((((s1.trans s2).trans s3).trans s5).trans s9) (by exact bP_eq (by rw [← mt_say hok.1 hok.2 (by simpa using b3) (of_decide_eq_false b5), List.all_map]; rfl) h)
/-! ### steps -/
noncomputable def stpP (h : Hd) (p : Str × Str) : Pr := fun v H => ∃ d, dP pP d v H ∧ (keys d).Nodup ∧ ∀ t, t ∈ d ↔ t ∈ stp h.1 h.2.2 p
noncomputable abbrev sp_Held_steps (K : PySem.W.Frag) : Sp := Sp2 (hdP K) pP (fun h p => OkH h ∧ InH h p) (fun h p => stpP h p)
theorem say_nodup {h : Hd} (o : OkH h) {st : Str} (hs : st ∈ keys h.1) : (say h st).Nodup := by
  unfold say
  split
  · exact (o.we.at hs).nd.filter _
  · exact List.nodup_nil
theorem good_says {b : Book} {s : Str} (h : (look b s).1 = "says") (wd : Str) : wd ∈ goodW b s ↔ wd ∈ keys (look b s).2 := by
  unfold goodW
  rw [mem_sortS, List.mem_filter, decide_eq_true h, Bool.true_or]
  exact and_iff_left rfl
theorem good_done {b : Book} (hb : WfB b) {s : Str} (hs : s ∈ keys b) (h : (look b s).1 = "done") (wd : Str) : wd ∉ goodW b s := fun z => by
  have h2 : (look b s).2 = [] := ((hb.at hs).fin).mp h
  have := goodW_sub z
  rw [h2] at this
  cases this
/-- the words of a step: as the program and as the law gather them -/
theorem words_good {h : Hd} (o : OkH h) {p : Str × Str} (hp : InH h p) (wd : Str) : wd ∈ (if decide ((look h.1 p.1).1 = "says") = true then keys (look h.1 p.1).2 else say h p.1) ↔ wd ∈ goodW h.1 p.1 := by
  rcases kinds o.we hp.1 with k | k | k
  · rw [if_pos (decide_eq_true k), good_says k]
  · rw [if_neg (by rw [k]; decide), say_good o hp.1 k]
  · rw [if_neg (by rw [k]; decide)]
    unfold say
    rw [if_neg (by rw [k]; decide)]
    refine ⟨fun z => ?_, fun z => absurd z (good_done o.we hp.1 k wd)⟩
    cases z
theorem stp_post {h : Hd} (o : OkH h) {p : Str × Str} (hp : InH h p) (hk : (look h.1 p.1).1 = (look h.2.2 p.2).1) {ws : List Str} (hw : ws = if decide ((look h.1 p.1).1 = "says") = true then keys (look h.1 p.1).2 else say h p.1) {v : V} {H : Hp}
    (z : dP pP ((ws.filter fun wd => has (look h.2.2 p.2).2 wd).map fun wd => (wd, (look (look h.1 p.1).2 wd, look (look h.2.2 p.2).2 wd))) v H) : stpP h p v H := by
  subst hw
  refine ⟨_, z, ?_, fun t => ?_⟩
  · rw [keys_mk, List.map_id']
    refine List.Pairwise.filter _ ?_
    split
    · exact (o.we.at hp.1).nd
    · exact say_nodup o hp.1
  · unfold stp
    rw [if_pos hk, List.mem_map, List.mem_map]
    refine exists_congr fun wd => and_congr_left fun _ => ?_
    rw [List.mem_filter, List.mem_filter]
    exact and_congr_left fun _ => words_good o hp wd
abbrev N_Held_steps : List Str := ["self", "pair", "kind", "mine", "other", "theirs", "words", "word"]
theorem nd_Held_steps : N_Held_steps.Nodup := by decide
theorem t_steps (T : Tf w K mg) : C8.Met P w K mg base 2 (He.ga K "Held") "steps" (sp_Held_steps K) [] := by
  refine T.met (c := "Held") (m := "steps") (d := d_Held_steps) (N := N_Held_steps) (ps := ["self", "pair"]) 20 rfl rfl (by simp [fa, fa0, fa1, fa2, fa3]) T.clsH rfl rfl (by decide +kernel) (len2 _ _) (fun _ _ _ _ _ _ us hl => match us, hl with | [_, _], _ => rfl) (fun f cdv A outer s H vs Q E hr hsp => ?_)
  obtain ⟨v_self, v_pair, a_self, a_pair, rfl, h_self, h_pair, hok, hq⟩ := hsp
  refine ⟨_, (pss_cons (ps_asg (pe_dget (hu_of hr) (k_fld (K := K) rfl (pv 0) rfl) (pe_ix (k_ix_tup (K := K) rfl) (pv 1) pe_int (fun _ _ => rfl)) (fun _ _ => rfl)) (k_pg_tup (K := K) rfl rfl (pgs_cons (pg_name (i := 2) nd_Held_steps rfl (Or.inl rfl)) (pgs_cons (pg_name (i := 3) nd_Held_steps rfl (Or.inr rfl)) pgs_nil))))
    (pss_cons (ps_asg (pe_dget (hu_of hr) (k_fld (K := K) rfl (pv 0) rfl) (pe_ix (k_ix_tup (K := K) rfl) (pv 1) pe_int (fun _ _ => rfl)) (fun _ _ => rfl)) (k_pg_tup (K := K) rfl rfl (pgs_cons (pg_name (i := 4) nd_Held_steps rfl (Or.inl rfl)) (pgs_cons (pg_name (i := 5) nd_Held_steps rfl (Or.inr rfl)) pgs_nil))))
    (pss_cons (ps_if (pt_cmpR op_ne (pv 2) (pv 4) (nomark _)) (pss_one (ps_ret (pe_fz pe_dnewK)))
    pss_nil)
    (pss_cons (ps_set (i := 6) nd_Held_steps rfl (Or.inl rfl) (pe_ifExp (pt_cmpR op_eq (pv 2) pe_str (nomark _)) (pe_fz (pe_callTy (call_listD rfl) (by rfl) T.n_list (by decide +kernel) (pa_cons (pv 3) pa_nil))) (C8.pe_mt (t_sayable T) hr (by decide) (pv 0) (pa_cons (pe_ix (k_ix_tup (K := K) rfl) (pv 1) pe_int (fun _ _ => rfl)) pa_nil))))
    (pss_one (ps_ret (pe_fz (pe_dc (own := [("word", 7)]) rfl nd_Held_steps (k_list (K := K) rfl (pv 6)) (blkOk_by (own := [("word", 7)]) (by first | decide +kernel | rfl)) (fun _ _ _ _ _ => (pg_name (i := 7) nd_Held_steps rfl (Or.inl rfl))) (fun _ _ _ _ _ => (pts_one (pt_cmp (pc_din (hu_of hr) (pv 7) (pv 5)) rfl))) (fun _ _ _ _ _ => (pv 7)) (fun _ _ _ _ _ => (pe_tup (pa_cons (pe_dget (hu_of hr) (pv 3) (pv 7) (fun _ _ => rfl)) (pa_cons (pe_dget (hu_of hr) (pv 5) (pv 7) (fun _ _ => rfl)) pa_nil)))))))))))), ?_⟩
  -- kind, mine = self.elder[pair[0]]
  refine ys_seq (ys_tup2 (y_dget (y_elder T (y_var rfl h_self)) (y_p0 (y_var rfl h_pair)) ?_) fun v_kind v_mine H1 s1 h_kind h_mine => ?_)
  · exact hok.2.1
  -- other, theirs = self.newer[pair[1]]
  refine ys_seq (ys_tup2 (y_dget (y_newer T (y_var rfl (up_ s1 h_self))) (y_p1 (y_var rfl (up_ s1 h_pair))) ?_) fun v_other v_theirs H2 s2 h_other h_theirs => ?_)
  · exact hok.2.2
  -- if kind != other
  refine ys_seq (ys_if (yt_test (y_op r_neS (y_var rfl (up_ s2 h_kind)) (y_var rfl h_other))) (fun b3 H3 s3 => ?_) (fun b3 H3 s3 => ?_))
  · -- then
    -- return {}
    refine ys_ret (y_fzD (r := pP) yn_newK) fun v H4 s4 h => ?_
    exact hq v _ (((s1.trans s2).trans s3).trans s4) (by exact ⟨[], h, List.nodup_nil, fun t => by unfold stp; rw [if_neg (by simpa using b3)]⟩)
  -- words = list(mine) if kind == 'says' else self.sayable(pair[0])
  refine ys_seq (ys_set (y_if (r := (lP sP)) (yt_test (y_op r_eqS (y_var rfl (up_ (s2.trans s3) h_kind)) y_str)) (fun c5 => (y_fzl (yn_listD (y_var rfl (up_ (s2.trans s3) h_mine))))) (fun c5 => (y_meth1 (y_var rfl (up_ ((s1.trans s2).trans s3) h_self)) (y_p0 (y_var rfl (up_ ((s1.trans s2).trans s3) h_pair))) ?_))) fun v_words H6 s6 h_words => ?_)
  · exact ⟨hok.1, hok.2.1⟩
  -- return {word: (mine[word], theirs[word]) for word in words if word in theirs}
  refine ys_ret (y_fzD (yn_dc (r' := pP) _ _ _ (yi_l (y_var rfl h_words)) (fun x7 m7 v7 H7 s7 h7 => bk1 ⟨rfl, (yt_b (y_din (y_var rfl h7) (y_var rfl (up_ ((s3.trans s6).trans s7) h_theirs)))), fun e7 => ⟨(y_var rfl h7), (y_pair (ya_cons (y_dget (y_var rfl (up_ (((s2.trans s3).trans s6).trans s7) h_mine)) (y_var rfl h7) ?_) (ya_cons (y_dget (y_var rfl (up_ ((s3.trans s6).trans s7) h_theirs)) (y_var rfl h7) ?_) ya_nil)))⟩⟩) ?_)) fun v H8 s8 h => ?_
  · exact goodW_sub ((words_good hok.1 hok.2 x7).mp m7)
  · exact has_iff.mp e7
  · rw [List.map_id']
    refine List.Pairwise.filter _ ?_
    split
    · exact (hok.1.we.at hok.2.1).nd
    · exact say_nodup hok.1 hok.2.1
  exact hq v _ ((((s1.trans s2).trans s3).trans s6).trans s8) (by exact stp_post hok.1 hok.2 (by simpa using b3) rfl h)
/-! ### lets_out -/
def letB (h : Hd) (p : Str × Str) : Bool := decide ((look h.1 p.1).1 = "says") && (keys (look h.1 p.1).2).any fun wd => !has (look h.2.2 p.2).2 wd
abbrev sp_Held_lets_out (K : PySem.W.Frag) : Sp := Sp2 (hdP K) pP (fun h p => OkH h ∧ InH h p) (fun h p => bP (letB h p))
abbrev N_Held_lets_out : List Str := ["self", "pair", "kind", "mine", "word"]
theorem nd_Held_lets_out : N_Held_lets_out.Nodup := by decide
theorem t_lets_out (T : Tf w K mg) : C8.Met P w K mg base 1 (He.ga K "Held") "lets_out" (sp_Held_lets_out K) [] := by
  refine T.met (c := "Held") (m := "lets_out") (d := d_Held_lets_out) (N := N_Held_lets_out) (ps := ["self", "pair"]) 21 rfl rfl (by simp [fa, fa0, fa1, fa2, fa3]) T.clsH rfl rfl (by decide +kernel) (len2 _ _) (fun _ _ _ _ _ _ us hl => match us, hl with | [_, _], _ => rfl) (fun f cdv A outer s H vs Q E hr hsp => ?_)
  obtain ⟨v_self, v_pair, a_self, a_pair, rfl, h_self, h_pair, hok, hq⟩ := hsp
  refine ⟨_, (pss_cons (ps_asg (pe_dget (hu_of hr) (k_fld (K := K) rfl (pv 0) rfl) (pe_ix (k_ix_tup (K := K) rfl) (pv 1) pe_int (fun _ _ => rfl)) (fun _ _ => rfl)) (k_pg_tup (K := K) rfl rfl (pgs_cons (pg_name (i := 2) nd_Held_lets_out rfl (Or.inl rfl)) (pgs_cons (pg_name (i := 3) nd_Held_lets_out rfl (Or.inl rfl)) pgs_nil))))
    (pss_one (ps_ret (pe_and (pe_cmpR op_eq (pv 2) pe_str (nomark _)) (pe_one (pe_callB (k_any (K := K) rfl rfl) (by rfl) T.n_any (by decide +kernel) (pa_cons (pe_fz (pe_lc (own := [("word", 4)]) rfl nd_Held_lets_out (pi_keys (pv 3)) (blkOk_by (own := [("word", 4)]) (by first | decide +kernel | rfl)) (fun _ _ _ _ _ => (pg_name (i := 4) nd_Held_lets_out rfl (Or.inl rfl))) (fun _ _ _ _ _ => pts_nil) (fun _ _ _ _ _ => (pe_cmp (pc_dnotin (hu_of hr) (pv 4) (pe_ix (k_ix_tup (K := K) rfl) (pe_dget (hu_of hr) (k_fld (K := K) rfl (pv 0) rfl) (pe_ix (k_ix_tup (K := K) rfl) (pv 1) pe_int (fun _ _ => rfl)) (fun _ _ => rfl)) pe_int (fun _ _ => rfl))) rfl)))) pa_nil))))))), ?_⟩
  -- kind, mine = self.elder[pair[0]]
  refine ys_seq (ys_tup2 (y_dget (y_elder T (y_var rfl h_self)) (y_p0 (y_var rfl h_pair)) ?_) fun v_kind v_mine H1 s1 h_kind h_mine => ?_)
  · exact hok.2.1
  -- return kind == 'says' and any([word not in self.newer[pair[1]][1] for word in mine])
  refine ys_ret (y_and (y_op r_eqS (y_var rfl h_kind) y_str) fun b3 => (y_cb b_any (y_fzl (yn_lc0 (r' := bP)  _ (yi_keys (y_var rfl h_mine)) (fun x2 m2 v2 H2 s2 h2 => bd1 ⟨rfl, yt_yes, fun e2 => (y_dnotin (y_var rfl h2) (y_r1 (y_dget (y_newer T (y_var rfl (up_ (s1.trans s2) h_self))) (y_p1 (y_var rfl (up_ (s1.trans s2) h_pair))) ?_)))⟩))))) fun v H4 s4 h => ?_
  · exact hok.2.2
  exact hq v _ (s1.trans s4) (by exact bP_eq (by unfold letB; rw [List.any_map]; rfl) h)
/-- of matched pairs: less is let out -/
theorem letB_iff {h : Hd} (o : OkH h) {p : Str × Str} (hp : InH h p) (hm : mt h.1 h.2.2 p = true) : letB h p = true ↔ (look h.1 p.1).1 = "says" ∧ (look h.1 p.1).2.length > (look h.2.2 p.2).2.length := by
  unfold letB
  rw [Bool.and_eq_true, decide_eq_true_eq]
  refine and_congr_right fun hs => ?_
  have hk : (look h.1 p.1).1 = (look h.2.2 p.2).1 := by
    apply Classical.byContradiction
    intro z
    unfold mt at hm
    rw [if_neg z] at hm
    cases hm
  have sub : ∀ wd ∈ keys (look h.2.2 p.2).2, wd ∈ keys (look h.1 p.1).2 := by
    unfold mt at hm
    rw [if_pos hk, if_pos hs, List.all_eq_true] at hm
    exact fun wd hw => has_iff.mp (hm wd hw)
  have n1 : (keys (look h.1 p.1).2).Nodup := (o.we.at hp.1).nd
  have n2 : (keys (look h.2.2 p.2).2).Nodup := (o.wn.at hp.2).nd
  rw [List.any_eq_true]
  constructor
  · rintro ⟨wd, hw, h2⟩
    have hno : wd ∉ keys (look h.2.2 p.2).2 := fun z => by
      rw [has_iff.mpr z] at h2
      cases h2
    have := len_sub (l := wd :: keys (look h.2.2 p.2).2) (List.nodup_cons.mpr ⟨hno, n2⟩) fun x hx => by
      rcases List.mem_cons.mp hx with e | hx
      · rw [e]; exact hw
      · exact sub x hx
    rw [List.length_cons, keys_length, keys_length] at this
    omega
  · intro hl
    apply Classical.byContradiction
    intro z
    have all : ∀ wd ∈ keys (look h.1 p.1).2, wd ∈ keys (look h.2.2 p.2).2 := fun wd hw => by
      apply Classical.byContradiction
      intro hno
      refine z ⟨wd, hw, ?_⟩
      rw [Bool.not_eq_true', ← Bool.not_eq_true, has_iff]
      exact hno
    have := len_sub n1 all
    rw [keys_length, keys_length] at this
    omega
/-! ### is_ranked -/
noncomputable def rnkB (h : Hd) (L R : List (Str × Str)) (p : Str × Str) : Bool :=
  !mt h.1 h.2.2 p || (if (look h.1 p.1).1 = "says" then ((stp h.1 h.2.2 p).map (·.2)).all (fun g => inL g L) && (letB h p || ((stp h.1 h.2.2 p).map (·.2)).any fun g => inL g R) else ((stp h.1 h.2.2 p).map (·.2)).any fun g => inL g R)
noncomputable abbrev sp_is_ranked (K : PySem.W.Frag) : Sp := Sp4 (hdP K) (qP bP) (gqP iP) pP (fun h L R p => OkH h ∧ InH h p) (fun h L R p => bP (rnkB h (keys L) (keys R) p))
theorem any_same {α β : Type} {d d' : List (α × β)} (e : ∀ t, t ∈ d ↔ t ∈ d') (f : β → Bool) : ((d.map (·.2)).any f) = (d'.map (·.2)).any f := by
  refine bool_eq ?_
  rw [List.any_map, List.any_map, List.any_eq_true, List.any_eq_true]
  exact exists_congr fun t => and_congr_left fun _ => e t
theorem all_same {α β : Type} {d d' : List (α × β)} (e : ∀ t, t ∈ d ↔ t ∈ d') (f : β → Bool) : ((d.map (·.2)).all f) = (d'.map (·.2)).all f := by
  refine bool_eq ?_
  rw [List.all_map, List.all_map, List.all_eq_true, List.all_eq_true]
  exact forall_congr' fun t => imp_congr_left (e t)
abbrev N_is_ranked : List Str := ["held", "inside", "ranks", "pair", "after", "stays", "other"]
theorem nd_is_ranked : N_is_ranked.Nodup := by decide
theorem c_is_ranked (T : Tf w K mg) : C8.Cal P w K mg base 3 "is_ranked" (sp_is_ranked K) [] := by
  refine T.cal (d := d_is_ranked) (N := N_is_ranked) (ps := ["held", "inside", "ranks", "pair"]) 23 rfl rfl (by simp [fa, fa0, fa1, fa2, fa3]) rfl rfl (by decide +kernel) (len4 _ _ _ _) (fun _ _ _ _ _ _ us hl => match us, hl with | [_, _, _, _], _ => rfl) (fun f cdv A outer s H vs Q E hr hsp => ?_)
  obtain ⟨v_held, v_inside, v_ranks, v_pair, a_held, a_inside, a_ranks, a_pair, rfl, h_held, h_inside, h_ranks, h_pair, hok, hq⟩ := hsp
  refine ⟨_, (pss_cons (ps_if (pt_not (pt_val (C8.pe_mt (t_is_matched T) hr (by decide) (pv 0) (pa_cons (pv 3) pa_nil)))) (pss_one (ps_ret pe_bl))
    pss_nil)
    (pss_cons (ps_set (i := 4) nd_is_ranked rfl (Or.inl rfl) (pe_fz (pe_listVals rfl T.n_list (C8.pe_mt (t_steps T) hr (by decide) (pv 0) (pa_cons (pv 3) pa_nil)))))
    (pss_cons (ps_if (pt_cmpR op_eq (pe_ix (k_ix_tup (K := K) rfl) (pe_dget (hu_of hr) (k_fld (K := K) rfl (pv 0) rfl) (pe_ix (k_ix_tup (K := K) rfl) (pv 3) pe_int (fun _ _ => rfl)) (fun _ _ => rfl)) pe_int (fun _ _ => rfl)) pe_str (nomark _)) (pss_cons (ps_set (i := 5) nd_is_ranked rfl (Or.inl rfl) (pe_callB (k_all (K := K) rfl rfl) (by rfl) T.n_all (by decide +kernel) (pa_cons (pe_fz (pe_lc (own := [("other", 6)]) rfl nd_is_ranked (k_list (K := K) rfl (pv 4)) (blkOk_by (own := [("other", 6)]) (by first | decide +kernel | rfl)) (fun _ _ _ _ _ => (pg_name (i := 6) nd_is_ranked rfl (Or.inl rfl))) (fun _ _ _ _ _ => pts_nil) (fun _ _ _ _ _ => (pe_cmp (pc_din (hu_of hr) (pv 6) (pv 1)) rfl)))) pa_nil)))
    (pss_one (ps_ret (pe_and (pv 5) (pe_one (pe_or (C8.pe_mt (t_lets_out T) hr (by decide) (pv 0) (pa_cons (pv 3) pa_nil)) (pe_one (pe_callB (k_any (K := K) rfl rfl) (by rfl) T.n_any (by decide +kernel) (pa_cons (pe_fz (pe_lc (own := [("other", 6)]) rfl nd_is_ranked (k_list (K := K) rfl (pv 4)) (blkOk_by (own := [("other", 6)]) (by first | decide +kernel | rfl)) (fun _ _ _ _ _ => (pg_name (i := 6) nd_is_ranked rfl (Or.inl rfl))) (fun _ _ _ _ _ => pts_nil) (fun _ _ _ _ _ => (pe_cmp (pc_din (hu_of hr) (pv 6) (pv 2)) rfl)))) pa_nil)))))))))
    pss_nil)
    (pss_one (ps_ret (pe_callB (k_any (K := K) rfl rfl) (by rfl) T.n_any (by decide +kernel) (pa_cons (pe_fz (pe_lc (own := [("other", 6)]) rfl nd_is_ranked (k_list (K := K) rfl (pv 4)) (blkOk_by (own := [("other", 6)]) (by first | decide +kernel | rfl)) (fun _ _ _ _ _ => (pg_name (i := 6) nd_is_ranked rfl (Or.inl rfl))) (fun _ _ _ _ _ => pts_nil) (fun _ _ _ _ _ => (pe_cmp (pc_din (hu_of hr) (pv 6) (pv 2)) rfl)))) pa_nil))))))), ?_⟩
  refine ys_seq (ys_if (yt_not (yt_b (y_meth1 (y_var rfl h_held) (y_var rfl h_pair) hok))) (fun b1 H1 s1 => ?_) (fun b1 H1 s1 => ?_))
  · refine ys_ret y_bl fun v H2 s2 h => hq v _ (s1.trans s2) (bP_eq ?_ h)
    unfold rnkB
    rw [b1, Bool.true_or]
  have hm : mt a_held.1 a_held.2.2 a_pair = true := by simpa using b1
  refine ys_seq (ys_set (P := fun v H => ∃ l : List (Str × Str), lP pP l v H ∧ (∀ f : Str × Str → Bool, l.any f = ((stp a_held.1 a_held.2.2 a_pair).map (·.2)).any f) ∧ ∀ f : Str × Str → Bool, l.all f = ((stp a_held.1 a_held.2.2 a_pair).map (·.2)).all f) (y_bind (C := fun t => tFz (tListVals t)) (y_meth1 (y_var rfl (up_ s1 h_held)) (y_var rfl (up_ s1 h_pair)) hok)
    (fun v H2 s2 ⟨d, h1, h2, h3⟩ => (y_fzl (yn_listVals (y_cs h1))).mono fun w H3 h4 => ⟨_, h4, any_same h3, all_same h3⟩)) fun v_after H3 s3 h_after => ?_)
  obtain ⟨l, h_after, hany, hall⟩ := h_after
  refine nx_ (ys_seq (ys_if (yt_test (y_op r_eqS (y_r0 (y_dget (y_elder T (y_var rfl (up_ (s1.trans s3) h_held))) (y_p0 (y_var rfl (up_ (s1.trans s3) h_pair))) hok.2.1)) y_str)) (fun b4 H4 s4 => ?_) (fun b4 H4 s4 => ?_)))
  · refine ys_seq (ys_set (y_cb b_all (y_fzl (yn_lc0 (r' := bP)  _ (yi_l (y_var rfl (up_ s4 h_after))) (fun x5 m5 v5 H5 s5 h5 => bd1 ⟨rfl, yt_yes, fun e5 => (y_qin (y_var rfl h5) (y_var rfl (up_ (((s1.trans s3).trans s4).trans s5) h_inside)))⟩)))) fun v_stays H6 s6 h_stays => ?_)
    refine nx_ (ys_ret (y_and (y_var rfl h_stays) fun b9 => (y_or (y_meth1 (y_var rfl (up_ (((s1.trans s3).trans s4).trans s6) h_held)) (y_var rfl (up_ (((s1.trans s3).trans s4).trans s6) h_pair)) hok) fun b8 => (y_cb b_any (y_fzl (yn_lc0 (r' := bP)  _ (yi_l (y_var rfl (up_ (s4.trans s6) h_after))) (fun x7 m7 v7 H7 s7 h7 => bd1 ⟨rfl, yt_yes, fun e7 => (y_qin (y_var rfl h7) (y_var rfl (up_ ((((s1.trans s3).trans s4).trans s6).trans s7) h_ranks)))⟩)))))) fun v H10 s10 h => hq v _ ((((s1.trans s3).trans s4).trans s6).trans s10) (bP_eq ?_ h))
    unfold rnkB
    rw [hm, if_pos (of_decide_eq_true b4), List.all_map, List.any_map, ← hany, ← hall]
    rfl
  · refine nx_ (ys_ret (y_cb b_any (y_fzl (yn_lc0 (r' := bP)  _ (yi_l (y_var rfl (up_ s4 h_after))) (fun x11 m11 v11 H11 s11 h11 => bd1 ⟨rfl, yt_yes, fun e11 => (y_qin (y_var rfl h11) (y_var rfl (up_ (((s1.trans s3).trans s4).trans s11) h_ranks)))⟩)))) fun v H12 s12 h => hq v _ (((s1.trans s3).trans s4).trans s12) (bP_eq ?_ h))
    unfold rnkB
    rw [hm, if_neg (of_decide_eq_false b4), List.any_map, ← hany]
    rfl
end En
set_option maxHeartbeats 4000000
/-! The program: Held made; ranks of pairs. -/
namespace En
open PySem PySem.Spec PyProof.Rows L2
variable {P : Program} {w : World} {K : PySem.W.Frag} {mg : Str → Option Value} {base : Heap}
section
variable {X : Cx} {e o value : Expr} {te ta tv : TE} {f : Str} {pos pos' : Pos}
theorem k_psf (hK : X.K = K) (ha : PE X o ta) (hv : PE X value tv) (hs : swapsWith value (some (.Attribute o f pos')) pos.line X.env = pure false) : PS X (.Assign [.Attribute o f pos'] value pos) (sFld K ta tv f) := hK ▸ ps_fld ha hv hs
end
section
variable {σ : L2.St} {H : Hp} {D : Ends} {ta tb tc td : TE} {i j l m : Nat}
theorem ys_aug {n k : Int} (e : σ[i]? = some (some (.int n))) (q : D.nx (σ.set i (some (.int (n + k)))) H) : tAug i (tC (.int k)) (ipI fun i j => i + j) D σ H := ⟨_, e, n, k, rfl, rfl, q⟩
theorem ys_fld {C a : Addr} {dx : Addr} {f : Str} {fs gs : List (Str × V)} {y : V} (ei : σ[i]? = some (some (.ref a))) (ej : σ[j]? = some (some y)) (ha : H a = some (.ins C dx fs)) (c : Cls K C) (n : NoAttr K C f) (l : fs.length < 1000) (e : putF f y fs = gs)
    (q : D.nx σ (upd H a (.ins C dx gs))) : sFld K (tVar i) (tVar j) f D σ H := ⟨y, ej, .ref a, ei, a, C, dx, fs, rfl, ha, c, n, l, by rw [e]; exact q⟩
/-- four names at once, the second a new object -/
theorem ys_tup4N {R : HO → Hp → Prop} {Pa Pc Pd : Pr} [sa : Sts Pa] [sc : Sts Pc] [sd : Sts Pd] (y1 : Y ta σ H Pa) (y2 : Yn tb σ H R) (y3 : Y tc σ H Pc) (y4 : Y td σ H Pd) (q : ∀ va p H2 H3 u vc vd, Same H H2 → H p = none → H2 p = some u → R u H2 → Same H2 H3 → Pa va H3 → Pc vc H3 → Pd vd H3 → D.nx ((((σ.set i (some va)).set j (some (.ref p))).set l (some vc)).set m (some vd)) H3) :
    tAsg (tTup (tCons ta (tCons tb (tCons tc (tCons td tNil))))) (gTup K 4 (gCons (gName i) (gCons (gName j) (gCons (gName l) (gCons (gName m) gNil))))) D σ H :=
  y1 H (Same.refl _) _ fun va H1 s1 pa => y2 H1 s1 _ fun p H2 u s2 n e r => y3 H2 (s1.trans s2) _ fun vc H3 s3 pc => y4 H3 ((s1.trans s2).trans s3) _ fun vd H4 s4 pd => ⟨by rw [sizeLine_eq]; simp, fun p' hp' => ⟨p', _, rfl, SqT.of L2.upd_same, rfl, _, _, rfl, _, _, rfl, _, _, rfl, _, _, rfl, rfl, q va p H2 _ u vc vd (s1.trans s2) (s1.free n) e r ((s3.trans s4).trans (same_new _ hp')) (sa.same (((s2.trans s3).trans s4).trans (same_new _ hp')) pa) (sc.same (s4.trans (same_new _ hp')) pc) (sd.same (same_new _ hp') pd)⟩⟩
end
/-! ### Held(..) -/
def sp_Held_init (K : PySem.W.Frag) : Sp := fun vs H Q E => ∃ x dx b1 b2 b3, vs = [.ref x, b1, b2, b3] ∧ H x = some (.ins (cHeld K) dx []) ∧ Q .non (upd H x (.ins (cHeld K) dx [("elder", b1), ("viable", b2), ("newer", b3)]))
abbrev N_Held_init : List Str := ["self", "elder", "viable", "newer"]
theorem nd_Held_init : N_Held_init.Nodup := by decide
theorem m_Held (T : Tf w K mg) : C8.Mak P w K mg base 1 "Held" (cHeld K) (sp_Held_init K) [] := by
  refine T.mak (c := "Held") (d := d_Held_init) (N := N_Held_init) (ps := ["self", "elder", "viable", "newer"]) 17 rfl rfl (by simp [fa, fa0, fa1, fa2, fa3]) (by simp [fa, fa0, fa1, fa2, fa3]) rfl rfl (by decide +kernel) (fun vs H Q E h => by obtain ⟨_, _, _, _, _, rfl, _⟩ := h; rfl) (fun _ _ _ _ _ _ us hl => match us, hl with | [_, _, _, _], _ => rfl) (fun f cdv A outer s H vs Q E hr hsp => ?_)
  obtain ⟨x, dx, v_elder, v_viable, v_newer, rfl, hx, hq⟩ := hsp
  refine ⟨_, (pss_cons (k_psf (K := K) rfl (pv 0) (pv 1) rfl)
    (pss_cons (k_psf (K := K) rfl (pv 0) (pv 2) rfl)
    (pss_one (k_psf (K := K) rfl (pv 0) (pv 3) rfl)))), ?_⟩
  refine ys_seq (ys_fld (gs := [("elder", v_elder)]) rfl rfl hx T.clsH T.naE (by simp) rfl ?_)
  refine nx_ (ys_seq (ys_fld (gs := [("elder", v_elder), ("viable", v_viable)]) rfl rfl L2.upd_same T.clsH T.naV (by simp) rfl ?_))
  refine nx_ (ys_fld (gs := [("elder", v_elder), ("viable", v_viable), ("newer", v_newer)]) rfl rfl L2.upd_same T.clsH T.naN (by simp) rfl ?_)
  rw [L2.upd_upd, L2.upd_upd]
  exact hq
section
variable {σ : L2.St} {H : Hp} {ta tb tc : TE}
theorem y_mkHeld {b n : Book} {d : List (Str × Int)} (y1 : Y ta σ H (dP rP b)) (y2 : Y tb σ H (dP iP d)) (y3 : Y tc σ H (dP rP n)) : Y (tMake (cHeld K) (sp_Held_init K) [] E0 (tCons ta (tCons tb (tCons tc tNil)))) σ H (hdP K (b, d, n)) := fun H1 u Q q =>
  y1 H1 u _ fun v1 H2 s2 p1 => y2 H2 (u.trans s2) _ fun v2 H3 s3 p2 => y3 H3 ((u.trans s2).trans s3) _ fun v3 H4 s4 p3 => fun x dx hx hdx hne => by
    have s5 : Same H4 (upd (upd H4 dx (.own x)) x (.ins (cHeld K) dx [])) := by
      refine (same_new (.own x) hdx).trans (same_new _ ?_)
      rw [L2.upd_ne (fun e => hne e.symm)]
      exact hx
    have s6 := same_mut (.ins (cHeld K) dx [("elder", v1), ("viable", v2), ("newer", v3)]) s5 hx
    exact ⟨x, dx, v1, v2, v3, rfl, L2.upd_same, rfl, q _ _ (((s2.trans s3).trans s4).trans s6) ⟨x, dx, v1, v2, v3, rfl, L2.upd_same, up_ ((s3.trans s4).trans s6) p1, up_ (s4.trans s6) p2, up_ s6 p3⟩⟩
end
/-! ### ranked -/
theorem InH.ok {h : Hd} {p : Str × Str} (i : InH h p) (o : OkH h) : OkP p := ⟨(o.we.at i.1).ok, (o.wn.at i.2).ok⟩
theorem rnkB_iff {h : Hd} (o : OkH h) {L R : List (Str × Str)} {p : Str × Str} (hp : InH h p) : rnkB h L R p = true ↔ Cond (lostD h.1 h.2.2) (· ∈ L) (· ∈ R) p := by
  have hany : (((stp h.1 h.2.2 p).map (·.2)).any fun g => inL g R) = true ↔ ∃ y ∈ (stp h.1 h.2.2 p).map (·.2), y ∈ R := by
    rw [List.any_eq_true]
    exact exists_congr fun y => and_congr_right fun _ => inL_iff
  unfold rnkB Cond
  rw [Bool.or_eq_true, Bool.not_eq_true']
  cases hm : mt h.1 h.2.2 p with
  | false => exact ⟨fun _ => .inl hm, fun _ => .inl rfl⟩
  | true =>
    have hb : ¬ (lostD h.1 h.2.2).base p := fun z => by
      have z : mt h.1 h.2.2 p = false := z
      rw [hm] at z
      cases z
    have lo : letB h p = true ↔ (lostD h.1 h.2.2).lo p := letB_iff o hp hm
    by_cases hs : (look h.1 p.1).1 = "says"
    · rw [if_pos hs, Bool.and_eq_true, Bool.or_eq_true, hany, lo, List.all_eq_true]
      constructor
      · rintro (z | ⟨h1, h2⟩)
        · cases z
        · exact .inr ⟨fun _ y hy => inL_iff.mp (h1 y hy), h2⟩
      · rintro (z | ⟨h1, h2⟩)
        · exact absurd z hb
        · exact .inr ⟨fun y hy => inL_iff.mpr (h1 hs y hy), h2⟩
    · rw [if_neg hs, hany]
      constructor
      · rintro (z | h2)
        · cases z
        · exact .inr ⟨fun z => absurd z hs, .inr h2⟩
      · rintro (z | ⟨h1, h2 | h2⟩)
        · exact absurd z hb
        · exact absurd h2.1 hs
        · exact .inr h2
def rmP (h : Hd) (L : List (Str × Str)) : Pr := fun v H => ∃ d, qP iP d v H ∧ (keys d).Nodup ∧ ∀ p, p ∈ keys d ↔ Near (lostD h.1 h.2.2) (· ∈ L) p
abbrev sp_ranked_matching (K : PySem.W.Frag) : Sp := Sp2 (hdP K) (lP pP) (fun h L => OkH h ∧ L.Nodup ∧ (∀ p ∈ L, InH h p) ∧ L.length ≤ 4096) (fun h L => rmP h L)
abbrev N_ranked_matching : List Str := ["held", "left", "pair", "inside", "ranks", "number", "fresh"]
theorem nd_ranked_matching : N_ranked_matching.Nodup := by decide
theorem c_ranked_matching (T : Tf w K mg) : C8.Cal P w K mg base 4 "ranked_matching" (sp_ranked_matching K) [] := by
  refine T.cal (d := d_ranked_matching) (N := N_ranked_matching) (ps := ["held", "left"]) 24 rfl rfl (by simp [fa, fa0, fa1, fa2, fa3]) rfl rfl (by decide +kernel) (len2 _ _) (fun _ _ _ _ _ _ us hl => match us, hl with | [_, _], _ => rfl) (fun f cdv A outer s H vs Q E hr hsp => ?_)
  obtain ⟨v_held, v_left, a_held, a_left, rfl, h_held, h_left, hok, hq⟩ := hsp
  refine ⟨_, (pss_cons (ps_asg (pe_tup (pa_cons (pe_fz (pe_dcT (hu_of hr) (own := [("pair", 2)]) rfl nd_ranked_matching (k_list (K := K) rfl (pv 1)) (blkOk_by (own := [("pair", 2)]) (by first | decide +kernel | rfl)) (fun _ _ _ _ _ => (pg_name (i := 2) nd_ranked_matching rfl (Or.inl rfl))) (fun _ _ _ _ _ => pts_nil) (fun _ _ _ _ _ => (pv 2)) (fun _ _ _ _ _ => pe_bl))) (pa_cons pe_dnewT (pa_cons pe_int (pa_cons (pe_fz (pe_callTy (k_list_of (K := K) rfl) (by rfl) T.n_list (by decide +kernel) (pa_cons (pv 1) pa_nil))) pa_nil))))) (k_pg_tup (K := K) rfl rfl (pgs_cons (pg_name (i := 3) nd_ranked_matching rfl (Or.inr rfl)) (pgs_cons (pg_name (i := 4) nd_ranked_matching rfl (Or.inr rfl)) (pgs_cons (pg_name (i := 5) nd_ranked_matching rfl (Or.inl rfl)) (pgs_cons (pg_name (i := 6) nd_ranked_matching rfl (Or.inl rfl)) pgs_nil))))))
    (pss_cons (ps_while PassesOwn.never (pt_cmpR (k_neD (K := K) rfl (hu64 hr)) (pv 6) (pe_fz (pe_lst pa_nil)) (nomark _))
    (pss_cons (ps_setLcF (i := 6) (own := [("pair", 2)]) rfl nd_ranked_matching rfl rfl (sw_true rfl rfl rfl (by decide +kernel)) (k_list (K := K) rfl (pv 1)) (blkOk_by (own := [("pair", 2)]) (by first | decide +kernel | rfl)) (fun _ _ _ _ _ => (pg_name (i := 2) nd_ranked_matching rfl (Or.inl rfl))) (fun _ _ _ _ _ => (pts_one (PW.pt (pw_and (pt_cmp (pc_dnotin (hu_of hr) (pv 2) (pv 4)) rfl) (pw_and1 (pt_val (C8.pe_c (c_is_ranked T) hr (by decide) rfl (pa_cons (pv 0) (pa_cons (pv 3) (pa_cons (pv 4) (pa_cons (pv 2) pa_nil))))))))))) (fun _ _ _ _ _ => (pv 2)))
    (pss_cons (ps_for PassesOwn.never rfl (k_list (K := K) rfl (pv 6)) (pg_name (i := 2) nd_ranked_matching rfl (Or.inl rfl))
    (pss_one (ps_dput (hu_of hr) (pv 4) (pv 2) (pv 5) rfl)))
    (pss_one (ps_aug (i := 5) nd_ranked_matching rfl (Or.inl rfl) pe_int ip_add)))))
    (pss_one (ps_ret (pe_fz (pv 4)))))), ?_⟩
  obtain ⟨ho, Ln, Lin, Ll⟩ := hok
  refine ys_seq (ys_tup4N (y_fzQ (yn_dcT0 (r' := bP)  _ _ (yi_l (y_var rfl h_left)) (fun x2 m2 v2 H2 s2 h2 => bk1 ⟨rfl, yt_yes, fun e2 => ⟨(y_var rfl h2), y_bl⟩⟩) (by rw [List.map_id']; exact Ln))) (yn_newT (r := iP)) y_int (y_fzl (yn_listOf (y_var rfl h_left))) fun v_inside q H0 H1 u0 v_number v_fresh s0 nq e0 i0 s1 h_inside h_number h_fresh => ?_)
  have mq0 : Mq iP [] q H1 := (Mq.of e0 i0 List.nodup_nil).same s1
  have s01 : Same H H1 := s0.trans s1
  generalize hI : a_left.map (fun x2 => (x2, true)) = ins at h_inside
  have Ik : keys ins = a_left := by rw [← hI, keys_mk, List.map_id']
  refine ys_seq (ys_while (fun M σ' H' => ∃ (n : Int) (rk : List ((Str × Str) × Int)) (fr : List (Str × Str)) (vf : V) (c : Option V), M = 2 * (a_left.length - rk.length) + (if fr = [] then 0 else 1) ∧ σ' = [some v_held, some v_left, c, some v_inside, some (.ref q), some (.int n), some vf] ∧ Mx [q] H1 H' ∧ Mq iP rk q H' ∧ lP pP fr vf H' ∧ (∀ p ∈ fr, p ∈ a_left) ∧ (∀ p ∈ keys rk, Near (lostD a_held.1 a_held.2.2) (· ∈ a_left) p) ∧ (fr = [] → a_left ≠ [] → ∀ p ∈ a_left, p ∉ keys rk → rnkB a_held a_left (keys rk) p = false))
    _ ⟨0, [], a_left, v_fresh, _, rfl, by rw [show v_number = .int 0 from h_number]; rfl, Mx.rfl, mq0, h_fresh, fun p hp => hp, fun p hp => (by cases hp), fun e ne => absurd e ne⟩ ?_)
  rintro M σ' H' ⟨n, rk, fr, vf, c, rfl, rfl, mx, mq, h_fresh, frL, near, cl⟩
  have s0' : Same H H' := mx.same s01 (oneq nq)
  have up1 : Up H1 H' := mx.up (oneq mq0.ni)
  have rkL : ∀ p ∈ keys rk, p ∈ a_left := fun p hp => (near p hp).sub
  have rkn : (keys rk).Nodup := (let ⟨_, _, _, n, _⟩ := mq; n)
  have fok : ∀ p ∈ fr, OkP p := fun p hp => (Lin p (frL p hp)).ok ho
  have rkl : rk.length ≤ a_left.length := by
    have := len_sub rkn rkL
    rw [keys_length] at this
    omega
  refine ⟨_, yt_test (y_neNilP (y_var rfl h_fresh) fok), fun hb H2 s2 => ?_, fun hb H2 s2 => ?_⟩
  · have en : fr = [] := by cases fr with | nil => rfl | cons _ _ => cases hb
    refine nx_ (y_fzMq rfl (mq.same s2) _ fun v H3 mx3 h => ?_)
    refine hq v _ (mx3.same (s0'.trans s2) (oneq nq)) ⟨rk, h, rkn, fun p => ⟨near p, Near.closed (R := (· ∈ keys rk)) fun x hx hc => ?_⟩⟩
    apply Classical.byContradiction
    intro hn
    have := cl en (fun e => by rw [e] at hx; cases hx) x hx hn
    rw [(rnkB_iff ho (Lin x hx)).mpr hc] at this
    cases this
  · have ne : fr ≠ [] := fun e => by rw [e] at hb; cases hb
    have mq2 := mq.same s2
    have s02 := s0'.trans s2
    have u12 := up1.trans (up_same s2)
    refine ys_seq (ys_set (Y_eq (r := lP pP) (List.map_id' _) (y_fzl (yn_lc (r' := pP) _ _ (yi_l (y_var rfl (up_ s02 h_left))) (fun x3 m3 v3 H3 s3 h3 => bd1 ⟨rfl, (yt_and (yt_b (y_qnotin (y_var rfl h3) (y_var rfl (mq2.same s3).g))) fun b4 => (yt_b (y_call4 (y_var rfl (up_ (s02.trans s3) h_held)) (y_var rfl (up_ s3 (Sty.up u12 h_inside))) (y_var rfl (mq2.same s3).g) (y_var rfl h3) ⟨ho, Lin _ m3⟩))), fun e3 => (y_var rfl h3)⟩)))) fun vf2 H5 s5 h_fresh2 => ?_)
    generalize hF : List.filter _ a_left = fr2 at h_fresh2
    have Fk : ∀ p, p ∈ fr2 ↔ p ∈ a_left ∧ p ∉ keys rk ∧ rnkB a_held a_left (keys rk) p = true := fun p => by
      rw [← hF, List.mem_filter, Bool.and_eq_true, Ik, Bool.not_eq_true', ← Bool.not_eq_true, has_iff]
    have Fn : fr2.Nodup := by rw [← hF]; exact Ln.filter _
    have nd2 : (keys rk ++ fr2).Nodup := List.nodup_append.mpr ⟨rkn, Fn, fun a ha b hb e => ((Fk b).mp hb).2.1 (e ▸ ha)⟩
    have len2 : rk.length + fr2.length ≤ a_left.length := by
      have := len_sub nd2 (fun p hp => by
        rcases List.mem_append.mp hp with h | h
        · exact rkL p h
        · exact ((Fk p).mp h).1)
      rw [List.length_append, keys_length] at this
      exact this
    have mq5 := mq2.same s5
    refine ys_seq (ys_for (yi_l (y_var rfl h_fresh2)) fun H6 s6 => ⟨fun i σ' H' => ∃ (rk' : List ((Str × Str) × Int)) (c : Option V), σ' = [some v_held, some v_left, c, some v_inside, some (.ref q), some (.int n), some vf2] ∧ Mx [q] H6 H' ∧ Mq iP rk' q H' ∧ keys rk' = keys rk ++ fr2.take i,
      ⟨rk, _, rfl, Mx.rfl, mq5.same s6, by simp⟩, fun i σ' H' p' => by obtain ⟨_, _, _, h, _⟩ := p'; exact h.up (oneq (mq5.same s6).ni), ?_, ?_⟩)
    · rintro i x σ' H' hx ⟨rk', c, rfl, mx', mq', hk'⟩ v H7 s7 h_pair
      have hi : i < fr2.length := (List.getElem?_eq_some_iff.mp hx).1
      have hl' : rk'.length = rk.length + i := by
        have := congrArg List.length hk'
        rw [List.length_append, keys_length, keys_length, List.length_take] at this
        omega
      refine ys_qput (k := x) (x := n) (y_var (P := iP n) rfl rfl) rfl (mq'.same s7) (y_var (P := pP x) rfl h_pair) ?_ (fun H8 mx8 mq8 => ?_)
      · omega
      · refine ⟨put rk' x n, _, rfl, (mx'.trans (Mx.of s7)).trans mx8, mq8, ?_⟩
        have hnew : x ∉ keys rk' := by
          rw [hk']
          intro z
          rcases List.mem_append.mp z with h | h
          · exact ((Fk x).mp (mem_at hx)).2.1 h
          · exact not_mem_take Fn hx h
        rw [keys_put, if_neg hnew, hk', take_one hx, List.append_assoc]
    · rintro σ' H6 ⟨rk', c, rfl, mx6, mq6, hk6⟩
      rw [List.take_length] at hk6
      refine nx_ (ys_aug rfl ?_)
      have hl6 : rk'.length = rk.length + fr2.length := by
        have := congrArg List.length hk6
        rw [List.length_append, keys_length, keys_length] at this
        exact this
      have up6 := mx6.up (oneq (mq5.same s6).ni)
      refine ⟨_, ?_, n + 1, rk', fr2, vf2, _, rfl, rfl, (mx.trans (Mx.of ((s2.trans s5).trans s6))).trans mx6, mq6, Sty.up up6 (up_ s6 h_fresh2), fun p hp => ((Fk p).mp hp).1, fun p hp => ?_, fun e _ p hp hn => ?_⟩
      · rw [if_neg ne]
        split
        · omega
        · rename_i h
          have : fr2.length ≠ 0 := fun z => h (List.length_eq_zero_iff.mp z)
          omega
      · rw [hk6] at hp
        rcases List.mem_append.mp hp with h | h
        · exact near p h
        · have h := (Fk p).mp h
          refine Near.intro h.1 ?_
          rcases (rnkB_iff ho (Lin p h.1)).mp h.2.2 with c | ⟨c, d | ⟨y, hy, d⟩⟩
          · exact .inl c
          · exact .inr ⟨c, .inl d⟩
          · exact .inr ⟨c, .inr ⟨y, hy, near y d⟩⟩
      · rw [hk6, e, List.append_nil] at hn ⊢
        cases z : rnkB a_held a_left (keys rk) p with
        | false => rfl
        | true =>
          have := (Fk p).mpr ⟨hp, hn, z⟩
          rw [e] at this
          cases this
end En
set_option maxHeartbeats 4000000
/-! The program: lost pairs, talks, stands. -/
namespace En
open PySem PySem.Spec PyProof.Rows L2
variable {P : Program} {w : World} {K : PySem.W.Frag} {mg : Str → Option Value} {base : Heap}
section
variable {σ : L2.St} {H : Hp} {i j : Nat}
theorem g_two {A B : Pr} {v : V} {R : L2.St → Hp → Prop} (h : TP [A, B] v H) (q : ∀ x y, A x H → B y H → R ((σ.set i (some x)).set j (some y)) H) : gTup K 2 (gCons (gName i) (gCons (gName j) gNil)) v σ H R := by
  obtain ⟨a, v1, v2, rfl, ht, e1, e2⟩ := TP.two h
  exact ⟨a, _, rfl, ht.sq, rfl, _, _, rfl, _, _, rfl, rfl, q v1 v2 e1 e2⟩
end
/-! ### talks_from -/
structure ClG (suc : Str × Str → List (Str × Str)) (x : Str × Str) (l : List (Str × Str)) (n : Nat) : Prop where
  nd : l.Nodup
  fst : x ∈ l
  le : n ≤ l.length
  snd : ∀ q ∈ l, Reach suc x q
  cl : ∀ i q, i < n → l[i]? = some q → ∀ r ∈ suc q, r ∈ l
theorem ClG.done {suc : Str × Str → List (Str × Str)} {x : Str × Str} {l : List (Str × Str)} (h : ClG suc x l l.length) (q : Str × Str) : q ∈ l ↔ Reach suc x q := by
  refine ⟨h.snd q, fun hr => ?_⟩
  induction hr with
  | refl => exact h.fst
  | tail _ h2 ih =>
    obtain ⟨i, hi, e⟩ := List.getElem_of_mem ih
    exact h.cl i _ hi (by rw [List.getElem?_eq_getElem hi, e]) _ h2
theorem reach_in {h : Hd} (o : OkH h) {p q : Str × Str} (hp : InH h p) (r : Reach (led h.1 h.2.2) p q) : InH h q := by
  induction r with
  | refl => exact hp
  | tail _ h2 ih => exact led_keys o.we o.wn ih h2
def tkP (h : Hd) (p : Str × Str) : Pr := fun v H => ∃ d, qP (lP sP) d v H ∧ (keys d).Nodup ∧ ∀ q, q ∈ keys d ↔ Reach (led h.1 h.2.2) p q
abbrev sp_Held_talks_from (K : PySem.W.Frag) : Sp := Sp2 (hdP K) pP (fun h p => OkH h ∧ InH h p) (fun h p => tkP h p)
def stP (h : Hd) (p : Str × Str) : Pr := fun v H => ∃ g, dP pP g v H ∧ ∀ q, q ∈ g.map (·.2) ↔ q ∈ led h.1 h.2.2 p
abbrev N_Held_talks_from : List Str := ["self", "start", "found", "waiting", "at", "pair", "steps", "word", "other"]
theorem nd_Held_talks_from : N_Held_talks_from.Nodup := by decide
theorem t_talks_from (T : Tf w K mg) : C8.Met P w K mg base 3 (He.ga K "Held") "talks_from" (sp_Held_talks_from K) [] := by
  refine T.met (c := "Held") (m := "talks_from") (d := d_Held_talks_from) (N := N_Held_talks_from) (ps := ["self", "start"]) 22 rfl rfl (by simp [fa, fa0, fa1, fa2, fa3]) T.clsH rfl rfl (by decide +kernel) (len2 _ _) (fun _ _ _ _ _ _ us hl => match us, hl with | [_, _], _ => rfl) (fun f cdv A outer s H vs Q E hr hsp => ?_)
  obtain ⟨v_self, v_start, a_self, a_start, rfl, h_self, h_start, hok, hq⟩ := hsp
  refine ⟨_, (pss_cons (ps_par3 (i := 2) (j := 3) (l := 4) rfl nd_Held_talks_from rfl rfl rfl (by decide) (by decide) (by decide) rfl rfl rfl (pa_cons (pe_dispT (hu_of hr) (pv 1) (pe_fz (pe_lst pa_nil))) (pa_cons (pe_lst (pa_cons (pv 1) pa_nil)) (pa_cons pe_int pa_nil))) (by rfl))
    (pss_cons (ps_while PassesOwn.never (pt_cmpR op_lt (pv 4) (pe_callB (k_lenA (K := K) rfl) (by rfl) T.n_len (by decide +kernel) (pa_cons (pv 3) pa_nil)) (nomark _))
    (pss_cons (ps_set (i := 5) nd_Held_talks_from rfl (Or.inl rfl) (pe_ix (k_ix_list (K := K) rfl) (pv 3) (pv 4) (fun _ _ => rfl)))
    (pss_cons (ps_aug (i := 4) nd_Held_talks_from rfl (Or.inl rfl) pe_int ip_add)
    (pss_cons (ps_set (i := 6) nd_Held_talks_from rfl (Or.inl rfl) (pe_ifExp (pt_val (C8.pe_mt (t_is_matched T) hr (by decide) (pv 0) (pa_cons (pv 5) pa_nil))) (C8.pe_mt (t_steps T) hr (by decide) (pv 0) (pa_cons (pv 5) pa_nil)) (pe_fz pe_dnewK)))
    (pss_one (ps_for PassesOwn.never rfl (pi_items (pv 6)) (k_pg_tup (K := K) rfl rfl (pgs_cons (pg_name (i := 7) nd_Held_talks_from rfl (Or.inl rfl)) (pgs_cons (pg_name (i := 8) nd_Held_talks_from rfl (Or.inl rfl)) pgs_nil)))
    (pss_one (ps_if (pt_cmp (pc_dnotin (hu_of hr) (pv 8) (pv 2)) rfl) (pss_cons (ps_dput (hu_of hr) (pv 2) (pv 8) (pe_fz (pe_op op_catS (pe_dget (hu_of hr) (pv 2) (pv 5) (fun _ _ => rfl)) (pe_fz (pe_lst (pa_cons (pv 7) pa_nil))))) rfl)
    (pss_one (ps_expr (pe_bm PySem.F.plainAttrs_list PySem.F.slot_list_append PySem.F.type_list_append mt_append (pv 3) (pa_cons (pv 8) pa_nil)))))
    pss_nil))))))))
    (pss_one (ps_ret (pe_fz (pv 2)))))), ?_⟩
  obtain ⟨ho, hin⟩ := hok
  refine ys_seq (ys_par3N (yn_dispT (r := lP sP) (y_var rfl h_start) (y_fzl (yn_lsts (r := sP) yl_nil))) (yn_lsts (r := pP) (yl_cons (y_var rfl h_start) yl_nil)) y_int fun k f H0 H1 H2 u0 u1 v_at s0 nk e0 i0 s1 nf e1 i1 s2 h_at => ?_)
  have nf0 : H f = none := s0.free nf
  have s02 := (s0.trans s1).trans s2
  have kf : k ≠ f := fun e => by rw [e, nf] at e0; cases e0
  have mk0 : Mq (lP sP) [(a_start, [])] k H2 := (Mq.of e0 i0 (by simp [keys])).same (s1.trans s2)
  have ml0 : Ml pP [a_start] f H2 := (Ml.of e1 i1).same s2
  have two : ∀ q ∈ [k, f], H q = none := by
    intro q hq
    rcases List.mem_cons.mp hq with e | hq
    · rw [e]; exact nk
    · rw [List.mem_singleton.mp hq]; exact nf0
  have Ul : (keys (heldS a_self.1 a_self.2.2)).length ≤ 4096 := by rw [keys_length]; exact heldS_len ho.we ho.wn
  have bound : ∀ {l : List (Str × Str)} {n : Nat}, ClG (led a_self.1 a_self.2.2) a_start l n → l.length ≤ (keys (heldS a_self.1 a_self.2.2)).length := fun I => len_sub I.nd fun q hq => mem_heldS.mpr (reach_in ho hin (I.snd q hq))
  refine ys_seq (ys_while (fun m σ' H' => ∃ (n : Nat) (l : List (Str × Str)) (d : List ((Str × Str) × List Str)) (a b c e : Option V), m = (keys (heldS a_self.1 a_self.2.2)).length - n ∧ σ' = [some v_self, some v_start, some (.ref k), some (.ref f), some (.int n), a, b, c, e] ∧ Mx [k, f] H2 H' ∧ Ml pP l f H' ∧ Mq (lP sP) d k H' ∧ keys d = l ∧ ClG (led a_self.1 a_self.2.2) a_start l n ∧ ∀ t ∈ d, t.2.length < d.length)
    _ ⟨0, [a_start], [(a_start, [])], _, _, _, _, rfl, by rw [show v_at = .int 0 from h_at]; rfl, Mx.rfl, ml0, mk0, rfl, ⟨by simp, by simp, Nat.zero_le _, fun q hq => by rw [List.mem_singleton.mp hq]; exact .refl, fun i q hi => absurd hi (Nat.not_lt_zero _)⟩, fun t ht => by rw [List.mem_singleton.mp ht]; simp⟩ ?_)
  rintro m σ' H' ⟨n, l, d, a, b, c, e, rfl, rfl, mx, ml, mk, hkd, I, hs⟩
  have ni2 : ∀ q ∈ [k, f], ∀ u, H2 q = some u → ¬ Imm u := by
    intro q hq
    rcases List.mem_cons.mp hq with e | hq
    · rw [e]; exact mk0.ni
    · rw [List.mem_singleton.mp hq]; exact ml0.ni
  have upx : Up H2 H' := mx.up ni2
  have s03 : Same H H' := mx.same s02 two
  have hlen := bound I
  refine ⟨_, yt_test (y_op r_lt (y_var rfl (show iP n _ _ from rfl)) (y_lenL (y_var rfl ml.g))), fun hb H3 s3 => ?_, fun hb H3 s3 => ?_⟩
  · have hge : ¬ ((n : Int) < l.length) := of_decide_eq_false hb
    have en : n = l.length := by have := I.le; omega
    subst en
    refine nx_ (y_fzMq rfl (mk.same s3) _ fun v H4 mx4 h => ?_)
    refine hq v _ ((mx_p mx4 (fun q hq => by rw [List.mem_singleton.mp hq]; exact List.mem_cons_self ..)).same (s03.trans s3) two) ⟨d, h, by rw [hkd]; exact I.nd, by rw [hkd]; exact I.done⟩
  · have hlt : n < l.length := by have := of_decide_eq_true hb; omega
    obtain ⟨x, hx⟩ : ∃ x, l[n]? = some x := ⟨_, List.getElem?_eq_getElem hlt⟩
    have xin : InH a_self x := reach_in ho hin (I.snd x (mem_at hx))
    have ml3 := ml.same s3
    have mk3 := mk.same s3
    have s33 := s03.trans s3
    refine ys_seq (ys_set (y_ixl (y_var rfl ml3.g) (y_var rfl (show iP n _ _ from rfl)) hx) fun v_pair H4 s4 h_pair => ?_)
    refine nx_ (ys_seq (ys_aug rfl ?_))
    refine nx_ (ys_seq (ys_set (P := stP a_self x) (y_ifP (yt_b (y_meth1 (y_var rfl (up_ (s33.trans s4) h_self)) (y_var rfl h_pair) ⟨ho, xin⟩)) (fun c3 => (y_meth1 (y_var rfl (up_ (s33.trans s4) h_self)) (y_var rfl h_pair) ⟨ho, xin⟩).mono ?_) (fun c3 => (y_fzD (r := pP) yn_newK).mono ?_)) fun v_steps H5 s5 h_steps => ?_))
    · rintro v H6 ⟨g, h1, h2, h3⟩
      refine ⟨g, h1, fun q => ?_⟩
      unfold led
      rw [if_pos c3, List.mem_map, List.mem_map]
      exact exists_congr fun t => and_congr_left fun _ => h3 t
    · intro v H6 h1
      refine ⟨[], h1, fun q => ?_⟩
      unfold led
      rw [if_neg (by rw [c3]; exact Bool.false_ne_true)]
      rfl
    obtain ⟨g, h_steps, gs⟩ := h_steps
    have ml4 := ml3.same (s4.trans s5)
    have mk4 := mk3.same (s4.trans s5)
    have ni5 : ∀ {H6}, Same H5 H6 → ∀ q ∈ [k, f], ∀ u, H6 q = some u → ¬ Imm u := by
      intro H6 s6 q hq
      rcases List.mem_cons.mp hq with e | hq
      · rw [e]; exact (mk4.same s6).ni
      · rw [List.mem_singleton.mp hq]; exact (ml4.same s6).ni
    refine nx_ (ys_for (yi_items (y_var rfl h_steps)) fun H6 s6 => ⟨fun i σ' H' => ∃ (l' : List (Str × Str)) (d' : List ((Str × Str) × List Str)) (b c : Option V), σ' = [some v_self, some v_start, some (.ref k), some (.ref f), some (.int (n + 1)), some v_pair, some v_steps, b, c] ∧ Mx [k, f] H6 H' ∧ Ml pP l' f H' ∧ Mq (lP sP) d' k H' ∧ keys d' = l' ∧ ClG (led a_self.1 a_self.2.2) a_start l' n ∧ l'[n]? = some x ∧ (∀ t ∈ d', t.2.length < d'.length) ∧ ∀ t ∈ g.take i, t.2 ∈ l',
      ⟨l, d, _, _, rfl, Mx.rfl, ml4.same s6, mk4.same s6, hkd, I, hx, hs, fun t ht => by cases ht⟩, fun i σ' H' p' => by obtain ⟨_, _, _, _, _, h, _⟩ := p'; exact h.up (ni5 s6), ?_, ?_⟩)
    · rintro i t σ' H' ht ⟨l', d', b, c, rfl, mx', ml', mk', hkd', I', hx', hs', hall⟩ v H7 s7 h_it
      refine g_two h_it fun v_word v_other h_word h_other => ?_
      have up6 : Up H6 H' := mx'.up (ni5 s6)
      have p7 : pP x v_pair H7 := up_ s7 (Sty.up up6 (up_ (s5.trans s6) h_pair))
      have hsuc : t.2 ∈ led a_self.1 a_self.2.2 x := (gs t.2).mp (List.mem_map.mpr ⟨t, mem_at ht, rfl⟩)
      have hlen' := bound I'
      have dl : d'.length = l'.length := by rw [← hkd', keys_length]
      have xk : x ∈ keys d' := by rw [hkd']; exact mem_at hx'
      refine (ys_if (yt_b (y_qnotin (y_var rfl h_other) (y_var rfl (mk'.same s7).g))) (fun b5 H8 s8 => ?_) (fun b5 H8 s8 => ?_))
      · have hnew : t.2 ∉ l' := by
          rw [← hkd']
          intro z
          rw [has_iff.mpr z] at b5
          cases b5
        have m8 := mk'.same (s7.trans s8)
        have hlk : (look d' x).length < d'.length := hs' (x, look d' x) (look_mem xk)
        refine ys_seq (ys_qput (r := lP sP) (k := t.2) (x := look d' x ++ [t.1]) (y_fzl (yn_catl (y_qget (y_var rfl m8.g) (y_var rfl (up_ s8 p7)) xk) (y_fzl (yn_lsts (r := sP) (yl_cons (y_var (P := sP t.1) rfl (up_ s8 h_word)) yl_nil))) ?_)) rfl m8 (y_var (P := pP t.2) rfl (up_ s8 h_other)) ?_ (fun H9 mx9 mk9 => ?_))
        · rw [sizeLine_eq, List.length_singleton]
          omega
        · omega
        · have up89 : Up H8 H9 := mx9.up (oneq m8.ni)
          have ml9 : Ml pP l' f H9 := (ml'.same (s7.trans s8)).up up89 fun o e => mx9 f o (fun z => kf (List.mem_singleton.mp z).symm) e
          refine nx_ (ys_app (x := t.2) rfl ml9 (y_var (P := pP t.2) rfl (Sty.up up89 (up_ s8 h_other))) (by omega) (fun H10 mx10 ml10 => ?_))
          have mk10 : Mq (lP sP) (put d' t.2 (look d' x ++ [t.1])) k H10 := mk9.up (mx10.up (oneq ml9.ni)) fun o e => mx10 k o (fun z => kf (List.mem_singleton.mp z)) e
          refine ⟨l' ++ [t.2], put d' t.2 (look d' x ++ [t.1]), _, _, rfl, ((mx'.trans (Mx.of (s7.trans s8))).trans (mx_p mx9 (fun q hq => by rw [List.mem_singleton.mp hq]; simp))).trans (mx_p mx10 (fun q hq => by rw [List.mem_singleton.mp hq]; simp)), ml10, mk10, ?_, ⟨?_, ?_, ?_, ?_, ?_⟩, ?_, ?_, ?_⟩
          · rw [keys_put, hkd', if_neg hnew]
          · exact List.nodup_append.mpr ⟨I'.nd, by simp, fun a ha b hb => by rw [List.mem_singleton.mp hb]; exact fun e => hnew (e ▸ ha)⟩
          · exact List.mem_append_left _ I'.fst
          · rw [List.length_append]
            have := I'.le
            omega
          · intro q hq
            rcases List.mem_append.mp hq with h | h
            · exact I'.snd q h
            · rw [List.mem_singleton.mp h]
              exact .tail (I'.snd x (mem_at hx')) hsuc
          · intro i q hi hq r hr
            refine List.mem_append_left _ (I'.cl i q hi ?_ r hr)
            rw [List.getElem?_append_left (by have := I'.le; omega)] at hq
            exact hq
          · rw [List.getElem?_append_left (by have := (List.getElem?_eq_some_iff.mp hx').1; exact this)]
            exact hx'
          · rw [put_new (by rw [hkd']; exact hnew)]
            intro t' ht'
            rw [List.length_append, List.length_singleton]
            rcases List.mem_append.mp ht' with h | h
            · have := hs' t' h
              omega
            · rw [List.mem_singleton.mp h, List.length_append, List.length_singleton]
              omega
          · intro t' ht'
            rw [take_one ht] at ht'
            rcases List.mem_append.mp ht' with h | h
            · exact List.mem_append_left _ (hall t' h)
            · rw [List.mem_singleton.mp h]
              exact List.mem_append_right _ (List.mem_singleton.mpr rfl)
      · have hold : t.2 ∈ l' := by
          rw [← hkd', ← has_iff]
          cases z : has d' t.2 with
          | true => rfl
          | false => rw [z] at b5; cases b5
        refine ⟨l', d', _, _, rfl, mx'.trans (Mx.of (s7.trans s8)), ml'.same (s7.trans s8), mk'.same (s7.trans s8), hkd', I', hx', hs', fun t' ht' => ?_⟩
        rw [take_one ht] at ht'
        rcases List.mem_append.mp ht' with h | h
        · exact hall t' h
        · rw [List.mem_singleton.mp h]
          exact hold
    · rintro σ' H' ⟨l', d', b, c, rfl, mx', ml', mk', hkd', I', hx', hs', hall⟩
      rw [List.take_length] at hall
      have hn : n < l'.length := (List.getElem?_eq_some_iff.mp hx').1
      have hb2 := bound I'
      refine ⟨_, ?_, n + 1, l', d', _, _, _, _, rfl, rfl, (mx.trans (Mx.of (((s3.trans s4).trans s5).trans s6))).trans mx', ml', mk', hkd', ⟨I'.nd, I'.fst, hn, I'.snd, fun i q hi hq r hr => ?_⟩, hs'⟩
      · omega
      · by_cases e : i = n
        · subst e
          rw [hx'] at hq
          cases hq
          obtain ⟨t, ht, rfl⟩ := List.mem_map.mp ((gs r).mpr hr)
          exact hall t ht
        · exact I'.cl i q (by omega) hq r hr
end En
set_option maxHeartbeats 4000000
/-! sorted(d), d a dict whose keys are pairs of texts. -/
namespace En
open PySem PySem.Spec PyProof.Rows L2
open PySem.W (EachIs AllAlike Sortable dataLe dataLt alike alikeAll)
theorem reads_pair {P : Program} {w : World} {H : Hp} {h : Heap} {c : Addr} {p : Str × Str} (ok : HOk P w H h) (hc : H c = some (.tup ((tk p).map kV))) : Reads h (.ref c) (dPr p) [] := by
  obtain ⟨_, its, rv, o, h1, h2, n, h3⟩ := (show ObjOk P w H h c (.tup ((tk p).map kV)) from ok c _ hc)
  obtain ⟨u1, u2, e, r1, r2⟩ := vals2 rv
  subst e
  obtain ⟨t1, rfl⟩ := (show ∃ t, u1 = Value.str p.1 t from r1)
  obtain ⟨t2, rfl⟩ := (show ∃ t, u2 = Value.str p.2 t from r2)
  exact Reads.tuple (as := [] ++ ([] ++ [])) h1 h2 h3 (.cons (.str _ _) (.cons (.str _ _) .nil))
section
variable {X : Cx}
theorem call_sortedDT (hcalm : X.calm = true) (hu : X.A.units + 65 < cLine) : CallR X (.builtin "sorted") (fun xs H Q => ∃ (d : Addr) (kvs : List (List Key × V)) (ps : List (Str × Str)), xs = [.ref d] ∧ Rd H d (.dT kvs) ∧ kvs.map (·.1) = ps.map tk ∧
    ∀ (bs : List Addr) p, H p = none → EachIs (fun b q => TU H b ((tk q).map kV)) bs (sortP ps) → Q (.ref p) (upd H p (.lst (bs.map V.ref)))) := by
  intro pins s σ H xs us Q I r q
  obtain ⟨d, kvs, ps, ex, hd, hks, q⟩ := q
  subst ex
  obtain ⟨u, eu, rx⟩ := vals1 r
  subst eu
  cases rx
  obtain ⟨z, hs, ks, pr, o, es, ep, ho, hx, hdt, he, hn⟩ := (show ObjOk X.prog X.w H s.heap d (.dT kvs) from hd.ok I.hok)
  have l1 : es.size = ks.length := size_of_entries he
  have l2 : kvs.length = ks.length := Paired.length pr
  have l3 : ps.length = ks.length := by
    have := congrArg List.length hks
    rw [List.length_map, List.length_map] at this
    omega
  refine Calls.call_function_entry PyProof.Rows.kind_sorted PyProof.Rows.plain_sorted PyProof.Rows.entry_sorted (PyProof.Rows.args_sorted1 _) ?_
  unfold Builtin.«sorted»
  refine wpAny_bind (m := checkCount "sorted" 1 1 _) (wpAny_pure ?_)
  refine wpAny_bind (PySem.W.kdu_collect (A := X.A.in1) (kdl_raw hs hx hdt) (I.ok.hd hcalm) ho (by omega) fun h' tk' acc hk hacc => ?_)
  have keyEq : ∀ (j : Nat) (x : Tr) (q : Str × Str), ks[j]? = some x → ps[j]? = some q → x.1 = tk q := fun j x q hj hq => by
    obtain ⟨y, hy, h1, _, _⟩ := L2.DX.pget pr hj
    have e1 : (kvs.map (·.1))[j]? = some y.1 := by rw [List.getElem?_map, hy]; rfl
    rw [hks, List.getElem?_map, hq] at e1
    rw [← h1]
    exact (Option.some.inj e1).symm
  have ea : acc.toList = ks.map fun x => Value.ref x.2.1 := by
    have hl : acc.toList.length = ks.length := by rw [Array.length_toList, hacc.1]; exact l1
    apply List.ext_getElem?
    intro j
    rw [List.getElem?_map]
    cases hj : acc.toList[j]? with
    | none =>
      have h1 := List.getElem?_eq_none_iff.mp hj
      rw [List.getElem?_eq_none (by omega)]
      rfl
    | some v =>
      obtain ⟨en, hen, hv⟩ := hacc.2 j v (by rw [← Array.getElem?_toList]; exact hj)
      have qe := entry_at he j
      rw [hen] at qe
      cases hb : ks[j]? with
      | none =>
        rw [hb] at qe
        exact nomatch (show some en = none from qe)
      | some b =>
        rw [hb] at qe
        have e2 : en = entryOfKey (tupleKind (mixKind X.prog X.w)) b := Option.some.inj qe
        rw [hv, e2]
        rfl
  have I1 : Inv X pins σ H { s with heap := h', toks := tk' } := I.kept hk
  have tup : ∀ x ∈ ks, H x.2.1 = some (.tup (x.1.map kV)) := fun x hx => by
    obtain ⟨j, hj, e⟩ := List.getElem_of_mem hx
    obtain ⟨y, hy, h1, h2, _⟩ := L2.DX.pget pr (show ks[j]? = some x by rw [List.getElem?_eq_getElem hj, e])
    rw [← h1]
    exact h2
  have hal : acc.toList.length = ps.length := by rw [ea, List.length_map, l3]
  refine wpAny_bind (wpAny_newList ?_ (by rw [hal, l3, ← l2]; exact z))
  have hoL : (h'.push (PyProof.Rows.seqObj "list" acc.toList.toArray 0)).get? h'.objs.size = some (PyProof.Rows.seqObj "list" acc.toList.toArray 0) := Heap.get?_push_size _ rfl
  have hok2 : HOk X.prog X.w H (h'.push (PyProof.Rows.seqObj "list" acc.toList.toArray 0)) := I1.hok.kept fun b o e => Heap.get?_push_of_some _ e
  show wpAny _ _ _ _ _ { s with heap := h'.push (PyProof.Rows.seqObj "list" acc.toList.toArray 0), toks := tk' }
  have each : ∀ {l : List Tr} {qs : List (Str × Str)}, l.length = qs.length → (∀ (j : Nat) (x : Tr) (q : Str × Str), l[j]? = some x → qs[j]? = some q → x.1 = tk q) → (∀ x ∈ l, H x.2.1 = some (.tup (x.1.map kV))) →
      EachIs (fun v q => ∃ b, v = Value.ref b ∧ TU H b ((tk q).map kV)) (l.map fun x => Value.ref x.2.1) qs := by
    intro l
    induction l with
    | nil =>
      intro qs hl _ _
      cases qs with
      | nil => exact .nil
      | cons _ _ => cases hl
    | cons x l ih =>
      intro qs hl hk ht
      cases qs with
      | nil => cases hl
      | cons q qs =>
        refine .cons ⟨x.2.1, rfl, ?_⟩ (ih (Nat.succ.inj hl) (fun j y p h1 h2 => hk (j + 1) y p (by simpa using h1) (by simpa using h2)) fun y hy => ht y (List.mem_cons_of_mem _ hy))
        have := ht x (List.mem_cons_self ..)
        rw [hk 0 x q rfl rfl] at this
        exact this
  have E1 : EachIs (fun v q => ∃ b, v = Value.ref b ∧ TU H b ((tk q).map kV)) acc.toList ps := by
    rw [ea]
    exact each l3.symm keyEq tup
  refine wpAny_bind (wpAny_holding (PySem.W.list_sort_data (enc := dPr) (s := { s with heap := h'.push (PyProof.Rows.seqObj "list" acc.toList.toArray 0), toks := tk' }) hoL E1 (E1.mono fun v q ⟨b, e, hb⟩ => ⟨[], by rw [e]; exact reads_pair hok2 hb, List.not_mem_nil⟩) (PySem.W.AllAlike.of fun b b' => alike_p b b') (PySem.W.Sortable.tuples fun b => ⟨_, _, rfl⟩)
    (by rw [l3, ← l2]; exact z) (fun b _ => by rw [depth_p]; show X.A.units + 1 + 1 + 1 < cLine; omega) fun out hol heo => ?_))
  obtain ⟨e', he'⟩ := PyProof.Rows.sortedHeap_at (vs := acc.toList) (out := out.toArray) hoL
  have back : ∀ {out : List Value} {qs : List (Str × Str)}, EachIs (fun v q => ∃ b, v = Value.ref b ∧ TU H b ((tk q).map kV)) out qs → ∃ bs : List Addr, out = bs.map Value.ref ∧ EachIs (fun b q => TU H b ((tk q).map kV)) bs qs := by
    intro out qs h
    induction h with
    | nil => exact ⟨[], rfl, .nil⟩
    | cons h _ ih =>
      obtain ⟨b, rfl, hb⟩ := h
      obtain ⟨bs, e, h2⟩ := ih
      exact ⟨b :: bs, by rw [e]; rfl, .cons hb h2⟩
  obtain ⟨bs, eo, hbs⟩ := back heo
  have hlen : (bs.map V.ref).length ≤ sizeLine := by
    have : out.length = bs.length := by rw [eo, List.length_map]
    rw [List.length_map]
    omega
  refine wpAny_pure ⟨_, rfl, .ref h'.objs.size, upd H h'.objs.size (.lst (bs.map V.ref)), I1.laid (t' := tk') (fun b u e => ?_) (Nat.le_refl _)
    (show ObjOk X.prog X.w _ _ _ (.lst (bs.map V.ref)) from ⟨hlen, out, e', by rw [eo]; exact vals_refs bs, he'⟩), rfl, q bs _ (I1.hok.fresh (Nat.le_refl _)) hbs⟩
  have hb : b < h'.objs.size := Heap.lt_size e
  rw [PyProof.Rows.sortedHeap_old (Nat.ne_of_lt hb) (by rw [PyProof.Rows.size_push']; exact Nat.lt_succ_of_lt hb)]
  exact Heap.get?_push_of_some _ e
end
section
variable {σ : L2.St} {H : Hp} {P : Pr} {ta : TE} {α : Type} {r : α → Pr}
theorem al_tk : ∀ {bs : List Addr} {qs : List (Str × Str)}, EachIs (fun b q => TU H b ((tk q).map kV)) bs qs → Al H (qs.map pP) (bs.map V.ref)
  | _, _, .nil => trivial
  | _, _, .cons h t => ⟨⟨_, _, rfl, h, ⟨rfl, rfl, trivial⟩, by rw [sizeLine_eq]; simp⟩, al_tk t⟩
theorem yn_sortedQ {d : List ((Str × Str) × α)} (ya : Y ta σ H P) [w : VQ P r d] :
    Yn (tCB (fun xs H Q => ∃ (d : Addr) (kvs : List (List Key × V)) (ps : List (Str × Str)), xs = [.ref d] ∧ Rd H d (.dT kvs) ∧ kvs.map (·.1) = ps.map tk ∧
      ∀ (bs : List Addr) p, H p = none → EachIs (fun b q => TU H b ((tk q).map kV)) bs (sortP ps) → Q (.ref p) (upd H p (.lst (bs.map V.ref)))) (tCons ta tNil)) σ H (isL ((sortP (keys d)).map pP)) := yn_cb (P := P) (fun x H1 px Q q => by
  obtain ⟨a, kvs, e, hl, al, z⟩ := w.vw px
  refine ⟨a, kvs, keys d, by rw [e], hl, al.keys, fun bs p hp he => q p _ _ (same_new _ hp) hp L2.upd_same ⟨_, rfl, al_same (same_new _ hp) (al_tk he), ?_⟩⟩
  rw [List.length_map, (sortP_perm _).length_eq, keys]
  simpa using z) ya
end
end En
set_option maxHeartbeats 4000000
/-! The program: lost pairs, stands. -/
namespace En
open PySem PySem.Spec PyProof.Rows L2
variable {P : Program} {w : World} {K : PySem.W.Frag} {mg : Str → Option Value} {base : Heap}
/-! ### lost_from -/
def lofP (h : Hd) (ps : List (Str × Str)) : Pr := fun v H => ∃ d, qP iP d v H ∧ ∀ p, p ∈ keys d ↔ p ∈ ps ∧ Gfp (lostD h.1 h.2.2) p
structure Pairs (h : Hd) (ps : List (Str × Str)) : Prop where
  nd : ps.Nodup
  ins : ∀ p ∈ ps, InH h p
  len : ps.length ≤ 4096
  cl : ∀ p ∈ ps, ∀ q ∈ led h.1 h.2.2 p, q ∈ ps
abbrev sp_lost_from (K : PySem.W.Frag) : Sp := Sp2 (hdP K) (lP pP) (fun h ps => OkH h ∧ Pairs h ps) (fun h ps => lofP h ps)
theorem gfp_in {h : Hd} {ps L : List (Str × Str)} (c : Pairs h ps) (hL : ∀ p ∈ ps, Gfp (lostD h.1 h.2.2) p → p ∈ L) {p : Str × Str} (hp : p ∈ ps) (g : Gfp (lostD h.1 h.2.2) p) : Near (lostD h.1 h.2.2) (· ∈ L) p := by
  obtain ⟨M, hM, hs, hf⟩ := Gfp.within (C := (· ∈ ps)) (fun x hx hb y hy => by
    refine c.cl x hx y ?_
    unfold led
    rw [if_pos ?_]
    · exact hy
    · cases z : mt h.1 h.2.2 x with
      | true => rfl
      | false => exact absurd z hb) hp g
  exact (hf p hM).mono fun y hy => hL y (hs y hy) (Gfp.of hf hy)
abbrev N_lost_from : List Str := ["held", "pairs", "left", "ranks", "pair"]
theorem nd_lost_from : N_lost_from.Nodup := by decide
theorem c_lost_from (T : Tf w K mg) : C8.Cal P w K mg base 5 "lost_from" (sp_lost_from K) [] := by
  refine T.cal (d := d_lost_from) (N := N_lost_from) (ps := ["held", "pairs"]) 25 rfl rfl (by simp [fa, fa0, fa1, fa2, fa3]) rfl rfl (by decide +kernel) (len2 _ _) (fun _ _ _ _ _ _ us hl => match us, hl with | [_, _], _ => rfl) (fun f cdv A outer s H vs Q E hr hsp => ?_)
  obtain ⟨v_held, v_pairs, a_held, a_pairs, rfl, h_held, h_pairs, hok, hq⟩ := hsp
  refine ⟨_, (pss_cons (ps_par (i := 2) (j := 3) rfl nd_lost_from rfl rfl (by decide) rfl rfl (pa_cons (pe_fz (pe_lst pa_nil)) (pa_cons (pe_fz (pe_dcT (hu_of hr) (own := [("pair", 4)]) rfl nd_lost_from (k_list (K := K) rfl (pv 1)) (blkOk_by (own := [("pair", 4)]) (by first | decide +kernel | rfl)) (fun _ _ _ _ _ => (pg_name (i := 4) nd_lost_from rfl (Or.inl rfl))) (fun _ _ _ _ _ => pts_nil) (fun _ _ _ _ _ => (pv 4)) (fun _ _ _ _ _ => pe_int))) pa_nil)) (by rfl))
    (pss_cons (ps_while PassesOwn.never (pt_cmpR op_ne (pe_callB (k_lenA (K := K) rfl) (by rfl) T.n_len (by decide +kernel) (pa_cons (pv 2) pa_nil)) (pe_callB (k_lenA (K := K) rfl) (by rfl) T.n_len (by decide +kernel) (pa_cons (pv 3) pa_nil)) (nomark _))
    (pss_cons (ps_set (i := 2) nd_lost_from rfl (Or.inl rfl) (pe_fz (pe_callTy (call_list_dT rfl) (by rfl) T.n_list (by decide +kernel) (pa_cons (pv 3) pa_nil))))
    (pss_one (ps_set (i := 3) nd_lost_from rfl (Or.inl rfl) (C8.pe_c (c_ranked_matching T) hr (by decide) rfl (pa_cons (pv 0) (pa_cons (pv 2) pa_nil)))))))
    (pss_one (ps_ret (pv 3))))), ?_⟩
  obtain ⟨ho, ch⟩ := hok
  refine ys_seq (ys_par (ya_cons (y_fzl (yn_lsts (r := pP) yl_nil)) (ya_cons (y_fzQ (yn_dcT0 (r' := iP)  _ _ (yi_l (y_var rfl h_pairs)) (fun x2 m2 v2 H2 s2 h2 => bk1 ⟨rfl, yt_yes, fun e2 => ⟨(y_var rfl h2), y_int⟩⟩) (by rw [List.map_id']; exact ch.nd))) ya_nil)) fun v_left v_ranks H2 s2 h_left h_ranks => ?_)
  refine ys_seq (ys_while (fun M σ' H' => ∃ (L : List (Str × Str)) (rk : List ((Str × Str) × Int)) (vl vr : V) (c : Option V), M = 2 * rk.length + (if L.length = rk.length then 0 else 1) ∧ σ' = [some v_held, some v_pairs, some vl, some vr, c] ∧ Same H2 H' ∧ lP pP L vl H' ∧ qP iP rk vr H' ∧ (keys rk).Nodup ∧ (∀ p ∈ keys rk, p ∈ a_pairs) ∧ (∀ p ∈ a_pairs, Gfp (lostD a_held.1 a_held.2.2) p → p ∈ keys rk) ∧ ((L = [] ∧ keys rk = a_pairs) ∨ (L.Nodup ∧ ∀ p, p ∈ keys rk ↔ Near (lostD a_held.1 a_held.2.2) (· ∈ L) p)))
    _ ⟨[], a_pairs.map (fun x2 => (x2, 0)), v_left, v_ranks, _, rfl, rfl, Same.refl _, h_left, h_ranks, ?_, ?_, ?_, .inl ⟨rfl, ?_⟩⟩ ?_)
  · rw [keys_mk, List.map_id']; exact ch.nd
  · rw [keys_mk, List.map_id']; exact fun p hp => hp
  · rw [keys_mk, List.map_id']; exact fun p hp _ => hp
  · rw [keys_mk, List.map_id']
  rintro M σ' H' ⟨L, rk, vl, vr, c, rfl, rfl, sH, h_left, h_ranks, rn, rs, rg, case⟩
  have s0' := s2.trans sH
  refine ⟨_, (yt_test (y_op r_neI (y_lenL (y_var rfl h_left)) (y_lenQ (y_var rfl h_ranks)))), fun hb H3 s3 => ?_, fun hb H3 s3 => ?_⟩
  · have e : L.length = rk.length := by
      have : decide ((L.length : Int) = (rk.length : Int)) = true := by simpa using hb
      have := of_decide_eq_true this
      omega
    refine nx_ (ys_ret (y_var rfl (up_ s3 h_ranks)) fun v H5 s5 h => hq v _ ((s0'.trans s3).trans s5) ⟨rk, h, fun p => ?_⟩)
    rcases case with ⟨e1, e2⟩ | ⟨e1, e2⟩
    · rw [e1] at e
      have e3 : keys rk = [] := by
        apply List.length_eq_zero_iff.mp
        rw [keys_length]
        exact e.symm
      rw [← e2, e3]
      exact ⟨fun z => (by cases z), fun z => (by cases z.1)⟩
    · have hL : ∀ p ∈ L, p ∈ keys rk := sub_eq rn e1 (fun p hp => ((e2 p).mp hp).sub) (by rw [keys_length]; omega)
      refine ⟨fun hp => ⟨rs p hp, Gfp.of (L := (· ∈ L)) (fun y hy => (e2 y).mp (hL y hy)) ((e2 p).mp hp).sub⟩, fun hp => rg p hp.1 hp.2⟩
  · have ne : ¬ L.length = rk.length := by
      intro e
      rw [e] at hb
      simp at hb
    refine ys_seq (ys_set (y_fzl (yn_listQ (y_var rfl (up_ s3 h_ranks)))) fun v_left2 H4 s4 h_left2 => ?_)
    have rl : rk.length ≤ a_pairs.length := by
      have := len_sub rn rs
      rw [keys_length] at this
      exact this
    have rl2 := ch.len
    refine nx_ (ys_set (y_call2 (y_var rfl (up_ ((s0'.trans s3).trans s4) h_held)) (y_var rfl h_left2) ⟨ho, rn, fun p hp => ch.ins p (rs p hp), by rw [keys_length]; omega⟩) fun v_ranks2 H5 s5 h_ranks2 => ?_)
    obtain ⟨d, hd, dn, dk⟩ := h_ranks2
    have ds : ∀ p ∈ keys d, p ∈ keys rk := fun p hp => ((dk p).mp hp).sub
    have dl := len_sub dn ds
    rw [keys_length, keys_length] at dl
    refine ⟨_, ?_, keys rk, d, v_left2, v_ranks2, _, rfl, rfl, ((sH.trans s3).trans s4).trans s5, up_ s5 h_left2, hd, dn, fun p hp => rs p (ds p hp), fun p hp g => (dk p).mpr (gfp_in ch rg hp g), .inr ⟨rn, dk⟩⟩
    rw [if_neg ne, keys_length]
    split
    · omega
    · omega
/-! ### held_of, start_of -/
def heP (K : PySem.W.Frag) (e n : World') : Pr := fun v H => ∃ d, hdP K (e.1, d, n.1) v H ∧ keys d = viaL e.1
abbrev sp_held_of (K : PySem.W.Frag) : Sp := Sp2 (dkP K) (dkP K) (fun e n => WfB e.1) (fun e n => heP K e n)
section
variable {σ : L2.St} {H : Hp} {ta tb tc : TE}
theorem y_mkHeldE {b n : Book} {φ : List (Str × Int) → Prop} (y1 : Y ta σ H (dP rP b)) (y2 : Y tb σ H (fun v H => ∃ d, dP iP d v H ∧ φ d)) (y3 : Y tc σ H (dP rP n)) : Y (tMake (cHeld K) (sp_Held_init K) [] E0 (tCons ta (tCons tb (tCons tc tNil)))) σ H (fun v H => ∃ d, hdP K (b, d, n) v H ∧ φ d) := fun H1 u Q q =>
  y1 H1 u _ fun v1 H2 s2 p1 => y2 H2 (u.trans s2) _ fun v2 H3 s3 ⟨d, p2, hd⟩ => y3 H3 ((u.trans s2).trans s3) _ fun v3 H4 s4 p3 => fun x dx hx hdx hne => by
    have s5 : Same H4 (upd (upd H4 dx (.own x)) x (.ins (cHeld K) dx [])) := by
      refine (same_new (.own x) hdx).trans (same_new _ ?_)
      rw [L2.upd_ne (fun e => hne e.symm)]
      exact hx
    have s6 := same_mut (.ins (cHeld K) dx [("elder", v1), ("viable", v2), ("newer", v3)]) s5 hx
    exact ⟨x, dx, v1, v2, v3, rfl, L2.upd_same, rfl, q _ _ (((s2.trans s3).trans s4).trans s6) ⟨d, ⟨x, dx, v1, v2, v3, rfl, L2.upd_same, up_ ((s3.trans s4).trans s6) p1, up_ (s4.trans s6) p2, up_ s6 p3⟩, hd⟩⟩
end
abbrev N_held_of : List Str := ["elder", "newer"]
theorem nd_held_of : N_held_of.Nodup := by decide
theorem c_held_of (T : Tf w K mg) : C8.Cal P w K mg base 4 "held_of" (sp_held_of K) [] := by
  refine T.cal (d := d_held_of) (N := N_held_of) (ps := ["elder", "newer"]) 31 rfl rfl (by simp [fa, fa0, fa1, fa2, fa3]) rfl rfl (by decide +kernel) (len2 _ _) (fun _ _ _ _ _ _ us hl => match us, hl with | [_, _], _ => rfl) (fun f cdv A outer s H vs Q E hr hsp => ?_)
  obtain ⟨v_elder, v_newer, a_elder, a_newer, rfl, h_elder, h_newer, hok, hq⟩ := hsp
  refine ⟨_, (pss_one (ps_ret (C8.pe_mk (m_Held T) hr (by decide) rfl (pa_cons (k_fld (K := K) rfl (pv 0) rfl) (pa_cons (C8.pe_c (c_ranks_of T) hr (by decide) rfl (pa_cons (pv 0) pa_nil)) (pa_cons (k_fld (K := K) rfl (pv 1) rfl) pa_nil)))))), ?_⟩
  exact ys_ret (y_mkHeldE (y_rows T (y_var rfl h_elder)) (y_call1 (y_var rfl h_elder) hok) (y_rows T (y_var rfl h_newer))) fun v H1 s1 h => hq v _ s1 h
abbrev sp_start_of (K : PySem.W.Frag) : Sp := Sp2 (dkP K) (dkP K) (fun _ _ => True) (fun e n => pP (e.2, n.2))
abbrev N_start_of : List Str := ["elder", "newer"]
theorem nd_start_of : N_start_of.Nodup := by decide
theorem c_start_of (T : Tf w K mg) : C8.Cal P w K mg base 1 "start_of" (sp_start_of K) [] := by
  refine T.cal (d := d_start_of) (N := N_start_of) (ps := ["elder", "newer"]) 32 rfl rfl (by simp [fa, fa0, fa1, fa2, fa3]) rfl rfl (by decide +kernel) (len2 _ _) (fun _ _ _ _ _ _ us hl => match us, hl with | [_, _], _ => rfl) (fun f cdv A outer s H vs Q E hr hsp => ?_)
  obtain ⟨v_elder, v_newer, a_elder, a_newer, rfl, h_elder, h_newer, hok, hq⟩ := hsp
  refine ⟨_, (pss_one (ps_ret (pe_tup (pa_cons (k_fld (K := K) rfl (pv 0) rfl) (pa_cons (k_fld (K := K) rfl (pv 1) rfl) pa_nil))))), ?_⟩
  -- return (elder.first, newer.first)
  refine ys_ret (y_pair (ya_cons (y_first T (y_var rfl h_elder)) (ya_cons (y_first T (y_var rfl h_newer)) ya_nil))) fun v H1 s1 h => ?_
  exact hq v _ s1 (by exact h)
/-! ### lost_of, stands_for, stands -/
section
variable {σ : L2.St} {H : Hp} {ta tb : TE}
theorem y_call2E {α β : Type} {p1 : α → Pr} {p2 : β → Pr} {ok : α → β → Prop} {post : α → β → Pr} {a : α} {φ : β → Prop} [s1 : ∀ a, Sts (p1 a)] [s2 : ∀ a, Sts (p2 a)] (ya : Y ta σ H (p1 a)) (yb : Y tb σ H (fun v H => ∃ b, p2 b v H ∧ φ b)) (h : ∀ b, φ b → ok a b) :
    Y (tCall (Sp2 p1 p2 ok post) [] E0 (tCons ta (tCons tb tNil))) σ H (fun v H => ∃ b, post a b v H ∧ φ b) := fun H1 u Q q => ya H1 u _ fun x H2 e2 pa => yb H2 (u.trans e2) _ fun y H3 e3 ⟨b, pb, hb⟩ =>
  ⟨x, y, a, b, rfl, up_ e3 pa, pb, h b hb, fun v H4 e4 hp => q v H4 ((e2.trans e3).trans e4) ⟨b, hp, hb⟩⟩
end
def loP (e n : World') : Pr := fun v H => (∃ d, qP iP d v H ∧ (d = [] ↔ Stands e n)) ∨ (dP iP [] v H ∧ Stands e n)
abbrev sp_lost_of (K : PySem.W.Frag) : Sp := Sp2 (dkP K) (dkP K) (fun e n => WfW e ∧ WfW n) (fun e n => loP e n)
theorem pairs_com {e n : World'} (we : WfW e) (wn : WfW n) {d : List (Str × Int)} (hd : keys d = viaL e.1) {ps : List (Str × Str)} (nd : ps.Nodup) (hk : ∀ q, q ∈ ps ↔ Reach (led e.1 n.1) (e.2, n.2) q) : Pairs (e.1, d, n.1) ps := by
  have ho : OkH (e.1, d, n.1) := ⟨we.b, wn.b, hd⟩
  have hin : InH (e.1, d, n.1) (e.2, n.2) := ⟨we.s, wn.s⟩
  have ins : ∀ p ∈ ps, InH (e.1, d, n.1) p := fun p hp => reach_in ho hin ((hk p).mp hp)
  refine ⟨nd, ins, ?_, fun p hp q hq => (hk q).mpr (.tail ((hk p).mp hp) hq)⟩
  have h1 := len_sub nd (fun q hq => mem_heldS.mpr (ins q hq))
  have h2 : (keys (heldS e.1 n.1)).length ≤ 4096 := by rw [keys_length]; exact heldS_len we.b wn.b
  exact Nat.le_trans h1 h2
abbrev N_lost_of : List Str := ["elder", "newer", "held"]
theorem nd_lost_of : N_lost_of.Nodup := by decide
theorem c_lost_of (T : Tf w K mg) : C8.Cal P w K mg base 6 "lost_of" (sp_lost_of K) [] := by
  refine T.cal (d := d_lost_of) (N := N_lost_of) (ps := ["elder", "newer"]) 33 rfl rfl (by simp [fa, fa0, fa1, fa2, fa3]) rfl rfl (by decide +kernel) (len2 _ _) (fun _ _ _ _ _ _ us hl => match us, hl with | [_, _], _ => rfl) (fun f cdv A outer s H vs Q E hr hsp => ?_)
  obtain ⟨v_elder, v_newer, a_elder, a_newer, rfl, h_elder, h_newer, hok, hq⟩ := hsp
  refine ⟨_, (pss_cons (ps_set (i := 2) nd_lost_of rfl (Or.inl rfl) (C8.pe_c (c_held_of T) hr (by decide) rfl (pa_cons (pv 0) (pa_cons (pv 1) pa_nil))))
    (pss_cons (ps_if (pt_cmp (pc_dnotin (hu_of hr) (k_fld (K := K) rfl (pv 0) rfl) (k_fld (K := K) rfl (pv 2) rfl)) rfl) (pss_one (ps_ret (pe_fz pe_dnewK)))
    pss_nil)
    (pss_one (ps_ret (C8.pe_c (c_lost_from T) hr (by decide) rfl (pa_cons (pv 2) (pa_cons (pe_fz (pe_callB (call_sortedDT rfl (hu65 hr)) (by rfl) T.n_sorted (by decide +kernel) (pa_cons (C8.pe_mt (t_talks_from T) hr (by decide) (pv 2) (pa_cons (C8.pe_c (c_start_of T) hr (by decide) rfl (pa_cons (pv 0) (pa_cons (pv 1) pa_nil))) pa_nil)) pa_nil))) pa_nil))))))), ?_⟩
  obtain ⟨we, wn⟩ := hok
  refine ys_seq (ys_set (y_call2 (y_var rfl h_elder) (y_var rfl h_newer) we.b) fun v_held H1 s1 h_held => ?_)
  obtain ⟨d, h_held, hd⟩ := h_held
  have ho : OkH (a_elder.1, d, a_newer.1) := ⟨we.b, wn.b, hd⟩
  have hin : InH (a_elder.1, d, a_newer.1) (a_elder.2, a_newer.2) := ⟨we.s, wn.s⟩
  have hv : has d a_elder.2 = true ↔ Via a_elder.1 a_elder.2 := by rw [has_iff, hd, mem_viaL]
  refine nx_ (ys_seq (ys_if (yt_b (y_dnotin (y_first T (y_var rfl (up_ s1 h_elder))) (y_viable T (y_var rfl h_held)))) (fun b2 H2 s2 => ?_) (fun b2 H2 s2 => ?_)))
  · refine ys_ret (y_fzD (r := iP) yn_newK) fun v H3 s3 h => hq v _ ((s1.trans s2).trans s3) (.inr ⟨h, fun z => ?_⟩)
    rw [hv.mpr z] at b2
    cases b2
  · have via : Via a_elder.1 a_elder.2 := by
      cases z : has d a_elder.2 with
      | true => exact hv.mp z
      | false => rw [z] at b2; cases b2
    refine nx_ (ys_ret (y_call2E (φ := fun ps => ps.Nodup ∧ ∀ q, q ∈ ps ↔ Reach (led a_elder.1 a_newer.1) (a_elder.2, a_newer.2) q) (y_var rfl (up_ s2 h_held)) ?_ (fun ps h => ⟨ho, pairs_com we wn hd h.1 h.2⟩)) fun v H4 s4 ⟨ps, ⟨g, h4, h5⟩, h2, h3⟩ => hq v _ ((s1.trans s2).trans s4) (.inl ⟨g, h4, ?_⟩))
    · refine (y_bind (C := fun t => tFz (tCB _ (tCons t tNil))) (y_meth1 (y_var rfl (up_ s2 h_held)) (y_call2 (y_var rfl (up_ (s1.trans s2) h_elder)) (y_var rfl (up_ (s1.trans s2) h_newer)) trivial) ⟨ho, hin⟩) fun v H3 s3 ⟨g, h1, h2, h3⟩ => (y_fzl (yn_sortedQ (y_cs h1))).mono fun v H4 h4 => ⟨_, h4, ((sortP_perm _).nodup_iff).mpr h2, fun q => (sortP_perm _).mem_iff.trans (h3 q)⟩)
    · constructor
      · intro e _ p hp hg
        have := (h5 p).mpr ⟨(h3 p).mpr hp, hg⟩
        rw [e] at this
        cases this
      · intro hs
        cases g with
        | nil => rfl
        | cons x g =>
          have := (h5 x.1).mp (List.mem_cons_self ..)
          exact absurd this.2 (hs via x.1 ((h3 x.1).mp this.1))
noncomputable abbrev sp_stands_for (K : PySem.W.Frag) : Sp := Sp2 (dkP K) (dkP K) (fun e n => WfW e ∧ WfW n) (fun e n => bP (standsB e n))
abbrev N_stands_for : List Str := ["elder", "newer"]
theorem nd_stands_for : N_stands_for.Nodup := by decide
theorem c_stands_for (T : Tf w K mg) : C8.Cal P w K mg base 7 "stands_for" (sp_stands_for K) [] := by
  refine T.cal (d := d_stands_for) (N := N_stands_for) (ps := ["elder", "newer"]) 34 rfl rfl (by simp [fa, fa0, fa1, fa2, fa3]) rfl rfl (by decide +kernel) (len2 _ _) (fun _ _ _ _ _ _ us hl => match us, hl with | [_, _], _ => rfl) (fun f cdv A outer s H vs Q E hr hsp => ?_)
  obtain ⟨v_elder, v_newer, a_elder, a_newer, rfl, h_elder, h_newer, hok, hq⟩ := hsp
  refine ⟨_, (pss_one (ps_ret (pe_cmpR (op_eqE (hu0 hr)) (C8.pe_c (c_lost_of T) hr (by decide) rfl (pa_cons (pv 0) (pa_cons (pv 1) pa_nil))) pe_dnewK (nomark _)))), ?_⟩
  refine ys_ret (y_bind (C := fun t => tOp rEqE t tDNewK) (P2 := bP (standsB a_elder a_newer)) (y_call2 (y_var rfl h_elder) (y_var rfl h_newer) hok) fun v H1 s1 h => ?_) fun v H1 s1 h => hq v _ s1 h
  rcases h with ⟨d, h1, h2⟩ | ⟨h1, h2⟩
  · refine Y.eqB (y_eqQ (y_cs h1)) (bool_eq ?_)
    rw [standsB_iff, List.isEmpty_iff]
    exact h2
  · refine Y.eqB (y_eqE (r := iP) (y_cs h1)) (bool_eq ?_)
    rw [standsB_iff]
    exact ⟨fun _ => h2, fun _ => rfl⟩
abbrev sp_check_two (K : PySem.W.Frag) : Sp := Sp2 (dkP K) (dkP K) (fun _ _ => True) (fun _ _ => nP)
abbrev N_check_two : List Str := ["elder", "newer"]
theorem nd_check_two : N_check_two.Nodup := by decide
theorem c_check_two (T : Tf w K mg) : C8.Cal P w K mg base 2 "check_two" (sp_check_two K) [] := by
  refine T.cal (d := d_check_two) (N := N_check_two) (ps := ["elder", "newer"]) 30 rfl rfl (by simp [fa, fa0, fa1, fa2, fa3]) rfl rfl (by decide +kernel) (len2 _ _) (fun _ _ _ _ _ _ us hl => match us, hl with | [_, _], _ => rfl) (fun f cdv A outer s H vs Q E hr hsp => ?_)
  obtain ⟨v_elder, v_newer, a_elder, a_newer, rfl, h_elder, h_newer, hok, hq⟩ := hsp
  refine ⟨_, (pss_cons (ps_expr (C8.pe_c (c_check_desk T) hr (by decide) rfl (pa_cons (pv 0) pa_nil)))
    (pss_one (ps_expr (C8.pe_c (c_check_desk T) hr (by decide) rfl (pa_cons (pv 1) pa_nil))))), ?_⟩
  refine ys_seq (ys_drop (y_call1 (y_var rfl h_elder) trivial) fun v_ H1 s1 h_ => ?_)
  refine nx_ (ys_drop (y_call1 (y_var rfl (up_ s1 h_newer)) trivial) fun v_ H2 s2 h_ => ?_)
  exact hq _ _ (s1.trans s2) rfl
noncomputable abbrev sp_stands (K : PySem.W.Frag) : Sp := Sp2 (dkP K) (dkP K) (fun e n => WfW e ∧ WfW n) (fun e n => bP (standsB e n))
abbrev N_stands : List Str := ["elder", "newer"]
theorem nd_stands : N_stands.Nodup := by decide
theorem c_stands (T : Tf w K mg) : C8.Cal P w K mg base 8 "stands" (sp_stands K) [] := by
  refine T.cal (d := d_stands) (N := N_stands) (ps := ["elder", "newer"]) 35 rfl rfl (by simp [fa, fa0, fa1, fa2, fa3]) rfl rfl (by decide +kernel) (len2 _ _) (fun _ _ _ _ _ _ us hl => match us, hl with | [_, _], _ => rfl) (fun f cdv A outer s H vs Q E hr hsp => ?_)
  obtain ⟨v_elder, v_newer, a_elder, a_newer, rfl, h_elder, h_newer, hok, hq⟩ := hsp
  refine ⟨_, (pss_cons (ps_expr (C8.pe_c (c_check_two T) hr (by decide) rfl (pa_cons (pv 0) (pa_cons (pv 1) pa_nil))))
    (pss_one (ps_ret (C8.pe_c (c_stands_for T) hr (by decide) rfl (pa_cons (pv 0) (pa_cons (pv 1) pa_nil)))))), ?_⟩
  refine ys_seq (ys_drop (y_call2 (y_var rfl h_elder) (y_var rfl h_newer) trivial) fun v_ H1 s1 h_ => ?_)
  exact nx_ (ys_ret (y_call2 (y_var rfl (up_ s1 h_elder)) (y_var rfl (up_ s1 h_newer)) hok) fun v H2 s2 h => hq v _ (s1.trans s2) h)
end En
set_option maxHeartbeats 4000000
/-! isinstance of what stays; spelt texts, rows, books. -/
namespace En
open PySem PySem.Spec PyProof.Rows L2
variable {P : Program} {w : World} {K : PySem.W.Frag} {mg : Str → Option Value} {base : Heap}
/-- the type of a value that stays as it is -/
inductive TyF (K : PySem.W.Frag) (H : Hp) : V → Value → Prop
  | non : TyF K H .non (.type "NoneType")
  | bl (b : Bool) : TyF K H (.bl b) (.type "bool")
  | int (i : Int) : TyF K H (.int i) (.type "int")
  | str (x : Str) : TyF K H (.str x) (.type "str")
  | lst {a : Addr} {o : Obj} {xs : List V} (e : H a = some (.frz o (.lst xs))) : TyF K H (.ref a) (.type "list")
  | tup {a : Addr} {xs : List V} (e : H a = some (.tup xs)) : TyF K H (.ref a) (.type "tuple")
  | dK {a : Addr} {o : Obj} {kvs : List (Key × V)} (e : H a = some (.frz o (.dK kvs))) : TyF K H (.ref a) (.type "dict")
  | dT {a : Addr} {o : Obj} {kvs : List (List Key × V)} (e : H a = some (.frz o (.dT kvs))) : TyF K H (.ref a) (.type "dict")
  | desk {a dx : Addr} {fs : List (Str × V)} (e : H a = some (.ins (cDesk K) dx fs)) : TyF K H (.ref a) (.ref (cDesk K))
theorem TyF.up {H H' : Hp} {v : V} {t : Value} (e : Up H H') (h : TyF K H v t) : TyF K H' v t := by
  cases h with
  | non => exact .non
  | bl b => exact .bl b
  | int i => exact .int i
  | str x => exact .str x
  | lst h => exact .lst (e _ _ trivial h)
  | tup h => exact .tup (e _ _ trivial h)
  | dK h => exact .dK (e _ _ trivial h)
  | dT h => exact .dT (e _ _ trivial h)
  | desk h => exact .desk (e _ _ trivial h)
/-- .. or of a list that may change -/
def TyU (K : PySem.W.Frag) (H : Hp) (v : V) (t : Value) : Prop := TyF K H v t ∨ (∃ a xs, v = .ref a ∧ H a = some (.lst xs) ∧ t = .type "list")
def rIsiU (K : PySem.W.Frag) : List V → Hp → VK → Prop := fun xs H Q => ∃ (x c : V) (t u : Value) (b : Bool), xs = [x, c] ∧ ClsV c u ∧ TyU K H x t ∧ PySem.W.kitOne K t u = some b ∧ Q (.bl b) H
section
variable {X : Cx}
theorem TyU.kit (C : C8.InsC K (cDesk K)) (hK : X.K = K) {pins : List (Addr × Obj)} {σ : L2.St} {H : Hp} {s : Shared} {x : V} {u t : Value} (I : Inv X pins σ H s) (rx : RelV x u) (ty : TyU K H x t) : ∃ P : Heap → Prop, PySem.W.KitX X.K u t P ∧ P s.heap ∧ u ≠ .builtin "__main__.__loader__#opaque" := by
  subst hK
  rcases ty with ty | ⟨a, xs, rfl, e, rfl⟩
  · cases ty with
    | non => exact kit_of I rx (.base .non)
    | bl b => exact kit_of I rx (.base (.bl b))
    | int i => exact kit_of I rx (.base (.int i))
    | str x => exact kit_of I rx (.base (.str x))
    | lst e => exact kit_of I rx (.base (.frz e))
    | tup e => exact kit_of I rx (.base (.tup e))
    | dK e => exact kit_of I rx (.fDict e)
    | @dT a ob kvs e =>
      cases (show u = Value.ref a from rx)
      obtain ⟨_, _, _, xs, _, o, es, ep, h1, h2, _⟩ := (show ObjOk X.prog X.w H s.heap a (.frz ob (.dT kvs)) from I.hok a _ e)
      exact ⟨_, PySem.W.kitx_dict, ⟨o, h1, h2.1⟩, fun z => nomatch z⟩
    | desk e => exact kit_of I rx (.base (.ins e C.cl C.ha C.hn C.htk C.hm))
  · exact kit_of I rx (.base (.lst e))
theorem call_isiU (C : C8.InsC K (cDesk K)) (hK : X.K = K) : CallR X (.builtin "isinstance") (rIsiU K) := by
  intro pins s σ H xs us Q I r h
  obtain ⟨x, c, t, u, b, rfl, k, ty, e, q⟩ := h
  obtain ⟨u1, u2, rfl, r1, r2⟩ := vals2 r
  have e2 := k.eq r2
  subst e2
  obtain ⟨P, Z, p, hx⟩ := ty.kit C hK I r1
  exact PySem.W.kia_one Z I.kIn p (by rw [hK]; exact e) hx fun tk => ⟨.bl b, H, I.tok tk, rfl, q⟩
theorem k_isiU (T : Tf w K mg) (hK : X.K = K) : CallR X (.builtin "isinstance") (rIsiU K) := call_isiU T.isDesk hK
end
section
variable {σ : L2.St} {H : Hp} {P1 : Pr} {ta tb tc : TE} {n : String} {b : Bool}
theorem y_isi (ya : Y ta σ H P1) (h : ∀ v H, P1 v H → ∃ t, TyU K H v t ∧ PySem.W.kitOne K t (.type n) = some b) : Y (tCB (rIsiU K) (tCons ta (tCons (tC (.ty n)) tNil))) σ H (bP b) := fun H1 u Q q => ya H1 u _ fun x H2 s2 p => by
  obtain ⟨t, h1, h2⟩ := h x H2 p
  exact ⟨x, .ty n, t, .type n, b, rfl, .ty n, h1, h2, q _ H2 s2 rfl⟩
theorem yt_chain {i j k : Int} (y1 : Y ta σ H (iP i)) (y2 : Y tb σ H (iP j)) (y3 : Y tc σ H (iP k)) : Yt (tTest (tChain (rI0 fun i j => .bl (decide (i < j))) (rI0 fun i j => .bl (decide (i < j))) ta tb tc)) σ H (decide (i < j) && decide (j < k)) :=
  yt_test (b := decide (i < j) && decide (j < k)) fun H1 u Q q => y1 H1 u _ fun x H2 s2 p => y2 H2 (u.trans s2) _ fun y H3 s3 p3 => r_lt x y H3 p p3 _ fun z H4 s4 p4 => ⟨decide (i < j), p4, by
    cases hd : decide (i < j) with
    | false => exact q _ H4 ((s2.trans s3).trans s4) (show V.bl false = V.bl (decide (i < j) && decide (j < k)) by rw [hd]; rfl)
    | true =>
      refine y3 H4 (((u.trans s2).trans s3).trans s4) _ fun w H5 s5 p5 => r_lt y w H5 p3 p5 _ fun z H6 s6 p6 => q z H6 ((((s2.trans s3).trans s4).trans s5).trans s6) (show z = V.bl (decide (i < j) && decide (j < k)) by rw [hd]; exact p6)⟩
theorem y_lenS {x : Str} (ya : Y ta σ H (sP x)) (h : x.length ≤ sizeLine) : Y (tCB (fun xs H Q => ∃ z, xs = [.str z] ∧ z.length ≤ sizeLine ∧ Q (.int z.length) H) (tCons ta tNil)) σ H (iP x.length) := fun H1 u Q q => ya H1 u _ fun v H2 s2 p => ⟨x, by rw [show v = .str x from p], h, q _ H2 s2 rfl⟩
def oneS (c : Nat) : Str := ⟨#[c]⟩
theorem r_notInC {c : Nat} {z : Str} : R2s (fun x y H Q => ∃ (c : Nat) (z : Str), x = .str ⟨#[c]⟩ ∧ y = .str z ∧ Q (.bl (!decide (c ∈ z.cps.toList))) H) (sP (oneS c)) (sP z) (bP (!decide (c ∈ z.cps.toList))) := fun x y H1 h1 h2 Q q => ⟨c, z, h1, h2, q _ H1 (Same.refl _) rfl⟩
end
/-! ### is_spelt -/
def ABC : Str := "abcdefghijklmnopqrstuvwxyz"
def spT (x : Str) : Bool := (decide (0 < (x.length : Int)) && decide ((x.length : Int) < 9)) && x.cps.toList.all fun c => decide (c ∈ ABC.cps.toList)
/-- a text, or a list or dict -/
def ntP : Pr := fun v H => (∃ a o xs, v = .ref a ∧ H a = some (.frz o (.lst xs))) ∨ ∃ a o kvs, v = .ref a ∧ H a = some (.frz o (.dK kvs))
instance : Sty ntP := ⟨fun e h => h.elim (fun ⟨a, o, xs, h1, h2⟩ => .inl ⟨a, o, xs, h1, e _ _ trivial h2⟩) fun ⟨a, o, xs, h1, h2⟩ => .inr ⟨a, o, xs, h1, e _ _ trivial h2⟩⟩
def paP : Option Str → Pr
  | some s => sP s
  | none => ntP
instance {o : Option Str} : Sty (paP o) := match o with
  | some s => inferInstanceAs (Sty (sP s))
  | none => inferInstanceAs (Sty ntP)
def spO : Option Str → Bool
  | some s => spT s
  | none => false
abbrev sp_is_spelt (K : PySem.W.Frag) : Sp := Sp1 paP (fun o => ∀ s, o = some s → s.length ≤ 1000) (fun o => bP (spO o))
abbrev N_is_spelt : List Str := ["value", "letter"]
theorem nd_is_spelt : N_is_spelt.Nodup := by decide
theorem c_is_spelt (T : Tf w K mg) : C8.Cal P w K mg base 1 "is_spelt" (sp_is_spelt K) [] := by
  refine T.cal (d := d_is_spelt) (N := N_is_spelt) (ps := ["value"]) 0 rfl rfl (by simp [fa, fa0, fa1, fa2, fa3]) rfl rfl (by decide +kernel) (len1 _) (fun _ _ _ _ _ _ us hl => match us, hl with | [_], _ => rfl) (fun f cdv A outer s H vs Q E hr hsp => ?_)
  obtain ⟨v_value, a_value, rfl, h_value, hok, hq⟩ := hsp
  refine ⟨_, (pss_cons (ps_if (PW.pt (pw_or (pt_not (pt_val (pe_callB (k_isiU T rfl) (by rfl) T.n_isinstance (by decide +kernel) (pa_cons (pv 0) (pa_cons (pe_bltn rfl T.n_str (by decide +kernel) (v := .ty "str") rfl) pa_nil))))) (pw_or1 (pt_not (pt_chain op_lt op_lt pe_int (pe_callB call_len_str (by rfl) T.n_len (by decide +kernel) (pa_cons (pv 0) pa_nil)) pe_int))))) (pss_one (ps_ret pe_bl))
    pss_nil)
    (pss_cons (ps_for PassesOwn.never rfl (pi_str (pv 0)) (pg_name (i := 1) nd_is_spelt rfl (Or.inl rfl))
    (pss_one (ps_if (pt_cmpR op_notIn_sign (pv 1) (C8.pe_gc rfl T.letters) rfl) (pss_one (ps_ret pe_bl))
    pss_nil)))
    (pss_one (ps_ret pe_bl)))), ?_⟩
  cases a_value with
  | none =>
    refine ys_seq (ys_if (b := true) (Yt.eq (yt_or (yt_not (yt_b (y_isi (b := false) (y_var rfl h_value) ?_))) fun b1 => (show Yt _ _ _ true by cases b1)) rfl) (fun b2 H2 s2 => ?_) (fun b2 H2 s2 => by cases b2))
    · intro v H' h
      rcases h with ⟨a, o, xs, rfl, e⟩ | ⟨a, o, kvs, rfl, e⟩
      · exact ⟨_, .inl (.lst e), rfl⟩
      · exact ⟨_, .inl (.dK e), rfl⟩
    · exact ys_ret y_bl fun v H3 s3 h => hq v _ (s2.trans s3) h
  | some x =>
    have hx : x.length ≤ 1000 := hok x rfl
    have h_value : sP x v_value H := h_value
    refine ys_seq (ys_if (b := !(decide (0 < (x.length : Int)) && decide ((x.length : Int) < 9))) (Yt.eq (yt_or (yt_not (yt_b (y_isi (b := true) (y_var rfl h_value) ?_))) fun b1 => (yt_not (yt_chain y_int (y_lenS (y_var rfl h_value) (by rw [sizeLine_eq]; omega)) y_int))) rfl) (fun b2 H2 s2 => ?_) (fun b2 H2 s2 => ?_))
    · rintro v H' h
      cases (show v = .str x from h)
      exact ⟨_, .inl (.str x), rfl⟩
    · refine ys_ret y_bl fun v H3 s3 h => hq v _ (s2.trans s3) (bP_eq ?_ h)
      show false = spT x
      unfold spT
      rw [Bool.not_eq_true'] at b2
      rw [b2]
      rfl
    · rw [Bool.not_eq_false'] at b2
      refine nx_ (ys_seq (ys_for (yi_str (y_var rfl (up_ s2 h_value)) ?_) fun H4 s4 => ⟨fun i σ' H' => (∃ c, σ' = [some v_value, c]) ∧ Same H4 H' ∧ (x.cps.toList.take i).all (fun c => decide (c ∈ ABC.cps.toList)) = true, ⟨⟨_, rfl⟩, Same.refl _, rfl⟩, fun i σ' H' p => up_same p.2.1, ?_, ?_⟩))
      · rw [sizeLine_eq]
        omega
      · rintro i c σ' H' hc ⟨⟨c1, rfl⟩, sH, pre⟩ v H3 s3 h_letter
        refine (ys_if (yt_test (y_op r_notInC (y_var rfl h_letter) (y_c (P := sP ABC) fun _ => rfl))) (fun b5 H5 s5 => ?_) (fun b5 H5 s5 => ?_))
        · refine ys_ret y_bl fun v H6 s6 h => hq v _ (((((s2.trans s4).trans sH).trans s3).trans s5).trans s6) (bP_eq ?_ h)
          show false = spT x
          unfold spT
          rw [eq_comm, Bool.and_eq_false_iff]
          right
          rw [List.all_eq_false]
          refine ⟨c, mem_at hc, ?_⟩
          simpa using b5
        · refine ⟨⟨_, rfl⟩, (sH.trans s3).trans s5, ?_⟩
          rw [take_one hc, List.all_append, pre, List.all_cons, List.all_nil]
          simpa using b5
      · rintro σ' H' ⟨⟨c1, rfl⟩, sH, pre⟩
        refine nx_ (ys_ret y_bl fun v H6 s6 h => hq v _ (((s2.trans s4).trans sH).trans s6) (bP_eq ?_ h))
        show true = spT x
        unfold spT
        rw [List.take_length] at pre
        rw [b2, pre]
        rfl
end En
set_option maxHeartbeats 4000000
/-! Two-clause comprehensions; rows, books. -/
namespace En
open PySem PySem.Spec PyProof.Rows L2
variable {P : Program} {w : World} {K : PySem.W.Frag} {mg : Str → Option Value} {base : Heap}
def flat {α β γ : Type} (p : α → Bool) (ys : α → List β) (f : α → β → γ) (xs : List α) : List γ := xs.flatMap fun x => if p x = true then (ys x).map (f x) else []
section
variable {α β γ : Type} {p : α → Bool} {ys : α → List β} {f : α → β → γ}
theorem flat_app (l l' : List α) : flat p ys f (l ++ l') = flat p ys f l ++ flat p ys f l' := List.flatMap_append ..
theorem flat_one (x : α) : flat p ys f [x] = if p x = true then (ys x).map (f x) else [] := by
  unfold flat
  rw [List.flatMap_cons, List.flatMap_nil, List.append_nil]
theorem flatC_len {xs : List α} {i : Nat} {x : α} (h : xs[i]? = some x) : (flat p ys f (xs.take i)).length + (flat p ys f [x]).length ≤ (flat p ys f xs).length := by
  have e : xs = xs.take (i + 1) ++ xs.drop (i + 1) := (List.take_append_drop _ _).symm
  have e2 : flat p ys f xs = flat p ys f (xs.take i) ++ flat p ys f [x] ++ flat p ys f (xs.drop (i + 1)) := by
    rw [← flat_app, ← take_one h, ← flat_app, ← e]
  rw [e2, List.length_append, List.length_append]
  omega
end
section
variable {σ : L2.St} {H : Hp} {α β γ : Type} {r : α → Pr} {r1 : β → Pr} {r' : γ → Pr}
theorem yn_lc2 [s' : ∀ y, Sty (r' y)] {wi wi1 : TI} {g g1 : TG} {tt : TT} {te : TE} {vs vs1 : List Nat} {xs : List α} (p : α → Bool) (ys : α → List β) (f : α → β → γ) (yi : Yi wi σ H (xs.map r))
    (hb : ∀ x ∈ xs, ∀ v H1, Same H H1 → r x v H1 → ∃ σ2, (∀ Q : L2.St → Hp → Prop, Q σ2 H1 → g v (wipe σ vs) H1 Q) ∧ wipe σ2 vs = wipe σ vs ∧ Yt tt σ2 H1 (p x) ∧ (p x = true → Yi wi1 σ2 H1 ((ys x).map r1) ∧
      ∀ y ∈ ys x, ∀ v2 H2, Same H H2 → Up H1 H2 → r1 y v2 H2 → Bd g1 tYes te σ2 vs1 v2 H2 true (r' (f x y))))
    (hz : (flat p ys f xs).length < sizeLine) : Yn (tLc2 wi g tt wi1 g1 tYes te vs vs1) σ H (isL ((flat p ys f xs).map r')) := fun H1 u Q q =>
  yi H1 u _ fun J H2 s2 wk z D hD => by
    rw [List.length_map] at z
    have nD : H1 D = none := s2.free hD
    refine ⟨fun i m H' => m = xs.length - i ∧ i ≤ xs.length ∧ Same H2 H' ∧ ∃ acc, H' D = some (.lst acc) ∧ Al H' ((flat p ys f (xs.take i)).map r') acc, ⟨_, rfl, Nat.zero_le _, same_new _ hD, [], L2.upd_same, by simp [Al, flat]⟩, ?_⟩
    rintro i m H' ⟨rfl, hi, sH, acc, hacc, al⟩
    obtain ⟨w1, w2⟩ := wk H' (up_same sH)
    by_cases hlt : i < xs.length
    · refine .inr ?_
      have hx : xs[i]? = some xs[i] := List.getElem?_eq_getElem hlt
      obtain ⟨go, yl⟩ := w1 i (r xs[i]) (by rw [List.getElem?_map, hx]; rfl)
      refine ⟨go, fun H' => i + 1 ≤ xs.length ∧ Same H2 H' ∧ ∃ acc, H' D = some (.lst acc) ∧ Al H' ((flat p ys f (xs.take (i + 1))).map r') acc, fun H3 n3 => ⟨xs.length - (i + 1), by omega, rfl, n3⟩, fun x H3 hy => ?_⟩
      obtain ⟨s3, px⟩ := yl x H3 hy
      have u3 : Same H H3 := u.trans ((s2.trans sH).trans s3)
      obtain ⟨σ2, hg, hw, ht, he⟩ := hb xs[i] (List.getElem_mem hlt) x H3 u3 px
      refine hg _ ⟨hw, ht H3 (Same.refl _) _ fun H4 s4 => ?_⟩
      have ha4 := s4 _ _ (s3 _ _ hacc)
      have al4 := al_same (s3.trans s4) al
      have fl : (flat p ys f (xs.take i)).length + (flat p ys f [xs[i]]).length ≤ (flat p ys f xs).length := flatC_len hx
      rw [flat_one] at fl
      cases hp : p xs[i] with
      | false =>
        refine ⟨hlt, (sH.trans s3).trans s4, acc, ha4, ?_⟩
        rw [take_one hx, flat_app, flat_one, if_neg (by rw [hp]; exact Bool.false_ne_true), List.append_nil]
        exact al4
      | true =>
        rw [if_pos hp, List.length_map] at fl
        obtain ⟨yi1, hb1⟩ := he hp
        refine yi1 H4 s4 _ fun J1 H5 s5 wk1 z1 => ?_
        refine ⟨fun j k H' => k = (ys xs[i]).length - j ∧ j ≤ (ys xs[i]).length ∧ Same H2 H' ∧ Up H5 H' ∧ ∃ acc, H' D = some (.lst acc) ∧ Al H' ((flat p ys f (xs.take i) ++ ((ys xs[i]).take j).map (f xs[i])).map r') acc,
          ⟨_, rfl, Nat.zero_le _, ((sH.trans s3).trans s4).trans s5, Up.rfl _, acc, s5 _ _ ha4, by rw [List.take_zero, List.map_nil, List.append_nil]; exact al_same s5 al4⟩, ?_⟩
        rintro j k H6 ⟨rfl, hj, s26, u56, acc1, hacc1, al1⟩
        obtain ⟨w3, w4⟩ := wk1 H6 u56
        by_cases hlt1 : j < (ys xs[i]).length
        · refine .inr ?_
          have hy1 : (ys xs[i])[j]? = some (ys xs[i])[j] := List.getElem?_eq_getElem hlt1
          obtain ⟨go1, yl1⟩ := w3 j (r1 (ys xs[i])[j]) (by rw [List.getElem?_map, hy1]; rfl)
          refine ⟨go1, fun H' => j + 1 ≤ (ys xs[i]).length ∧ Same H2 H' ∧ Up H5 H' ∧ ∃ acc, H' D = some (.lst acc) ∧ Al H' ((flat p ys f (xs.take i) ++ ((ys xs[i]).take (j + 1)).map (f xs[i])).map r') acc, fun H7 n7 => ⟨(ys xs[i]).length - (j + 1), by omega, rfl, n7⟩, fun x1 H7 hy7 => ?_⟩
          obtain ⟨s7, px1⟩ := yl1 x1 H7 hy7
          obtain ⟨σ3, hg1, hw1, ht1, he1⟩ := hb1 _ (List.getElem_mem hlt1) x1 H7 (u.trans (s2.trans (s26.trans s7))) (((up_same (s4.trans s5)).trans u56).trans (up_same s7)) px1
          refine hg1 _ ⟨hw1, ht1 H7 (Same.refl _) _ fun H8 s8 => ?_⟩
          refine he1 rfl H8 s8 _ fun y H9 s9 py => ?_
          have s69 := (s7.trans s8).trans s9
          have hD9 : H9 D = some (.lst acc1) := s69 _ _ hacc1
          have um := up_mut (H := H9) (.lst (acc1 ++ [y])) hD9 (fun z => z)
          have hl := al1.length
          rw [List.length_map, List.length_append, List.length_map, List.length_take] at hl
          refine ⟨acc1, hD9, by omega, hlt1, same_mut _ (s26.trans s69) hD, (u56.trans (up_same s69)).trans um, acc1 ++ [y], L2.upd_same, ?_⟩
          have e : flat p ys f (xs.take i) ++ ((ys xs[i]).take (j + 1)).map (f xs[i]) = (flat p ys f (xs.take i) ++ ((ys xs[i]).take j).map (f xs[i])) ++ [f xs[i] (ys xs[i])[j]] := by
            rw [take_one hy1, List.map_append, List.append_assoc]
            rfl
          rw [e, List.map_append]
          exact Al.app ((inferInstance : StyL ((flat p ys f (xs.take i) ++ ((ys xs[i]).take j).map (f xs[i])).map r')).up um (al_same s69 al1)) ⟨(s' _).up um py, trivial⟩
        · have e : j = (ys xs[i]).length := by omega
          subst e
          refine .inl ⟨by rw [List.length_map] at w4; exact w4, hlt, s26, acc1, hacc1, ?_⟩
          rw [take_one hx, flat_app, flat_one, if_pos hp]
          rw [List.take_length] at al1
          exact al1
    · have e : i = xs.length := by omega
      subst e
      refine .inl ⟨by rw [List.length_map] at w2; exact w2, q D _ _ (s2.trans sH) nD hacc ⟨acc, rfl, ?_, by rw [List.length_map]; omega⟩⟩
      rw [List.take_length] at al
      exact al
end
section
variable {σ : L2.St} {H : Hp} {ta : TE} {Ps : List Pr}
theorem y_lenT [s : StyL Ps] (ya : Y ta σ H (TP Ps)) : Y (tCB (rLenA K) (tCons ta tNil)) σ H (iP Ps.length) := fun H1 u Q q => ya H1 u _ fun v H2 s2 ⟨a, vs, e, ht, al, z⟩ => ⟨a, vs.length, by rw [e], .inr (.inl ⟨vs, ht.sq, rfl⟩), by rw [al.length]; exact q _ H2 s2 rfl⟩
theorem y_pa {x : Str} (ya : Y ta σ H (sP x)) : Y ta σ H (paP (some x)) := ya
theorem r_notInKd {a : Addr} {z : Str} (h : ∃ u, PySem.W.nsIn K a z = some (some u)) : R2s (fun x y H Q => ∃ (z : Str) (r : Option Value), x = .str z ∧ y = .ref a ∧ PySem.W.nsIn K a z = some r ∧ Q (.bl (!r.isSome)) H) (sP z) (eP (.ref a)) (bP false) := fun x y H1 h1 h2 Q q => by
  obtain ⟨u, hu⟩ := h
  exact ⟨z, some u, h1, h2, hu, q _ H1 (Same.refl _) rfl⟩
end
section
variable {X : Cx} {d : Addr}
theorem k_notIn_kd (hK : X.K = K) (hw : X.w = w) (h : ∃ es n, KDict K w d es n) : OpR X (compareOp .NotIn) (fun x y H Q => ∃ (z : Str) (r : Option Value), x = .str z ∧ y = .ref d ∧ PySem.W.nsIn K d z = some r ∧ Q (.bl (!r.isSome)) H) := by
  subst hK hw
  obtain ⟨es, n, D⟩ := h
  exact op_notIn_kd D
theorem k_item_kd (hK : X.K = K) (hw : X.w = w) (h : ∃ es n, KDict K w d es n) : OpR X getItem (fun x y H Q => ∃ (z : Str) (u0 : Value) (v0 : V), x = .ref d ∧ y = .str z ∧ PySem.W.nsIn K d z = some (some u0) ∧ RelV v0 u0 ∧ Q v0 H) := by
  subst hK hw
  obtain ⟨es, n, D⟩ := h
  exact op_item_kd D
end
theorem Tf.vals (T : Tf w K mg) : He.valsB K (He.ga K "TURNED") [("says", .str "hears"), ("hears", .str "says"), ("done", .str "done")] = true ∧ He.valsB K (He.ga K "SIZES") [("add", .int 4), ("drop", .int 3), ("lead", .int 4), ("put", .int 3), ("out", .int 2), ("begin", .int 2)] = true ∧
    PySem.W.kitOne K (.ref (He.ga K "Desk")) (.type "list") = some false ∧ PySem.W.kitOne K (.ref (He.ga K "Desk")) (.type "tuple") = some false := by
  have e := T.ex
  unfold exB at e
  simp only [Bool.and_eq_true, decide_eq_true_eq] at e
  obtain ⟨_, _, _, _, _, e6, e7, e8, e9⟩ := e
  exact ⟨e6, e7, e8, e9⟩
/-! ### is_row -/
structure SpR (r : Row) : Prop where
  kind : KindOk r.1
  fin : r.1 = "done" ↔ r.2 = []
  wd : ∀ t ∈ r.2, spT t.1 = true ∧ spT t.2 = true
  nd : (keys r.2).Nodup
theorem sp_len {x : Str} (h : spT x = true) : x.length ≤ 1000 := by
  unfold spT at h
  rw [Bool.and_eq_true, Bool.and_eq_true, decide_eq_true_eq, decide_eq_true_eq] at h
  omega
theorem Tf.kind (T : Tf w K mg) {k : Str} (h : KindOk k) : ∃ u, PySem.W.nsIn K (He.ga K "TURNED") k = some (some u) := by
  have hk : k ∈ (["says", "hears", "done"] : List Str) := h
  have hm : ∃ q ∈ ([("says", .str "hears"), ("hears", .str "says"), ("done", .str "done")] : List (Str × He.Dv)), q.1 = k := by
    rcases List.mem_cons.mp hk with e | hk
    · exact ⟨_, List.mem_cons_self .., e.symm⟩
    rcases List.mem_cons.mp hk with e | hk
    · exact ⟨_, List.mem_cons_of_mem _ (List.mem_cons_self ..), e.symm⟩
    · exact ⟨_, List.mem_cons_of_mem _ (List.mem_cons_of_mem _ (List.mem_cons_self ..)), (List.mem_singleton.mp hk).symm⟩
  obtain ⟨q, hq, rfl⟩ := hm
  obtain ⟨u, hu, _⟩ := He.valsB_ok T.vals.1 hq
  exact ⟨u, hu⟩
abbrev sp_is_row (K : PySem.W.Frag) : Sp := Sp1 rP (fun r => SpR r) (fun _ => bP true)
theorem ty_tup {Ps : List Pr} {v : V} {H : Hp} (h : TP Ps v H) : ∃ t, TyU K H v t ∧ PySem.W.kitOne K t (.type "tuple") = some true := by
  obtain ⟨a, vs, rfl, ht, _, _⟩ := h
  exact ⟨_, .inl (.tup ht), rfl⟩
theorem ty_str {x : Str} {v : V} {H : Hp} (h : sP x v H) : ∃ t, TyU K H v t ∧ PySem.W.kitOne K t (.type "str") = some true := by
  cases (show v = .str x from h)
  exact ⟨_, .inl (.str x), rfl⟩
theorem ty_dict {α : Type} {r : α → Pr} {d : List (Str × α)} {v : V} {H : Hp} (h : dP r d v H) : ∃ t, TyU K H v t ∧ PySem.W.kitOne K t (.type "dict") = some true := by
  obtain ⟨a, kvs, rfl, ⟨o, ht⟩, _, _⟩ := h
  exact ⟨_, .inl (.dK ht), rfl⟩
abbrev N_is_row : List Str := ["value", "word"]
theorem nd_is_row : N_is_row.Nodup := by decide
theorem c_is_row (T : Tf w K mg) : C8.Cal P w K mg base 2 "is_row" (sp_is_row K) [] := by
  refine T.cal (d := d_is_row) (N := N_is_row) (ps := ["value"]) 2 rfl rfl (by simp [fa, fa0, fa1, fa2, fa3]) rfl rfl (by decide +kernel) (len1 _) (fun _ _ _ _ _ _ us hl => match us, hl with | [_], _ => rfl) (fun f cdv A outer s H vs Q E hr hsp => ?_)
  obtain ⟨v_value, a_value, rfl, h_value, hok, hq⟩ := hsp
  refine ⟨_, (pss_cons (ps_if (PW.pt (pw_or (pt_not (pt_val (pe_callB (k_isiU T rfl) (by rfl) T.n_isinstance (by decide +kernel) (pa_cons (pv 0) (pa_cons (pe_bltn rfl T.n_tuple (by decide +kernel) (v := .ty "tuple") rfl) pa_nil))))) (pw_or (pt_cmpR op_ne (pe_callB (k_lenA (K := K) rfl) (by rfl) T.n_len (by decide +kernel) (pa_cons (pv 0) pa_nil)) pe_int (nomark _)) (pw_or1 (pt_not (pt_val (pe_callB (k_isiU T rfl) (by rfl) T.n_isinstance (by decide +kernel) (pa_cons (pe_ix (k_ix_tup (K := K) rfl) (pv 0) pe_int (fun _ _ => rfl)) (pa_cons (pe_bltn rfl T.n_str (by decide +kernel) (v := .ty "str") rfl) pa_nil))))))))) (pss_one (ps_ret pe_bl))
    pss_nil)
    (pss_cons (ps_if (PW.pt (pw_or (pt_cmpR (k_notIn_kd (K := K) rfl rfl T.kd_turned) (pe_ix (k_ix_tup (K := K) rfl) (pv 0) pe_int (fun _ _ => rfl)) (C8.pe_gc (v := .ref (He.ga K "TURNED")) rfl ⟨_, T.turned, rfl⟩) rfl) (pw_or (pt_not (pt_val (pe_callB (k_isiU T rfl) (by rfl) T.n_isinstance (by decide +kernel) (pa_cons (pe_ix (k_ix_tup (K := K) rfl) (pv 0) pe_int (fun _ _ => rfl)) (pa_cons (pe_bltn rfl T.n_dict (by decide +kernel) (v := .ty "dict") rfl) pa_nil))))) (pw_or1 (pt_cmpR op_ne (pe_cmpR op_eq (pe_ix (k_ix_tup (K := K) rfl) (pv 0) pe_int (fun _ _ => rfl)) pe_str (nomark _)) (pe_cmpR (op_eqE (hu0 hr)) (pe_ix (k_ix_tup (K := K) rfl) (pv 0) pe_int (fun _ _ => rfl)) pe_dnewK (nomark _)) (nomark _)))))) (pss_one (ps_ret pe_bl))
    pss_nil)
    (pss_one (ps_ret (pe_callB (k_all (K := K) rfl rfl) (by rfl) T.n_all (by decide +kernel) (pa_cons (pe_fz (pe_lc (own := [("word", 1)]) rfl nd_is_row (pi_keys (pe_ix (k_ix_tup (K := K) rfl) (pv 0) pe_int (fun _ _ => rfl))) (blkOk_by (own := [("word", 1)]) (by first | decide +kernel | rfl)) (fun _ _ _ _ _ => (pg_name (i := 1) nd_is_row rfl (Or.inl rfl))) (fun _ _ _ _ _ => pts_nil) (fun _ _ _ _ _ => (pe_and (C8.pe_c (c_is_spelt T) hr (by decide) rfl (pa_cons (pv 1) pa_nil)) (pe_one (C8.pe_c (c_is_spelt T) hr (by decide) rfl (pa_cons (pe_dget (hu_of hr) (pe_ix (k_ix_tup (K := K) rfl) (pv 0) pe_int (fun _ _ => rfl)) (pv 1) (fun _ _ => rfl)) pa_nil))))))) pa_nil)))))), ?_⟩
  refine ys_seq (ys_if (b := false) (Yt.eq (yt_or (yt_not (yt_b (y_isi (b := true) (y_var rfl h_value) fun v H h => ty_tup h))) fun b2 => (yt_or (yt_test (y_op r_neI (y_lenT (Ps := [sP a_value.1, dP sP a_value.2]) (y_var rfl h_value)) y_int)) fun b1 => (yt_not (yt_b (y_isi (b := true) (y_r0 (y_var rfl h_value)) fun v H h => ty_str h))))) ?_) (fun b3 H3 s3 => by cases b3) (fun b3 H3 s3 => ?_))
  · rfl
  refine nx_ (ys_seq (ys_if (b := false) (Yt.eq (yt_or (yt_test (y_op (r_notInKd (T.kind hok.kind)) (y_r0 (y_var rfl (up_ s3 h_value))) (y_c (P := eP (.ref (He.ga K "TURNED"))) fun _ => rfl))) fun b6 => (yt_or (yt_not (yt_b (y_isi (b := true) (y_r1 (y_var rfl (up_ s3 h_value))) fun v H h => ty_dict h))) fun b5 => (yt_test (y_op r_neB (y_op r_eqS (y_r0 (y_var rfl (up_ s3 h_value))) y_str) (y_eqE (y_r1 (y_var rfl (up_ s3 h_value)))))))) ?_) (fun b7 H7 s7 => by cases b7) (fun b7 H7 s7 => ?_)))
  · have fin := hok.fin
    by_cases e : a_value.2 = []
    · have e1 := fin.mpr e
      simp [e, e1]
    · have e1 : ¬ a_value.1 = "done" := fun z => e (fin.mp z)
      have e2 : a_value.2.isEmpty = false := by cases h : a_value.2 with | nil => exact absurd h e | cons _ _ => rfl
      simp [e1, e2]
  refine nx_ (ys_ret (y_cb b_all (y_fzl (yn_lc0 (r' := bP) (fun wd => spT wd && spT (look a_value.2 wd)) (yi_keys (y_r1 (y_var rfl (up_ (s3.trans s7) h_value)))) (fun x9 m9 v9 H9 s9 h9 => bd1 ⟨rfl, yt_yes, fun e9 => (y_and (y_call1 (y_pa (y_var rfl h9)) ?_) fun b10 => (y_call1 (y_pa (y_dget (y_r1 (y_var rfl (up_ ((s3.trans s7).trans s9) h_value))) (y_var rfl h9) m9)) ?_))⟩)))) fun v H11 s11 h => hq v _ ((s3.trans s7).trans s11) (bP_eq ?_ h))
  · intro s e
    cases e
    exact sp_len (hok.wd _ (look_mem m9)).1
  · intro s e
    cases e
    exact sp_len (hok.wd _ (look_mem m9)).2
  · rw [List.all_map, List.all_eq_true]
    intro wd hw
    have := hok.wd _ (look_mem hw)
    show (spT wd && spT (look a_value.2 wd)) = true
    rw [this.1, this.2]
    rfl
end En
set_option maxHeartbeats 4000000
/-! Books, desks made. -/
namespace En
open PySem PySem.Spec PyProof.Rows L2
variable {P : Program} {w : World} {K : PySem.W.Frag} {mg : Str → Option Value} {base : Heap}
/-- a book of spelt texts -/
structure SpB (b : Book) : Prop where
  wf : WfB b
  st : ∀ s ∈ keys b, spT s = true
  wd : ∀ r ∈ b, ∀ t ∈ r.2.2, spT t.1 = true
theorem SpB.row {b : Book} (h : SpB b) {r : Str × Row} (hr : r ∈ b) : SpR r.2 :=
  ⟨(h.wf.row r hr).kind, (h.wf.row r hr).fin, fun t ht => ⟨h.wd r hr t ht, h.st _ ((h.wf.row r hr).goals t ht)⟩, (h.wf.row r hr).nd⟩
abbrev sp_is_book (K : PySem.W.Frag) : Sp := Sp1 (dP rP) (fun b => SpB b ∧ b ≠ []) (fun _ => bP true)
theorem flat_goals {b : Book} : ∀ l : Book, (∀ r ∈ l, r.2.2.length < 64) → (flat (fun _ => true) (fun row : Row => row.2.map (·.2)) (fun _ g => has b g) (l.map (·.2))).length ≤ 64 * l.length
  | [], _ => Nat.zero_le _
  | r :: l, h => by
    have ih := flat_goals (b := b) l fun x hx => h x (List.mem_cons_of_mem _ hx)
    have h1 := h r (List.mem_cons_self ..)
    unfold flat at ih ⊢
    rw [List.map_cons, List.flatMap_cons, List.length_append, if_pos rfl, List.length_map, List.length_map, List.length_cons]
    omega
abbrev N_is_book : List Str := ["value", "state", "row", "kind", "turns", "goal"]
theorem nd_is_book : N_is_book.Nodup := by decide
theorem c_is_book (T : Tf w K mg) : C8.Cal P w K mg base 3 "is_book" (sp_is_book K) [] := by
  refine T.cal (d := d_is_book) (N := N_is_book) (ps := ["value"]) 3 rfl rfl (by simp [fa, fa0, fa1, fa2, fa3]) rfl rfl (by decide +kernel) (len1 _) (fun _ _ _ _ _ _ us hl => match us, hl with | [_], _ => rfl) (fun f cdv A outer s H vs Q E hr hsp => ?_)
  obtain ⟨v_value, a_value, rfl, h_value, hok, hq⟩ := hsp
  refine ⟨_, (pss_cons (ps_if (PW.pt (pw_or (pt_not (pt_val (pe_callB (k_isiU T rfl) (by rfl) T.n_isinstance (by decide +kernel) (pa_cons (pv 0) (pa_cons (pe_bltn rfl T.n_dict (by decide +kernel) (v := .ty "dict") rfl) pa_nil))))) (pw_or (pt_cmpR (op_eqE (hu0 hr)) (pv 0) pe_dnewK (nomark _)) (pw_or1 (pt_not (pt_val (pe_callB (k_all (K := K) rfl rfl) (by rfl) T.n_all (by decide +kernel) (pa_cons (pe_fz (pe_lc (own := [("state", 1)]) rfl nd_is_book (pi_keys (pv 0)) (blkOk_by (own := [("state", 1)]) (by first | decide +kernel | rfl)) (fun _ _ _ _ _ => (pg_name (i := 1) nd_is_book rfl (Or.inl rfl))) (fun _ _ _ _ _ => pts_nil) (fun _ _ _ _ _ => (C8.pe_c (c_is_spelt T) hr (by decide) rfl (pa_cons (pv 1) pa_nil))))) pa_nil)))))))) (pss_one (ps_ret pe_bl))
    pss_nil)
    (pss_cons (ps_if (pt_not (pt_val (pe_callB (k_all (K := K) rfl rfl) (by rfl) T.n_all (by decide +kernel) (pa_cons (pe_fz (pe_lc (own := [("row", 2)]) rfl nd_is_book (pi_values (pv 0)) (blkOk_by (own := [("row", 2)]) (by first | decide +kernel | rfl)) (fun _ _ _ _ _ => (pg_name (i := 2) nd_is_book rfl (Or.inl rfl))) (fun _ _ _ _ _ => pts_nil) (fun _ _ _ _ _ => (C8.pe_c (c_is_row T) hr (by decide) rfl (pa_cons (pv 2) pa_nil))))) pa_nil)))) (pss_one (ps_ret pe_bl))
    pss_nil)
    (pss_one (ps_ret (pe_callB (k_all (K := K) rfl rfl) (by rfl) T.n_all (by decide +kernel) (pa_cons (pe_fz (pe_lc2 (own := [("kind", 3), ("turns", 4), ("goal", 5)]) rfl nd_is_book (pi_values (pv 0)) (blkOk_by (own := [("kind", 3), ("turns", 4), ("goal", 5)]) (by first | decide +kernel | rfl)) (vs1 := [5]) (by decide) (fun _ _ _ _ _ => (k_pg_tup (K := K) (n := 2) rfl rfl (pgs_cons (pg_name (i := 3) nd_is_book rfl (Or.inl rfl)) (pgs_cons (pg_name (i := 4) nd_is_book rfl (Or.inl rfl)) pgs_nil)))) (fun _ _ _ _ _ => pts_nil) (fun _ _ _ _ _ => (pi_values (pv 4))) (fun _ _ _ _ _ => (pg_name (i := 5) nd_is_book rfl (Or.inl rfl))) (fun _ _ _ _ _ => pts_nil) (fun _ _ _ _ _ => (pe_cmp (pc_din (hu_of hr) (pv 5) (pv 0)) rfl)))) pa_nil)))))), ?_⟩
  have hne : a_value.isEmpty = false := by cases h : a_value with | nil => exact absurd h hok.2 | cons _ _ => rfl
  have h1 : (keys a_value).all (fun s => spT s) = true := List.all_eq_true.mpr hok.1.st
  refine ys_seq (ys_if (b := false) (Yt.eq (yt_or (yt_not (yt_b (y_isi (b := true) (y_var rfl h_value) fun v H h => ty_dict h))) fun b2 => (yt_or (yt_test (y_eqE (y_var rfl h_value))) fun b1 => (yt_not (yt_b (y_cb b_all (y_fzl (yn_lc0 (r' := bP) (fun s => spT s) (yi_keys (y_var rfl h_value)) (fun x1 m1 v1 H1 s1 h1 => bd1 ⟨rfl, yt_yes, fun e1 => (y_call1 (y_pa (y_var rfl h1)) ?_)⟩)))))))) ?_) (fun b3 H3 s3 => by cases b3) (fun b3 H3 s3 => ?_))
  · intro s e
    cases e
    exact sp_len (hok.1.st _ m1)
  · rw [hne, List.all_map]
    show (false || (false || !((keys a_value).all fun s => spT s))) = false
    rw [h1]
    rfl
  refine nx_ (ys_seq (ys_if (b := false) (Yt.eq (yt_not (yt_b (y_cb b_all (y_fzl (yn_lc0 (r' := bP) (fun _ => true) (yi_vals (y_var rfl (up_ s3 h_value))) (fun x1 m1 v1 H1 s1 h1 => bd1 ⟨rfl, yt_yes, fun e1 => (y_call1 (y_var rfl h1) ?_)⟩)))))) ?_) (fun b4 H4 s4 => by cases b4) (fun b4 H4 s4 => ?_)))
  · obtain ⟨r, hr, rfl⟩ := List.mem_map.mp m1
    exact hok.1.row hr
  · rw [List.all_map]
    show (!(List.all _ fun _ => true)) = false
    rw [List.all_eq_true.mpr (fun _ _ => rfl)]
    rfl
  refine nx_ (ys_ret (y_cb b_all (y_fzl (yn_lc2 (r := rP) (r1 := sP) (r' := bP) (fun _ => true) (fun row : Row => row.2.map (·.2)) (fun _ g => has a_value g) (yi_vals (y_var rfl (up_ (s3.trans s4) h_value))) (fun x m v1 H1 s1 h1 => ?_) ?_))) fun v H11 s11 h => hq v _ ((s3.trans s4).trans s11) (bP_eq ?_ h))
  · obtain ⟨a, v1, v2, rfl, ht, e1, e2⟩ := TP.two h1
    exact ⟨_, g_tup2 ht, rfl, yt_yes, fun _ => ⟨yi_vals (y_var rfl e2), fun y my v2 H2 s2 u2 h2 => bd1 ⟨rfl, yt_yes, fun _ => y_din (y_var rfl h2) (y_var rfl (up_ ((s3.trans s4).trans s2) h_value))⟩⟩⟩
  · have := flat_goals (b := a_value) a_value fun r hr => (hok.1.wf.row r hr).len
    have hl := hok.1.wf.len
    rw [sizeLine_eq]
    omega
  · rw [List.all_eq_true]
    intro x hx
    unfold flat at hx
    obtain ⟨row, hr, hx⟩ := List.mem_flatMap.mp hx
    rw [if_pos rfl] at hx
    obtain ⟨g, hg, rfl⟩ := List.mem_map.mp hx
    obtain ⟨r, hr2, rfl⟩ := List.mem_map.mp hr
    obtain ⟨t, ht, rfl⟩ := List.mem_map.mp hg
    exact has_iff.mpr ((hok.1.wf.row r hr2).goals t ht)
/-! ### copied -/
def normR (r : Row) : Row := (r.1, (sortS (keys r.2)).map fun wd => (wd, look r.2 wd))
def normB (b : Book) : Book := (sortS (keys b)).map fun s => (s, normR (look b s))
abbrev sp_copied : Sp := Sp1 rP (fun r => r.2.length < 64 ∧ (keys r.2).Nodup) (fun r => rP (normR r))
abbrev N_copied : List Str := ["row", "kind", "turns", "word"]
theorem nd_copied : N_copied.Nodup := by decide
theorem c_copied (T : Tf w K mg) : C8.Cal P w K mg base 1 "copied" sp_copied [] := by
  refine T.cal (d := d_copied) (N := N_copied) (ps := ["row"]) 4 rfl rfl (by simp [fa, fa0, fa1, fa2, fa3]) rfl rfl (by decide +kernel) (len1 _) (fun _ _ _ _ _ _ us hl => match us, hl with | [_], _ => rfl) (fun f cdv A outer s H vs Q E hr hsp => ?_)
  obtain ⟨v_row, a_row, rfl, h_row, hok, hq⟩ := hsp
  refine ⟨_, (pss_cons (ps_asg (pv 0) (k_pg_tup (K := K) (n := 2) rfl rfl (pgs_cons (pg_name (i := 1) nd_copied rfl (Or.inl rfl)) (pgs_cons (pg_name (i := 2) nd_copied rfl (Or.inr rfl)) pgs_nil))))
    (pss_one (ps_ret (pe_tup (pa_cons (pv 1) (pa_cons (pe_fz (pe_dc (own := [("word", 3)]) rfl nd_copied (k_list (K := K) rfl (pe_fz (pe_callB (call_sortedD rfl) (by rfl) T.n_sorted (by decide +kernel) (pa_cons (pv 2) pa_nil)))) (blkOk_by (own := [("word", 3)]) (by first | decide +kernel | rfl)) (fun _ _ _ _ _ => (pg_name (i := 3) nd_copied rfl (Or.inl rfl))) (fun _ _ _ _ _ => pts_nil) (fun _ _ _ _ _ => (pv 3)) (fun _ _ _ _ _ => (pe_dget (hu_of hr) (pv 2) (pv 3) (fun _ _ => rfl))))) pa_nil)))))), ?_⟩
  -- kind, turns = row
  refine ys_seq (ys_tup2 (y_var rfl h_row) fun v_kind v_turns H1 s1 h_kind h_turns => ?_)
  -- return (kind, {word: turns[word] for word in sorted(turns)})
  refine ys_ret (y_row (ya_cons (y_var rfl h_kind) (ya_cons (y_fzD (yn_dc0 (r' := sP)  _ _ (yi_l (y_fzl (yn_sortedD (y_var rfl h_turns) ?_))) (fun x2 m2 v2 H2 s2 h2 => bk1 ⟨rfl, yt_yes, fun e2 => ⟨(y_var rfl h2), (y_dget (y_var rfl (up_ s2 h_turns)) (y_var rfl h2) ?_)⟩⟩) ?_)) ya_nil))) fun v H3 s3 h => ?_
  · exact hok.1
  · exact mem_sortS.mp m2
  · rw [List.map_id']; exact ((sortS_perm _).nodup_iff).mpr hok.2
  exact hq v _ (s1.trans s3) (by exact h)
/-! ### Desk(..) -/
section
variable {H : Hp} {x C dx : Addr} {fs : List (Str × V)} {o : HO} (hx : H x = some (.ins C dx fs))
include hx
theorem tr_dP {α : Type} {r : α → Pr} (h : ∀ y v, r y v H → r y v (upd H x o)) {d : List (Str × α)} {v : V} (p : dP r d v H) : dP r d v (upd H x o) := by
  obtain ⟨a, kvs, rfl, ⟨ob, h1⟩, h2, h3⟩ := p
  have ne : a ≠ x := fun e => by rw [e, hx] at h1; cases h1
  refine ⟨a, kvs, rfl, ⟨ob, by rw [L2.upd_ne ne]; exact h1⟩, ?_, h3⟩
  clear h1 h3
  induction d generalizing kvs with
  | nil => cases kvs with
    | nil => trivial
    | cons _ _ => exact h2
  | cons y d ih => cases kvs with
    | nil => exact h2
    | cons k kvs => exact ⟨h2.1, h _ _ h2.2.1, ih _ h2.2.2⟩
theorem tr_sP {s : Str} {v : V} (p : sP s v H) : sP s v (upd H x o) := p
theorem tr_rP {r : Row} {v : V} (p : rP r v H) : rP r v (upd H x o) := by
  obtain ⟨a, vs, rfl, h1, h2, h3⟩ := p
  have ne : a ≠ x := fun e => by
    have h1 : H a = some (.tup vs) := h1
    rw [e, hx] at h1
    cases h1
  refine ⟨a, vs, rfl, ?_, ?_, h3⟩
  · show upd H x o a = _
    rw [L2.upd_ne ne]
    exact h1
  · obtain ⟨v1, v2, rfl, p1, p2⟩ := al2 h2
    exact ⟨p1, tr_dP hx (r := sP) (fun _ _ p => p) p2, trivial⟩
end
section
variable {σ : L2.St} {H : Hp} {D : Ends} {tv ta tb : TE} {i : Nat}
theorem ys_fldY {P1 : Pr} {C a dx : Addr} {f : Str} {fs : List (Str × V)} {gs : V → List (Str × V)} (ei : σ[i]? = some (some (.ref a))) (y : Y tv σ H P1) (ha : H a = some (.ins C dx fs)) (c : Cls K C) (n : NoAttr K C f) (l : fs.length < 1000) (e : ∀ v, putF f v fs = gs v)
    (q : ∀ v H2, Same H H2 → P1 v H2 → D.nx σ (upd H2 a (.ins C dx (gs v)))) : sFld K (tVar i) tv f D σ H := y H (Same.refl _) _ fun v H2 s2 p => ⟨.ref a, ei, a, C, dx, fs, rfl, s2 _ _ ha, c, n, l, by rw [e]; exact q v H2 s2 p⟩
end
def sp_Desk_init (K : PySem.W.Frag) : Sp := fun vs H Q E => ∃ x dx vb b st, vs = [.ref x, vb, .str st] ∧ H x = some (.ins (cDesk K) dx []) ∧ dP rP b vb H ∧ SpB b ∧ st ∈ keys b ∧ ∀ vr H1, Same H H1 → dP rP (normB b) vr H1 → Q .non (upd H1 x (.ins (cDesk K) dx [("rows", vr), ("first", .str st)]))
abbrev N_Desk_init : List Str := ["self", "book", "start", "state"]
theorem nd_Desk_init : N_Desk_init.Nodup := by decide
theorem m_Desk (T : Tf w K mg) : C8.Mak P w K mg base 4 "Desk" (cDesk K) (sp_Desk_init K) [] := by
  refine T.mak (c := "Desk") (d := d_Desk_init) (N := N_Desk_init) (ps := ["self", "book", "start"]) 5 rfl rfl (by simp [fa, fa0, fa1, fa2, fa3]) (by simp [fa, fa0, fa1, fa2, fa3]) rfl rfl (by decide +kernel) (fun vs H Q E h => by obtain ⟨_, _, _, _, _, rfl, _⟩ := h; rfl) (fun _ _ _ _ _ _ us hl => match us, hl with | [_, _, _], _ => rfl) (fun f cdv A outer s H vs Q E hr hsp => ?_)
  obtain ⟨x, dx, v_book, b, st, rfl, hx, h_book, hb, hst, hq⟩ := hsp
  refine ⟨_, (pss_cons (ps_if (pt_not (pt_val (C8.pe_c (c_is_book T) hr (by decide) rfl (pa_cons (pv 1) pa_nil)))) (pss_one ps_never)
    pss_nil)
    (pss_cons (ps_if (PW.pt (pw_or (pt_not (pt_val (C8.pe_c (c_is_spelt T) hr (by decide) rfl (pa_cons (pv 2) pa_nil)))) (pw_or1 (pt_cmp (pc_dnotin (hu_of hr) (pv 2) (pv 1)) rfl)))) (pss_one ps_never)
    pss_nil)
    (pss_cons (k_psf (K := K) rfl (pv 0) (pe_fz (pe_dc (own := [("state", 3)]) rfl nd_Desk_init (k_list (K := K) rfl (pe_fz (pe_callB (call_sortedD rfl) (by rfl) T.n_sorted (by decide +kernel) (pa_cons (pv 1) pa_nil)))) (blkOk_by (own := [("state", 3)]) (by first | decide +kernel | rfl)) (fun _ _ _ _ _ => (pg_name (i := 3) nd_Desk_init rfl (Or.inl rfl))) (fun _ _ _ _ _ => pts_nil) (fun _ _ _ _ _ => (pv 3)) (fun _ _ _ _ _ => (C8.pe_c (c_copied T) hr (by decide) rfl (pa_cons (pe_dget (hu_of hr) (pv 1) (pv 3) (fun _ _ => rfl)) pa_nil))))) rfl)
    (pss_one (k_psf (K := K) rfl (pv 0) (pv 2) rfl))))), ?_⟩
  have hne : b ≠ [] := fun e => by rw [e] at hst; cases hst
  have h_start : sP st (.str st) H := rfl
  refine ys_seq (ys_if (b := false) (Yt.eq (yt_not (yt_b (y_call1 (y_var rfl h_book) ⟨hb, hne⟩))) rfl) (fun b1 H1 s1 => by cases b1) (fun b1 H1 s1 => ?_))
  refine nx_ (ys_seq (ys_if (b := false) (Yt.eq (yt_or (yt_not (yt_b (y_call1 (y_pa (y_var rfl (up_ s1 h_start))) ?_))) fun b2 => (yt_b (y_dnotin (y_var rfl (up_ s1 h_start)) (y_var rfl (up_ s1 h_book))))) ?_) (fun b3 H3 s3 => by cases b3) (fun b3 H3 s3 => ?_)))
  · intro s e
    cases e
    exact sp_len (hb.st _ hst)
  · show (!spT st || !has b st) = false
    rw [hb.st _ hst, has_iff.mpr hst]
    rfl
  refine nx_ (ys_seq (ys_fldY (gs := fun v => [("rows", v)]) rfl (y_fzD (yn_dc0 (r' := rP) (fun s => s) (fun s => normR (look b s)) (yi_l (y_fzl (yn_sortedD (y_var rfl (up_ (s1.trans s3) h_book)) hb.wf.len))) (fun x4 m4 v4 H4 s4 h4 => bk1 ⟨rfl, yt_yes, fun e4 => ⟨(y_var rfl h4), (y_call1 (y_dget (y_var rfl (up_ ((s1.trans s3).trans s4) h_book)) (y_var rfl h4) (mem_sortS.mp m4)) ⟨(hb.wf.at (mem_sortS.mp m4)).len, (hb.wf.at (mem_sortS.mp m4)).nd⟩)⟩⟩) ?_)) ((s1.trans s3) _ _ hx) T.clsD T.naR (by simp) (fun _ => rfl) fun vr H5 s5 h5 => ?_))
  · rw [List.map_id']
    exact ((sortS_perm _).nodup_iff).mpr hb.wf.nd
  refine nx_ (ys_fld (gs := [("rows", vr), ("first", .str st)]) rfl rfl L2.upd_same T.clsD T.naF (by simp) rfl ?_)
  rw [L2.upd_upd]
  exact hq vr H5 ((s1.trans s3).trans s5) h5
section
variable {σ : L2.St} {H : Hp} {ta tb : TE}
theorem y_mkDesk {b : Book} {st : Str} (y1 : Y ta σ H (dP rP b)) (y2 : Y tb σ H (sP st)) (hb : SpB b) (hs : st ∈ keys b) : Y (tMake (cDesk K) (sp_Desk_init K) [] E0 (tCons ta (tCons tb tNil))) σ H (dkP K (normB b, st)) := fun H1 u Q q =>
  y1 H1 u _ fun v1 H2 s2 p1 => y2 H2 (u.trans s2) _ fun v2 H3 s3 p2 => fun x dx hx hdx hne => by
    have s5 : Same H3 (upd (upd H3 dx (.own x)) x (.ins (cDesk K) dx [])) := by
      refine (same_new (.own x) hdx).trans (same_new _ ?_)
      rw [L2.upd_ne (fun e => hne e.symm)]
      exact hx
    cases (show v2 = .str st from p2)
    refine ⟨x, dx, v1, b, st, rfl, L2.upd_same, up_ (s3.trans s5) p1, hb, hs, fun vr H6 s6 h6 => ⟨rfl, q _ _ ((s2.trans s3).trans (same_mut _ (s5.trans s6) hx)) ⟨x, dx, vr, rfl, L2.upd_same, ?_⟩⟩⟩
    exact tr_dP (s6 _ _ L2.upd_same) (fun y v p => tr_rP (s6 _ _ L2.upd_same) p) h6
end
end En
set_option maxHeartbeats 4000000
/-! words_at, are_left. -/
namespace En
open PySem PySem.Spec PyProof.Rows L2
variable {P : Program} {w : World} {K : PySem.W.Frag} {mg : Str → Option Value} {base : Heap}
def wordsAt (b : Book) (k : Str) : List (Str × Str) := flat (fun r : Str × Row => decide (r.2.1 = k)) (fun r => keys r.2.2) (fun r wd => (r.1, wd)) b
theorem wordsAt_len {k : Str} : ∀ l : Book, (∀ r ∈ l, r.2.2.length < 64) → (wordsAt l k).length ≤ 64 * l.length
  | [], _ => Nat.zero_le _
  | r :: l, h => by
    have ih := wordsAt_len (k := k) l fun x hx => h x (List.mem_cons_of_mem _ hx)
    have h1 := h r (List.mem_cons_self ..)
    unfold wordsAt flat at ih ⊢
    rw [List.flatMap_cons, List.length_append, List.length_cons]
    have h2 : (if decide (r.2.1 = k) = true then (keys r.2.2).map (fun wd => (r.1, wd)) else []).length ≤ 64 := by
      split
      · rw [List.length_map, keys_length]
        omega
      · exact Nat.zero_le _
    refine Nat.le_trans (Nat.add_le_add h2 ih) ?_
    omega
abbrev sp_words_at (K : PySem.W.Frag) : Sp := Sp2 (dkP K) sP (fun d _ => WfB d.1) (fun d k => lP pP (wordsAt d.1 k))
abbrev N_words_at : List Str := ["desk", "kind", "state", "row", "word"]
theorem nd_words_at : N_words_at.Nodup := by decide
theorem c_words_at (T : Tf w K mg) : C8.Cal P w K mg base 1 "words_at" (sp_words_at K) [] := by
  refine T.cal (d := d_words_at) (N := N_words_at) (ps := ["desk", "kind"]) 14 rfl rfl (by simp [fa, fa0, fa1, fa2, fa3]) rfl rfl (by decide +kernel) (len2 _ _) (fun _ _ _ _ _ _ us hl => match us, hl with | [_, _], _ => rfl) (fun f cdv A outer s H vs Q E hr hsp => ?_)
  obtain ⟨v_desk, v_kind, a_desk, a_kind, rfl, h_desk, h_kind, hok, hq⟩ := hsp
  refine ⟨_, (pss_one (ps_ret (pe_fz (pe_lc2 (own := [("state", 2), ("row", 3), ("word", 4)]) rfl nd_words_at (pi_items (k_fld (K := K) rfl (pv 0) rfl)) (blkOk_by (own := [("state", 2), ("row", 3), ("word", 4)]) (by first | decide +kernel | rfl)) (vs1 := [4]) (by decide) (fun _ _ _ _ _ => (k_pg_tup (K := K) (n := 2) rfl rfl (pgs_cons (pg_name (i := 2) nd_words_at rfl (Or.inl rfl)) (pgs_cons (pg_name (i := 3) nd_words_at rfl (Or.inl rfl)) pgs_nil)))) (fun _ _ _ _ _ => (pts_one (pt_cmpR op_eq (pe_ix (k_ix_tup (K := K) rfl) (pv 3) pe_int (fun _ _ => rfl)) (pv 1) (nomark _)))) (fun _ _ _ _ _ => (pi_keys (pe_ix (k_ix_tup (K := K) rfl) (pv 3) pe_int (fun _ _ => rfl)))) (fun _ _ _ _ _ => (pg_name (i := 4) nd_words_at rfl (Or.inl rfl))) (fun _ _ _ _ _ => pts_nil) (fun _ _ _ _ _ => (pe_tup (pa_cons (pv 2) (pa_cons (pv 4) pa_nil)))))))), ?_⟩
  refine ys_ret (y_fzl (yn_lc2 (r := itP rP) (r1 := sP) (r' := pP) (fun r : Str × Row => decide (r.2.1 = a_kind)) (fun r => keys r.2.2) (fun r wd => (r.1, wd)) (yi_items (y_rows T (y_var rfl h_desk))) (fun x m v1 H1 s1 h1 => ?_) ?_)) fun v H11 s11 h => hq v _ s11 h
  · obtain ⟨a, v1, v2, rfl, ht, e1, e2⟩ := TP.two h1
    exact ⟨_, g_tup2 ht, rfl, yt_test (y_op r_eqS (y_r0 (y_var rfl e2)) (y_var rfl (up_ s1 h_kind))), fun _ => ⟨yi_keys (y_r1 (y_var rfl e2)), fun y my v2 H2 s2 u2 h2 => bd1 ⟨rfl, yt_yes, fun _ => y_pair (ya_cons (y_var rfl (Sty.up (P := sP x.1) u2 e1)) (ya_cons (y_var rfl h2) ya_nil))⟩⟩⟩
  · have := wordsAt_len (k := a_kind) a_desk.1 fun r hr => (hok.row r hr).len
    have hl := hok.len
    show (wordsAt a_desk.1 a_kind).length < _
    rw [sizeLine_eq]
    omega
abbrev sp_are_left (K : PySem.W.Frag) : Sp := Sp2 (dkP K) (glP pP) (fun d lot => WfB d.1 ∧ ∀ y ∈ lot, OkP y) (fun d lot => bP (leaves d.1 lot))
abbrev N_are_left : List Str := ["desk", "some", "state", "kind", "turns", "word"]
theorem nd_are_left : N_are_left.Nodup := by decide
theorem c_are_left (T : Tf w K mg) : C8.Cal P w K mg base 1 "are_left" (sp_are_left K) [] := by
  refine T.cal (d := d_are_left) (N := N_are_left) (ps := ["desk", "some"]) 15 rfl rfl (by simp [fa, fa0, fa1, fa2, fa3]) rfl rfl (by decide +kernel) (len2 _ _) (fun _ _ _ _ _ _ us hl => match us, hl with | [_, _], _ => rfl) (fun f cdv A outer s H vs Q E hr hsp => ?_)
  obtain ⟨v_desk, v_some, a_desk, a_some, rfl, h_desk, h_some, hok, hq⟩ := hsp
  refine ⟨_, (pss_cons (ps_for PassesOwn.never rfl (pi_items (k_fld (K := K) rfl (pv 0) rfl)) (k_pg_tup (K := K) (n := 2) rfl rfl (pgs_cons (pg_name (i := 2) nd_are_left rfl (Or.inr rfl)) (pgs_cons (k_pg_tup (K := K) (n := 2) rfl rfl (pgs_cons (pg_name (i := 3) nd_are_left rfl (Or.inl rfl)) (pgs_cons (pg_name (i := 4) nd_are_left rfl (Or.inl rfl)) pgs_nil))) pgs_nil)))
    (pss_one (ps_if (PW.pt (pw_and (pt_cmpR (op_neE (hu0 hr)) (pv 4) pe_dnewK (nomark _)) (pw_and1 (pt_val (pe_callB (k_all (K := K) rfl rfl) (by rfl) T.n_all (by decide +kernel) (pa_cons (pe_fz (pe_lc (own := [("word", 5)]) rfl nd_are_left (pi_keys (pv 4)) (blkOk_by (own := [("word", 5)]) (by first | decide +kernel | rfl)) (fun _ _ _ _ _ => (pg_name (i := 5) nd_are_left rfl (Or.inl rfl))) (fun _ _ _ _ _ => pts_nil) (fun _ _ _ _ _ => (pe_cmpR (k_inD (K := K) rfl (hu65 hr)) (pe_tup (pa_cons (pv 2) (pa_cons (pv 5) pa_nil))) (pv 1) rfl)))) pa_nil)))))) (pss_one (ps_ret pe_bl))
    pss_nil)))
    (pss_one (ps_ret pe_bl))), ?_⟩
  obtain ⟨wf, okl⟩ := hok
  refine ys_seq (ys_for (yi_items (y_rows T (y_var rfl h_desk))) fun H1 s1 => ⟨fun i σ' H' => (∃ a b c d, σ' = [some v_desk, some v_some, a, b, c, d]) ∧ Same H1 H' ∧ (a_desk.1.take i).all (fun r => r.2.2.isEmpty || !(keys r.2.2).all fun wd => decide ((r.1, wd) ∈ a_some)) = true, ⟨⟨_, _, _, _, rfl⟩, Same.refl _, rfl⟩, fun i σ' H' p => up_same p.2.1, ?_, ?_⟩)
  · rintro i x σ' H' hx ⟨⟨a, b, c, d, rfl⟩, sH, pre⟩ v H2 s2 h_it
    have hm := mem_at hx
    have row := wf.row x hm
    obtain ⟨p1, v1, v2, rfl, ht, h_state, h2⟩ := TP.two h_it
    obtain ⟨p2, v3, v4, rfl, ht', h_kind, h_turns⟩ := TP.two h2
    refine g_tup12 ht ht' _ ?_
    have s02 := (s1.trans sH).trans s2
    refine (ys_if (yt_and (yt_test (y_neE (y_var rfl h_turns))) fun b3 => (yt_b (y_cb b_all (y_fzl (yn_lc0 (r' := bP) (fun wd => decide ((x.1, wd) ∈ a_some)) (yi_keys (y_var rfl h_turns)) (fun x2 m2 v2 H2 s2' h2 => bd1 ⟨rfl, yt_yes, fun e2 => (y_op (r_inP ⟨row.ok, ?_⟩ okl) (y_pair (ya_cons (y_var rfl (up_ s2' h_state)) (ya_cons (y_var rfl h2) ya_nil))) (y_var rfl (up_ (s02.trans s2') h_some)))⟩)))))) (fun b4 H4 s4 => ?_) (fun b4 H4 s4 => ?_))
    · obtain ⟨t, ht, e⟩ := List.mem_map.mp m2
      rw [← e]
      exact row.words t ht
    · refine ys_ret y_bl fun v H5 s5 h => ?_
      refine hq v _ ((s02.trans s4).trans s5) (bP_eq ?_ h)
      unfold leaves
      rw [eq_comm, List.all_eq_false]
      refine ⟨_, hm, ?_⟩
      simpa [List.all_map, Function.comp_def] using b4
    · refine ⟨⟨_, _, _, _, rfl⟩, (sH.trans s2).trans s4, ?_⟩
      rw [take_one hx, List.all_append, pre, Bool.true_and, List.all_cons, List.all_nil, Bool.and_true]
      rw [Bool.and_eq_false_iff] at b4
      rcases b4 with e | e
      · simp at e
        simp [e]
      · rw [List.all_map] at e
        rw [Bool.or_eq_true]
        right
        simpa [Function.comp_def] using e
  · rintro σ' H' ⟨⟨a, b, c, d, rfl⟩, sH, pre⟩
    refine nx_ (ys_ret y_bl fun v H5 s5 h => ?_)
    refine hq v _ ((s1.trans sH).trans s5) (bP_eq ?_ h)
    unfold leaves
    rw [List.take_length] at pre
    rw [pre]
end En
set_option maxHeartbeats 4000000
/-! without. -/
namespace En
open PySem PySem.Spec PyProof.Rows L2
variable {P : Program} {w : World} {K : PySem.W.Frag} {mg : Str → Option Value} {base : Heap}
section
variable {σ : L2.St} {H : Hp} {D : Ends} {tb : TE} {i : Nat} {p : Addr}
theorem ys_retMk {b : Book} {st : Str} (e : σ[i]? = some (some (.ref p))) (m : Md rP b p H) (ys : ∀ H2, Mx [p] H H2 → Y tb σ H2 (sP st)) (hb : SpB b) (hs : st ∈ keys b) (q : ∀ v H2, Mx [p] H H2 → dkP K (normB b, st) v H2 → D.rt v H2) :
    tRet (tMake (cDesk K) (sp_Desk_init K) [] E0 (tCons (tFz (tVar i)) (tCons tb tNil))) D σ H :=
  y_fzMd e m _ fun v H2 mx h => (y_mkDesk (y_cs h) (ys H2 mx) hb hs) H2 (Same.refl _) _ fun u H3 s3 p3 => q u H3 (mx.trans (Mx.of s3)) p3
end
theorem cut_eq {s : Str} {lot : List (Str × Str)} {r : Row} (nd : (keys r.2).Nodup) : ((r.2.filter fun x => !decide ((s, x.1) ∈ lot)).map fun x => (x.1, x.2)) = (cutRow s lot r).2 := by
  unfold cutRow keys
  rw [List.filter_map, List.map_map]
  refine List.map_congr_left fun x hx => ?_
  show (x.1, x.2) = (x.1, look r.2 x.1)
  rw [look_of nd (show (x.1, x.2) ∈ r.2 from (List.mem_filter.mp hx).1)]
theorem cutB_eq {b : Book} {lot : List (Str × Str)} (nd : (keys b).Nodup) : (b.map fun r => (r.1, cutRow r.1 lot r.2)) = cutB b lot := by
  unfold cutB keys
  rw [List.map_map]
  refine List.map_congr_left fun x hx => ?_
  show (x.1, cutRow x.1 lot x.2) = (x.1, cutRow x.1 lot (look b x.1))
  rw [look_of nd (show (x.1, x.2) ∈ b from hx)]
theorem sp_cut {b : Book} {lot : List (Str × Str)} (h : SpB b) (hl : leaves b lot = true) : SpB (cutB b lot) := by
  refine ⟨wf_cut h.wf hl, fun s hs => h.st s (by rw [keys_cutB] at hs; exact hs), fun r hr t ht => ?_⟩
  unfold cutB at hr
  obtain ⟨s, hs, rfl⟩ := List.mem_map.mp hr
  have ht : t ∈ (cutRow s lot (look b s)).2 := ht
  unfold cutRow at ht
  obtain ⟨wd, hw, rfl⟩ := List.mem_map.mp ht
  have hk := (List.mem_filter.mp hw).1
  exact h.wd _ (look_mem hs) _ (look_mem hk)
abbrev sp_without (K : PySem.W.Frag) : Sp := Sp2 (dkP K) (glP pP) (fun d lot => SpB d.1 ∧ d.2 ∈ keys d.1 ∧ (∀ y ∈ lot, OkP y) ∧ leaves d.1 lot = true) (fun d lot => dkP K (normB (cutB d.1 lot), d.2))
abbrev N_without : List Str := ["desk", "some", "book", "state", "kind", "turns", "word", "goal"]
theorem nd_without : N_without.Nodup := by decide
theorem c_without (T : Tf w K mg) : C8.Cal P w K mg base 6 "without" (sp_without K) [] := by
  refine T.cal (d := d_without) (N := N_without) (ps := ["desk", "some"]) 16 rfl rfl (by simp [fa, fa0, fa1, fa2, fa3]) rfl rfl (by decide +kernel) (len2 _ _) (fun _ _ _ _ _ _ us hl => match us, hl with | [_, _], _ => rfl) (fun f cdv A outer s H vs Q E hr hsp => ?_)
  obtain ⟨v_desk, v_some, a_desk, a_some, rfl, h_desk, h_some, hok, hq⟩ := hsp
  refine ⟨_, (pss_cons (ps_set (i := 2) nd_without rfl (Or.inl rfl) pe_dnewK)
    (pss_cons (ps_for PassesOwn.never rfl (pi_items (k_fld (K := K) rfl (pv 0) rfl)) (k_pg_tup (K := K) (n := 2) rfl rfl (pgs_cons (pg_name (i := 3) nd_without rfl (Or.inr rfl)) (pgs_cons (k_pg_tup (K := K) (n := 2) rfl rfl (pgs_cons (pg_name (i := 4) nd_without rfl (Or.inl rfl)) (pgs_cons (pg_name (i := 5) nd_without rfl (Or.inl rfl)) pgs_nil))) pgs_nil)))
    (pss_one (ps_dput (hu_of hr) (pv 2) (pv 3) (pe_tup (pa_cons (pv 4) (pa_cons (pe_fz (pe_dc (own := [("word", 6), ("goal", 7)]) rfl nd_without (pi_items (pv 5)) (blkOk_by (own := [("word", 6), ("goal", 7)]) (by first | decide +kernel | rfl)) (fun _ _ _ _ _ => (k_pg_tup (K := K) (n := 2) rfl rfl (pgs_cons (pg_name (i := 6) nd_without rfl (Or.inl rfl)) (pgs_cons (pg_name (i := 7) nd_without rfl (Or.inl rfl)) pgs_nil)))) (fun _ _ _ _ _ => (pts_one (pt_cmpR (k_notInD (K := K) rfl (hu65 hr)) (pe_tup (pa_cons (pv 3) (pa_cons (pv 6) pa_nil))) (pv 1) rfl))) (fun _ _ _ _ _ => (pv 6)) (fun _ _ _ _ _ => (pv 7)))) pa_nil))) rfl)))
    (pss_one (ps_ret (C8.pe_mk (m_Desk T) hr (by decide) rfl (pa_cons (pe_fz (pv 2)) (pa_cons (k_fld (K := K) rfl (pv 0) rfl) pa_nil))))))), ?_⟩
  obtain ⟨hb, hs, okl, hl⟩ := hok
  refine ys_seq (ys_new (yn_newK (r := rP)) fun p H1 u0 s1 np e0 i0 => ?_)
  have md0 : Md rP [] p H1 := Md.of e0 i0 List.nodup_nil
  refine nx_ (ys_seq (ys_for (yi_items (y_rows T (y_var rfl (up_ s1 h_desk)))) fun H2 s2 => ⟨fun i σ' H' => (∃ a b c d e, σ' = [some v_desk, some v_some, some (.ref p), a, b, c, d, e]) ∧ Mx [p] H2 H' ∧ Md rP ((a_desk.1.take i).map fun r => (r.1, cutRow r.1 a_some r.2)) p H', ⟨⟨_, _, _, _, _, rfl⟩, Mx.rfl, md0.same s2⟩, fun i σ' H' p' => p'.2.1.up (oneq (md0.same s2).ni), ?_, ?_⟩))
  · rintro i x σ' H' hx ⟨⟨a, b, c, d, e, rfl⟩, mx, md⟩ v H3 s3 h_it
    have hm := mem_at hx
    have row := hb.wf.row x hm
    obtain ⟨p1, v1, v2, rfl, ht, h_state, h2⟩ := TP.two h_it
    obtain ⟨p2, v3, v4, rfl, ht', h_kind, h_turns⟩ := TP.two h2
    refine g_tup12 ht ht' _ ?_
    have s03 : Same H H3 := (mx.same (s1.trans s2) (oneq np)).trans s3
    refine ys_dput (k := x.1) (x := cutRow x.1 a_some x.2) (y_row (ya_cons (y_var rfl h_kind) (ya_cons (Y_eq (r := dP sP) (cut_eq row.nd) (y_fzD (yn_dc (r' := sP) (fun t : Str × Str => !decide ((x.1, t.1) ∈ a_some)) (fun t => t.1) (fun t => t.2) (yi_items (y_var rfl h_turns)) (fun x3 m3 v5 H5 s5 h3 => bk2 h3 fun v3a v3b h3a h3b => ⟨rfl, (yt_test (y_op (r_notInP ⟨row.ok, row.words _ m3⟩ okl) (y_pair (ya_cons (y_var rfl (up_ s5 h_state)) (ya_cons (y_var rfl h3a) ya_nil))) (y_var rfl (up_ (s03.trans s5) h_some)))), fun e3 => ⟨(y_var rfl h3a), (y_var rfl h3b)⟩⟩) ?_))) ya_nil))) rfl (md.same s3) (y_var rfl h_state) ?_ (fun H7 mx7 md7 => ?_)
    · exact List.Nodup.sublist (List.Sublist.map _ (List.filter_sublist ..)) row.nd
    · rw [List.length_map, List.length_take]
      have := hb.wf.len
      omega
    · refine ⟨⟨_, _, _, _, _, rfl⟩, (mx.trans (Mx.of s3)).trans mx7, ?_⟩
      have hk : (keys a_desk.1)[i]? = some x.1 := by
        unfold keys
        rw [List.getElem?_map, hx]
        rfl
      have hn : x.1 ∉ keys ((a_desk.1.take i).map fun r => (r.1, cutRow r.1 a_some r.2)) := by
        rw [keys_mk]
        have := not_mem_take hb.wf.nd hk
        unfold keys at this
        rw [← List.map_take] at this
        exact this
      rw [put_new hn] at md7
      rw [take_one hx, List.map_append]
      exact md7
  · rintro σ' H' ⟨⟨a, b, c, d, e, rfl⟩, mx, md⟩
    rw [List.take_length, cutB_eq hb.wf.nd] at md
    have s0' : Same H H' := mx.same (s1.trans s2) (oneq np)
    refine nx_ (ys_retMk rfl md (fun H3 mx3 => y_first T (y_var rfl (up_ (mx3.same s0' (oneq np)) h_desk))) (sp_cut hb hl) (by rw [keys_cutB]; exact hs) fun v H3 mx3 h => hq v _ (mx3.same s0' (oneq np)) h)
end En
set_option maxHeartbeats 4000000
/-! is_ascending, is_word_at. -/
namespace En
open PySem PySem.Spec PyProof.Rows L2
variable {P : Program} {w : World} {K : PySem.W.Frag} {mg : Str → Option Value} {base : Heap}
section
variable {σ : L2.St} {H : Hp} {ta tb : TE}
/-- range(1, n) -/
theorem yi_range2 {n : Nat} (y1 : Y ta σ H (iP 1)) (y2 : Y tb σ H (iP n)) (hn : n ≤ 1000000) : Yi (iRng2 (tCons ta (tCons tb tNil))) σ H ((List.range (n - 1)).map fun i : Nat => iP ((i : Int) + 1)) := fun H1 u R q => y1 H1 u _ fun v1 H2 s2 p1 => y2 H2 (u.trans s2) _ fun v H3 s3 p => by
  refine ⟨1, n, by rw [show v = .int n from p, show v1 = .int 1 from p1], by omega, q _ H3 (s2.trans s3) (fun H4 u4 => ⟨fun i P hP => ?_, ?_⟩) (by rw [List.length_map, List.length_range, sizeLine_eq]; omega)⟩
  · obtain ⟨j, hj, rfl⟩ := nth_map hP
    obtain ⟨h1, h2⟩ := List.getElem?_eq_some_iff.mp hj
    rw [List.getElem_range] at h2
    subst h2
    refine ⟨by rw [List.length_range] at h1; rw [show ((n : Int) - 1).toNat = n - 1 by omega]; exact h1, fun x H5 ⟨e5, ex⟩ => ?_⟩
    subst e5
    exact ⟨Same.refl _, by rw [ex]; show V.int _ = V.int _; congr 1; omega⟩
  · show ((n : Int) - 1).toNat ≤ _
    rw [List.length_map, List.length_range]
    omega
end
/-- every pair below the next -/
def ascB (xs : List (Str × Str)) : Bool := (List.range (xs.length - 1)).all fun i => ltP (xs[i]?.getD default) (xs[i + 1]?.getD default)
abbrev sp_is_ascending : Sp := Sp1 (glP pP) (fun xs => xs.length ≤ 1000) (fun xs => bP (ascB xs))
theorem at_some {xs : List (Str × Str)} {i : Nat} (h : i < xs.length) : xs[i]? = some (xs[i]?.getD default) := by
  rw [List.getElem?_eq_getElem h]
  rfl
abbrev N_is_ascending : List Str := ["values", "at"]
theorem nd_is_ascending : N_is_ascending.Nodup := by decide
theorem c_is_ascending (T : Tf w K mg) : C8.Cal P w K mg base 1 "is_ascending" sp_is_ascending [] := by
  refine T.cal (d := d_is_ascending) (N := N_is_ascending) (ps := ["values"]) 1 rfl rfl (by simp [fa, fa0, fa1, fa2, fa3]) rfl rfl (by decide +kernel) (len1 _) (fun _ _ _ _ _ _ us hl => match us, hl with | [_], _ => rfl) (fun f cdv A outer s H vs Q E hr hsp => ?_)
  obtain ⟨v_values, a_values, rfl, h_values, hok, hq⟩ := hsp
  refine ⟨_, (pss_one (ps_ret (pe_callB (k_all (K := K) rfl rfl) (by rfl) T.n_all (by decide +kernel) (pa_cons (pe_fz (pe_lc (own := [("at", 1)]) rfl nd_is_ascending (pi_range2 rfl T.n_range (pa_cons pe_int (pa_cons (pe_callB (k_lenA (K := K) rfl) (by rfl) T.n_len (by decide +kernel) (pa_cons (pv 0) pa_nil)) pa_nil))) (blkOk_by (own := [("at", 1)]) (by first | decide +kernel | rfl)) (fun _ _ _ _ _ => (pg_name (i := 1) nd_is_ascending rfl (Or.inl rfl))) (fun _ _ _ _ _ => pts_nil) (fun _ _ _ _ _ => (pe_cmpR (op_ltP (K := K) rfl (hu64 hr)) (pe_ix (k_ix_list (K := K) rfl) (pv 0) (pe_op op_sub (pv 1) pe_int) (fun _ _ => rfl)) (pe_ix (k_ix_list (K := K) rfl) (pv 0) (pv 1) (fun _ _ => rfl)) (nomark _))))) pa_nil)))), ?_⟩
  refine ys_ret (y_cb b_all (y_fzl (yn_lc0 (r := fun i : Nat => iP ((i : Int) + 1)) (r' := bP) (fun i : Nat => ltP (a_values[i]?.getD default) (a_values[i + 1]?.getD default)) (yi_range2 y_int (y_lenL (y_var rfl h_values)) (by omega)) (fun x1 m1 v1 H1 s1 h1 => bd1 ⟨rfl, yt_yes, fun e1 => (y_op r_ltP (y_ixl (i := x1) (y_var rfl (up_ s1 h_values)) (Y_eq (r := fun i : Int => iP i) (show (x1 : Int) + 1 - 1 = (x1 : Int) by omega) (y_op r_sub (y_var rfl h1) y_int)) (at_some ?_)) (y_ixl (i := x1 + 1) (y_var rfl (up_ s1 h_values)) (y_var rfl (show iP ((x1 + 1 : Nat) : Int) v1 H1 from h1)) (at_some ?_)))⟩)))) fun v H2 s2 h => hq v _ s2 (bP_eq ?_ h)
  · rw [List.mem_range] at m1
    omega
  · rw [List.mem_range] at m1
    omega
  · rw [List.all_map]
    rfl
end En
set_option maxHeartbeats 4000000
/-! is_word_at over whatever stays. -/
namespace En
open PySem PySem.Spec PyProof.Rows L2
variable {P : Program} {w : World} {K : PySem.W.Frag} {mg : Str → Option Value} {base : Heap}
inductive Wi where
  | two (a b : Option Str)
  | non
/-- no tuple, or a tuple of another length -/
def nwP (K : PySem.W.Frag) : Pr := fun v H => (∃ t, TyF K H v t ∧ PySem.W.kitOne K t (.type "tuple") = some false) ∨ ∃ a vs, v = .ref a ∧ H a = some (.tup vs) ∧ vs.length ≠ 2
instance : Sty (nwP K) := ⟨fun e h => h.elim (fun ⟨t, h1, h2⟩ => .inl ⟨t, h1.up e, h2⟩) fun ⟨a, vs, h1, h2, h3⟩ => .inr ⟨a, vs, h1, e _ _ trivial h2, h3⟩⟩
instance {t : Value} : Sty (fun v H => TyF K H v t) := ⟨fun e h => h.up e⟩
def tuP (vs : List V) : Pr := fun v H => ∃ a, v = .ref a ∧ H a = some (.tup vs)
instance {vs : List V} : Sty (tuP vs) := ⟨fun e ⟨a, h1, h2⟩ => ⟨a, h1, e _ _ trivial h2⟩⟩
theorem y_lenTu {σ : L2.St} {H : Hp} {ta : TE} {vs : List V} (ya : Y ta σ H (tuP vs)) : Y (tCB (rLenA K) (tCons ta tNil)) σ H (iP vs.length) := fun H1 u Q q => ya H1 u _ fun v H2 s2 ⟨a, e, h⟩ => ⟨a, vs.length, by rw [e], .inr (.inl ⟨vs, SqT.of h, rfl⟩), q _ H2 s2 rfl⟩
def wiP (K : PySem.W.Frag) : Wi → Pr
  | .two a b => TP [paP a, paP b]
  | .non => nwP K
instance {x : Wi} : Sty (wiP K x) := match x with
  | .two a b => inferInstanceAs (Sty (TP [paP a, paP b]))
  | .non => inferInstanceAs (Sty (nwP K))
def wiB : Wi → Bool
  | .two a b => spO a && spO b
  | .non => false
def wiOk : Wi → Prop
  | .two a b => (∀ s, a = some s → s.length ≤ 1000) ∧ ∀ s, b = some s → s.length ≤ 1000
  | .non => True
abbrev sp_is_word_at (K : PySem.W.Frag) : Sp := Sp1 (wiP K) (fun x => wiOk x) (fun x => bP (wiB x))
abbrev N_is_word_at : List Str := ["value", "part"]
theorem nd_is_word_at : N_is_word_at.Nodup := by decide
theorem c_is_word_at (T : Tf w K mg) : C8.Cal P w K mg base 2 "is_word_at" (sp_is_word_at K) [] := by
  refine T.cal (d := d_is_word_at) (N := N_is_word_at) (ps := ["value"]) 36 rfl rfl (by simp [fa, fa0, fa1, fa2, fa3]) rfl rfl (by decide +kernel) (len1 _) (fun _ _ _ _ _ _ us hl => match us, hl with | [_], _ => rfl) (fun f cdv A outer s H vs Q E hr hsp => ?_)
  obtain ⟨v_value, a_value, rfl, h_value, hok, hq⟩ := hsp
  refine ⟨_, (pss_one (ps_ret (pe_and (pe_callB (k_isiU T rfl) (by rfl) T.n_isinstance (by decide +kernel) (pa_cons (pv 0) (pa_cons (pe_bltn rfl T.n_tuple (by decide +kernel) (v := .ty "tuple") rfl) pa_nil))) (pe_and (pe_cmpR op_eq (pe_callB (k_lenA (K := K) rfl) (by rfl) T.n_len (by decide +kernel) (pa_cons (pv 0) pa_nil)) pe_int (nomark _)) (pe_one (pe_callB (k_all (K := K) rfl rfl) (by rfl) T.n_all (by decide +kernel) (pa_cons (pe_fz (pe_lc (own := [("part", 1)]) rfl nd_is_word_at (k_tup (K := K) rfl (pv 0)) (blkOk_by (own := [("part", 1)]) (by first | decide +kernel | rfl)) (fun _ _ _ _ _ => (pg_name (i := 1) nd_is_word_at rfl (Or.inl rfl))) (fun _ _ _ _ _ => pts_nil) (fun _ _ _ _ _ => (C8.pe_c (c_is_spelt T) hr (by decide) rfl (pa_cons (pv 1) pa_nil))))) pa_nil))))))), ?_⟩
  cases a_value with
  | two a b =>
    have h_value : TP [paP a, paP b] v_value H := h_value
    refine ys_ret (y_and (b := true) (y_isi (y_var rfl h_value) fun v H h => ty_tup h) fun b3 => (y_and (y_op r_eqI (y_lenT (y_var rfl h_value)) y_int) fun b2 => (y_cb b_all (y_fzl (yn_lc0 (xs := [a, b]) (r := paP) (r' := bP) spO (yi_tup (y_var rfl h_value)) (fun x1 m1 v1 H1 s1 h1 => bd1 ⟨rfl, yt_yes, fun e1 => (y_call1 (y_var rfl h1) ?_)⟩)))))) fun v H4 s4 h => hq v _ s4 (bP_eq ?_ h)
    · rcases List.mem_cons.mp m1 with e | m1
      · rw [e]; exact hok.1
      · rw [List.mem_singleton.mp m1]; exact hok.2
    · show (true && (decide (((2 : Nat) : Int) = 2) && (([a, b].map spO).all fun x => x))) = (spO a && spO b)
      simp
  | non =>
    rcases h_value with ⟨t, h1, h2⟩ | ⟨a, vs, rfl, h1, h2⟩
    · refine ys_ret (y_and (b := false) (c := false) (y_isi (P1 := fun v H => TyF K H v t) (y_var rfl h1) fun v H h => ⟨t, .inl h, h2⟩) fun b3 => (by cases b3)) fun v H4 s4 h => hq v _ s4 h
    · have h_value : tuP vs (.ref a) H := ⟨a, rfl, h1⟩
      refine ys_ret (y_and (b := true) (y_isi (y_var rfl h_value) fun v H ⟨a, e, h⟩ => ⟨.type "tuple", .inl (by rw [e]; exact .tup h), rfl⟩) fun b3 => (y_and (c := false) (y_op r_eqI (y_lenTu (y_var rfl h_value)) y_int) fun b2 => (by
        have := of_decide_eq_true b2
        omega))) fun v H4 s4 h => hq v _ s4 (bP_eq ?_ h)
      rw [Bool.and_false]
      rfl
end En
set_option maxHeartbeats 4000000
/-! is_list_of over whatever stays. -/
namespace En
open PySem PySem.Spec PyProof.Rows L2
variable {P : Program} {w : World} {K : PySem.W.Frag} {mg : Str → Option Value} {base : Heap}
/-! ### a list that may change, run through while it does not -/
def WkS (J : It) (H : Hp) (Ps : List Pr) : Prop := ∀ H1, Same H H1 → (∀ i P, Ps[i]? = some P → J.go i H1 ∧ ∀ x H2, J.yld i H1 x H2 → Same H1 H2 ∧ P x H2) ∧ J.stop Ps.length H1
def YiS (wi : TI) (σ : L2.St) (H : Hp) (Ps : List Pr) : Prop := ∀ H1, Same H H1 → ∀ R : It → Hp → Prop, (∀ J H2, Same H1 H2 → WkS J H2 Ps → Ps.length ≤ sizeLine → R J H2) → wi σ H1 R
section
variable {σ : L2.St} {H : Hp} {α : Type} {r : α → Pr} {t : TE}
theorem yis_gl {xs : List α} [s : ∀ x, Sty (r x)] (y : Y t σ H (glP r xs)) : YiS (iList K t) σ H (xs.map r) := fun H1 u R q => y H1 u _ fun v H2 s2 ⟨a, vs, e, hl, al, z⟩ => by
  refine ⟨a, e, ⟨vs, .inl hl⟩, q _ H2 s2 (fun H3 u3 => ⟨fun i P hP => ?_, ⟨vs, .inl (rd_same u3 hl), by rw [al.length]; exact Nat.le_refl _⟩⟩) z⟩
  obtain ⟨x, hx, px⟩ := (al_same u3 al).get hP
  refine ⟨⟨vs, x, .inl (rd_same u3 hl), hx⟩, fun x' H4 ⟨e4, h4⟩ => ?_⟩
  subst e4
  have := h4 vs (.inl (rd_same u3 hl))
  rw [hx] at this
  cases this
  exact ⟨Same.refl _, px⟩
theorem yn_lc0S {β : Type} {wi : TI} {g : TG} {te : TE} {vs : List Nat} {xs : List α} {r' : β → Pr} [s' : ∀ y, Sty (r' y)] (f : α → β) (yi : YiS wi σ H (xs.map r))
    (hb : ∀ x ∈ xs, ∀ v H1, Same H H1 → r x v H1 → Bd g tYes te σ vs v H1 true (r' (f x))) : Yn (tLc wi g tYes te vs) σ H (isL ((xs.map f).map r')) := fun H1 u Q q =>
  yi H1 u _ fun J H2 s2 wk z D hD => by
    rw [List.length_map] at z
    have nD : H1 D = none := s2.free hD
    refine ⟨fun i m H' => m = xs.length - i ∧ i ≤ xs.length ∧ Same H2 H' ∧ ∃ acc, H' D = some (.lst acc) ∧ Al H' (((xs.take i).map f).map r') acc, ⟨_, rfl, Nat.zero_le _, same_new _ hD, [], L2.upd_same, by simp [Al]⟩, ?_⟩
    rintro i m H' ⟨rfl, hi, sH, acc, hacc, al⟩
    obtain ⟨w1, w2⟩ := wk H' sH
    by_cases hlt : i < xs.length
    · refine .inr ?_
      have hx : xs[i]? = some xs[i] := List.getElem?_eq_getElem hlt
      obtain ⟨go, yl⟩ := w1 i (r xs[i]) (by rw [List.getElem?_map, hx]; rfl)
      refine ⟨go, fun H' => i + 1 ≤ xs.length ∧ Same H2 H' ∧ ∃ acc, H' D = some (.lst acc) ∧ Al H' (((xs.take (i + 1)).map f).map r') acc, fun H3 n3 => ⟨xs.length - (i + 1), by omega, rfl, n3⟩, fun x H3 hy => ?_⟩
      obtain ⟨s3, px⟩ := yl x H3 hy
      have u3 : Same H H3 := u.trans ((s2.trans sH).trans s3)
      obtain ⟨σ2, hg, hw, ht, he⟩ := hb xs[i] (List.getElem_mem hlt) x H3 u3 px
      refine hg _ ⟨hw, ht H3 (Same.refl _) _ fun H4 s4 => ?_⟩
      have ha4 := s4 _ _ (s3 _ _ hacc)
      have al4 := al_same (s3.trans s4) al
      have hl := al.length
      rw [List.length_map, List.length_map, List.length_take] at hl
      refine he rfl H4 s4 _ fun y H5 s5 py => ?_
      refine ⟨acc, s5 _ _ ha4, by omega, hlt, same_mut _ (((sH.trans s3).trans s4).trans s5) hD, acc ++ [y], L2.upd_same, ?_⟩
      rw [take_one hx, List.map_append, List.map_append]
      have um := up_mut (H := H5) (.lst (acc ++ [y])) (s5 _ _ ha4) (fun z => z)
      exact Al.app ((inferInstance : StyL (((xs.take i).map f).map r')).up um (al_same s5 al4)) ⟨(s' _).up um py, trivial⟩
    · have e : i = xs.length := by omega
      subst e
      refine .inl ⟨by rw [List.length_map] at w2; exact w2, q D _ _ (s2.trans sH) nD hacc ⟨acc, rfl, ?_, by rw [List.length_map, List.length_map]; omega⟩⟩
      rw [List.take_length] at al
      exact al
end
theorem spT_ok {x : Str} (h : spT x = true) : OkS x := by
  unfold spT at h
  rw [Bool.and_eq_true, List.all_eq_true] at h
  have key : ∀ c ∈ ABC.cps.toList, c < 0x110000 := by decide +kernel
  show x.cps.all (· < 0x110000) = true
  rw [← Array.all_toList, List.all_eq_true]
  intro c hc
  exact decide_eq_true (key c (of_decide_eq_true (h.2 c hc)))
inductive Lv where
  | lst (items : List Wi)
  | non
/-- no list -/
def nlP (K : PySem.W.Frag) : Pr := fun v H => ∃ t, TyF K H v t ∧ PySem.W.kitOne K t (.type "list") = some false
instance : Sty (nlP K) := ⟨fun e ⟨t, h1, h2⟩ => ⟨t, h1.up e, h2⟩⟩
def lvP (K : PySem.W.Frag) : Lv → Pr
  | .lst xs => glP (wiP K) xs
  | .non => nlP K
instance {x : Lv} : Sts (lvP K x) := match x with
  | .lst xs => inferInstanceAs (Sts (glP (wiP K) xs))
  | .non => inferInstanceAs (Sts (nlP K))
def wiPair : Wi → Str × Str
  | .two (some a) (some b) => (a, b)
  | _ => default
def listB (b : Book) (k : Str) : Lv → Bool
  | .lst xs => xs.all wiB && (ascB (xs.map wiPair) && ((xs.map wiPair).all (fun p => decide (p ∈ wordsAt b k)) && leaves b (xs.map wiPair)))
  | .non => false
def lvOk : Lv → Prop
  | .lst xs => (∀ x ∈ xs, wiOk x) ∧ xs.length ≤ 1000
  | .non => True
theorem wi_pair {K : PySem.W.Frag} {x : Wi} (h : wiB x = true) : wiP K x = pP (wiPair x) ∧ spT (wiPair x).1 = true ∧ spT (wiPair x).2 = true := by
  cases x with
  | non => cases h
  | two a b =>
    have h : (spO a && spO b) = true := h
    rw [Bool.and_eq_true] at h
    cases a with
    | none => cases h.1
    | some a => cases b with
      | none => cases h.2
      | some b => exact ⟨rfl, h.1, h.2⟩
theorem gl_pairs {xs : List Wi} (h : xs.all wiB = true) {v : V} {H : Hp} (p : glP (wiP K) xs v H) : glP pP (xs.map wiPair) v H := by
  have e : xs.map (wiP K) = (xs.map wiPair).map pP := by
    rw [List.map_map]
    exact List.map_congr_left fun x hx => (wi_pair (List.all_eq_true.mp h x hx)).1
  unfold glP at p ⊢
  rw [← e]
  exact p
abbrev sp_is_list_of (K : PySem.W.Frag) : Sp := Sp3 (dkP K) sP (lvP K) (fun d _ x => WfB d.1 ∧ lvOk x) (fun d k x => bP (listB d.1 k x))
theorem wordsAt_mem {b : Book} {k : Str} {p : Str × Str} : p ∈ wordsAt b k ↔ ∃ r ∈ b, r.2.1 = k ∧ p.1 = r.1 ∧ p.2 ∈ keys r.2.2 := by
  unfold wordsAt flat
  rw [List.mem_flatMap]
  refine exists_congr fun r => and_congr_right fun _ => ?_
  by_cases e : r.2.1 = k
  · rw [if_pos (decide_eq_true e), List.mem_map]
    constructor
    · rintro ⟨wd, h, rfl⟩
      exact ⟨e, rfl, h⟩
    · rintro ⟨_, h1, h2⟩
      exact ⟨p.2, h2, by show (r.1, p.2) = p; rw [← h1]⟩
  · rw [if_neg (fun z => e (of_decide_eq_true z))]
    exact ⟨fun z => (by cases z), fun z => absurd z.1 e⟩
theorem wordsAt_ok {b : Book} {k : Str} (h : WfB b) : ∀ p ∈ wordsAt b k, OkP p := fun p hp => by
  obtain ⟨r, hr, _, h1, h2⟩ := wordsAt_mem.mp hp
  have row := h.row r hr
  refine ⟨by rw [h1]; exact row.ok, ?_⟩
  obtain ⟨t, ht, e⟩ := List.mem_map.mp h2
  rw [← e]
  exact row.words t ht
abbrev N_is_list_of : List Str := ["desk", "kind", "value", "known", "item"]
theorem nd_is_list_of : N_is_list_of.Nodup := by decide
theorem c_is_list_of (T : Tf w K mg) : C8.Cal P w K mg base 3 "is_list_of" (sp_is_list_of K) [] := by
  refine T.cal (d := d_is_list_of) (N := N_is_list_of) (ps := ["desk", "kind", "value"]) 37 rfl rfl (by simp [fa, fa0, fa1, fa2, fa3]) rfl rfl (by decide +kernel) (len3 _ _ _) (fun _ _ _ _ _ _ us hl => match us, hl with | [_, _, _], _ => rfl) (fun f cdv A outer s H vs Q E hr hsp => ?_)
  obtain ⟨v_desk, v_kind, v_value, a_desk, a_kind, a_value, rfl, h_desk, h_kind, h_value, hok, hq⟩ := hsp
  refine ⟨_, (pss_cons (ps_if (PW.pt (pw_or (pt_not (pt_val (pe_callB (k_isiU T rfl) (by rfl) T.n_isinstance (by decide +kernel) (pa_cons (pv 2) (pa_cons (pe_bltn rfl T.n_list (by decide +kernel) (v := .ty "list") rfl) pa_nil))))) (pw_or (pt_not (pt_val (pe_callB (k_all (K := K) rfl rfl) (by rfl) T.n_all (by decide +kernel) (pa_cons (pe_fz (pe_lc (own := [("item", 4)]) rfl nd_is_list_of (k_list (K := K) rfl (pv 2)) (blkOk_by (own := [("item", 4)]) (by first | decide +kernel | rfl)) (fun _ _ _ _ _ => (pg_name (i := 4) nd_is_list_of rfl (Or.inl rfl))) (fun _ _ _ _ _ => pts_nil) (fun _ _ _ _ _ => (C8.pe_c (c_is_word_at T) hr (by decide) rfl (pa_cons (pv 4) pa_nil))))) pa_nil)))) (pw_or1 (pt_not (pt_val (C8.pe_c (c_is_ascending T) hr (by decide) rfl (pa_cons (pv 2) pa_nil)))))))) (pss_one (ps_ret pe_bl))
    pss_nil)
    (pss_cons (ps_set (i := 3) nd_is_list_of rfl (Or.inr rfl) (C8.pe_c (c_words_at T) hr (by decide) rfl (pa_cons (pv 0) (pa_cons (pv 1) pa_nil))))
    (pss_one (ps_ret (pe_and (pe_callB (k_all (K := K) rfl rfl) (by rfl) T.n_all (by decide +kernel) (pa_cons (pe_fz (pe_lc (own := [("item", 4)]) rfl nd_is_list_of (k_list (K := K) rfl (pv 2)) (blkOk_by (own := [("item", 4)]) (by first | decide +kernel | rfl)) (fun _ _ _ _ _ => (pg_name (i := 4) nd_is_list_of rfl (Or.inl rfl))) (fun _ _ _ _ _ => pts_nil) (fun _ _ _ _ _ => (pe_cmpR (k_inD (K := K) rfl (hu65 hr)) (pv 4) (pv 3) rfl)))) pa_nil)) (pe_one (C8.pe_c (c_are_left T) hr (by decide) rfl (pa_cons (pv 0) (pa_cons (pv 2) pa_nil))))))))), ?_⟩
  obtain ⟨wf, lok⟩ := hok
  cases a_value with
  | non =>
    refine ys_seq (ys_if (b := true) (Yt.eq (yt_or (c := true) (yt_not (yt_b (y_isi (b := false) (P1 := nlP K) (y_var rfl h_value) fun v H ⟨t, h1, h2⟩ => ⟨t, .inl h1, h2⟩))) fun b1 => (by cases b1)) rfl) (fun b2 H2 s2 => ?_) (fun b2 H2 s2 => by cases b2))
    exact ys_ret y_bl fun v H3 s3 h => hq v _ (s2.trans s3) h
  | lst xs =>
    have h_value : glP (wiP K) xs v_value H := h_value
    refine ys_seq (ys_if (b := !(xs.all wiB && ascB (xs.map wiPair))) (Yt.eq (yt_or (yt_not (yt_b (y_isi (b := true) (y_var rfl h_value) ?_))) fun b3 => (yt_or (c := !ascB (xs.map wiPair)) (yt_not (yt_b (y_cb b_all (y_fzl (yn_lc0S (r := wiP K) (r' := bP) wiB (yis_gl (y_var rfl h_value)) (fun x1 m1 v1 H1 s1 h1 => bd1 ⟨rfl, yt_yes, fun e1 => (y_call1 (y_var rfl h1) (lok.1 x1 m1))⟩)))))) fun b2 => (yt_not (yt_b (y_call1 (y_var rfl (gl_pairs ?_ h_value)) ?_))))) ?_) (fun b4 H4 s4 => ?_) (fun b4 H4 s4 => ?_))
    · rintro v H' ⟨a, vs, rfl, hl, _, _⟩
      rcases hl with hl | ⟨o, hl⟩
      · exact ⟨_, .inr ⟨a, vs, rfl, hl, rfl⟩, rfl⟩
      · exact ⟨_, .inl (.lst hl), rfl⟩
    · rw [Bool.not_eq_false', List.all_map] at b2
      exact b2
    · rw [List.length_map]
      exact lok.2
    · rw [List.all_map]
      show (false || (!(xs.all wiB) || !ascB (xs.map wiPair))) = _
      cases xs.all wiB <;> rfl
    · refine ys_ret y_bl fun v H3 s3 h => hq v _ (s4.trans s3) (bP_eq ?_ h)
      rw [Bool.not_eq_true'] at b4
      show false = (xs.all wiB && (ascB (xs.map wiPair) && _))
      rw [← Bool.and_assoc, b4]
      rfl
    · rw [Bool.not_eq_false'] at b4
      have b4' := b4
      rw [Bool.and_eq_true] at b4'
      obtain ⟨ba, bc⟩ := b4'
      have hp := gl_pairs ba h_value
      have okp : ∀ p ∈ xs.map wiPair, OkP p := fun p hp => by
        obtain ⟨x, hx, rfl⟩ := List.mem_map.mp hp
        have := wi_pair (K := K) (List.all_eq_true.mp ba x hx)
        exact ⟨spT_ok this.2.1, spT_ok this.2.2⟩
      refine nx_ (ys_seq (ys_set (y_call2 (y_var rfl (up_ s4 h_desk)) (y_var rfl (up_ s4 h_kind)) wf) fun v_known H6 s6 h_known => ?_))
      refine nx_ (ys_ret (y_and (y_cb b_all (y_fzl (yn_lc0S (r := pP) (r' := bP) (fun p => decide (p ∈ wordsAt a_desk.1 a_kind)) (yis_gl (y_var rfl (up_ (s4.trans s6) hp))) (fun x7 m7 v7 H7 s7 h7 => bd1 ⟨rfl, yt_yes, fun e7 => (y_inP (y_var rfl h7) (y_var rfl (up_ s7 h_known)) (okp _ m7) (wordsAt_ok wf))⟩)))) fun b8 => (y_call2 (y_var rfl (up_ (s4.trans s6) h_desk)) (y_var rfl (up_ (s4.trans s6) hp)) ⟨wf, okp⟩)) fun v H9 s9 h => hq v _ ((s4.trans s6).trans s9) (bP_eq ?_ h))
      rw [List.all_map]
      show _ = (xs.all wiB && (ascB (xs.map wiPair) && _))
      rw [ba, bc]
      rfl
end En
set_option maxHeartbeats 4000000
/-! Books alike: what they answer is alike. -/
namespace En
open PySem PySem.Spec PyProof.Rows L2
theorem sortS_nil : sortS [] = [] := List.length_eq_zero_iff.mp (by rw [(sortS_perm []).length_eq]; rfl)
structure BEq (b c : Book) : Prop where
  st : (keys b).Perm (keys c)
  kd : ∀ s, (look b s).1 = (look c s).1
  ks : ∀ s, (keys (look b s).2).Perm (keys (look c s).2)
  lk : ∀ s wd, look (look b s).2 wd = look (look c s).2 wd
theorem BEq.len {b c : Book} (h : BEq b c) (s : Str) : (look b s).2.length = (look c s).2.length := by
  rw [← keys_length, ← keys_length, (h.ks s).length_eq]
theorem BEq.has {b c : Book} (h : BEq b c) (s wd : Str) : has (look b s).2 wd = has (look c s).2 wd := by
  refine bool_eq ?_
  rw [has_iff, has_iff]
  exact (h.ks s).mem_iff
theorem BEq.refl (b : Book) : BEq b b := ⟨.refl _, fun _ => rfl, fun _ => .refl _, fun _ _ => rfl⟩
theorem BEq.trans {a b c : Book} (h : BEq a b) (k : BEq b c) : BEq a c := ⟨h.st.trans k.st, fun s => (h.kd s).trans (k.kd s), fun s => (h.ks s).trans (k.ks s), fun s wd => (h.lk s wd).trans (k.lk s wd)⟩
theorem BEq.symm {b c : Book} (h : BEq b c) : BEq c b := ⟨h.st.symm, fun s => (h.kd s).symm, fun s => (h.ks s).symm, fun s wd => (h.lk s wd).symm⟩
/-- the goals of a row, by its words -/
theorem goals_iff {r : Row} (h : (keys r.2).Nodup) {y : Str} : y ∈ r.2.map (·.2) ↔ ∃ wd ∈ keys r.2, look r.2 wd = y := by
  rw [List.mem_map]
  constructor
  · rintro ⟨t, ht, rfl⟩
    exact ⟨t.1, mem_keys ht, look_of h ht⟩
  · rintro ⟨wd, hw, rfl⟩
    exact ⟨_, look_mem hw, rfl⟩
def Nd (b : Book) : Prop := ∀ s, (keys (look b s).2).Nodup
theorem WfB.rows {b : Book} (h : WfB b) : Nd b := fun s => by
  by_cases hs : s ∈ keys b
  · exact (h.at hs).nd
  · rw [look_default hs]
    exact List.nodup_nil
theorem BEq.nd {b c : Book} (h : BEq b c) (n : Nd b) : Nd c := fun s => (h.ks s).nodup_iff.mp (n s)
theorem BEq.goals {b c : Book} (h : BEq b c) (n : Nd b) (s y : Str) : y ∈ (look b s).2.map (·.2) ↔ y ∈ (look c s).2.map (·.2) := by
  rw [goals_iff (n s), goals_iff (h.nd n s)]
  constructor
  · rintro ⟨wd, h1, h2⟩
    exact ⟨wd, (h.ks s).mem_iff.mp h1, by rw [← h.lk]; exact h2⟩
  · rintro ⟨wd, h1, h2⟩
    exact ⟨wd, (h.ks s).mem_iff.mpr h1, by rw [h.lk]; exact h2⟩
theorem Gfp.congr {α : Type} {D D' : Fix α} {x : α} (h : ∀ x, (D.base x ↔ D'.base x) ∧ (D.uni x ↔ D'.uni x) ∧ (D.lo x ↔ D'.lo x) ∧ ∀ y, y ∈ D.succ x ↔ y ∈ D'.succ x) (g : Gfp D x) : Gfp D' x := by
  obtain ⟨L, h1, h2⟩ := g
  exact ⟨L, h1, fun y hy => (h2 y hy).congr (fun x _ => (h x).1) fun x _ _ => (h x).2⟩
theorem BEq.via1 {b c : Book} (h : BEq b c) (n : Nd b) {s : Str} (v : Via b s) : Via c s :=
  Gfp.congr (D := viaD b) (D' := viaD c) (fun x => ⟨by show (look b x).1 = _ ↔ _; rw [h.kd]; rfl, by show (look b x).1 = _ ↔ _; rw [h.kd]; rfl, Iff.rfl, h.goals n x⟩) v
theorem BEq.via {b c : Book} (h : BEq b c) (n : Nd b) (s : Str) : Via b s ↔ Via c s := ⟨h.via1 n, h.symm.via1 (h.nd n)⟩
theorem BEq.viaL {b c : Book} (h : BEq b c) (n : Nd b) : viaL b = viaL c := by
  unfold En.viaL
  refine sortS_of' ?_
  have e : (keys b).filter (fun s => @decide (Via b s) (Classical.propDecidable _)) = (keys b).filter (fun s => @decide (Via c s) (Classical.propDecidable _)) := by
    congr 1
    funext s
    have := propext (h.via n s)
    congr
  rw [e]
  exact h.st.filter _
theorem BEq.good {b c : Book} (h : BEq b c) (n : Nd b) (s : Str) : goodW b s = goodW c s := by
  unfold goodW
  refine sortS_of' ?_
  have e : ∀ wd, (decide ((look b s).1 = "says") || decide (look (look b s).2 wd ∈ En.viaL b)) = (decide ((look c s).1 = "says") || decide (look (look c s).2 wd ∈ En.viaL c)) := fun wd => by rw [h.kd, h.lk, h.viaL n]
  rw [funext e]
  exact (h.ks s).filter _
theorem mt_beq {e e' n n' : Book} (he : BEq e e') (hn : BEq n n') (nd : Nd e) (p : Str × Str) : mt e n p = mt e' n' p := by
  unfold mt
  rw [he.kd, hn.kd, he.good nd, (hn.ks p.2).all_eq, funext (he.has p.1), funext (hn.has p.2)]
theorem stp_beq {e e' n n' : Book} (he : BEq e e') (hn : BEq n n') (nd : Nd e) (p : Str × Str) : stp e n p = stp e' n' p := by
  unfold stp
  rw [he.kd, hn.kd, he.good nd, funext (hn.has p.2), funext (he.lk p.1), funext (hn.lk p.2)]
theorem led_beq {e e' n n' : Book} (he : BEq e e') (hn : BEq n n') (nd : Nd e) : led e n = led e' n' := funext fun p => by
  unfold led
  rw [mt_beq he hn nd, stp_beq he hn nd]
theorem lost_beq {e e' n n' : Book} (he : BEq e e') (hn : BEq n n') (nd : Nd e) : lostD e n = lostD e' n' := by
  unfold lostD
  congr 1
  · funext p; rw [mt_beq he hn nd]
  · funext p; rw [he.kd]
  · funext p; rw [he.kd, he.len, hn.len]
  · funext p; rw [stp_beq he hn nd]
theorem stands_beq {e e' n n' : Book} (he : BEq e e') (hn : BEq n n') (nd : Nd e) (x y : Str) : standsB (e, x) (n, y) = standsB (e', x) (n', y) := by
  refine bool_eq ?_
  rw [standsB_iff, standsB_iff]
  unfold Stands Com
  simp only
  rw [led_beq he hn nd, lost_beq he hn nd, propext (he.via nd x)]
/-! ### sorted books -/
theorem keys_normB (b : Book) : keys (normB b) = sortS (keys b) := by
  unfold normB
  rw [keys_mk, List.map_id']
theorem keys_normR (r : Row) : keys (normR r).2 = sortS (keys r.2) := by
  unfold normR
  rw [keys_mk, List.map_id']
theorem look_normR (r : Row) (wd : Str) : look (normR r).2 wd = look r.2 wd := by
  by_cases h : wd ∈ keys r.2
  · exact look_mk (f := fun wd => look r.2 wd) (mem_sortS.mpr h)
  · rw [look_default h, look_default (by rw [keys_normR, mem_sortS]; exact h)]
theorem normR_def : normR (default : Row) = default := by
  show ((default : Row).1, (sortS []).map _) = _
  rw [sortS_nil]
  rfl
theorem look_normB (b : Book) (s : Str) : look (normB b) s = normR (look b s) := by
  by_cases h : s ∈ keys b
  · exact look_mk (f := fun s => normR (look b s)) (mem_sortS.mpr h)
  · rw [look_default h, look_default (by rw [keys_normB, mem_sortS]; exact h), normR_def]
theorem beq_norm (b : Book) : BEq (normB b) b := by
  refine ⟨by rw [keys_normB]; exact sortS_perm _, fun s => by rw [look_normB]; rfl, fun s => ?_, fun s wd => ?_⟩
  · rw [look_normB, keys_normR]
    exact sortS_perm _
  · rw [look_normB, look_normR]
theorem look_cut' (b : Book) (lot : List (Str × Str)) (s : Str) : look (cutB b lot) s = cutRow s lot (look b s) := by
  by_cases h : s ∈ keys b
  · exact look_cutB h
  · rw [look_default h, look_default (by rw [keys_cutB]; exact h)]
    rfl
theorem look_cutRow (s : Str) (lot : List (Str × Str)) (r : Row) (wd : Str) : look (cutRow s lot r).2 wd = if (s, wd) ∈ lot then default else look r.2 wd := by
  by_cases h : wd ∈ keys (cutRow s lot r).2
  · have h2 := h
    rw [keys_cutRow, List.mem_filter] at h2
    have h3 : ¬ (s, wd) ∈ lot := by simpa using h2.2
    rw [if_neg h3]
    unfold cutRow
    exact look_mk (f := fun wd => look r.2 wd) (List.mem_filter.mpr h2)
  · rw [look_default h]
    by_cases hl : (s, wd) ∈ lot
    · rw [if_pos hl]
    · rw [if_neg hl, look_default]
      intro hk
      refine h ?_
      rw [keys_cutRow, List.mem_filter]
      exact ⟨hk, by simpa using hl⟩
theorem beq_cut {b c : Book} (h : BEq b c) (lot : List (Str × Str)) : BEq (cutB b lot) (cutB c lot) := by
  refine ⟨by rw [keys_cutB, keys_cutB]; exact h.st, fun s => ?_, fun s => ?_, fun s wd => ?_⟩
  · rw [look_cut', look_cut']
    exact h.kd s
  · rw [look_cut', look_cut', keys_cutRow, keys_cutRow]
    exact (h.ks s).filter _
  · rw [look_cut', look_cut', look_cutRow, look_cutRow, h.lk]
theorem wf_norm {b : Book} (h : WfB b) : WfB (normB b) := by
  refine ⟨by rw [keys_normB]; exact (sortS_perm _).nodup_iff.mpr h.nd, by unfold normB; rw [List.length_map, (sortS_perm _).length_eq, keys_length]; exact h.len, fun r hr => ?_⟩
  unfold normB at hr
  obtain ⟨s, hs, rfl⟩ := List.mem_map.mp hr
  have row := h.at (mem_sortS.mp hs)
  have sub : ∀ t ∈ (normR (look b s)).2, t ∈ (look b s).2 := fun t ht => by
    unfold normR at ht
    obtain ⟨wd, hw, rfl⟩ := List.mem_map.mp ht
    exact look_mem (mem_sortS.mp hw)
  have len : (normR (look b s)).2.length = (look b s).2.length := by rw [← keys_length, keys_normR, (sortS_perm _).length_eq, keys_length]
  refine ⟨row.kind, row.ok, by show (keys (normR (look b s)).2).Nodup; rw [keys_normR]; exact (sortS_perm _).nodup_iff.mpr row.nd, by show (normR (look b s)).2.length < 64; rw [len]; exact row.len, fun t ht => row.words t (sub t ht), fun t ht => by rw [keys_normB, mem_sortS]; exact row.goals t (sub t ht), ?_⟩
  show (look b s).1 = "done" ↔ (normR (look b s)).2 = []
  rw [← List.length_eq_zero_iff, len, List.length_eq_zero_iff]
  exact row.fin
theorem sp_norm {b : Book} (h : SpB b) : SpB (normB b) := by
  refine ⟨wf_norm h.wf, fun s hs => h.st s (by rw [keys_normB, mem_sortS] at hs; exact hs), fun r hr t ht => ?_⟩
  unfold normB at hr
  obtain ⟨s, hs, rfl⟩ := List.mem_map.mp hr
  have ht : t ∈ (normR (look b s)).2 := ht
  unfold normR at ht
  obtain ⟨wd, hw, rfl⟩ := List.mem_map.mp ht
  exact h.wd _ (look_mem (mem_sortS.mp hs)) _ (look_mem (mem_sortS.mp hw))
theorem leaves_look {b : Book} {lot : List (Str × Str)} (h : WfB b) : leaves b lot = true ↔ ∀ s ∈ keys b, keys (look b s).2 = [] ∨ ∃ wd ∈ keys (look b s).2, (s, wd) ∉ lot := by
  rw [leaves_iff]
  constructor
  · intro k s hs
    exact (k _ (look_mem hs)).imp (fun z => by show List.map _ _ = _; rw [show (look b s).2 = [] from z]; rfl) (fun z => z)
  · intro k r hr
    have := k r.1 (mem_keys hr)
    rw [look_of h.nd (show (r.1, r.2) ∈ b from hr)] at this
    exact this.imp (fun z => List.map_eq_nil_iff.mp z) (fun z => z)
theorem leaves_beq {b c : Book} (h : BEq b c) (hb : WfB b) (hc : WfB c) (lot : List (Str × Str)) : leaves b lot = leaves c lot := by
  refine bool_eq ?_
  rw [leaves_look hb, leaves_look hc]
  have one : ∀ {b c : Book}, BEq b c → (∀ s ∈ keys b, keys (look b s).2 = [] ∨ ∃ wd ∈ keys (look b s).2, (s, wd) ∉ lot) → ∀ s ∈ keys c, keys (look c s).2 = [] ∨ ∃ wd ∈ keys (look c s).2, (s, wd) ∉ lot := by
    intro b c h k s hs
    rcases k s (h.st.mem_iff.mpr hs) with z | ⟨wd, h1, h2⟩
    · left
      have := h.ks s
      rw [z] at this
      exact List.nil_perm.mp this
    · exact .inr ⟨wd, (h.ks s).mem_iff.mp h1, h2⟩
  exact ⟨one h, one h.symm⟩
theorem words_beq {b c : Book} (h : BEq b c) (hb : WfB b) (hc : WfB c) (k : Str) (p : Str × Str) : p ∈ wordsAt b k ↔ p ∈ wordsAt c k := by
  have one : ∀ {b c : Book}, BEq b c → WfB b → WfB c → p ∈ wordsAt b k → p ∈ wordsAt c k := by
    intro b c h hb hc hp
    obtain ⟨r, hr, h1, h2, h3⟩ := wordsAt_mem.mp hp
    have hs := mem_keys hr
    have e : look b r.1 = r.2 := look_of hb.nd hr
    refine wordsAt_mem.mpr ⟨(r.1, look c r.1), look_mem (h.st.mem_iff.mp hs), ?_, h2, ?_⟩
    · rw [← h1, ← e]
      exact (h.kd r.1).symm
    · rw [← e] at h3
      exact (h.ks r.1).mem_iff.mp h3
  exact ⟨one h hb hc, one h.symm hc hb⟩
/-- a word at a state, by the state's row -/
theorem words_look {b : Book} (h : WfB b) {k : Str} {p : Str × Str} : p ∈ wordsAt b k ↔ p.1 ∈ keys b ∧ (look b p.1).1 = k ∧ p.2 ∈ keys (look b p.1).2 := by
  rw [wordsAt_mem]
  constructor
  · rintro ⟨r, hr, h1, h2, h3⟩
    have e : look b r.1 = r.2 := look_of h.nd hr
    rw [h2, e]
    exact ⟨mem_keys hr, h1, h3⟩
  · rintro ⟨h1, h2, h3⟩
    exact ⟨_, look_mem h1, h2, rfl, h3⟩
/-- the law's own spare, the program's -/
theorem spare_norm {b : Book} (h : WfB b) (st : Str) (lot : List (Str × Str)) : standsB (normB b, st) (normB (cutB (normB b) lot), st) = standsB (b, st) (cutB b lot, st) :=
  stands_beq (beq_norm b) ((beq_norm _).trans (beq_cut (beq_norm b) lot)) (wf_norm h).rows st st
end En
set_option maxHeartbeats 4000000
/-! A desk beside itself with fewer, with more heard words. -/
namespace En
open PySem PySem.Spec PyProof.Rows L2
/-- pair by pair the same state, all matched, nothing let out -/
theorem stands_diag {e n : World'} {live : Str → Prop} (h0 : e.2 = n.2) (hl : live e.2) (hm : ∀ s, live s → mt e.1 n.1 (s, s) = true)
    (hlo : ∀ s, live s → (look e.1 s).1 = "says" → ¬ (look e.1 s).2.length > (look n.1 s).2.length)
    (hs : ∀ s, live s → ∀ q ∈ (stp e.1 n.1 (s, s)).map (·.2), q.1 = q.2 ∧ live q.1) : Stands e n := by
  intro _ p hp hg
  have hc : p.1 = p.2 ∧ live p.1 := by
    clear hg
    induction hp with
    | refl => exact ⟨h0, hl⟩
    | @tail y z _ h2 ih =>
      obtain ⟨i1, i2⟩ := ih
      obtain ⟨y1, y2⟩ := y
      cases (show y1 = y2 from i1)
      unfold led at h2
      rw [if_pos (hm _ i2)] at h2
      exact hs _ i2 _ h2
  obtain ⟨L, h1, h2⟩ := hg
  have key : ∀ p, Near (lostD e.1 n.1) L p → p.1 = p.2 → live p.1 → False := by
    intro p hp
    induction hp with
    | @base x _ h2 =>
      intro i1 i2
      obtain ⟨y1, y2⟩ := x
      cases (show y1 = y2 from i1)
      have h2 : mt e.1 n.1 (y1, y1) = false := h2
      rw [hm _ i2] at h2
      cases h2
    | @lo x _ _ h3 =>
      intro i1 i2
      obtain ⟨y1, y2⟩ := x
      cases (show y1 = y2 from i1)
      exact hlo _ i2 h3.1 h3.2
    | @step x y _ _ h3 _ ih =>
      intro i1 i2
      obtain ⟨y1, y2⟩ := x
      cases (show y1 = y2 from i1)
      obtain ⟨j1, j2⟩ := hs _ i2 _ h3
      exact ih j1 j2
  exact key p (h2 p h1) hc.1 hc.2
/-! ### needed words -/
noncomputable def okT (b : Book) (k g : Str) : Bool := !decide (k = "hears") || decide (g ∈ viaL b)
noncomputable def hwR (b : Book) (r : Row) : Row := (r.1, r.2.filter fun t => okT b r.1 t.2)
/-- without the heard words that lead to no end -/
noncomputable def hwB (b : Book) : Book := b.map fun r => (r.1, hwR b r.2)
def sucB (b : Book) (s : Str) : List Str := (look b s).2.map (·.2)
def Live (d : World') (s : Str) : Prop := Reach (sucB (hwB d.1)) d.2 s
def Need (d : World') (p : Str × Str) : Prop := p ∈ wordsAt d.1 "hears" ∧ Live d p.1 ∧ p.2 ∈ keys (look (hwB d.1) p.1).2
theorem look_mapv {α : Type} [Inhabited α] {f : α → α} : ∀ {d : List (Str × α)} {k : Str}, k ∈ keys d → look (d.map fun r => (r.1, f r.2)) k = f (look d k)
  | [], _, h => by cases h
  | x :: d, k, h => by
    show (if x.1 = k then f x.2 else look (d.map fun r => (r.1, f r.2)) k) = f (if x.1 = k then x.2 else look d k)
    by_cases e : x.1 = k
    · rw [if_pos e, if_pos e]
    · rw [if_neg e, if_neg e]
      refine look_mapv ?_
      rcases List.mem_cons.mp (show k ∈ x.1 :: keys d from h) with z | z
      · exact absurd z.symm e
      · exact z
theorem keys_mapv {α : Type} {f : α → α} (d : List (Str × α)) : keys (d.map fun r => (r.1, f r.2)) = keys d := by
  unfold keys
  rw [List.map_map]
  rfl
theorem keys_hwB (b : Book) : keys (hwB b) = keys b := keys_mapv b
theorem look_hwB (b : Book) (s : Str) : look (hwB b) s = hwR b (look b s) := by
  by_cases h : s ∈ keys b
  · exact look_mapv h
  · rw [look_default h, look_default (by rw [keys_hwB]; exact h)]
    rfl
theorem hw_good {b : Book} (h : WfB b) (s wd : Str) : wd ∈ keys (look (hwB b) s).2 ↔ wd ∈ goodW b s := by
  rw [look_hwB]
  unfold goodW
  rw [mem_sortS, List.mem_filter]
  have nd := h.rows s
  unfold hwR keys
  rw [List.mem_map]
  constructor
  · rintro ⟨t, ht, rfl⟩
    obtain ⟨h1, h2⟩ := List.mem_filter.mp ht
    refine ⟨List.mem_map_of_mem h1, ?_⟩
    rw [look_of nd (show (t.1, t.2) ∈ _ from h1)]
    unfold okT at h2
    rw [Bool.or_eq_true] at h2 ⊢
    rcases h2 with h2 | h2
    · left
      have hs : s ∈ keys b := by
        apply Classical.byContradiction
        intro hn
        rw [look_default hn] at h1
        cases h1
      rcases kinds h hs with k | k | k
      · exact decide_eq_true k
      · rw [k] at h2
        simp at h2
      · rw [(h.at hs).fin.mp k] at h1
        cases h1
    · exact .inr h2
  · rintro ⟨h1, h2⟩
    have hk : wd ∈ keys (look b s).2 := h1
    refine ⟨(wd, look (look b s).2 wd), List.mem_filter.mpr ⟨look_mem hk, ?_⟩, rfl⟩
    unfold okT
    rw [Bool.or_eq_true] at h2 ⊢
    rcases h2 with h2 | h2
    · left
      rw [of_decide_eq_true h2]
      rfl
    · exact .inr h2
theorem hw_nodup {b : Book} (h : WfB b) (s : Str) : (keys (look (hwB b) s).2).Nodup := by
  rw [look_hwB]
  exact List.Nodup.sublist (List.Sublist.map _ List.filter_sublist) (h.rows s)
theorem look_hw {b : Book} (h : WfB b) {s wd : Str} (hw : wd ∈ keys (look (hwB b) s).2) : look (look (hwB b) s).2 wd = look (look b s).2 wd := by
  have h1 := look_mem hw
  rw [look_hwB] at h1 ⊢
  exact (look_of (h.rows s) (List.mem_filter.mp h1).1).symm
theorem suc_good {b : Book} (h : WfB b) {s g : Str} : g ∈ sucB (hwB b) s ↔ ∃ wd ∈ goodW b s, look (look b s).2 wd = g := by
  unfold sucB
  rw [goals_iff (hw_nodup h s)]
  constructor
  · rintro ⟨wd, h1, rfl⟩
    exact ⟨wd, (hw_good h s wd).mp h1, (look_hw h h1).symm⟩
  · rintro ⟨wd, h1, rfl⟩
    have h2 := (hw_good h s wd).mpr h1
    exact ⟨wd, h2, look_hw h h2⟩
theorem mem_cutRow {s wd : Str} {lot : List (Str × Str)} {r : Row} : wd ∈ keys (cutRow s lot r).2 ↔ wd ∈ keys r.2 ∧ (s, wd) ∉ lot := by
  rw [keys_cutRow, List.mem_filter]
  simp
theorem spare_need {b : Book} {st : Str} (hb : WfB b) (hv : Via b st) {lot : List (Str × Str)} (hh : ∀ p ∈ lot, p ∈ wordsAt b "hears") : standsB (b, st) (cutB b lot, st) = true ↔ ∀ p ∈ lot, ¬ Need (b, st) p := by
  have kd : ∀ s, (look (cutB b lot) s).1 = (look b s).1 := fun s => by rw [look_cut']; rfl
  have says : ∀ {s wd : Str}, (look b s).1 = "says" → (s, wd) ∉ lot := fun {s wd} h z => by
    have := ((words_look hb).mp (hh _ z)).2.1
    rw [h] at this
    exact absurd this (by decide)
  -- good words that are kept lead on beside themselves
  have stpD : ∀ s, ∀ t ∈ stp b (cutB b lot) (s, s), t.1 ∈ goodW b s ∧ t.2 = (look (look b s).2 t.1, look (look b s).2 t.1) := by
    intro s t ht
    unfold stp at ht
    rw [if_pos (kd s).symm] at ht
    obtain ⟨wd, hw, rfl⟩ := List.mem_map.mp ht
    obtain ⟨h1, h2⟩ := List.mem_filter.mp hw
    refine ⟨h1, ?_⟩
    rw [has_iff, look_cut', mem_cutRow] at h2
    simp only
    rw [look_cut', look_cutRow, if_neg h2.2]
  have mtT : ∀ s, (∀ wd ∈ goodW b s, (s, wd) ∉ lot) → mt b (cutB b lot) (s, s) = true := by
    intro s hs
    unfold mt
    rw [if_pos (kd s).symm]
    by_cases k : (look b s).1 = "says"
    · rw [if_pos k, List.all_eq_true]
      intro wd hw
      rw [look_cut', mem_cutRow] at hw
      exact has_iff.mpr hw.1
    · rw [if_neg k, Bool.or_eq_true, List.all_eq_true]
      right
      intro wd hw
      rw [has_iff, look_cut', mem_cutRow]
      exact ⟨goodW_sub hw, hs wd hw⟩
  rw [standsB_iff]
  constructor
  · intro S p hp ⟨n1, n2, n3⟩
    have bad : ∀ q, Com (b, st) (cutB b lot, st) q → mt b (cutB b lot) q = false → False := fun q hq hm =>
      S hv q hq (Gfp.of (L := fun x => x = q) (fun y hy => by subst hy; exact .base rfl hm) rfl)
    have walk : ∀ s, Live (b, st) s → Com (b, st) (cutB b lot, st) (s, s) := by
      intro s hs
      induction hs with
      | refl => exact .refl
      | @tail y z _ h2 ih =>
        obtain ⟨wd, hw, rfl⟩ := (suc_good hb).mp h2
        refine .tail ih ?_
        cases hm : mt b (cutB b lot) (y, y) with
        | false => exact (bad _ ih hm).elim
        | true =>
          unfold led
          rw [if_pos hm]
          have hk : wd ∈ keys (look (cutB b lot) y).2 := by
            by_cases k : (look b y).1 = "says"
            · rw [look_cut', mem_cutRow]
              exact ⟨goodW_sub hw, says k⟩
            · unfold mt at hm
              rw [if_pos (kd y).symm, if_neg k, Bool.or_eq_true, List.all_eq_true] at hm
              rcases hm with hm | hm
              · have hy : y ∈ keys b := by
                  apply Classical.byContradiction
                  intro hn
                  have := goodW_sub hw
                  rw [look_default hn] at this
                  cases this
                exact (good_done hb hy (of_decide_eq_true hm) wd hw).elim
              · exact has_iff.mp (hm wd hw)
          refine List.mem_map.mpr ⟨(wd, (look (look b y).2 wd, look (look (cutB b lot) y).2 wd)), ?_, ?_⟩
          · unfold stp
            rw [if_pos (kd y).symm]
            exact List.mem_map.mpr ⟨wd, List.mem_filter.mpr ⟨hw, has_iff.mpr hk⟩, rfl⟩
          · rw [look_cut', mem_cutRow] at hk
            simp only
            rw [look_cut', look_cutRow, if_neg hk.2]
    refine bad _ (walk _ n2) ?_
    have k : (look b p.1).1 = "hears" := ((words_look hb).mp n1).2.1
    unfold mt
    rw [if_pos (kd p.1).symm, if_neg (show ¬ (look b p.1).1 = "says" by rw [k]; decide), Bool.or_eq_false_iff]
    refine ⟨decide_eq_false (by rw [k]; decide), List.all_eq_false.mpr ⟨p.2, (hw_good hb _ _).mp n3, ?_⟩⟩
    rw [has_iff, look_cut', mem_cutRow]
    exact fun z => z.2 hp
  · intro h
    have free : ∀ s, Live (b, st) s → ∀ wd ∈ goodW b s, (s, wd) ∉ lot := fun s hs wd hw z => h _ z ⟨hh _ z, hs, (hw_good hb _ _).mpr hw⟩
    refine stands_diag (live := Live (b, st)) rfl .refl (fun s hs => mtT s (free s hs)) (fun s hs k => ?_) (fun s hs q hq => ?_)
    · show ¬ (look b s).2.length > (look (cutB b lot) s).2.length
      rw [look_cut', ← keys_length (cutRow s lot (look b s)).2, keys_cutRow, List.filter_eq_self.mpr, keys_length]
      · exact Nat.lt_irrefl _
      · intro wd hw
        simp only [Bool.not_eq_true', decide_eq_false_iff_not]
        exact says k
    · obtain ⟨t, ht, rfl⟩ := List.mem_map.mp hq
      obtain ⟨h1, h2⟩ := stpD s t ht
      rw [h2]
      exact ⟨rfl, .tail hs ((suc_good hb).mpr ⟨t.1, h1, rfl⟩)⟩
/-! ### one word more -/
theorem look_put {κ α : Type} [DecidableEq κ] [Inhabited α] : ∀ (d : List (κ × α)) (k k' : κ) (x : α), look (put d k x) k' = if k = k' then x else look d k'
  | [], k, k', x => by
    show (if k = k' then x else default) = _
    rfl
  | y :: d, k, k', x => by
    have ih := look_put d k k' x
    show look (if y.1 = k then (k, x) :: d else y :: put d k x) k' = if k = k' then x else (if y.1 = k' then y.2 else look d k')
    by_cases e : y.1 = k
    · rw [if_pos e]
      show (if k = k' then x else look d k') = _
      by_cases e2 : k = k'
      · rw [if_pos e2, if_pos e2]
      · rw [if_neg e2, if_neg e2, if_neg (by rw [e]; exact e2)]
    · rw [if_neg e]
      show (if y.1 = k' then y.2 else look (put d k x) k') = _
      rw [ih]
      by_cases e2 : k = k'
      · rw [if_pos e2, if_pos e2, if_neg (by rw [← e2]; exact e)]
      · rw [if_neg e2, if_neg e2]
def moreB (b : Book) (s wd g : Str) : Book := put b s ((look b s).1, put (look b s).2 wd g)
theorem look_more (b : Book) (s wd g s' : Str) : look (moreB b s wd g) s' = if s = s' then ((look b s).1, put (look b s).2 wd g) else look b s' := look_put b s s' _
theorem stands_more {b : Book} {st s wd g : Str} (hb : WfB b) (hk : (look b s).1 = "hears") (hw : wd ∉ keys (look b s).2) : standsB (b, st) (moreB b s wd g, st) = true := by
  have kd : ∀ s', (look (moreB b s wd g) s').1 = (look b s').1 := fun s' => by
    rw [look_more]
    by_cases e : s = s'
    · rw [if_pos e, ← e]
    · rw [if_neg e]
  have sub : ∀ s' wd', wd' ∈ keys (look b s').2 → wd' ∈ keys (look (moreB b s wd g) s').2 ∧ look (look (moreB b s wd g) s').2 wd' = look (look b s').2 wd' := fun s' wd' h => by
    rw [look_more]
    by_cases e : s = s'
    · subst e
      rw [if_pos rfl]
      refine ⟨mem_put.mpr (.inr h), ?_⟩
      show look (put (look b s).2 wd g) wd' = _
      rw [look_put, if_neg]
      rintro rfl
      exact hw h
    · rw [if_neg e]
      exact ⟨h, rfl⟩
  have says : ∀ s', (look b s').1 = "says" → look (moreB b s wd g) s' = look b s' := fun s' h => by
    rw [look_more, if_neg]
    rintro rfl
    rw [hk] at h
    exact absurd h (by decide)
  rw [standsB_iff]
  refine stands_diag (live := fun _ => True) rfl trivial (fun s' _ => ?_) (fun s' _ k => ?_) (fun s' _ q hq => ⟨?_, trivial⟩)
  · show mt b (moreB b s wd g) (s', s') = true
    unfold mt
    rw [if_pos (kd s').symm]
    by_cases k : (look b s').1 = "says"
    · rw [if_pos k, List.all_eq_true, says s' k]
      exact fun wd' h => has_iff.mpr h
    · rw [if_neg k, Bool.or_eq_true, List.all_eq_true]
      exact .inr fun wd' h => has_iff.mpr (sub s' wd' (goodW_sub h)).1
  · show ¬ (look b s').2.length > (look (moreB b s wd g) s').2.length
    rw [says s' k]
    exact Nat.lt_irrefl _
  · obtain ⟨t, ht, rfl⟩ := List.mem_map.mp hq
    unfold stp at ht
    have hk2 : (look (b, st).1 (s', s').1).1 = (look (moreB b s wd g, st).1 (s', s').2).1 := (kd s').symm
    rw [if_pos hk2] at ht
    obtain ⟨wd', hw', rfl⟩ := List.mem_map.mp ht
    exact (sub s' wd' (goodW_sub (List.mem_filter.mp hw').1)).2.symm
theorem more_norm {b : Book} {st s wd g : Str} (hb : WfB b) (hk : (look (normB b) s).1 = "hears") (hw : wd ∉ keys (look (normB b) s).2) : standsB (normB b, st) (normB (moreB (normB b) s wd g), st) = true := by
  rw [stands_beq (.refl _) (beq_norm _) (wf_norm hb).rows]
  exact stands_more (wf_norm hb) hk hw
end En
set_option maxHeartbeats 4000000
/-! A dict laid into a display, {**d, k: v}. -/
namespace En
open PySem PySem.Spec PyProof.Rows L2
section
variable {P : Program} {w : World} {A : Around} {E : Value → Shared → Prop} {s : Shared}
theorem dput_mix {d : Addr} {kvs : List (Key × Value)} {k : Key} {key v : Value} {Q : Unit → Shared → Prop} (hk : (mixKind P w).is k key = true) (hm : s.heap.DictOf (mixKind P w) d kvs) (hz : kvs.length ≤ sizeLine)
    (q : ∀ h', h'.DictOf (mixKind P w) d (PySem.stored kvs k v) → Heap.SameBut d s.heap h' → Q () { s with heap := h' }) :
    wpAny (model P w) A (dictPut d ((mixKind P w).hash k) key v) Q E s := by
  obtain ⟨ob, en, ep, go, cx, dat, kz, pr, nd⟩ := hm
  have hsz : en.size ≤ sizeLine := by
    have := pr.length
    rw [Array.length_toList] at this
    omega
  have fi : (en.findIdx? fun e => (mixKind P w).is k e.key) = kvs.findIdx? fun kv => decide (kv.1 = k) := by
    rw [← pr.findIdx k]
    obtain ⟨l⟩ := en
    simp
  unfold dictPut
  refine wpAny_bind (wpAny_dictFind_of hk go dat kz ?_)
  cases e : en.findIdx? fun e => (mixKind P w).is k e.key with
  | some i =>
    have there := any_of_findIdx_some (fi.symm.trans e)
    refine wpAny_updateDict go dat (q _ ⟨_, _, ep, Heap.get?_update_self _ go (Obj.isFreed_of_dict (Obj.data_mapDict dat _)), cx.mapDict _, Obj.data_mapDict dat _, kz.modify _ _, ?_, ?_⟩ (Heap.SameBut.update ..))
    · rw [PySem.stored, if_pos there]
      have h2 : (en.toList.findIdx? fun e => (mixKind P w).is k e.key) = some i := by
        rw [← e]
        obtain ⟨l⟩ := en
        simp
      have h3 := pr.modify nd h2 v
      obtain ⟨l⟩ := en
      simpa using h3
    · rw [PySem.stored, if_pos there, keys_map_store]
      exact nd
  | none =>
    have gone := not_mem_of_findIdx_none (fi.symm.trans e)
    have no : ¬ (kvs.any fun kv => decide (kv.1 = k)) = true := fun z => by
      obtain ⟨kv, h1, h2⟩ := List.any_eq_true.mp z
      exact gone (List.mem_map.mpr ⟨kv, h1, of_decide_eq_true h2⟩)
    refine wpAny_updateDictKeys (hz := hsz) go dat (q _ ⟨_, _, ep + 1, Heap.get?_update_self _ go (Obj.isFreed_of_dict (Obj.data_mapDictKeys dat _)), cx.mapDictKeys _, Obj.data_mapDictKeys dat _, kz.push hk _, ?_, ?_⟩ (Heap.SameBut.update ..))
    · rw [PySem.stored, if_neg no]
      have h3 := pr.append hk ((mixKind P w).hash k) v
      obtain ⟨l⟩ := en
      simpa using h3
    · rw [PySem.stored, if_neg no, List.map_append]
      refine List.nodup_append.mpr ⟨nd, List.nodup_cons.mpr ⟨List.not_mem_nil, List.nodup_nil⟩, fun a ha b hb => ?_⟩
      rw [List.mem_singleton.mp hb]
      exact fun e => gone (by rw [← show a = k from e]; exact ha)
theorem merge_mix {d a : Addr} {kvs more : List (Key × Value)} {Q : Unit → Shared → Prop} (ne : d ≠ a) (ns : (a == sysModules) = false) (hd : s.heap.DictOf (mixKind P w) d kvs) (ha : s.heap.DictOf (mixKind P w) a more) (hz : kvs.length + more.length ≤ sizeLine)
    (q : ∀ h', h'.DictOf (mixKind P w) d (merged kvs more) → Heap.SameBut d s.heap h' → Q () { s with heap := h' }) :
    wpAny (model P w) A (mergeMapping d (.ref a) false) Q E s := by
  obtain ⟨oa, ea, pa, ga, ca, da, ka, ra, na⟩ := id ha
  obtain ⟨od, ed, pd, gd, cd, dd, kd, rd, _⟩ := id hd
  have ty : s.TypeIs (.ref a) "dict" := ⟨oa, ga, ca.1⟩
  unfold mergeMapping
  refine wpAny_bind (wpAny_isInstance (T := "dict") ty PySem.F.sub_dict_dict ?_)
  simp only [if_true]
  refine wpAny_bind (wpAny_specialOf ty PySem.F.slot_dict_iter.lookup ?_)
  simp only [pure_bind, beq_self_eq_true, ns, Bool.false_eq_true, if_false]
  have ln : more.length = ea.size := by rw [← ra.length, Array.length_toList]
  have loop : wpAny (model P w) A (do
      let es ← dictEntries a
      let epoch ← dictEpoch a
      forIn (List.range es.size) PUnit.unit fun i (_ : PUnit) => (do
        let es' ← dictEntries a
        match es'[i]? with
        | some e => do
          holding [e.key, e.val] (dictPut d e.hash e.key e.val)
          let ep' ← dictEpoch a
          if (ep' != epoch) = true then do
            (unsupported "dict.changed-during-merge" : Sem PUnit)
            pure (ForInStep.yield PUnit.unit)
          else pure (ForInStep.yield PUnit.unit)
        | _ => do
          (unsupported "dict.changed-during-merge" : Sem PUnit)
          pure (ForInStep.yield PUnit.unit) : Sem (ForInStep PUnit))
      pure ()) Q E s := by
    refine wpAny_bind (wpAny_dictEntries ga da (wpAny_bind (wpAny_dictEpoch ga da (wpAny_bind ?_))))
    rw [List.range_eq_range']
    refine wpAny_forIn_list _ (fun rest _ z => ∃ h' i, z = { s with heap := h' } ∧ rest = List.range' i (ea.size - i) ∧ i ≤ ea.size ∧ h'.DictOf (mixKind P w) d (merged kvs (more.take i)) ∧ h'.get? a = some oa ∧ Heap.SameBut d s.heap h') _ ?_ ?_ _ _
      ⟨s.heap, 0, rfl, by simp, Nat.zero_le _, by simpa [merged] using hd, ga, Heap.SameBut.refl _ _⟩
    · rintro x rest b z ⟨h', i, rfl, er, hi, d', a', sb⟩
      have hlt : i < ea.size := by
        apply Classical.byContradiction
        intro n
        rw [Nat.sub_eq_zero_of_le (Nat.not_lt.mp n)] at er
        simp at er
      rw [show ea.size - i = (ea.size - (i + 1)) + 1 by omega, List.range'_succ] at er
      injection er with e1 e2
      subst e1
      refine wpAny_bind (wpAny_dictEntries a' da ?_)
      rw [Array.getElem?_eq_getElem hlt]
      have hm : more[x]? = some (more[x]'(by rw [ln]; exact hlt)) := List.getElem?_eq_getElem _
      generalize more[x]'(by rw [ln]; exact hlt) = kv at hm
      obtain ⟨k, v⟩ := kv
      obtain ⟨g1, g2⟩ := ra.get? (e := ea[x]) (by simp [hlt]) hm
      obtain ⟨k2, g3, g4⟩ := ka ea[x] (Array.getElem_mem hlt)
      cases (mixKind P w).inj _ _ _ g3 g1
      have g2 : ea[x].val = v := g2
      dsimp only
      rw [g4, g2]
      have hz2 : (merged kvs (more.take x)).length ≤ sizeLine := by
        have h1 := merged_length_le kvs (more.take x)
        rw [List.length_take] at h1
        omega
      refine wpAny_bind (wpAny_holding (dput_mix g1 d' hz2 fun h2 d2 s2 => wpAny_bind (wpAny_dictEpoch ((s2.2 a (Ne.symm ne)).trans a') da ?_)))
      rw [if_neg (by simp)]
      exact wpAny_pure ⟨h2, x + 1, rfl, e2, hlt, by rw [merged_take_succ kvs more x (k, v) hm]; exact d2, (s2.2 a (Ne.symm ne)).trans a', sb.trans s2⟩
    · rintro b z ⟨h', i, rfl, er, hi, d', a', sb⟩
      have e : i = ea.size := by
        apply Classical.byContradiction
        intro n
        rw [show ea.size - i = (ea.size - (i + 1)) + 1 by omega, List.range'_succ] at er
        cases er
      rw [e, ← ln, List.take_length] at d'
      exact wpAny_pure (q h' d' sb)
  refine wpAny_bind (wpAny_dictEntries gd dd ?_)
  split
  · refine wpAny_bind (wpAny_dictEntries ga da ?_)
    have quiet : (forIn ea PUnit.unit fun e (_ : PUnit) => (match e.key with
        | Value.ref _ => do
          let r ← specialOf e.key (Str.ofString "__eq__")
          if (r != some (Value.builtin "object.__eq__")) = true then
            if (Array.filter (fun x => x.hash == e.hash) ea).size > 1 then do
              (unsupported "dict.merge-into-an-empty-dict:keys-of-equal-hash" : Sem PUnit)
              pure (ForInStep.yield PUnit.unit)
            else pure (ForInStep.yield PUnit.unit)
          else pure (ForInStep.yield PUnit.unit)
        | _ => pure (ForInStep.yield PUnit.unit) : Sem (ForInStep PUnit))) = pure PUnit.unit := by
      rw [← Array.forIn_toList]
      refine forIn_yield_id _ fun e he c => ?_
      obtain ⟨k, hk, _⟩ := ka e (Array.mem_toList_iff.mp he)
      have hk : keyIs k e.key = true := hk
      cases q : e.key <;> first | rfl | (rw [q] at hk; cases k <;> cases hk)
    refine wpAny_bind (wpAny_of_eq quiet ?_)
    exact loop
  · exact loop
end
/-- {**d, k: v}: p the new dict, p2 the short one that is laid into it -/
def tStar1 (td tk tv : TE) : TE := fun σ H Q => ∀ p, H p = none → td σ (upd H p (.dK [])) fun x H1 => ∃ a kvs, x = .ref a ∧ a ≠ p ∧ Rd H1 a (.dK kvs) ∧ H1 p = some (.dK []) ∧
  ∀ p2, H1 p2 = none → tk σ (upd (upd H1 p (.dK (mergeK [] kvs))) p2 (.dK [])) fun y H2 => tv σ H2 fun z H3 => ∃ k, y = kV k ∧ p ≠ p2 ∧ H3 p = some (.dK (mergeK [] kvs)) ∧ H3 p2 = some (.dK []) ∧ (mergeK [] kvs).length < sizeLine ∧
    Q (.ref p) (upd (upd H3 p2 (.dK [(k, z)])) p (.dK (putK (mergeK [] kvs) k z)))
theorem pe_star1 {X : Cx} {k dd v : Expr} {td tk tv : TE} {pos : Pos} (hd : PE X dd td) (hk : PE X k tk) (hv : PE X v tv) : PE X (.Dict [none, some k] [dd, v] pos) (tStar1 td tk tv) := by
  refine ⟨fun pins s σ H Q I q => ?_⟩
  rw [arm_eval_Dict]
  refine wpAny_bind (wpAny_standAt ?_)
  have shape : (evalEachOpt [none, some k] X.env).zip ((evalEach [dd, v] X.env).map fun t => do let x ← t; standAt pos; pure x) = [(none, do let x ← eval dd X.env; standAt pos; pure x), (some (eval k X.env), do let x ← eval v X.env; standAt pos; pure x)] := rfl
  rw [shape]
  unfold dictDisplay
  simp only [List.forIn_cons, List.forIn_nil, List.isEmpty_nil, if_true, pure_bind]
  simp only [bind_assoc, pure_bind, List.nil_append, List.length_singleton, List.isEmpty_cons]
  have e17 : ((1 : Nat) == 17) = false := by decide
  simp only [e17, pure_bind, Bool.false_eq_true, if_false, List.isEmpty_cons]
  have fresh := I.hok.fresh (Nat.le_refl s.heap.objs.size)
  have I1 := I.laid (a := s.heap.objs.size) (o := .dK []) (h' := s.heap.push { cls := .type "dict", data := .dict #[] }) (t' := s.toks) (fun _ _ q => Heap.get?_push_of_some _ q) (Nat.le_refl _) (dk_empty s.heap I.big)
  refine wpAny_bind (wpAny_alloc ?_)
  refine wpAny_bind (wpAny_holding (wpAny_bind (thn (hd.run pins _ σ _ _ I1 (q _ fresh)) fun u s2 ⟨x, H1, I2, rx, a, kvs, ex, ne, hr, hp, q2⟩ => wpAny_bind (wpAny_standAt (wpAny_pure ?_)))))
  subst ex
  obtain rfl : u = Value.ref a := rx
  generalize s.heap.objs.size = p at *
  obtain ⟨zk, na, vs, rk, da⟩ := dk_rd I2.hok hr
  obtain ⟨_, np, vs0, r0, dp⟩ := dk_of I2.hok hp
  cases r0
  have lk : kvs.length = vs.length := Paired.length rk
  have zm : (mergeK [] kvs).length ≤ sizeLine := Nat.le_trans (length_mergeK kvs []) (by simpa using zk)
  refine wpAny_bind (wpAny_onRaise (wpAny_tryCatch (wpAny_onRaise (wpAny_holding (merge_mix (Ne.symm ne) na dp da (by simpa [← lk] using zk) fun h3 d3 sb3 => ?_)))))
  have I3 := d_write (t' := s2.toks) I2 (by rw [hp]; trivial) sb3 (let ⟨o, _, _, h, _⟩ := d3; ⟨o, h⟩) (dk_new zm np (rk.merge .nil) d3)
  simp only [bind_assoc, pure_bind]
  generalize hs3 : ({ s2 with heap := h3 } : Shared) = s3 at I3 ⊢
  have I4 := I3.laid (a := s3.heap.objs.size) (o := .dK []) (h' := s3.heap.push { cls := .type "dict", data := .dict #[] }) (t' := s3.toks) (fun _ _ q => Heap.get?_push_of_some _ q) (Nat.le_refl _) (dk_empty s3.heap I3.big)
  have fresh3 := I3.hok.fresh (Nat.le_refl s3.heap.objs.size)
  have fresh1 : H1 s3.heap.objs.size = none := by
    apply Classical.byContradiction
    intro n
    have ne2 : s3.heap.objs.size ≠ p := fun e => by
      rw [e, L2.upd_same] at fresh3
      cases fresh3
    rw [L2.upd_ne ne2] at fresh3
    exact n fresh3
  refine wpAny_bind (wpAny_holding (wpAny_subDict (knd := mixKind X.prog X.w) (show (1 : Nat) ≤ 15 by decide) ?_))
  refine thn ((pps_cons hk hv pps_nil).run pins _ σ _ (fun ps H3 => match ps with
    | [(y, z)] => ∃ k, y = kV k ∧ p ≠ s3.heap.objs.size ∧ H3 p = some (.dK (mergeK [] kvs)) ∧ H3 s3.heap.objs.size = some (.dK []) ∧ (mergeK [] kvs).length < sizeLine ∧ Q (.ref p) (upd (upd H3 s3.heap.objs.size (.dK [(k, z)])) p (.dK (putK (mergeK [] kvs) k z)))
    | _ => False) I4 (q2 _ fresh1)) fun ws s4 ⟨ps, H4, I5, rel, q5⟩ => ?_
  generalize s3.heap.objs.size = p2 at *
  match ps, rel, q5 with
  | [(y, z)], rel, ⟨ky, ey, npp, hp4, hp5, hlt, qf⟩ =>
    subst ey
    cases rel with
    | @cons _ wv _ ws' hw ht =>
      cases ht
      obtain ⟨kw, vw⟩ := wv
      obtain ⟨rk2, rv2⟩ := hw
      obtain ⟨_, np2, vs2, r2, dp2⟩ := dk_of I5.hok hp5
      cases r2
      refine ⟨[(ky, vw)], ⟨kV_is rk2, rfl, trivial⟩, dp2, fun h6 d6 sb6 => ?_⟩
      have rk3 : KV [(ky, z)] [(ky, vw)] := .cons ⟨rfl, rv2⟩ .nil
      have e6 : merged [] [(ky, vw)] = [(ky, vw)] := merged_nil_of_nodup _ (by simp)
      rw [e6] at d6
      have I6 := d_write (t' := s4.toks + 1) I5 (by rw [hp5]; trivial) sb6 (let ⟨o, _, _, h, _⟩ := d6; ⟨o, h⟩) (dk_new (by rw [sizeLine_eq]; simp) np2 rk3 d6)
      have hp6 : upd H4 p2 (.dK [(ky, z)]) p = some (.dK (mergeK [] kvs)) := by rw [L2.upd_ne npp]; exact hp4
      obtain ⟨_, _, vs7, r7, dp7⟩ := dk_of I6.hok hp6
      obtain ⟨_, _, vs8, r8, dp8⟩ := dk_of I6.hok (L2.upd_same (H := H4) (a := p2) (o := .dK [(ky, z)]))
      have l7 : (mergeK [] kvs).length = vs7.length := Paired.length r7
      have l8 : [(ky, z)].length = vs8.length := Paired.length r8
      refine wpAny_bind (wpAny_onRaise (wpAny_holding (merge_mix npp np2 dp7 dp8 (by rw [← l7, ← l8]; simp; omega) fun h9 d9 sb9 => ?_)))
      have z9 : (putK (mergeK [] kvs) ky z).length ≤ sizeLine := by
        have := length_putK (mergeK [] kvs) ky z
        omega
      have I9 := d_write (ob := .dK (putK (mergeK [] kvs) ky z)) (t' := s4.toks + 1) I6 (by rw [hp6]; trivial) sb9 (let ⟨o, _, _, h, _⟩ := d9; ⟨o, h⟩) (dk_new z9 np (r8.merge r7) d9)
      exact wpAny_pure ⟨.ref p, _, I9, rfl, qf⟩
  | [], rel, q5 => exact q5.elim
  | _ :: _ :: _, rel, q5 => exact q5.elim
end En
set_option maxHeartbeats 4000000
/-! Sets of texts: made by a comprehension, sorted at once. -/
namespace En
open PySem PySem.Spec PyProof.Rows L2
/-- the text of an entry -/
def txE (e : Int × Value) : Str := match e.2 with | .str x _ => x | _ => Str.ofString ""
def GoodT (w : World) (e : Int × Value) : Prop := ∃ x tk, e.2 = Value.str x tk ∧ e.1 = hashStr w x
/-- the set of the texts L at a -/
structure TxAt (w : World) (h : Heap) (a : Addr) (L : List Str) (o : Obj) (es : Array (Int × Value)) (ep : Nat) (t : SetTable) : Prop where
  at_ : h.get? a = some o
  ex : o.ExactSet
  da : o.data = .set es ep t
  gd : ∀ e ∈ es.toList, GoodT w e
  pm : (es.toList.map txE).Perm L
  nd : L.Nodup
  few : es.size < scanBound
  fit : t.fits es.size = true
  ris : Ris t.place.toList
  led : w.params.followText "set-order" = true ∨ t.led = true
def SetT (w : World) (h : Heap) (a : Addr) (L : List Str) : Prop := ∃ o es ep t, TxAt w h a L o es ep t
section
variable {P : Program} {w : World}
theorem goodT_el {l : List (Int × Value)} (g : ∀ e ∈ l, GoodT w e) : ElemsOf (PySem.strKind P w) l := fun e he => by
  obtain ⟨x, tk, h1, h2⟩ := g e he
  refine ⟨⟨x, ?_, h2⟩, ?_⟩
  · rw [h1]
    show Value.isStrOf x (.str x tk) = true
    simp [Value.isStrOf]
  · rw [h1]
    rfl
theorem goodT_is {e : Int × Value} (g : GoodT w e) (x : Str) : (PySem.strKind P w).is x e.2 = true ↔ txE e = x := by
  obtain ⟨y, tk, h1, _⟩ := g
  unfold txE
  rw [h1]
  show Value.isStrOf x (.str y tk) = true ↔ y = x
  simp [Value.isStrOf]
variable {A : Around} {E : Value → Shared → Prop} {s : Shared} {a : Addr} {L : List Str}
/-- entries laid anew -/
theorem setT_stored {h : Heap} {o : Obj} {es es' : Array (Int × Value)} {ep : Nat} {t t' : SetTable} {M : List Str} (g : h.get? a = some o) (x : o.ExactSet) (d : o.data = .set es ep t)
    (gd : ∀ e ∈ es'.toList, GoodT w e) (pm : (es'.toList.map txE).Perm M) (nd : M.Nodup) (few : es'.size < scanBound) (fit : t'.fits es'.size = true) (ris : Ris t'.place.toList) (led : w.params.followText "set-order" = true ∨ t'.led = true) :
    TxAt w (h.update a (Obj.putSet es' t')) a M { o with data := .set es' (ep + 1) t' } es' (ep + 1) t' := by
  refine ⟨?_, x, rfl, gd, pm, nd, few, fit, ris, led⟩
  have e := putSet_of es' t' d
  rw [Heap.get?_update_self (Obj.putSet es' t') g (by rw [e]; rfl), e]
theorem setT_tail {gv : Bool → Sem Unit} (quiet : ∀ (b : Bool) (z : Shared) (Q' : Unit → Shared → Prop), Q' () z → wpAny (model P w) A (gv b) Q' E z)
    {o : Obj} {es es1 : Array (Int × Value)} {ep : Nat} {t t2 : SetTable} {M : List Str} (g : s.heap.get? a = some o) (x : o.ExactSet) (d : o.data = .set es ep t)
    (gd : ∀ e ∈ es1.toList, GoodT w e) (pm : (es1.toList.map txE).Perm M) (nd : M.Nodup) (few : es1.size < scanBound) (fit : t2.fits es1.size = true) (ris : Ris t2.place.toList) (led : w.params.followText "set-order" = true ∨ t2.led = true)
    {wd : Bool} {R : Option Bool → Shared → Prop} (q : ∀ h', Heap.SameBut a s.heap h' → SetT w h' a M → R (some true) { s with heap := h' }) :
    wpAny (model P w) A (do
        storeSet a es1 t2
        if (!wd && t2.tooFull) = true then do
            gv (relayAll t2 es1 (SetTable.grown es1.size)).2.2
            storeSet a (relayAll t2 es1 (SetTable.grown es1.size)).1 (relayAll t2 es1 (SetTable.grown es1.size)).2.1
            pure (some true)
          else pure (some true)) R E s := by
  have T1 := setT_stored g x d gd pm nd few fit ris led
  refine wpAny_bind (wpAny_storeSet_of g d ?_ (fits_of_scanBound few))
  by_cases c : (!wd && t2.tooFull) = true
  · rw [if_pos c]
    have p1 := relayAll_perm t2 es1 (SetTable.grown es1.size)
    have p2 := relayAll_fits t2 es1 (SetTable.grown es1.size)
    have p3 := relayAll_ris t2 es1 (SetTable.grown es1.size)
    have p4 := relayAll_led t2 es1 (SetTable.grown es1.size)
    revert p1 p2 p3 p4
    generalize relayAll t2 es1 (SetTable.grown es1.size) = Z
    obtain ⟨es2, t3, gave⟩ := Z
    intro p1 p2 p3 p4
    dsimp only at p1 p2 p3 p4 ⊢
    have few2 : es2.size < scanBound := by
      have := p1.length_eq
      rw [Array.length_toList, Array.length_toList] at this
      omega
    have T2 := setT_stored T1.at_ x rfl (fun e he => gd e (p1.mem_iff.mp he)) ((p1.map txE).trans pm) nd few2 p2 p3 (led.imp id fun z => by rw [p4]; exact z)
    exact wpAny_bind (quiet _ _ _ (wpAny_bind (wpAny_storeSet_of T1.at_ rfl (wpAny_pure (q _ ((Heap.SameBut.update s.heap a _).trans (Heap.SameBut.update _ a _)) ⟨_, _, _, _, T2⟩)) (fits_of_scanBound few2))))
  · rw [if_neg c]
    exact wpAny_pure (q _ (Heap.SameBut.update s.heap a _) ⟨_, es1, _, t2, T1⟩)
theorem setT_hashed {y : Str} {tk : Tok} {Q : Bool → Shared → Prop} (R : SetT w s.heap a L) (room : L.length + 1 < scanBound)
    (q1 : y ∈ L → Q false s) (q2 : y ∉ L → ∀ h', Heap.SameBut a s.heap h' → SetT w h' a (y :: L) → Q true { s with heap := h' }) :
    wpAny (model P w) A (setAddHashed a (.str y tk) ((PySem.strKind P w).hash y)) Q E s := by
  obtain ⟨o, es, ep, t, T⟩ := R
  have hy : (PySem.strKind P w).is y (.str y tk) = true := by
    show Value.isStrOf y (.str y tk) = true
    simp [Value.isStrOf]
  have el : ElemsOf (PySem.strKind P w) es.toList := goodT_el T.gd
  have sc : (Value.str y tk).scannable = true := rfl
  unfold setAddHashed setAddHashedIn
  refine wpAny_holding (wpAny_bind (wpAny_setState_of T.at_ T.da T.fit ?_))
  dsimp only
  rw [byScan_of sc T.few el]
  simp only [if_true]
  unfold setAddByScan
  refine wpAny_bind (wpAny_bind (wpAny_rule (wpAny_bind (wpAny_setScan_of hy T.at_ T.da T.fit el ?_))))
  cases f : List.findIdx? (fun e => (PySem.strKind P w).is y e.2) es.toList with
  | some j =>
    obtain ⟨hj, pj, _⟩ := List.findIdx?_eq_some_iff_getElem.mp f
    have hm := List.getElem_mem hj
    have : y ∈ L := T.pm.mem_iff.mp (List.mem_map.mpr ⟨_, hm, (goodT_is (P := P) (T.gd _ hm) y).mp pj⟩)
    exact wpAny_pure (wpAny_pure (q1 this))
  | none =>
    have no : y ∉ L := fun z => by
      obtain ⟨e, he, r⟩ := List.mem_map.mp (T.pm.mem_iff.mpr z)
      have := List.findIdx?_eq_none_iff.mp f e he
      rw [(goodT_is (P := P) (T.gd e he) y).mpr r] at this
      cases this
    dsimp only
    have p1 := layNew_perm t es ((PySem.strKind P w).hash y) (.str y tk)
    have p2 := layNew_fits t es ((PySem.strKind P w).hash y) (.str y tk)
    have p3 := layNew_ris t es ((PySem.strKind P w).hash y) (.str y tk) T.ris
    have p4 := layNew_led t es ((PySem.strKind P w).hash y) (.str y tk)
    revert p1 p2 p3 p4
    generalize layNew t es ((PySem.strKind P w).hash y) (.str y tk) = Z
    obtain ⟨es1, t1, wd, gave⟩ := Z
    intro p1 p2 p3 p4
    dsimp only at p1 p2 p3 p4 ⊢
    rw [Array.toList_push] at p1
    have p5 : es1.toList.Perm (((PySem.strKind P w).hash y, Value.str y tk) :: es.toList) := p1.trans (List.perm_append_singleton _ _)
    have gd1 : ∀ e ∈ es1.toList, GoodT w e := fun e he => by
      rcases List.mem_cons.mp (p5.mem_iff.mp he) with z | z
      · rw [z]
        exact ⟨y, tk, rfl, rfl⟩
      · exact T.gd e z
    have pm1 : (es1.toList.map txE).Perm (y :: L) := (p5.map txE).trans (T.pm.cons y)
    have nd1 : (y :: L).Nodup := List.nodup_cons.mpr ⟨no, T.nd⟩
    have few1 : es1.size < scanBound := by
      have := pm1.length_eq
      rw [List.length_map, Array.length_toList, List.length_cons] at this
      omega
    have led1 : w.params.followText "set-order" = true ∨ t1.led = true := T.led.imp id fun z => by rw [p4]; exact z
    have quiet : ∀ (b : Bool) (z : Shared) (Q' : Unit → Shared → Prop), Q' () z → wpAny (model P w) A (match b with | true => rule "set.scan.the-table-gave-way" | false => pure ()) Q' E z := fun b z Q' q => by
      cases b
      · exact wpAny_pure q
      · exact wpAny_rule q
    have fin : ∀ h', Heap.SameBut a s.heap h' → SetT w h' a (y :: L) → Q true { s with heap := h' } := q2 no
    refine wpAny_bind (quiet _ _ _ ?_)
    by_cases pl : t1.plain = true
    · rw [if_pos pl, hashByValue_scannable 8 sc]
      refine wpAny_bind (wpAny_pure ?_)
      try simp only [↓reduceIte]
      refine setT_tail ?_ T.at_ T.ex T.da gd1 pm1 nd1 few1 ?_ ?_ ?_ ?_
      · intro b z Q' q
        cases b
        · exact wpAny_pure q
        · exact wpAny_rule q
      · first | exact p2 | (split <;> first | exact p2 | exact SetTable.fits_plain_off p2)
      · first | exact p3 | (split <;> exact p3)
      · first | exact led1 | (split <;> exact led1)
      · intro h' sb r
        dsimp only
        exact wpAny_pure (fin h' sb r)
    · rw [if_neg pl]
      refine wpAny_bind (wpAny_pure ?_)
      try simp only [↓reduceIte]
      refine setT_tail ?_ T.at_ T.ex T.da gd1 pm1 nd1 few1 ?_ ?_ ?_ ?_
      · intro b z Q' q
        cases b
        · exact wpAny_pure q
        · exact wpAny_rule q
      · first | exact p2 | (split <;> first | exact p2 | exact SetTable.fits_plain_off p2)
      · first | exact p3 | (split <;> exact p3)
      · first | exact led1 | (split <;> exact led1)
      · intro h' sb r
        dsimp only
        exact wpAny_pure (fin h' sb r)
theorem SetT.keep {h h' : Heap} (R : SetT w h a L) (k : ∀ o, h.get? a = some o → h'.get? a = some o) : SetT w h' a L := by
  obtain ⟨o, es, ep, t, T⟩ := R
  exact ⟨o, es, ep, t, { T with at_ := k o T.at_ }⟩
theorem setT_fresh {h : Heap} : SetT w (h.push { cls := .type "set", dict := none, data := .set #[] 0 (.fresh 0 0 (!w.params.followText "set-order")) }) h.objs.size [] := by
  refine ⟨_, #[], 0, _, Heap.get?_push_size _ rfl, ⟨rfl, rfl, rfl⟩, rfl, fun e he => by simp at he, by simp, .nil, by decide, rfl, List.Pairwise.nil, ?_⟩
  show _ ∨ (!w.params.followText "set-order") = true
  cases w.params.followText "set-order"
  · exact .inr rfl
  · exact .inl rfl
/-- found.add(a text) -/
theorem setT_add {y : Str} {tk : Tok} {Q : Value → Shared → Prop} (R : SetT w s.heap a L) (room : L.length + 1 < scanBound)
    (q1 : y ∈ L → Q .none { s with toks := s.toks + 1 }) (q2 : y ∉ L → ∀ h', Heap.SameBut a s.heap h' → SetT w h' a (y :: L) → Q .none { s with heap := h', toks := s.toks + 1 }) :
    wpAny (model P w) A (call (.builtin "set.add") [.ref a, .str y tk]) Q E s := by
  have ty : s.TypeIs (.ref a) "set" := by
    obtain ⟨o, _, _, _, T⟩ := R
    exact ⟨o, T.at_, T.ex.1⟩
  refine wpAny_call_entry F.slot_set_add ty F.entry_set_add ?_ (F.args_set_add_2 _ _)
  unfold Builtin.«set.add» Builtin.Frozenset.oneOther
  simp only [List.isEmpty_nil, bind_assoc]
  unfold Builtin.Frozenset.addrOf setAdd
  refine wpAny_bind (wpAny_pure ?_)
  try dsimp only
  refine wpAny_bind (wpAny_pure ?_)
  try dsimp only
  have hy : (PySem.strKind P w).is y (.str y tk) = true := by
    show Value.isStrOf y (.str y tk) = true
    simp [Value.isStrOf]
  refine wpAny_bind (wpAny_holding (wpAny_bind ((PySem.strKind P w).pyHash hy ?_)))
  refine setT_hashed (s := { s with toks := s.toks + 1 }) R room (fun m => ?_) (fun m h' sb r => ?_)
  · exact wpAny_pure ⟨_, rfl, q1 m⟩
  · exact wpAny_pure ⟨_, rfl, q2 m h' sb r⟩
end
end En
set_option maxHeartbeats 4000000
/-! A set comprehension of texts, sorted(a set of texts). -/
namespace En
open PySem PySem.Spec PyProof.Rows L2
/-- the set of the texts L at a, for the heap of objects -/
def SetXO (w : World) (a : Addr) (L : List Str) : HO := .ext fun h => SetT w h a L
theorem setXO_new {w : World} {P : Program} {H : Hp} {h : Heap} {a : Addr} {L : List Str} (R : SetT w h a L) : ObjOk P w H h a (SetXO w a L) := by
  have ⟨o, _, _, _, T⟩ := R
  exact ⟨R, ⟨o, T.at_⟩, fun h1 h2 p k => SetT.keep p k⟩
section
variable {X : Cx}
/-- sorted(a set of texts) -/
def rSortedX (w : World) : List V → Hp → VK → Prop := fun vs H Q => ∃ (a : Addr) (L : List Str), vs = [V.ref a] ∧ H a = some (SetXO w a L) ∧ L.length < 64 ∧
  ∀ (ys : List Str) (p : Addr), ys.Perm L → sortedS ys = true → H p = none → Q (.ref p) (upd H p (.lst (ys.map V.str)))
theorem call_sortedSt (hc : X.calm = true) : CallR X (.builtin "sorted") (rSortedX X.w) := by
  intro pins s σ H vs us Q I r h
  obtain ⟨a, L, rfl, ha, h64, q⟩ := h
  obtain ⟨o, es, ep, t, T⟩ := (show SetT X.w s.heap a L from (I.hok a _ ha).1)
  rw [Vals.ref1 r]
  refine Calls.call_function_entry PyProof.Rows.kind_sorted PyProof.Rows.plain_sorted PyProof.Rows.entry_sorted (PyProof.Rows.args_sorted1 _) ?_
  unfold Builtin.«sorted»
  refine wpAny_bind (m := checkCount "sorted" 1 1 _) (wpAny_pure ?_)
  refine wpAny_bind (collect_set (A := X.A.in1) (I.ok.hd hc) ⟨o, T.at_, T.ex.1, T.da⟩ T.fit T.few T.ris T.led fun s1 vs k1 hz g1 o1 pm => ?_)
  have hvl : vs.length = L.length := by rw [pm.length_eq, List.length_map, ← T.pm.length_eq, List.length_map]
  have hS : StrsAre vs (vs.map fun v => txE (0, v)) := by
    have all : ∀ v ∈ vs, ∃ x tk, v = Value.str x tk := fun v hv => by
      obtain ⟨e, he, q⟩ := List.mem_map.mp (pm.mem_iff.mp hv)
      obtain ⟨x, tk, h1, _⟩ := T.gd e he
      exact ⟨x, tk, by rw [← q]; exact h1⟩
    clear pm hvl
    induction vs with
    | nil => exact .nil
    | cons v vs ih =>
      obtain ⟨x, tk, rfl⟩ := all v (List.mem_cons_self ..)
      exact .cons x tk (ih fun u hu => all u (List.mem_cons_of_mem _ hu))
  have pk : (vs.map fun v => txE (0, v)).Perm L := by
    have e := pm.map fun v => txE (0, v)
    rw [List.map_map] at e
    exact e.trans T.pm
  refine wpAny_bind (wpAny_newList ?_ (by rw [hvl, sizeLine_eq]; omega))
  have hoL : (s1.heap.push (seqObj "list" vs.toArray 0)).get? s1.heap.objs.size = some (seqObj "list" vs.toArray 0) := Heap.get?_push_size _ rfl
  refine wpAny_bind (wpAny_holding (wpAny_call_entry PyProof.Rows.slot_list_sort ⟨_, hoL, rfl⟩ PyProof.Rows.entry_list_sort
    (list_sort_treeK strKind_oneLt (s := { s1 with heap := s1.heap.push (seqObj "list" vs.toArray 0) }) hoL hS.keysOf (fun v₁ v₂ rest e => keyKind_strs (by rw [← e]; exact hS)) (by rw [hvl]; exact h64) fun st' hp hs => ⟨_, rfl, ?_⟩)
    (PyProof.Rows.args_list_sort _)))
  obtain ⟨ys, e1, e2, e3⟩ := sorted_out_str hS hp hs
  obtain ⟨e', he'⟩ := PyProof.Rows.sortedHeap_at (vs := vs) (out := (arrOf st').map (·.2)) hoL
  have hlen : (ys.map V.str).length ≤ sizeLine := by
    rw [List.length_map, e2.length_eq, pk.length_eq, sizeLine_eq]
    omega
  have hn : H s1.heap.objs.size = none := I.hok.fresh hz
  have old : ∀ b u, s.heap.get? b = some u → (sortedHeap (s1.heap.push (seqObj "list" vs.toArray 0)) s1.heap.objs.size vs ((arrOf st').map (·.2))).get? b = some u := fun b u e => by
    have e5 := k1 b u e
    have hb := Heap.lt_size e5
    rw [PyProof.Rows.sortedHeap_old (Nat.ne_of_lt hb) (by rw [size_push']; exact Nat.lt_succ_of_lt hb)]
    exact Heap.get?_push_of_some _ e5
  refine wpAny_pure ⟨_, rfl, .ref s1.heap.objs.size, upd H s1.heap.objs.size (.lst (ys.map V.str)), ?_, rfl, q ys _ (e2.trans pk) e3 hn⟩
  have new : ObjOk X.prog X.w (upd H s1.heap.objs.size (.lst (ys.map V.str))) (sortedHeap (s1.heap.push (seqObj "list" vs.toArray 0)) s1.heap.objs.size vs ((arrOf st').map (·.2))) s1.heap.objs.size (.lst (ys.map V.str)) :=
    ⟨hlen, ((arrOf st').map (·.2)).toList, e', vals_of_strs e1, by rw [Array.toArray_toList]; exact he'⟩
  exact I.call' (ch := []) o1 (Un.laid old hz hn) (I.hok.laid old hz new) (by show AllBare s1.gens; rw [g1]; exact I.bare) (fun _ z => nomatch z)
/-- {a text for ..} -/
def tScT (w : World) (wi : TI) (g : TG) (tt : TT) (te : TE) (vs : List Nat) : TE := fun σ H Q => wi σ H fun J H1 => ∀ D, H1 D = none → ∃ W : Nat → Nat → Hp → Prop, (∃ m, W 0 m (upd H1 D (SetXO w D []))) ∧ ∀ i m H, W i m H →
  (J.stop i H ∧ Q (.ref D) H) ∨ (J.go i H ∧ ∃ Nz : Hp → Prop, (∀ G, Nz G → ∃ m2, m2 < m ∧ W (i + 1) m2 G) ∧ ∀ x G, J.yld i H x G → g x (wipe σ vs) G fun τ2 G2 => wipe τ2 vs = wipe σ vs ∧ tt τ2 G2 fun b G3 =>
    if b = true then te τ2 G3 fun y G4 => ∃ (c : Str) (L : List Str), y = .str c ∧ G4 D = some (SetXO w D L) ∧ L.length + 1 < scanBound ∧ (c ∈ L → Nz G4) ∧ (c ∉ L → Nz (upd G4 D (SetXO w D (c :: L)))) else Nz G3)
theorem scT_core {pins : List (Addr × Obj)} {s : Shared} {σ : L2.St} {H : Hp} {Q : VK} {el tg iter : Expr} {ifs : List Expr} {scope : Scope} {own : List (Str × Nat)} {pos pos' : Pos}
    {wi : TI} {g : TG} {tt : TT} {te : TE} {use : Option (Value → Sem Unit)} {Qf : Value → Shared → Prop} 
    (hc : X.calm = true) (hN : X.N.Nodup) (I : Inv X pins σ H s) (hi : PI X tg iter wi) (ok : BlkOk X.N X.env.scope scope own)
    (hg : ∀ s H C cl fp, PG (BlkOf X scope s H C cl fp) tg g) (ht : ∀ s H C cl fp, PTs (BlkOf X scope s H C cl fp) ifs tt)
    (he : ∀ s H C cl fp, PE (BlkOf X scope s H C cl fp) el te) (hs : ∀ x, foldedSetIterable iter X.env x = pure x)
    (h : tScT X.w wi g tt te (own.map (·.2)) σ H Q)
    (hRR : ∀ D C s' m H', Inv X pins σ H' s' → Q (.ref D) H' → s'.heap.Ns C m → FpOk X pins H' C → compPost (model X.prog X.w) X.A X.xe use Qf (.ref D) C (.ok .next) s') :
    wpAny (model X.prog X.w) X.A (comprehension (.SetComp el [⟨tg, iter, ifs, 0⟩] scope pos) scope X.env pos' (newSet (.type "set")) false (eval iter X.env) use) Qf X.xe s := by
  have fv : ∀ y ∈ scope.names, y.2 = .free → ∃ c, X.env.cells.lookup y.1 = some c := fun y hy e => by
    rcases ok.free y hy e with k | k
    · exact I.ok.has _ (.inl k)
    · exact I.ok.has _ (.inr k)
  refine wpAny_comprehension_free (use := use) rfl hs (closure_ok fv) ok.kind (fun y hy e => by rw [ok.uniq y hy, e])
    (thn (hi.run pins s σ H _ I h) fun xv z1 hx => thn hx fun itv z2 h2 => ?_)
  obtain ⟨itr, fps, tno, J, G2, e, J2, T, tn2, fo2, q⟩ := h2
  subst e
  refine PpSet.newSet_ok (newEnv_comp ?_)
  generalize dq : z2.heap.objs.size = D
  have dn : G2 D = none := J2.hok.fresh (Nat.le_of_eq dq)
  obtain ⟨W, ⟨k0, wt0⟩, step0⟩ := q D dn
  -- the new list
  generalize q3 : ({ z2 with heap := z2.heap.push { cls := .type "set", dict := none, data := .set #[] 0 (.fresh 0 0 (!X.w.params.followText "set-order")) } } : Shared) = z3
  have J3 : Inv X pins σ (upd G2 D (SetXO X.w D [])) z3 := by
    rw [← q3]
    refine J2.laid (t' := z2.toks) (fun b o e => Heap.get?_push_of_some _ e) (Nat.le_of_eq dq) ?_
    rw [← dq]
    exact setXO_new setT_fresh
  have e3 : z3.heap = z2.heap.push { cls := .type "set", dict := none, data := .set #[] 0 (.fresh 0 0 (!X.w.params.followText "set-order")) } := by rw [← q3]
  have inb : ∀ b ∈ fps, b < z2.heap.objs.size := fun b bm => by
    obtain ⟨o, e, _⟩ := T.obj _ _ tn2 b bm
    exact Heap.lt_size e
  have fo3 : ∀ b ∈ fps, FpOk X pins (upd G2 D (SetXO X.w D [])) b ∧ b < z3.heap.objs.size := fun b bm => by
    have below := inb b bm
    refine ⟨⟨?_, (fo2 b bm).2⟩, by rw [e3, Heap.size_push]; exact Nat.lt_succ_of_lt below⟩
    rw [upd_ne (by rw [← dq]; exact Nat.ne_of_lt below)]
    exact (fo2 b bm).1
  have tn3 : tno 0 z3.heap := T.keep _ _ _ tn2 fun b _ o e => by rw [e3]; exact Heap.get?_push_of_some _ e
  have J4 := block_start J3 ok hN fo3
  have tgp : PG (X.blk z3 (upd G2 D (SetXO X.w D [])) scope (compEnvC scope (cellsFrom (z3.heap.objs.size + 1) scope.names (cloFrom X.env.cells scope.names [])) z3.heap.objs.size X.env) fps) tg g := hg z3 (upd G2 D (SetXO X.w D [])) z3.heap.objs.size (cellsFrom (z3.heap.objs.size + 1) scope.names (cloFrom X.env.cells scope.names [])) fps
  have tsp : PTs (X.blk z3 (upd G2 D (SetXO X.w D [])) scope (compEnvC scope (cellsFrom (z3.heap.objs.size + 1) scope.names (cloFrom X.env.cells scope.names [])) z3.heap.objs.size X.env) fps) ifs tt := ht z3 (upd G2 D (SetXO X.w D [])) z3.heap.objs.size (cellsFrom (z3.heap.objs.size + 1) scope.names (cloFrom X.env.cells scope.names [])) fps
  have vlp : PE (X.blk z3 (upd G2 D (SetXO X.w D [])) scope (compEnvC scope (cellsFrom (z3.heap.objs.size + 1) scope.names (cloFrom X.env.cells scope.names [])) z3.heap.objs.size X.env) fps) el te := he z3 (upd G2 D (SetXO X.w D [])) z3.heap.objs.size (cellsFrom (z3.heap.objs.size + 1) scope.names (cloFrom X.env.cells scope.names [])) fps
  show codeAny _ _ (.compStart (.SetComp el [⟨tg, iter, ifs, 0⟩] scope pos) 0 (.ref itr) (.ref D) (compEnvC scope (cellsFrom (z3.heap.objs.size + 1) scope.names (cloFrom X.env.cells scope.names [])) z3.heap.objs.size X.env)) (compPost (model X.prog X.w) X.A X.xe use Qf (.ref D) z3.heap.objs.size) { z3 with heap := pushCells (z3.heap.push { cls := .type "dict", data := .dict #[] }) scope.names }
  have nf : ∀ b ∈ fps, (upd G2 D (SetXO X.w D [])) b = none := fun b bm => (fo3 b bm).1.1
  generalize qce : compEnvC scope (cellsFrom (z3.heap.objs.size + 1) scope.names (cloFrom X.env.cells scope.names [])) z3.heap.objs.size X.env = env2 at J4 tgp tsp vlp ⊢
  have eL : env2.locals = z3.heap.objs.size := by subst qce; rfl
  generalize qH : upd G2 D (SetXO X.w D []) = G3 at J3 J4 tgp tsp vlp wt0 nf fo3
  generalize q4 : ({ z3 with heap := pushCells (z3.heap.push { cls := .type "dict", data := .dict #[] }) scope.names } : Shared) = z4 at J4 ⊢
  have tn4 : tno 0 z4.heap := T.keep _ _ _ tn3 fun b _ o e => by rw [← q4]; exact pushCells_keeps _ _ _ _ (Heap.get?_push_of_some _ e)
  have fpk : ∀ {τx : L2.St} {Gx : Hp} {zx : Shared}, Inv (X.blk z3 G3 scope env2 fps) [] τx Gx zx → (∀ b ∈ fps, Gx b = none) → ∀ b ∈ fps, FpOk (X.blk z3 G3 scope env2 fps) [] Gx b := fun {τx Gx zx} Jx hns b bm =>
    ⟨hns b bm, (Jx.ok.exf b bm).1, Jx.ok.exfs b bm, .inl bm, fun x c e => (Jx.ok.exf b bm).2 x c e, fun p hp => absurd (show p ∈ ([] : List (Addr × Obj)) ++ [] from hp) (by simp)⟩
  have main : codeAny (model X.prog X.w) X.A (.compLoop (.SetComp el [⟨tg, iter, ifs, 0⟩] scope pos) 0 (.ref itr) (.ref D) env2) (compPost (model X.prog X.w) X.A X.xe use Qf (.ref D) z3.heap.objs.size) z4 := by
    refine PpSet.compLoopS_any (fun n zx => ∃ i Gx, Inv (X.blk z3 G3 scope env2 fps) [] (wipe σ (own.map (·.2))) Gx zx ∧ tno i zx.heap ∧ (∀ b ∈ fps, Gx b = none) ∧ W i n Gx) ?_ k0 ⟨0, G3, J4, tn4, nf, wt0⟩
    rintro n z5 ⟨i, G5, J5, tn5, n5, wt5⟩
    rcases step0 i n G5 wt5 with ⟨halt, qd⟩ | ⟨go, Nz, nxt, goes⟩
    · have td0 := T.done (X.blk z3 G3 scope env2 fps) rfl rfl rfl hc i [] z5 _ G5 (fun _ _ => False) J5 (fpk J5 n5) tn5 halt
      refine thnF td0 fun r z6 ⟨isr, J6⟩ => ?_
      subst isr
      -- back in the def's context
      have J7 : Inv X pins σ G5 z6 := J3.call' (ch := fps) J6.os J6.base J6.hok J6.bare fun b bm => ⟨(fo3 b bm).1.2.2.2.1, (fo3 b bm).1.2.1, (fo3 b bm).1.2.2.2.2.1, (fo3 b bm).1.2.2.2.2.2⟩
      have cfr : G5 z3.heap.objs.size = none := by
        have z : G5 env2.locals = none := J6.free
        rw [eL] at z
        exact z
      obtain ⟨m, hns, _⟩ := J6.loc
      have hns : z6.heap.Ns env2.locals m := hns
      rw [eL] at hns
      exact hRR D z3.heap.objs.size z6 m G5 J7 qd hns (J3.fpOk (Nat.le_refl _) cfr)
    · have ti0 := T.item (X.blk z3 G3 scope env2 fps) rfl rfl rfl hc i [] z5 _ G5 (fun _ _ => False) J5 (fpk J5 n5) tn5 go
      refine thnF ti0 fun r z6 ⟨u, isr, h6⟩ => ?_
      subst isr
      refine thnF h6 fun _ z7 ⟨x, G7, J7, r7, y7, tn7, n7⟩ => ?_
      have J7p := J7.pinned (fpk J7 n7) (T.obj _ _ tn7)
      refine thnF (tgp.run _ z7 _ G7 x u _ J7p r7 (goes x G7 y7)) fun _ z8 ⟨τ8, G8, J8, wp8, q8⟩ => ?_
      refine thnF (tsp.run _ z8 τ8 G8 _ J8 q8) fun b z9 ⟨G9, J9, q9⟩ => ?_
      -- the turn's end
      have ends : ∀ {zx : Shared} {Gx : Hp}, Inv (X.blk z3 G3 scope env2 fps) ([] ++ pinsAt fps z7.heap) τ8 Gx zx → Nz Gx → ∃ m, m < n ∧ ∃ i Gx, Inv (X.blk z3 G3 scope env2 fps) [] (wipe σ (own.map (·.2))) Gx zx ∧ tno i zx.heap ∧ (∀ b ∈ fps, Gx b = none) ∧ W i m Gx := fun {zx Gx} Jx nx => by
        obtain ⟨mx, lt1, wtx⟩ := nxt Gx nx
        have pinx : ∀ b ∈ fps, ∀ o, z7.heap.get? b = some o → zx.heap.get? b = some o ∧ Gx b = none := fun b bm o e =>
          let z := Jx.pin (b, o) (List.mem_append_right _ (List.mem_append_right _ (mem_pinsAt bm e)))
          ⟨z.1, z.2.1⟩
        have lens : (wipe σ (own.map (·.2))).length = τ8.length := by rw [← wp8, wipe_length]
        refine ⟨mx, lt1, i + 1, Gx, (Jx.unpinned (pins := [])).weak lens (fun j v e => ?_), T.keep _ _ _ tn7 fun b bm o e => (pinx b bm o e).1, fun b bm => ?_, wtx⟩
        · rw [← wp8] at e
          exact (wipe_some e).1
        · obtain ⟨o, e, _⟩ := T.obj _ _ tn7 b bm
          exact (pinx b bm o e).2
      cases b with
      | false =>
        rw [if_neg Bool.false_ne_true] at q9
        rw [if_neg Bool.false_ne_true]
        exact ends J9 q9
      | true =>
        rw [if_pos rfl] at q9
        rw [if_pos rfl]
        refine thnF (vlp.run _ z9 τ8 G9 _ J9 q9) fun c2 z11 ⟨yv, G11, J11, r11, c, L, ey, dG, lG, nx1, nx2⟩ => ?_
        subst ey
        obtain ⟨tk, rfl⟩ := (show ∃ tk, c2 = Value.str c tk from r11)
        have R : SetT X.w z11.heap D L := (J11.hok D _ dG).1
        refine setT_add R lG (fun m => ends (J11.tok _) (nx1 m)) (fun m h' sb r => ?_)
        exact ends (J11.write (e := D) (t' := z11.toks + 1) (by rw [dG]; trivial) (.inl rfl) (fun b u hb hu => (sb.2 b hb).trans hu) (let ⟨o, _, _, _, T⟩ := r; ⟨o, T.at_⟩) (setXO_new r)) (nx2 m)
  exact PpSet.codeAny_compStart_set main (T.self X.A 0 _ _ _ tn4 main)
theorem pe_scS {el tg iter : Expr} {ifs : List Expr} {scope : Scope} {own : List (Str × Nat)} {pos : Pos} {wi : TI} {g : TG} {tt : TT} {te : TE} 
    (hc : X.calm = true) (hN : X.N.Nodup) (hi : PI X tg iter wi) (ok : BlkOk X.N X.env.scope scope own)
    (hg : ∀ s H C cl fp, PG (BlkOf X scope s H C cl fp) tg g) (ht : ∀ s H C cl fp, PTs (BlkOf X scope s H C cl fp) ifs tt)
    (he : ∀ s H C cl fp, PE (BlkOf X scope s H C cl fp) el te) (hs : ∀ x, foldedSetIterable iter X.env x = pure x := by intro _; rfl) :
    PE X (.SetComp el [⟨tg, iter, ifs, 0⟩] scope pos) (tScT X.w wi g tt te (own.map (·.2))) := by
  constructor
  intro pins s σ H Q I h
  rw [PpSet.eval_SetComp]
  refine scT_core hc hN I hi ok hg ht he hs h fun D C z m G J q hns fr => ⟨m, hns, fun z2 sb => ?_⟩
  obtain ⟨g0, g1, g2, g3, g4, g5⟩ := fr
  exact ⟨.ref D, G, J.turned (t' := z.toks) (fun b o hb e => (sb.2 b hb).trans e) g0 g1 g3 g4 g5, rfl, q⟩
end
end En
set_option maxHeartbeats 4000000
/-! Y of {**d, k: v}, of slices of tuples. -/
namespace En
open PySem PySem.Spec PyProof.Rows L2
section
variable {σ : L2.St} {H : Hp} {P : Pr} {td tk tv ta tb : TE} {α : Type} {r : α → Pr} {K : PySem.W.Frag} {Ps : List Pr}
theorem merge_nil {kvs : List (Key × V)} (h : (kvs.map (·.1)).Nodup) : mergeK [] kvs = kvs := by
  have := fold_put kvs [] (by simpa using h)
  rw [List.nil_append] at this
  exact this
theorem yn_star1 {d : List (Str × α)} {k : Str} {x : α} [∀ x, Sty (r x)] (yd : Y td σ H (dP r d)) (yk : Y tk σ H (sP k)) (yv : Y tv σ H (r x)) (hn : (keys d).Nodup ∧ d.length < 1000000) : Yn (tStar1 td tk tv) σ H (isD r (put d k x)) := fun H1 u Q q p hp => by
  refine yd _ (u.trans (same_new (.dK []) hp)) _ fun v H2 s2 ⟨a, kvs, e, ⟨o, hd⟩, al, z⟩ => ?_
  have hp2 : H2 p = some (.dK []) := s2 _ _ L2.upd_same
  have ne : a ≠ p := fun e => by
    rw [e, hp2] at hd
    cases hd
  have em : mergeK [] kvs = kvs := merge_nil (al.nodup hn.1)
  have s12 : Same H1 H2 := (same_new (.dK []) hp).trans s2
  refine ⟨a, kvs, e, ne, .inr ⟨o, hd⟩, hp2, fun p2 hp3 => ?_⟩
  rw [em]
  have npp : p ≠ p2 := fun e => by
    rw [← e, hp2] at hp3
    cases hp3
  have hp4 : upd H2 p (.dK kvs) p2 = none := by rw [L2.upd_ne (Ne.symm npp)]; exact hp3
  have s3 : Same H1 (upd (upd H2 p (.dK kvs)) p2 (.dK [])) := (same_mut _ s12 hp).trans (same_new _ hp4)
  refine yk _ (u.trans s3) _ fun y H4 s4 py => yv _ (u.trans (s3.trans s4)) _ fun z5 H5 s5 pz => ?_
  have h5 : H5 p2 = some (.dK []) := s5 _ _ (s4 _ _ L2.upd_same)
  have h6 : H5 p = some (.dK kvs) := s5 _ _ (s4 _ _ (by rw [L2.upd_ne npp]; exact L2.upd_same))
  have hl := al.length
  have hz : kvs.length < sizeLine := by rw [hl, sizeLine_eq]; omega
  refine ⟨.inr k, py, npp, h6, h5, hz, q p _ _ ?_ hp L2.upd_same ⟨_, rfl, ?_, ?_⟩⟩
  · have h7 : H1 p2 = none := s12.free hp3
    exact same_mut _ (same_mut _ ((s3.trans s4).trans s5) h7) hp
  · have u1 : Up H2 H5 := (((up_mut (.dK kvs) hp2 fun z => z).trans (up_new (.dK []) hp4)).trans (up_same s4)).trans (up_same s5)
    have u2 := up_mut (H := H5) (.dK [((.inr k : Key), z5)]) h5 fun z => z
    have h8 : upd H5 p2 (.dK [((.inr k : Key), z5)]) p = some (.dK kvs) := by rw [L2.upd_ne npp]; exact h6
    have u3 := up_mut (.dK (putK kvs (.inr k) z5)) h8 fun z => z
    exact Ad.up (u2.trans u3) (Ad.put (al.up u1) hn.1 pz)
  · have := len_put d k x
    rw [sizeLine_eq]
    omega
/-- t[:n], t[n:], not the whole -/
def tsP (xs : List Str) : Pr := TP (xs.map sP)
instance {xs : List Str} : Sty (tsP xs) := inferInstanceAs (Sty (TP (xs.map sP)))
theorem y_slTt {xs : List Str} {n : Nat} (ya : Y ta σ H (tsP xs)) (yi : Y tb σ H (iP n)) (hn : n < xs.length) : Y (tSl (rSlT K) ta tNoPart (tPart tb)) σ H (tsP (xs.take n)) := fun H1 u Q q =>
  ya H1 u _ fun x H2 s2 p2 => yi H2 (u.trans s2) _ fun y H3 s3 p => by
    obtain ⟨a, vs, e, hl, al, z⟩ := up_ (P := tsP xs) s3 p2
    have len := al.length
    rw [List.length_map] at len z
    refine ⟨n, p, a, vs, e, hl.sq, fun ⟨_, w⟩ => ?_, fun d hd => q _ _ ((s2.trans s3).trans (same_new _ hd)) ⟨d, _, rfl, L2.upd_same, ?_, ?_⟩⟩
    · rw [HT.sIx_nat, Nat.min_eq_left (by omega)] at w
      omega
    · rw [show cutV vs none (some (n : Int)) = vs.take n from cutG_to vs n, List.map_take]
      exact al.str ▸ (by rw [← List.map_take, ← List.map_take]; exact al_str _)
    · rw [List.length_map, List.length_take]
      omega
theorem y_slTf {xs : List Str} {n : Nat} (ya : Y ta σ H (tsP xs)) (yi : Y tb σ H (iP n)) (hn : 0 < n) (hx : xs ≠ []) : Y (tSl (rSlT K) ta (tPart tb) tNoPart) σ H (tsP (xs.drop n)) := fun H1 u Q q =>
  ya H1 u _ fun x H2 s2 p2 => yi H2 (u.trans s2) _ fun y H3 s3 p => by
    obtain ⟨a, vs, e, hl, al, z⟩ := up_ (P := tsP xs) s3 p2
    have len := al.length
    rw [List.length_map] at len z
    have l0 : 0 < xs.length := List.length_pos_iff.mpr hx
    refine ⟨n, p, a, vs, e, hl.sq, fun ⟨w, _⟩ => ?_, fun d hd => q _ _ ((s2.trans s3).trans (same_new _ hd)) ⟨d, _, rfl, L2.upd_same, ?_, ?_⟩⟩
    · rw [HT.sIx_nat] at w
      have := Nat.le_min.mpr ⟨(show 1 ≤ n from hn), (show 1 ≤ vs.length by omega)⟩
      omega
    · rw [show cutV vs (some (n : Int)) none = vs.drop n from cutG_from vs n, List.map_drop]
      exact al.str ▸ (by rw [← List.map_drop, ← List.map_drop]; exact al_str _)
    · rw [List.length_map, List.length_drop]
      omega
theorem y_ixTs {xs : List Str} {i : Nat} {x : Str} (ya : Y ta σ H (tsP xs)) (h : xs[i]? = some x) : Y (tOp (rIxT K) ta (tC (.int (i : Int)))) σ H (sP x) := y_ixT (Ps := xs.map sP) ya (by rw [List.getElem?_map, h]; rfl)
theorem ys_tup3s {D : Ends} {te : TE} {i j l : Nat} {x y z : Str} (ya : Y te σ H (tsP [x, y, z])) (q : ∀ H2, Same H H2 → D.nx (((σ.set i (some (.str x))).set j (some (.str y))).set l (some (.str z))) H2) : tAsg te (gTup K 3 (gCons (gName i) (gCons (gName j) (gCons (gName l) gNil)))) D σ H := ya H (Same.refl _) _ fun v H2 s ⟨a, vs, e, ht, al, _⟩ => by
  obtain rfl := al.str
  exact ⟨a, _, e, ht.sq, rfl, _, _, rfl, _, _, rfl, _, _, rfl, rfl, q H2 s⟩
theorem ys_tup2s {D : Ends} {te : TE} {i j : Nat} {x y : Str} (ya : Y te σ H (tsP [x, y])) (q : ∀ H2, Same H H2 → D.nx ((σ.set i (some (.str x))).set j (some (.str y))) H2) : tAsg te (gTup K 2 (gCons (gName i) (gCons (gName j) gNil))) D σ H := ya H (Same.refl _) _ fun v H2 s ⟨a, vs, e, ht, al, _⟩ => by
  obtain rfl := al.str
  exact ⟨a, _, e, ht.sq, rfl, _, _, rfl, _, _, rfl, rfl, q H2 s⟩
end
/-! ### sorted({.. for ..}) -/
section
variable {σ : L2.St} {H : Hp} {α : Type} {r : α → Pr} {w : World} {wi : TI} {g : TG} {tt : TT} {te : TE} {vs : List Nat} {xs : List α} {K : PySem.W.Frag}
theorem sc_texts (p : α → Bool) (f : α → Str) (yi : Yi wi σ H (xs.map r)) (hb : ∀ x ∈ xs, ∀ v H1, Same H H1 → r x v H1 → Bd g tt te σ vs v H1 (p x) (sP (f x))) (hz : xs.length < 4000) {H1 : Hp} (u : Same H H1) {Q : VK}
    (q : ∀ d H2 L, Same H1 H2 → H1 d = none → H2 d = some (SetXO w d L) → L.Nodup → L.length ≤ xs.length → (∀ y, y ∈ L ↔ ∃ x ∈ xs, p x = true ∧ f x = y) → Q (.ref d) H2) : tScT w wi g tt te vs σ H1 Q :=
  yi H1 u _ fun J H2 s2 wk z D hD => by
    have nD : H1 D = none := s2.free hD
    refine ⟨fun i m H' => m = xs.length - i ∧ i ≤ xs.length ∧ Same H2 H' ∧ ∃ L : List Str, H' D = some (SetXO w D L) ∧ L.Nodup ∧ L.length ≤ i ∧ ∀ y, y ∈ L ↔ ∃ x ∈ xs.take i, p x = true ∧ f x = y, ⟨_, rfl, Nat.zero_le _, same_new _ hD, [], L2.upd_same, .nil, Nat.zero_le _, by simp⟩, ?_⟩
    rintro i m H' ⟨rfl, hi, sH, L, hL, nd, ll, mem⟩
    obtain ⟨w1, w2⟩ := wk H' (up_same sH)
    by_cases hlt : i < xs.length
    · refine .inr ?_
      have hx : xs[i]? = some xs[i] := List.getElem?_eq_getElem hlt
      obtain ⟨go, yl⟩ := w1 i (r xs[i]) (by rw [List.getElem?_map, hx]; rfl)
      refine ⟨go, fun H' => i + 1 ≤ xs.length ∧ Same H2 H' ∧ ∃ L : List Str, H' D = some (SetXO w D L) ∧ L.Nodup ∧ L.length ≤ i + 1 ∧ ∀ y, y ∈ L ↔ ∃ x ∈ xs.take (i + 1), p x = true ∧ f x = y, fun H3 n3 => ⟨xs.length - (i + 1), by omega, rfl, n3⟩, fun x H3 hy => ?_⟩
      obtain ⟨s3, px⟩ := yl x H3 hy
      have u3 : Same H H3 := u.trans ((s2.trans sH).trans s3)
      obtain ⟨σ2, hg, hw, ht, he⟩ := hb xs[i] (List.getElem_mem hlt) x H3 u3 px
      refine hg _ ⟨hw, ht H3 (Same.refl _) _ fun H4 s4 => ?_⟩
      have h4 := s4 _ _ (s3 _ _ hL)
      have one : ∀ y, (∃ x ∈ xs.take (i + 1), p x = true ∧ f x = y) ↔ (y ∈ L ∨ (p xs[i] = true ∧ f xs[i] = y)) := fun y => by
        rw [take_one hx, mem]
        simp only [List.mem_append, List.mem_singleton]
        constructor
        · rintro ⟨x, hx | rfl, h⟩
          · exact .inl ⟨x, hx, h⟩
          · exact .inr h
        · rintro (⟨x, hx, h⟩ | h)
          · exact ⟨x, .inl hx, h⟩
          · exact ⟨_, .inr rfl, h⟩
      cases hp : p xs[i] with
      | false =>
        refine ⟨hlt, (sH.trans s3).trans s4, L, h4, nd, by omega, fun y => ?_⟩
        rw [one, hp]
        exact ⟨.inl, fun z => z.elim id fun h => by cases h.1⟩
      | true =>
        refine he hp H4 s4 _ fun y H5 s5 py => ?_
        have h5 := s5 _ _ h4
        have sA : Same H2 H5 := ((sH.trans s3).trans s4).trans s5
        refine ⟨f xs[i], L, py, h5, by show L.length + 1 < 4096; omega, fun hm => ?_, fun hm => ?_⟩
        · refine ⟨hlt, sA, L, h5, nd, by omega, fun y => ?_⟩
          rw [one]
          exact ⟨.inl, fun z => z.elim id fun h => h.2 ▸ hm⟩
        · refine ⟨hlt, same_mut _ sA hD, f xs[i] :: L, L2.upd_same, List.nodup_cons.mpr ⟨hm, nd⟩, by rw [List.length_cons]; omega, fun y => ?_⟩
          rw [one, List.mem_cons]
          exact ⟨fun z => z.elim (fun e => .inr ⟨hp, e.symm⟩) .inl, fun z => z.elim .inr fun h => .inl h.2.symm⟩
    · have e : i = xs.length := by omega
      subst e
      rw [List.length_map] at w2
      rw [List.take_length] at mem
      exact .inl ⟨w2, q D _ L (s2.trans sH) nD hL nd ll mem⟩
theorem yn_sortedSc (p : α → Bool) (f : α → Str) (yi : Yi wi σ H (xs.map r)) (hb : ∀ x ∈ xs, ∀ v H1, Same H H1 → r x v H1 → Bd g tt te σ vs v H1 (p x) (sP (f x))) (hz : xs.length < 64) :
    Yn (tCB (rSortedX w) (tCons (tScT w wi g tt te vs) tNil)) σ H (fun u H => ∃ L : List Str, (L.Nodup ∧ L.length ≤ xs.length ∧ ∀ y, y ∈ L ↔ ∃ x ∈ xs, p x = true ∧ f x = y) ∧ isL (L.map sP) u H) := fun H1 u Q q =>
  show tScT w wi g tt te vs σ H1 (fun x H2 => rSortedX w [x] H2 Q) from sc_texts p f yi hb (by omega) u fun d H2 L s2 nd hL ndL ll mem => by
    refine ⟨d, L, rfl, hL, by omega, fun ys p2 pm _ hp => q p2 _ _ (s2.trans (same_new _ hp)) (s2.free hp) L2.upd_same ⟨ys, ⟨pm.nodup_iff.mpr ndL, by rw [pm.length_eq]; exact ll, fun y => by rw [pm.mem_iff]; exact mem y⟩, _, rfl, al_str ys, ?_⟩⟩
    rw [List.length_map, pm.length_eq, sizeLine_eq]
    omega
/-- found.extend(a new list) -/
theorem ys_extend {D : Ends} {ta : TE} {i : Nat} {ps : Addr} {zs : List α} {φ : List α → Prop} [∀ x, Sty (r x)] (e : σ[i]? = some (some (.ref ps))) (m : Ml r zs ps H) (y : Yn ta σ H (fun u H => ∃ L : List α, φ L ∧ isL (L.map r) u H)) (hl : ∀ L, φ L → zs.length + L.length < 1000000)
    (q : ∀ H2 L, φ L → Mx [ps] H H2 → Ml r (zs ++ L) ps H2 → D.nx σ H2) : tDrop (tBM K "list" rExtend (tVar i) (tCons ta tNil)) D σ H := by
  refine ⟨_, e, ?_, y H (Same.refl _) _ fun d H1 u s1 nd hd ⟨L, hφ, vs, eu, al, z⟩ => ?_⟩
  · obtain ⟨vs, h1, _⟩ := m
    exact .inl ⟨rfl, vs, .inl (.inl h1)⟩
  · subst eu
    obtain ⟨vs0, h1, h2, z0⟩ := m.same s1
    have l0 := h2.length
    have l1 := al.length
    rw [List.length_map] at l0 l1
    have hll := hl L hφ
    have um := up_mut (.lst (vs0 ++ vs)) h1 (fun z => z)
    refine ⟨ps, d, vs0, vs, rfl, rfl, h1, hd, by rw [l0, l1, sizeLine_eq]; omega, q _ L hφ ((Mx.of s1).trans (Mx.put (List.mem_singleton.mpr rfl))) ⟨_, L2.upd_same, ?_, ?_⟩⟩
    · rw [List.map_append]
      exact Al.app ((inferInstance : StyL (zs.map r)).up um h2) ((inferInstance : StyL (L.map r)).up um al)
    · rw [List.length_map, List.length_append, sizeLine_eq]
      omega
end
end En
set_option maxHeartbeats 4000000
/-! A desk with one heard word more: with_row, turn_step, is_change, step_of, changed. -/
namespace En
open PySem PySem.Spec PyProof.Rows L2
variable {P : Program} {w : World} {K : PySem.W.Frag} {mg : Str → Option Value} {base : Heap}
abbrev Ch := Str × Str × Str
def chP (c : Ch) : Pr := tsP ["add", c.1, c.2.1, c.2.2]
instance {c : Ch} : Sty (chP c) := inferInstanceAs (Sty (tsP _))
/-- the change fits -/
structure AddOk (d : World') (c : Ch) : Prop where
  sp : SpB d.1
  st : d.2 ∈ keys d.1
  s : c.1 ∈ keys d.1
  hk : (look d.1 c.1).1 = "hears"
  wd : c.2.1 ∉ keys (look d.1 c.1).2
  sw : spT c.2.1 = true
  g : c.2.2 ∈ keys d.1
  room : (look d.1 c.1).2.length < 60
theorem mem_put_iff {κ α : Type} [DecidableEq κ] {d : List (κ × α)} {k : κ} {v : α} {x : κ × α} (h : x ∈ put d k v) : x = (k, v) ∨ x ∈ d := by
  induction d with
  | nil => exact .inl (List.mem_singleton.mp h)
  | cons y d ih =>
    have h : x ∈ (if y.1 = k then (k, v) :: d else y :: put d k v) := h
    by_cases e : y.1 = k
    · rw [if_pos e] at h
      exact (List.mem_cons.mp h).imp id (List.mem_cons_of_mem _)
    · rw [if_neg e] at h
      rcases List.mem_cons.mp h with h | h
      · exact .inr (h ▸ List.mem_cons_self ..)
      · exact (ih h).imp id (List.mem_cons_of_mem _)
theorem sp_more {d : World'} {c : Ch} (h : AddOk d c) : SpB (moreB d.1 c.1 c.2.1 c.2.2) := by
  have ks : ∀ s, s ∈ keys (moreB d.1 c.1 c.2.1 c.2.2) ↔ s ∈ keys d.1 := fun s => by
    unfold moreB
    rw [mem_put]
    exact ⟨fun z => z.elim (fun e => e ▸ h.s) id, .inr⟩
  have len : (moreB d.1 c.1 c.2.1 c.2.2).length = d.1.length := by
    have := keys_put d.1 c.1 ((look d.1 c.1).1, put (look d.1 c.1).2 c.2.1 c.2.2)
    rw [if_pos h.s] at this
    rw [← keys_length, ← keys_length]
    exact congrArg List.length this
  have row := h.sp.wf.at h.s
  refine ⟨⟨nodup_put h.sp.wf.nd, by rw [len]; exact h.sp.wf.len, fun r hr => ?_⟩, fun s hs => h.sp.st s ((ks s).mp hs), fun r hr t ht => ?_⟩
  · rcases mem_put_iff hr with e | e
    · subst e
      refine ⟨row.kind, row.ok, nodup_put row.nd, ?_, fun t ht => ?_, fun t ht => ?_, ?_⟩
      · show (put (look d.1 c.1).2 c.2.1 c.2.2).length < 64
        have := len_put (look d.1 c.1).2 c.2.1 c.2.2
        have := h.room
        omega
      · rcases mem_put_iff (show t ∈ put (look d.1 c.1).2 c.2.1 c.2.2 from ht) with e | e
        · rw [e]
          exact spT_ok h.sw
        · exact row.words t e
      · rw [ks]
        rcases mem_put_iff (show t ∈ put (look d.1 c.1).2 c.2.1 c.2.2 from ht) with e | e
        · rw [e]
          exact h.g
        · exact row.goals t e
      · show (look d.1 c.1).1 = "done" ↔ put (look d.1 c.1).2 c.2.1 c.2.2 = []
        rw [h.hk]
        refine ⟨fun z => absurd z (by decide), fun z => ?_⟩
        have : c.2.1 ∈ keys (put (look d.1 c.1).2 c.2.1 c.2.2) := mem_put.mpr (.inl rfl)
        rw [z] at this
        cases this
    · have r0 := h.sp.wf.row r e
      exact ⟨r0.kind, r0.ok, r0.nd, r0.len, r0.words, fun t ht => (ks _).mpr (r0.goals t ht), r0.fin⟩
  · rcases mem_put_iff hr with e | e
    · subst e
      rcases mem_put_iff (show t ∈ put (look d.1 c.1).2 c.2.1 c.2.2 from ht) with e | e
      · rw [e]
        exact h.sw
      · exact h.sp.wd _ (look_mem h.s) t e
    · exact h.sp.wd r e t ht
abbrev sp_with_row (K : PySem.W.Frag) : Sp := Sp3 (dkP K) sP rP (fun d s r => WfB d.1 ∧ SpB (put d.1 s r) ∧ d.2 ∈ keys (put d.1 s r)) (fun d s r => dkP K (normB (put d.1 s r), d.2))
abbrev N_with_row : List Str := ["desk", "state", "row"]
theorem nd_with_row : N_with_row.Nodup := by decide
theorem c_with_row (T : Tf w K mg) : C8.Cal P w K mg base 6 "with_row" (sp_with_row K) [] := by
  refine T.cal (d := d_with_row) (N := N_with_row) (ps := ["desk", "state", "row"]) 9 rfl rfl (by simp [fa, fa0, fa1, fa2, fa3]) rfl rfl (by decide +kernel) (len3 _ _ _) (fun _ _ _ _ _ _ us hl => match us, hl with | [_, _, _], _ => rfl) (fun f cdv A outer s H vs Q E hr hsp => ?_)
  obtain ⟨v_desk, v_state, v_row, a_desk, a_state, a_row, rfl, h_desk, h_state, h_row, hok, hq⟩ := hsp
  refine ⟨_, (pss_one (ps_ret (C8.pe_mk (m_Desk T) hr (by decide) rfl (pa_cons (pe_fz (pe_star1 (k_fld (K := K) rfl (pv 0) rfl) (pv 1) (pv 2))) (pa_cons (k_fld (K := K) rfl (pv 0) rfl) pa_nil))))), ?_⟩
  obtain ⟨wf, hb, hs⟩ := hok
  exact ys_ret (y_mkDesk (y_fzD (yn_star1 (y_rows T (y_var rfl h_desk)) (y_var rfl h_state) (y_var rfl h_row) ⟨wf.nd, by have := wf.len; omega⟩)) (y_first T (y_var rfl h_desk)) hb hs) fun v H1 s1 h => hq v _ s1 h
abbrev sp_turn_step (K : PySem.W.Frag) : Sp := Sp2 (dkP K) chP (fun d c => AddOk d c) (fun d c => dkP K (normB (moreB d.1 c.1 c.2.1 c.2.2), d.2))
abbrev N_turn_step : List Str := ["desk", "change", "word", "state", "name", "kind", "turns", "rest", "goal", "fits", "other"]
theorem nd_turn_step : N_turn_step.Nodup := by decide
theorem c_turn_step (T : Tf w K mg) : C8.Cal P w K mg base 7 "turn_step" (sp_turn_step K) [] := by
  refine T.cal (d := d_turn_step) (N := N_turn_step) (ps := ["desk", "change"]) 10 rfl rfl (by simp [fa, fa0, fa1, fa2, fa3]) rfl rfl (by decide +kernel) (len2 _ _) (fun _ _ _ _ _ _ us hl => match us, hl with | [_, _], _ => rfl) (fun f cdv A outer s H vs Q E hr hsp => ?_)
  obtain ⟨v_desk, v_change, a_desk, a_change, rfl, h_desk, h_change, hok, hq⟩ := hsp
  refine ⟨_, (pss_cons (ps_asg (pe_slice (k_sl_tup (K := K) rfl) (pv 1) po_none (po_some pe_int)) (k_pg_tup (K := K) (n := 3) rfl rfl (pgs_cons (pg_name (i := 2) nd_turn_step rfl (Or.inl rfl)) (pgs_cons (pg_name (i := 3) nd_turn_step rfl (Or.inl rfl)) (pgs_cons (pg_name (i := 4) nd_turn_step rfl (Or.inr rfl)) pgs_nil)))))
    (pss_cons (ps_if (pt_cmp (pc_dnotin (hu_of hr) (pv 3) (k_fld (K := K) rfl (pv 0) rfl)) rfl) (pss_one (ps_ret pe_non))
    pss_nil)
    (pss_cons (ps_asg (pe_dget (hu_of hr) (k_fld (K := K) rfl (pv 0) rfl) (pv 3) (fun _ _ => rfl)) (k_pg_tup (K := K) (n := 2) rfl rfl (pgs_cons (pg_name (i := 5) nd_turn_step rfl (Or.inl rfl)) (pgs_cons (pg_name (i := 6) nd_turn_step rfl (Or.inr rfl)) pgs_nil))))
    (pss_cons (ps_if (pt_cmpR op_eq (pv 2) pe_str (nomark _)) pss_never
    pss_nil)
    (pss_cons (ps_set (i := 8) nd_turn_step rfl (Or.inl rfl) (pe_ix (k_ix_tup (K := K) rfl) (pv 1) pe_int (fun _ _ => rfl)))
    (pss_cons (ps_set (i := 9) nd_turn_step rfl (Or.inl rfl) (pe_ifExp (pt_cmpR op_eq (pv 2) pe_str (nomark _)) (pe_and (pe_cmpR op_ne (pv 5) pe_str (nomark _)) (pe_one (pe_cmp (pc_dnotin (hu_of hr) (pv 4) (pv 6)) rfl))) (pe_and (pe_cmp (pc_din (hu_of hr) (pv 4) (pv 6)) rfl) (pe_one (pe_cmpR op_ne (pe_dget (hu_of hr) (pv 6) (pv 4) (fun _ _ => rfl)) (pv 8) (nomark _))))))
    (pss_one (ps_ret (pe_ifExp (PW.pt (pw_and (pt_val (pv 9)) (pw_and1 (pt_cmp (pc_din (hu_of hr) (pv 8) (k_fld (K := K) rfl (pv 0) rfl)) rfl)))) (C8.pe_c (c_with_row T) hr (by decide) rfl (pa_cons (pv 0) (pa_cons (pv 3) (pa_cons (pe_tup (pa_cons (pv 5) (pa_cons (pe_fz (pe_star1 (pv 6) (pv 4) (pv 8))) pa_nil))) pa_nil)))) pe_non))))))))), ?_⟩
  obtain ⟨b, st⟩ := a_desk
  obtain ⟨s, wd, g⟩ := a_change
  have h_change : tsP ["add", s, wd, g] v_change H := h_change
  have hs : s ∈ keys b := hok.s
  refine ys_seq (ys_tup3s (x := "add") (y := s) (z := wd) (y_slTt (n := 3) (y_var rfl h_change) y_int (show (3 : Nat) < 4 by decide)) fun H1 s1 => ?_)
  refine nx_ (ys_seq (ys_if (b := false) (Yt.eq (yt_b (y_dnotin (k := s) (y_var rfl rfl) (y_rows T (y_var rfl (up_ s1 h_desk))))) (by rw [has_iff.mpr hs]; rfl)) (fun b2 H2 s2 => by cases b2) fun b2 H2 s2 => ?_))
  refine nx_ (ys_seq (ys_tup2 (y_dget (k := s) (y_rows T (y_var rfl (up_ (s1.trans s2) h_desk))) (y_var rfl rfl) hs) fun v_kind v_turns H4 s4 h_kind h_turns => ?_))
  have h_kind : sP (look b s).1 v_kind H4 := h_kind
  have h_turns : dP sP (look b s).2 v_turns H4 := h_turns
  refine nx_ (ys_seq (ys_if (b := false) (Yt.eq (yt_test (y_op (r_eqS (x := "add")) (y_var rfl rfl) y_str)) (by decide)) (fun b5 H5 s5 => by cases b5) fun b5 H5 s5 => ?_))
  have s15 := ((s1.trans s2).trans s4).trans s5
  refine nx_ (ys_seq (ys_set (y_ixTs (i := 3) (x := g) (y_var rfl (up_ s15 h_change)) rfl) fun v_goal H6 s6 h_goal => ?_))
  refine nx_ (ys_seq (ys_set (P := bP true) (y_ifP (b := true) (Yt.eq (yt_test (y_op (r_eqS (x := "add")) (y_var rfl rfl) y_str)) (by decide)) (fun _ => Y.eqB (y_and (y_op r_neS (y_var rfl (up_ (s5.trans s6) h_kind)) y_str) fun _ => (y_dnotin (k := wd) (y_var rfl rfl) (y_var rfl (up_ (s5.trans s6) h_turns)))) ?_) (fun z => by cases z)) fun v_fits H7 s7 h_fits => ?_))
  · have e1 : has (look b s).2 wd = false := by
      cases e : has (look b s).2 wd with
      | false => rfl
      | true => exact absurd (has_iff.mp e) hok.wd
    have e2 : (look b s).1 = "hears" := hok.hk
    rw [e1, e2]
    decide
  have s17 := (s15.trans s6).trans s7
  refine nx_ (ys_ret (P := dkP K (normB (moreB b s wd g), st)) (y_ifP (b := true) (Yt.eq (yt_and (yt_b (y_var rfl h_fits)) fun _ => (yt_b (y_din (k := g) (y_var rfl (up_ s7 h_goal)) (y_rows T (y_var rfl (up_ s17 h_desk)))))) (by rw [has_iff.mpr hok.g]; rfl)) (fun _ => y_call3 (a := (b, st)) (b := s) (c := ((look b s).1, put (look b s).2 wd g)) (y_var rfl (up_ s17 h_desk)) (y_var rfl rfl) (y_row (ya_cons (y_var rfl (up_ ((s5.trans s6).trans s7) h_kind)) (ya_cons (y_fzD (yn_star1 (y_var rfl (up_ ((s5.trans s6).trans s7) h_turns)) (y_var rfl rfl) (y_var rfl (up_ s7 h_goal)) ⟨(hok.sp.wf.at hs).nd, by have := hok.room; have : (look b s).2.length < 60 := this; omega⟩)) ya_nil))) ⟨hok.sp.wf, sp_more hok, mem_put.mpr (.inr hok.st)⟩) (fun z => by cases z)) fun v H8 s8 h => hq v _ (s17.trans s8) h)
section
theorem k_ix_kd {X : Cx} (hK : X.K = K) (hw : X.w = w) : IxR X (rIxD K w) := by
  subst hK hw
  exact ix_kdict
theorem r_itemKd {a : Addr} {z : Str} {i : Int} (D : ∃ es n, KDict K w a es n) (h : ∃ u, PySem.W.nsIn K a z = some (some u) ∧ RelV (.int i) u) : R2s (rIxD K w) (eP (.ref a)) (sP z) (iP i) := fun x y H1 h1 h2 Q q => by
  obtain ⟨u, h3, h4⟩ := h
  obtain ⟨es, n, D⟩ := D
  exact ⟨a, z, .int i, h1, h2, ⟨es, n, u, D.at_, D.lit, h3, h4⟩, q _ H1 (Same.refl _) rfl⟩
theorem r_isNo {P : Pr} (h : ∀ v H, P v H → v ≠ .non) : R2s (fun x y H Q => y = .non ∧ Q (.bl (decide (x = .non))) H) P nP (bP false) := fun x y H1 h1 h2 Q q => by
  refine ⟨h2, q _ H1 (Same.refl _) ?_⟩
  rw [decide_eq_false (h x H1 h1)]
  rfl
end
abbrev sp_is_change : Sp := Sp1 chP (fun c => spT c.1 = true ∧ spT c.2.1 = true ∧ spT c.2.2 = true) (fun _ => bP true)
abbrev N_is_change : List Str := ["value", "part"]
theorem nd_is_change : N_is_change.Nodup := by decide
theorem c_is_change (T : Tf w K mg) : C8.Cal P w K mg base 3 "is_change" sp_is_change [] := by
  refine T.cal (d := d_is_change) (N := N_is_change) (ps := ["value"]) 8 rfl rfl (by simp [fa, fa0, fa1, fa2, fa3]) rfl rfl (by decide +kernel) (len1 _) (fun _ _ _ _ _ _ us hl => match us, hl with | [_], _ => rfl) (fun f cdv A outer s H vs Q E hr hsp => ?_)
  obtain ⟨v_value, a_value, rfl, h_value, hok, hq⟩ := hsp
  refine ⟨_, (pss_cons (ps_if (PW.pt (pw_or (pt_not (pt_val (pe_callB (k_isiU T rfl) (by rfl) T.n_isinstance (by decide +kernel) (pa_cons (pv 0) (pa_cons (pe_bltn rfl T.n_tuple (by decide +kernel) (v := .ty "tuple") rfl) pa_nil))))) (pw_or (pt_cmpR op_lt (pe_callB (k_lenA (K := K) rfl) (by rfl) T.n_len (by decide +kernel) (pa_cons (pv 0) pa_nil)) pe_int (nomark _)) (pw_or1 (pt_not (pt_val (pe_callB (k_isiU T rfl) (by rfl) T.n_isinstance (by decide +kernel) (pa_cons (pe_ix (k_ix_tup (K := K) rfl) (pv 0) pe_int (fun _ _ => rfl)) (pa_cons (pe_bltn rfl T.n_str (by decide +kernel) (v := .ty "str") rfl) pa_nil))))))))) (pss_one (ps_ret pe_bl))
    pss_nil)
    (pss_cons (ps_if (PW.pt (pw_or (pt_cmpR (k_notIn_kd (K := K) rfl rfl T.kd_sizes) (pe_ix (k_ix_tup (K := K) rfl) (pv 0) pe_int (fun _ _ => rfl)) (C8.pe_gc (v := .ref (He.ga K "SIZES")) rfl ⟨_, T.sizes, rfl⟩) rfl) (pw_or1 (pt_cmpR op_ne (pe_callB (k_lenA (K := K) rfl) (by rfl) T.n_len (by decide +kernel) (pa_cons (pv 0) pa_nil)) (pe_ix (k_ix_kd (K := K) (w := w) rfl rfl) (C8.pe_gc (v := .ref (He.ga K "SIZES")) rfl ⟨_, T.sizes, rfl⟩) (pe_ix (k_ix_tup (K := K) rfl) (pv 0) pe_int (fun _ _ => rfl)) (fun _ _ => rfl)) (nomark _))))) (pss_one (ps_ret pe_bl))
    pss_nil)
    (pss_cons (ps_if (pt_cmpR op_eq (pe_ix (k_ix_tup (K := K) rfl) (pv 0) pe_int (fun _ _ => rfl)) pe_str (nomark _)) pss_never
    pss_nil)
    (pss_one (ps_ret (pe_callB (k_all (K := K) rfl rfl) (by rfl) T.n_all (by decide +kernel) (pa_cons (pe_fz (pe_lc (own := [("part", 1)]) rfl nd_is_change (k_tup (K := K) rfl (pe_slice (k_sl_tup (K := K) rfl) (pv 0) (po_some pe_int) po_none)) (blkOk_by (own := [("part", 1)]) (by first | decide +kernel | rfl)) (fun _ _ _ _ _ => (pg_name (i := 1) nd_is_change rfl (Or.inl rfl))) (fun _ _ _ _ _ => pts_nil) (fun _ _ _ _ _ => (C8.pe_c (c_is_spelt T) hr (by decide) rfl (pa_cons (pv 1) pa_nil))))) pa_nil))))))), ?_⟩
  obtain ⟨s, wd, g⟩ := a_value
  have h_value : tsP ["add", s, wd, g] v_value H := h_value
  obtain ⟨u, hu, hr4⟩ := He.valsB_ok T.vals.2.1 (q := ("add", .int 4)) (List.mem_cons_self ..)
  refine ys_seq (ys_if (b := false) (Yt.eq (yt_or (yt_not (yt_b (y_isi (b := true) (y_var rfl h_value) fun v H h => ty_tup (Ps := (["add", s, wd, g] : List Str).map sP) h))) fun b2 => (yt_or (yt_test (y_op r_lt (y_lenT (Ps := (["add", s, wd, g] : List Str).map sP) (y_var rfl h_value)) y_int)) fun b1 => (yt_not (yt_b (y_isi (b := true) (y_ixTs (i := 0) (x := "add") (y_var rfl h_value) rfl) fun v H h => ty_str h))))) ?_) (fun b3 H3 s3 => by cases b3) (fun b3 H3 s3 => ?_))
  · rfl
  refine nx_ (ys_seq (ys_if (b := false) (Yt.eq (yt_or (yt_test (y_op (r_notInKd (z := "add") ⟨u, hu⟩) (y_ixTs (i := 0) (x := "add") (y_var rfl (up_ s3 h_value)) rfl) (y_c (P := eP (.ref (He.ga K "SIZES"))) fun _ => rfl))) fun b5 => (yt_test (y_op r_neI (y_lenT (Ps := (["add", s, wd, g] : List Str).map sP) (y_var rfl (up_ s3 h_value))) (y_op (r_itemKd (z := "add") (i := 4) T.kd_sizes ⟨u, hu, hr4⟩) (y_c (P := eP (.ref (He.ga K "SIZES"))) fun _ => rfl) (y_ixTs (i := 0) (x := "add") (y_var rfl (up_ s3 h_value)) rfl))))) ?_) (fun b6 H6 s6 => by cases b6) (fun b6 H6 s6 => ?_)))
  · rfl
  refine nx_ (ys_seq (ys_if (b := false) (Yt.eq (yt_test (y_op (r_eqS (x := "add")) (y_ixTs (i := 0) (x := "add") (y_var rfl (up_ (s3.trans s6) h_value)) rfl) y_str)) (by decide)) (fun b8 H8 s8 => by cases b8) (fun b8 H8 s8 => ?_)))
  refine nx_ (ys_ret (y_cb b_all (y_fzl (yn_lc0 (xs := [s, wd, g]) (r := sP) (r' := bP) (fun x => spT x) (yi_tup (Ps := ([s, wd, g] : List Str).map sP) (y_slTf (xs := ["add", s, wd, g]) (n := 1) (y_var rfl (up_ ((s3.trans s6).trans s8) h_value)) y_int (by decide) (by simp))) (fun x11 m11 v11 H11 s11 h11 => bd1 ⟨rfl, yt_yes, fun e11 => (y_call1 (y_pa (y_var rfl h11)) ?_)⟩)))) fun v H12 s12 h => hq v _ (((s3.trans s6).trans s8).trans s12) (bP_eq ?_ h))
  · intro y e
    cases e
    rcases List.mem_cons.mp m11 with e | m11
    · rw [e]; exact sp_len hok.1
    rcases List.mem_cons.mp m11 with e | m11
    · rw [e]; exact sp_len hok.2.1
    · rw [List.mem_singleton.mp m11]; exact sp_len hok.2.2
  · show (spT s && (spT wd && (spT g && true))) = true
    have h1 : spT s = true := hok.1
    have h2 : spT wd = true := hok.2.1
    have h3 : spT g = true := hok.2.2
    rw [h1, h2, h3]
    rfl
abbrev sp_step_of (K : PySem.W.Frag) : Sp := Sp2 (dkP K) chP (fun d c => AddOk d c) (fun d c => dkP K (normB (moreB d.1 c.1 c.2.1 c.2.2), d.2))
abbrev N_step_of : List Str := ["desk", "change", "word", "state"]
theorem nd_step_of : N_step_of.Nodup := by decide
theorem c_step_of (T : Tf w K mg) : C8.Cal P w K mg base 8 "step_of" (sp_step_of K) [] := by
  refine T.cal (d := d_step_of) (N := N_step_of) (ps := ["desk", "change"]) 11 rfl rfl (by simp [fa, fa0, fa1, fa2, fa3]) rfl rfl (by decide +kernel) (len2 _ _) (fun _ _ _ _ _ _ us hl => match us, hl with | [_, _], _ => rfl) (fun f cdv A outer s H vs Q E hr hsp => ?_)
  obtain ⟨v_desk, v_change, a_desk, a_change, rfl, h_desk, h_change, hok, hq⟩ := hsp
  refine ⟨_, (pss_cons (ps_asg (pe_slice (k_sl_tup (K := K) rfl) (pv 1) po_none (po_some pe_int)) (k_pg_tup (K := K) (n := 2) rfl rfl (pgs_cons (pg_name (i := 2) nd_step_of rfl (Or.inl rfl)) (pgs_cons (pg_name (i := 3) nd_step_of rfl (Or.inl rfl)) pgs_nil))))
    (pss_cons (ps_if (pt_cmpR (k_in_seq (K := K) rfl) (pv 2) (pe_tup (pa_cons pe_str (pa_cons pe_str (pa_cons pe_str pa_nil)))) rfl) (pss_one (ps_ret (C8.pe_c (c_turn_step T) hr (by decide) rfl (pa_cons (pv 0) (pa_cons (pv 1) pa_nil)))))
    pss_nil)
    pss_never)), ?_⟩
  obtain ⟨s, wd, g⟩ := a_change
  have h_change' : tsP ["add", s, wd, g] v_change H := h_change
  refine ys_seq (ys_tup2s (x := "add") (y := s) (y_slTt (n := 2) (y_var rfl h_change') y_int (show (2 : Nat) < 4 by decide)) fun H1 s1 => ?_)
  refine nx_ (ys_seq (ys_if (b := true) (Yt.eq (yt_test (y_op (r_inT (x := "add") (xs := ["add", "drop", "lead"])) (y_var rfl rfl) (y_tup (ya_cons y_str (ya_cons y_str (ya_cons y_str ya_nil)))))) (by decide)) (fun b2 H2 s2 => ?_) fun b2 H2 s2 => by cases b2))
  exact ys_ret (y_call2 (y_var rfl (up_ (s1.trans s2) h_desk)) (y_var rfl (up_ (s1.trans s2) h_change)) hok) fun v H3 s3 h => hq v _ ((s1.trans s2).trans s3) h
abbrev sp_changed (K : PySem.W.Frag) : Sp := Sp2 (dkP K) chP (fun d c => AddOk d c) (fun d c => dkP K (normB (moreB d.1 c.1 c.2.1 c.2.2), d.2))
abbrev N_changed : List Str := ["desk", "change", "made"]
theorem nd_changed : N_changed.Nodup := by decide
theorem c_changed (T : Tf w K mg) : C8.Cal P w K mg base 9 "changed" (sp_changed K) [] := by
  refine T.cal (d := d_changed) (N := N_changed) (ps := ["desk", "change"]) 12 rfl rfl (by simp [fa, fa0, fa1, fa2, fa3]) rfl rfl (by decide +kernel) (len2 _ _) (fun _ _ _ _ _ _ us hl => match us, hl with | [_, _], _ => rfl) (fun f cdv A outer s H vs Q E hr hsp => ?_)
  obtain ⟨v_desk, v_change, a_desk, a_change, rfl, h_desk, h_change, hok, hq⟩ := hsp
  refine ⟨_, (pss_cons (ps_expr (C8.pe_c (c_check_desk T) hr (by decide) rfl (pa_cons (pv 0) pa_nil)))
    (pss_cons (ps_set (i := 2) nd_changed rfl (Or.inl rfl) (pe_ifExp (pt_val (C8.pe_c (c_is_change T) hr (by decide) rfl (pa_cons (pv 1) pa_nil))) (C8.pe_c (c_step_of T) hr (by decide) rfl (pa_cons (pv 0) (pa_cons (pv 1) pa_nil))) pe_non))
    (pss_cons (ps_if (pt_cmpR op_isN (pv 2) pe_non (nomark _)) (pss_one ps_never)
    pss_nil)
    (pss_one (ps_ret (pv 2)))))), ?_⟩
  refine ys_seq (ys_drop (y_call1 (y_var rfl h_desk) trivial) fun v_ H1 s1 h_ => ?_)
  refine nx_ (ys_seq (ys_set (P := dkP K (normB (moreB a_desk.1 a_change.1 a_change.2.1 a_change.2.2), a_desk.2)) (y_ifP (b := true) (yt_b (y_call1 (y_var rfl (up_ s1 h_change)) ⟨hok.sp.st _ hok.s, hok.sw, hok.sp.st _ hok.g⟩)) (fun _ => y_call2 (y_var rfl (up_ s1 h_desk)) (y_var rfl (up_ s1 h_change)) hok) (fun z => by cases z)) fun v_made H3 s3 h_made => ?_))
  refine nx_ (ys_seq (ys_if (b := false) (yt_test (y_op (r_isNo (P := dkP K _) fun v H ⟨a, _, _, e, _⟩ z => by rw [e] at z; cases z) (y_var rfl h_made) y_non)) (fun b4 H4 s4 => by cases b4) fun b4 H4 s4 => ?_))
  exact nx_ (ys_ret (y_var rfl (up_ s4 h_made)) fun v H5 s5 h => hq v _ (((s1.trans s3).trans s4).trans s5) h)
end En
set_option maxHeartbeats 4000000
/-! reached_from, heard_well, needed_heard, is_spare. -/
namespace En
open PySem PySem.Spec PyProof.Rows L2
variable {P : Program} {w : World} {K : PySem.W.Frag} {mg : Str → Option Value} {base : Heap}
structure ClX {α : Type} (suc : α → List α) (x : α) (l : List α) (n : Nat) : Prop where
  nd : l.Nodup
  fst : x ∈ l
  le : n ≤ l.length
  snd : ∀ q ∈ l, Reach suc x q
  cl : ∀ i q, i < n → l[i]? = some q → ∀ r ∈ suc q, r ∈ l
theorem ClX.done {α : Type} {suc : α → List α} {x : α} {l : List α} (h : ClX suc x l l.length) (q : α) : q ∈ l ↔ Reach suc x q := by
  refine ⟨h.snd q, fun hr => ?_⟩
  induction hr with
  | refl => exact h.fst
  | tail _ h2 ih =>
    obtain ⟨i, hi, e⟩ := List.getElem_of_mem ih
    exact h.cl i _ hi (by rw [List.getElem?_eq_getElem hi, e]) _ h2
structure RchOk (b : Book) (s : Str) : Prop where
  len : b.length < 64
  row : ∀ x ∈ keys b, (look b x).2.length < 64
  goals : ∀ x ∈ keys b, ∀ g ∈ sucB b x, g ∈ keys b
  st : s ∈ keys b
theorem RchOk.in {b : Book} {s q : Str} (h : RchOk b s) (r : Reach (sucB b) s q) : q ∈ keys b := by
  induction r with
  | refl => exact h.st
  | tail _ h2 ih => exact h.goals _ ih _ h2
def rcP (b : Book) (s : Str) : Pr := fun v H => ∃ l, lP sP l v H ∧ ∀ q, q ∈ l ↔ Reach (sucB b) s q
abbrev sp_reached_from : Sp := Sp2 (dP rP) sP (fun b s => RchOk b s) (fun b s => rcP b s)
abbrev N_reached_from : List Str := ["rows", "start", "found", "at", "goal"]
theorem nd_reached_from : N_reached_from.Nodup := by decide
theorem c_reached_from (T : Tf w K mg) : C8.Cal P w K mg base 1 "reached_from" sp_reached_from [] := by
  refine T.cal (d := d_reached_from) (N := N_reached_from) (ps := ["rows", "start"]) 13 rfl rfl (by simp [fa, fa0, fa1, fa2, fa3]) rfl rfl (by decide +kernel) (len2 _ _) (fun _ _ _ _ _ _ us hl => match us, hl with | [_, _], _ => rfl) (fun f cdv A outer s H vs Q E hr hsp => ?_)
  obtain ⟨v_rows, v_start, a_rows, a_start, rfl, h_rows, h_start, hok, hq⟩ := hsp
  refine ⟨_, (pss_cons (ps_set (i := 2) nd_reached_from rfl (Or.inr rfl) (pe_lst (pa_cons (pv 1) pa_nil)))
    (pss_cons (ps_set (i := 3) nd_reached_from rfl (Or.inl rfl) pe_int)
    (pss_cons (ps_while PassesOwn.never (pt_cmpR op_lt (pv 3) (pe_callB (k_lenA (K := K) rfl) (by rfl) T.n_len (by decide +kernel) (pa_cons (pv 2) pa_nil)) (nomark _))
    (pss_cons (ps_expr (pe_bm PySem.F.plainAttrs_list PySem.F.slot_list_extend PySem.F.type_list_extend mt_extend (pv 2) (pa_cons (pe_callB (call_sortedSt rfl) (by rfl) T.n_sorted (by decide +kernel) (pa_cons (pe_scS (own := [("goal", 4)]) rfl nd_reached_from (pi_values (pe_ix (k_ix_tup (K := K) rfl) (pe_dget (hu_of hr) (pv 0) (pe_ix (k_ix_list (K := K) rfl) (pv 2) (pv 3) (fun _ _ => rfl)) (fun _ _ => rfl)) pe_int (fun _ _ => rfl))) (blkOk_by (own := [("goal", 4)]) (by first | decide +kernel | rfl)) (fun _ _ _ _ _ => (pg_name (i := 4) nd_reached_from rfl (Or.inl rfl))) (fun _ _ _ _ _ => (pts_one (pt_cmpR (k_notIn_seq (K := K) rfl) (pv 4) (pv 2) rfl))) (fun _ _ _ _ _ => (pv 4))) pa_nil)) pa_nil)))
    (pss_one (ps_aug (i := 3) nd_reached_from rfl (Or.inl rfl) pe_int ip_add))))
    (pss_one (ps_ret (pe_fz (pv 2))))))), ?_⟩
  refine ys_seq (ys_new (yn_lsts (r := sP) (yl_cons (y_var rfl h_start) yl_nil)) fun p H1 u1 s1 np e1 i1 => ?_)
  have ml0 : Ml sP [a_start] p H1 := Ml.of e1 i1
  refine nx_ (ys_seq (ys_set y_int fun v_at H2 s2 h_at => ?_))
  have bound : ∀ {l : List Str} {n : Nat}, ClX (sucB a_rows) a_start l n → l.length ≤ (keys a_rows).length := fun I => len_sub I.nd fun q hq => hok.in (I.snd q hq)
  have kl : (keys a_rows).length < 64 := by rw [keys_length]; exact hok.len
  refine nx_ (ys_seq (ys_while (fun m σ' H' => ∃ (n : Nat) (l : List Str) (c : Option V), m = (keys a_rows).length - n ∧ σ' = [some v_rows, some v_start, some (.ref p), some (.int n), c] ∧ Mx [p] H2 H' ∧ Ml sP l p H' ∧ ClX (sucB a_rows) a_start l n)
    _ ⟨0, [a_start], _, rfl, by rw [show v_at = .int 0 from h_at]; rfl, Mx.rfl, ml0.same s2, ⟨by simp, by simp, Nat.zero_le _, fun q hq => by rw [List.mem_singleton.mp hq]; exact .refl, fun i q hi => absurd hi (Nat.not_lt_zero _)⟩⟩ ?_))
  rintro m σ' H' ⟨n, l, c, rfl, rfl, mx, ml, I⟩
  have upx : Up H2 H' := mx.up (oneq (ml0.same s2).ni)
  have s03 : Same H H' := mx.same (s1.trans s2) (oneq np)
  have hlen := bound I
  refine ⟨_, yt_test (y_op r_lt (y_var rfl (show iP n _ _ from rfl)) (y_lenL (y_var rfl ml.g))), fun hb H3 s3 => ?_, fun hb H3 s3 => ?_⟩
  · have hge : ¬ ((n : Int) < l.length) := of_decide_eq_false hb
    have en : n = l.length := by have := I.le; omega
    subst en
    exact nx_ (y_fzMl rfl (ml.same s3) _ fun v H4 mx4 h => hq v _ (mx4.same (s03.trans s3) (oneq np)) ⟨l, h, I.done⟩)
  · have hlt : n < l.length := by have := of_decide_eq_true hb; omega
    obtain ⟨x, hx⟩ : ∃ x, l[n]? = some x := ⟨_, List.getElem?_eq_getElem hlt⟩
    have xk : x ∈ keys a_rows := hok.in (I.snd x (mem_at hx))
    have ml3 := ml.same s3
    have s33 := s03.trans s3
    refine ys_seq (ys_extend (φ := fun L => L.Nodup ∧ L.length ≤ (sucB a_rows x).length ∧ ∀ y, y ∈ L ↔ ∃ g ∈ sucB a_rows x, (!decide (g ∈ l)) = true ∧ g = y) rfl ml3 (yn_sortedSc (r := sP) (xs := sucB a_rows x) (fun g => !decide (g ∈ l)) (fun g => g) (yi_vals (y_r1 (y_dget (y_var rfl (up_ s33 h_rows)) (y_ixl (y_var rfl ml3.g) (y_var rfl (show iP n _ _ from rfl)) hx) xk))) (fun g mg v4 H4 s4 h4 => bd1 ⟨rfl, yt_test (y_notInS (y_var rfl h4) (y_var rfl (ml3.same s4).g)), fun _ => y_var rfl h4⟩) ?_) (fun L hL => ?_) fun H5 L hL mx5 ml5 => ?_)
    · unfold sucB
      rw [List.length_map]
      exact hok.row x xk
    · have := hok.row x xk
      have h2 := hL.2.1
      unfold sucB at h2
      rw [List.length_map] at h2
      omega
    · obtain ⟨nd, ll, mem⟩ := hL
      refine nx_ (ys_aug rfl ?_)
      refine ⟨_, ?_, n + 1, l ++ L, _, rfl, rfl, (mx.trans (Mx.of s3)).trans mx5, ml5, ?_⟩
      · omega
      · refine ⟨List.nodup_append.mpr ⟨I.nd, nd, fun a ha b hb e => ?_⟩, List.mem_append_left _ I.fst, by rw [List.length_append]; omega, fun q hq => ?_, fun i q hi hqi r hr => ?_⟩
        · obtain ⟨g, _, h1, h2⟩ := (mem b).mp hb
          rw [h2, ← e] at h1
          simp [ha] at h1
        · rcases List.mem_append.mp hq with h | h
          · exact I.snd q h
          · obtain ⟨g, h1, _, h2⟩ := (mem q).mp h
            exact .tail (I.snd x (mem_at hx)) (h2 ▸ h1)
        · have key : r ∈ l ∨ r ∈ L := by
            by_cases e : i = n
            · subst e
              rw [List.getElem?_append_left hlt, hx] at hqi
              cases hqi
              by_cases hm : r ∈ l
              · exact .inl hm
              · exact .inr ((mem r).mpr ⟨r, hr, by simp [hm], rfl⟩)
            · have hi' : i < n := by omega
              rw [List.getElem?_append_left (by omega)] at hqi
              exact .inl (I.cl i q hi' hqi r hr)
          exact key.elim (List.mem_append_left _) (List.mem_append_right _)
/-! ### heard_well -/
section
variable {σ : L2.St} {H : Hp} {D : Ends} {ta tb : TE} {i j : Nat}
theorem ys_tupYN {R : HO → Hp → Prop} {Pa : Pr} [sa : Sts Pa] (y1 : Y ta σ H Pa) (y2 : Yn tb σ H R) (q : ∀ va p H2 u, Same H H2 → H p = none → H2 p = some u → Pa va H2 → (∃ H1, Same H1 H2 ∧ H1 p = some u ∧ R u H1) → D.nx ((σ.set i (some va)).set j (some (.ref p))) H2) :
    tAsg (tTup (tCons ta (tCons tb tNil))) (gTup K 2 (gCons (gName i) (gCons (gName j) gNil))) D σ H :=
  y1 H (Same.refl _) _ fun va H1 s1 pa => y2 H1 s1 _ fun p H2 u s2 n e r => ⟨by rw [sizeLine_eq]; simp, fun p' hp' => ⟨p', _, rfl, SqT.of L2.upd_same, rfl, _, _, rfl, _, _, rfl, rfl, q va p _ u ((s1.trans s2).trans (same_new _ hp')) (s1.free n) (same_new _ hp' _ _ e) (sa.same (s2.trans (same_new _ hp')) pa) ⟨H2, same_new _ hp', e, r⟩⟩⟩
end
noncomputable abbrev sp_heard_well (K : PySem.W.Frag) : Sp := Sp1 (dkP K) (fun d => WfB d.1) (fun d => dP rP (hwB d.1))
theorem map_pair {α : Type} (l : List (Str × α)) : (l.map fun t => (t.1, t.2)) = l := List.map_id' l
abbrev N_heard_well : List Str := ["desk", "viable", "rows", "state", "kind", "turns", "word", "goal"]
theorem nd_heard_well : N_heard_well.Nodup := by decide
theorem c_heard_well (T : Tf w K mg) : C8.Cal P w K mg base 5 "heard_well" (sp_heard_well K) [] := by
  refine T.cal (d := d_heard_well) (N := N_heard_well) (ps := ["desk"]) 38 rfl rfl (by simp [fa, fa0, fa1, fa2, fa3]) rfl rfl (by decide +kernel) (len1 _) (fun _ _ _ _ _ _ us hl => match us, hl with | [_], _ => rfl) (fun f cdv A outer s H vs Q E hr hsp => ?_)
  obtain ⟨v_desk, a_desk, rfl, h_desk, hok, hq⟩ := hsp
  refine ⟨_, (pss_cons (ps_asg (pe_tup (pa_cons (C8.pe_c (c_viable_states T) hr (by decide) rfl (pa_cons (pv 0) pa_nil)) (pa_cons pe_dnewK pa_nil))) (k_pg_tup (K := K) (n := 2) rfl rfl (pgs_cons (pg_name (i := 1) nd_heard_well rfl (Or.inr rfl)) (pgs_cons (pg_name (i := 2) nd_heard_well rfl (Or.inl rfl)) pgs_nil))))
    (pss_cons (ps_for PassesOwn.never rfl (pi_items (k_fld (K := K) rfl (pv 0) rfl)) (k_pg_tup (K := K) (n := 2) rfl rfl (pgs_cons (pg_name (i := 3) nd_heard_well rfl (Or.inl rfl)) (pgs_cons (k_pg_tup (K := K) (n := 2) rfl rfl (pgs_cons (pg_name (i := 4) nd_heard_well rfl (Or.inr rfl)) (pgs_cons (pg_name (i := 5) nd_heard_well rfl (Or.inl rfl)) pgs_nil))) pgs_nil)))
    (pss_one (ps_dput (hu_of hr) (pv 2) (pv 3) (pe_tup (pa_cons (pv 4) (pa_cons (pe_fz (pe_dc (own := [("word", 6), ("goal", 7)]) rfl nd_heard_well (pi_items (pv 5)) (blkOk_by (own := [("word", 6), ("goal", 7)]) (by first | decide +kernel | rfl)) (fun _ _ _ _ _ => (k_pg_tup (K := K) (n := 2) rfl rfl (pgs_cons (pg_name (i := 6) nd_heard_well rfl (Or.inl rfl)) (pgs_cons (pg_name (i := 7) nd_heard_well rfl (Or.inl rfl)) pgs_nil)))) (fun _ _ _ _ _ => (pts_one (PW.pt (pw_or (pt_cmpR op_ne (pv 4) pe_str (nomark _)) (pw_or1 (pt_cmpR (k_in_seq (K := K) rfl) (pv 7) (pv 1) rfl)))))) (fun _ _ _ _ _ => (pv 6)) (fun _ _ _ _ _ => (pv 7)))) pa_nil))) rfl)))
    (pss_one (ps_ret (pe_fz (pv 2)))))), ?_⟩
  refine ys_seq (ys_tupYN (y_call1 (y_var rfl h_desk) hok) (yn_newK (r := rP)) fun v_viable p H1 u0 s1 np e0 h_viable i0 => ?_)
  obtain ⟨H0, s01, e01, i0⟩ := i0
  have md0 : Md rP [] p H1 := (Md.of e01 i0 List.nodup_nil).same s01
  refine nx_ (ys_seq (ys_for (yi_items (y_rows T (y_var rfl (up_ s1 h_desk)))) fun H2 s2 => ⟨fun i σ' H' => (∃ a b c d e, σ' = [some v_desk, some v_viable, some (.ref p), a, b, c, d, e]) ∧ Mx [p] H2 H' ∧ Md rP ((a_desk.1.take i).map fun r => (r.1, hwR a_desk.1 r.2)) p H', ⟨⟨_, _, _, _, _, rfl⟩, Mx.rfl, md0.same s2⟩, fun i σ' H' p' => p'.2.1.up (oneq (md0.same s2).ni), ?_, ?_⟩))
  · rintro i x σ' H' hx ⟨⟨a, b, c, d, e, rfl⟩, mx, md⟩ v H3 s3 h_it
    have hm := mem_at hx
    have row := hok.row x hm
    obtain ⟨p1, v1, v2, rfl, ht, h_state, h2⟩ := TP.two h_it
    obtain ⟨p2, v3, v4, rfl, ht', h_kind, h_turns⟩ := TP.two h2
    refine g_tup12 ht ht' _ ?_
    have upv : Up H1 H3 := (up_same s2).trans ((mx.up (oneq (md0.same s2).ni)).trans (up_same s3))
    have h_viable3 : lP sP (viaL a_desk.1) v_viable H3 := Sty.up upv h_viable
    refine ys_dput (k := x.1) (x := hwR a_desk.1 x.2) (y_row (ya_cons (y_var rfl h_kind) (ya_cons (Y_eq (r := dP sP) (map_pair (x.2.2.filter fun t => okT a_desk.1 x.2.1 t.2)) (y_fzD (yn_dc (r' := sP) (fun t : Str × Str => okT a_desk.1 x.2.1 t.2) (fun t => t.1) (fun t => t.2) (yi_items (y_var rfl h_turns)) (fun x3 m3 v5 H5 s5 h3 => bk2 h3 fun v3a v3b h3a h3b => ⟨rfl, (yt_or (yt_test (y_op r_neS (y_var rfl (up_ s5 h_kind)) y_str)) fun b4 => (yt_test (y_inS (y_var rfl h3b) (y_var rfl (up_ s5 h_viable3))))), fun e3 => ⟨(y_var rfl h3a), (y_var rfl h3b)⟩⟩) ?_))) ya_nil))) rfl (md.same s3) (y_var rfl h_state) ?_ (fun H7 mx7 md7 => ?_)
    · exact List.Nodup.sublist (List.Sublist.map _ (List.filter_sublist ..)) row.nd
    · rw [List.length_map, List.length_take]
      have := hok.len
      omega
    · refine ⟨⟨_, _, _, _, _, rfl⟩, (mx.trans (Mx.of s3)).trans mx7, ?_⟩
      have hk : (keys a_desk.1)[i]? = some x.1 := by
        unfold keys
        rw [List.getElem?_map, hx]
        rfl
      have hn : x.1 ∉ keys ((a_desk.1.take i).map fun r => (r.1, hwR a_desk.1 r.2)) := by
        rw [keys_mk]
        have := not_mem_take hok.nd hk
        unfold keys at this
        rw [← List.map_take] at this
        exact this
      rw [put_new hn] at md7
      rw [take_one hx, List.map_append]
      exact md7
  · rintro σ' H' ⟨⟨a, b, c, d, e, rfl⟩, mx, md⟩
    rw [List.take_length] at md
    have s0' : Same H H' := mx.same (s1.trans s2) (oneq np)
    exact nx_ (y_fzMd rfl md _ fun v H3 mx3 h => hq v _ (mx3.same s0' (oneq np)) h)
/-! ### needed_heard -/
theorem rch_hw {b : Book} {st : Str} (h : WfB b) (hs : st ∈ keys b) : RchOk (hwB b) st := by
  refine ⟨by unfold hwB; rw [List.length_map]; exact h.len, fun x hx => ?_, fun x hx g hg => ?_, by rw [keys_hwB]; exact hs⟩
  · rw [look_hwB]
    rw [keys_hwB] at hx
    exact Nat.lt_of_le_of_lt (List.length_filter_le ..) (h.at hx).len
  · rw [keys_hwB] at hx ⊢
    unfold sucB at hg
    rw [look_hwB] at hg
    obtain ⟨t, ht, rfl⟩ := List.mem_map.mp hg
    exact (h.at hx).goals t (List.mem_filter.mp ht).1
def ndP (d : World') : Pr := fun v H => ∃ l, lP pP l v H ∧ ∀ p, p ∈ l ↔ Need d p
abbrev sp_needed_heard (K : PySem.W.Frag) : Sp := Sp1 (dkP K) (fun d => WfB d.1 ∧ d.2 ∈ keys d.1) (fun d => ndP d)
abbrev N_needed_heard : List Str := ["desk", "rows", "live", "item"]
theorem nd_needed_heard : N_needed_heard.Nodup := by decide
theorem c_needed_heard (T : Tf w K mg) : C8.Cal P w K mg base 6 "needed_heard" (sp_needed_heard K) [] := by
  refine T.cal (d := d_needed_heard) (N := N_needed_heard) (ps := ["desk"]) 39 rfl rfl (by simp [fa, fa0, fa1, fa2, fa3]) rfl rfl (by decide +kernel) (len1 _) (fun _ _ _ _ _ _ us hl => match us, hl with | [_], _ => rfl) (fun f cdv A outer s H vs Q E hr hsp => ?_)
  obtain ⟨v_desk, a_desk, rfl, h_desk, hok, hq⟩ := hsp
  refine ⟨_, (pss_cons (ps_expr (C8.pe_c (c_check_desk T) hr (by decide) rfl (pa_cons (pv 0) pa_nil)))
    (pss_cons (ps_set (i := 1) nd_needed_heard rfl (Or.inr rfl) (C8.pe_c (c_heard_well T) hr (by decide) rfl (pa_cons (pv 0) pa_nil)))
    (pss_cons (ps_set (i := 2) nd_needed_heard rfl (Or.inr rfl) (C8.pe_c (c_reached_from T) hr (by decide) rfl (pa_cons (pv 1) (pa_cons (k_fld (K := K) rfl (pv 0) rfl) pa_nil))))
    (pss_one (ps_ret (pe_fz (pe_lc (own := [("item", 3)]) rfl nd_needed_heard (k_list (K := K) rfl (C8.pe_c (c_words_at T) hr (by decide) rfl (pa_cons (pv 0) (pa_cons pe_str pa_nil)))) (blkOk_by (own := [("item", 3)]) (by first | decide +kernel | rfl)) (fun _ _ _ _ _ => (pg_name (i := 3) nd_needed_heard rfl (Or.inl rfl))) (fun _ _ _ _ _ => (pts_one (PW.pt (pw_and (pt_cmpR (k_in_seq (K := K) rfl) (pe_ix (k_ix_tup (K := K) rfl) (pv 3) pe_int (fun _ _ => rfl)) (pv 2) rfl) (pw_and1 (pt_cmp (pc_din (hu_of hr) (pe_ix (k_ix_tup (K := K) rfl) (pv 3) pe_int (fun _ _ => rfl)) (pe_ix (k_ix_tup (K := K) rfl) (pe_dget (hu_of hr) (pv 1) (pe_ix (k_ix_tup (K := K) rfl) (pv 3) pe_int (fun _ _ => rfl)) (fun _ _ => rfl)) pe_int (fun _ _ => rfl))) rfl)))))) (fun _ _ _ _ _ => (pv 3))))))))), ?_⟩
  obtain ⟨wf, hst⟩ := hok
  refine ys_seq (ys_drop (y_call1 (y_var rfl h_desk) trivial) fun v_ H1 s1 h_ => ?_)
  refine nx_ (ys_seq (ys_set (y_call1 (y_var rfl (up_ s1 h_desk)) wf) fun v_rows H2 s2 h_rows => ?_))
  refine nx_ (ys_seq (ys_set (y_call2 (y_var rfl h_rows) (y_first T (y_var rfl (up_ (s1.trans s2) h_desk))) (rch_hw wf hst)) fun v_live H3 s3 h_live => ?_))
  obtain ⟨live, h_live, hl⟩ := h_live
  refine nx_ (ys_ret (y_fzl (yn_lc (r := pP) (r' := pP) (fun p => decide (p.1 ∈ live) && has (look (hwB a_desk.1) p.1).2 p.2) (fun p => p) (yi_l (y_call2 (y_var rfl (up_ ((s1.trans s2).trans s3) h_desk)) y_str wf)) (fun x4 m4 v4 H4 s4 h4 => bd1 ⟨rfl, (yt_and (yt_test (y_inS (y_p0 (y_var rfl h4)) (y_var rfl (up_ s4 h_live)))) fun b5 => (yt_b (y_din (y_p1 (y_var rfl h4)) (y_r1 (y_dget (y_var rfl (up_ (s3.trans s4) h_rows)) (y_p0 (y_var rfl h4)) ?_))))), fun e4 => (y_var rfl h4)⟩))) fun v H6 s6 h => hq v _ (((s1.trans s2).trans s3).trans s6) ⟨_, h, fun p => ?_⟩)
  · rw [keys_hwB]
    exact ((words_look wf).mp m4).1
  · rw [List.map_id', List.mem_filter, Bool.and_eq_true, decide_eq_true_iff, has_iff, hl]
    exact Iff.rfl
/-! ### is_spare -/
noncomputable def spareV (d : World') : Lv → Bool
  | .lst xs => standsB d (normB (cutB d.1 (xs.map wiPair)), d.2)
  | .non => false
noncomputable abbrev sp_is_spare (K : PySem.W.Frag) : Sp := Sp2 (dkP K) (lvP K) (fun d x => SpB d.1 ∧ d.2 ∈ keys d.1 ∧ lvOk x) (fun d x => bP (listB d.1 "hears" x && spareV d x))
abbrev N_is_spare : List Str := ["desk", "value"]
theorem nd_is_spare : N_is_spare.Nodup := by decide
theorem c_is_spare (T : Tf w K mg) : C8.Cal P w K mg base 9 "is_spare" (sp_is_spare K) [] := by
  refine T.cal (d := d_is_spare) (N := N_is_spare) (ps := ["desk", "value"]) 40 rfl rfl (by simp [fa, fa0, fa1, fa2, fa3]) rfl rfl (by decide +kernel) (len2 _ _) (fun _ _ _ _ _ _ us hl => match us, hl with | [_, _], _ => rfl) (fun f cdv A outer s H vs Q E hr hsp => ?_)
  obtain ⟨v_desk, v_value, a_desk, a_value, rfl, h_desk, h_value, hok, hq⟩ := hsp
  refine ⟨_, (pss_cons (ps_expr (C8.pe_c (c_check_desk T) hr (by decide) rfl (pa_cons (pv 0) pa_nil)))
    (pss_one (ps_ret (pe_and (C8.pe_c (c_is_list_of T) hr (by decide) rfl (pa_cons (pv 0) (pa_cons pe_str (pa_cons (pv 1) pa_nil)))) (pe_one (C8.pe_c (c_stands T) hr (by decide) rfl (pa_cons (pv 0) (pa_cons (C8.pe_c (c_without T) hr (by decide) rfl (pa_cons (pv 0) (pa_cons (pv 1) pa_nil))) pa_nil)))))))), ?_⟩
  obtain ⟨hb, hst, lok⟩ := hok
  refine ys_seq (ys_drop (y_call1 (y_var rfl h_desk) trivial) fun v_ H1 s1 h_ => ?_)
  refine nx_ (ys_ret (y_and (y_call3 (y_var rfl (up_ s1 h_desk)) y_str (y_var rfl (up_ s1 h_value)) ⟨hb.wf, lok⟩) fun b2 => ?_) fun v H3 s3 h => hq v _ (s1.trans s3) h)
  cases a_value with
  | non => cases b2
  | lst xs =>
    have b3 : (xs.all wiB && (ascB (xs.map wiPair) && ((xs.map wiPair).all (fun p => decide (p ∈ wordsAt a_desk.1 "hears")) && leaves a_desk.1 (xs.map wiPair)))) = true := b2
    simp only [Bool.and_eq_true] at b3
    obtain ⟨c1, _, _, c4⟩ := b3
    have hv : glP (wiP K) xs v_value H := h_value
    have okp : ∀ p ∈ xs.map wiPair, OkP p := fun p hp => by
      obtain ⟨x, hx, rfl⟩ := List.mem_map.mp hp
      have := wi_pair (K := K) (List.all_eq_true.mp c1 x hx)
      exact ⟨spT_ok this.2.1, spT_ok this.2.2⟩
    have hv2 := gl_pairs c1 hv
    exact y_call2 (y_var rfl (up_ s1 h_desk)) (y_call2 (y_var rfl (up_ s1 h_desk)) (y_var rfl (up_ s1 hv2)) ⟨hb, hst, okp, c4⟩) ⟨⟨hb.wf, hst⟩, wf_norm (wf_cut hb.wf c4), by rw [keys_normB, mem_sortS, keys_cutB]; exact hst⟩
end En
set_option maxHeartbeats 4000000
/-! Desks that are equal; _law_exact, _law_desk. -/
namespace En
open PySem PySem.Spec PyProof.Rows L2
variable {P : Program} {w : World} {K : PySem.W.Frag} {mg : Str → Option Value} {base : Heap}
/-! ### == of two dicts of rows -/
def EqT (x y : V) : Prop := ∃ t : Str, x = .str t ∧ y = .str t
/-- two frozen dicts of the same keys, their values alike -/
def EqD (E : V → V → Prop) (H : Hp) (x y : V) : Prop := ∃ a b ks ls, x = .ref a ∧ y = .ref b ∧ FD H a ks ∧ FD H b ls ∧ ks.length = ls.length ∧ ∀ p ∈ ks, ∃ u, valV ls p.1 = some u ∧ E p.2 u
def EqW (H : Hp) (x y : V) : Prop := ∃ a b x1 x2 y1 y2, x = .ref a ∧ y = .ref b ∧ TU H a [x1, x2] ∧ TU H b [y1, y2] ∧ EqT x1 y1 ∧ EqD EqT H x2 y2
section
variable {X : Cx} {pins : List (Addr × Obj)} {σ : L2.St} {H : Hp} {s : Shared}
theorem eqT_run {A : Around} {x y : V} {u v : Value} (h : EqT x y) (rx : RelV x u) (ry : RelV y v) : SeqAt.EqP X.prog X.w A s u v true := by
  obtain ⟨t, rfl, rfl⟩ := h
  exact (eqAt_same rx ry rfl).eqP
theorem eqD_rc (I : Inv X pins σ H s) {A : Around} (hu : A.units < cLine) {F : V → V → Prop} (ih : ∀ x y u v, F x y → RelV x u → RelV y v → SeqAt.EqP X.prog X.w A.in1 s u v true) {x y : V} {u v : Value} (h : EqD F H x y) (rx : RelV x u) (ry : RelV y v)
    (E Q : Value → Shared → Prop) (q : Q (.bool true) s) : wpAny (model X.prog X.w) A (richCompare .Eq u v) Q E s := by
  obtain ⟨a, b, ks, ls, rfl, rfl, ha, hb, hl, hp⟩ := h
  cases (show u = Value.ref a from rx)
  cases (show v = Value.ref b from ry)
  obtain ⟨_, ya, va, ra, da⟩ := dk_rd I.hok ha.rd
  obtain ⟨_, yb, vb, rb, db⟩ := dk_rd I.hok hb.rd
  refine PySem.W.rcP_dicts (knd := mixKind X.prog X.w) (r := true) ya yb da db hu (fun _ => hits_run ih rb ra hp) E Q ?_
  have e : va.length = vb.length := by rw [← ra.length, ← rb.length]; exact hl
  rw [e, beq_self_eq_true]
  exact q
theorem eqD_run (I : Inv X pins σ H s) {A : Around} (hu : A.units + 1 < cLine) {x y : V} {u v : Value} (h : EqD EqT H x y) (rx : RelV x u) (ry : RelV y v) : SeqAt.EqP X.prog X.w A s u v true := by
  have step := eqD_rc I (A := A) (by omega) (fun x y u v h rx ry => eqT_run h rx ry) h rx ry
  obtain ⟨a, b, ks, ls, rfl, rfl, _⟩ := h
  cases (show u = Value.ref a from rx)
  cases (show v = Value.ref b from ry)
  by_cases e : a = b
  · subst e
    exact (SeqAt.EqAt.same _).eqP
  · exact SeqAt.eqP_refs e step
theorem eqW_run (I : Inv X pins σ H s) {A : Around} (hu : A.units + 3 < cLine) {x y : V} {u v : Value} (h : EqW H x y) (rx : RelV x u) (ry : RelV y v) : SeqAt.EqP X.prog X.w A s u v true := by
  obtain ⟨a, b, x1, x2, y1, y2, rfl, rfl, ha, hb, e1, e2⟩ := h
  cases (show u = Value.ref a from rx)
  cases (show v = Value.ref b from ry)
  by_cases e : a = b
  · subst e
    exact (SeqAt.EqAt.same _).eqP
  · refine SeqAt.eqP_refs e fun E Q q => ?_
    obtain ⟨i1, r1, t1, _⟩ := I.tuple ha.sq
    obtain ⟨i2, r2, t2, _⟩ := I.tuple hb.sq
    obtain ⟨u1, u2, rfl, p1, p2⟩ := vals2 r1
    obtain ⟨v1, v2, rfl, q1, q2⟩ := vals2 r2
    refine GQ.rc_tupG (items := #[u1, u2]) (items2 := #[v1, v2]) rfl (by omega) (fun _ z => z = s) t1 t2 (fun i h1 h2 z hz => ?_) (fun z hz => by rw [hz]; exact q) rfl
    subst hz
    match i, h1, h2 with
    | 0, _, _ => exact eqT_run (X := X) (A := A.in1) e1 p1 q1 _ _ ⟨rfl, rfl⟩
    | 1, _, _ => exact eqD_run I (A := A.in1) (by show A.units + 1 + 1 < cLine; omega) e2 p2 q2 _ _ ⟨rfl, rfl⟩
end
section
variable {X : Cx}
def rEqRows : R2 := fun x y H Q => EqD (EqW H) H x y ∧ Q (.bl true) H
theorem op_eqRows (hu : X.A.units + 64 < cLine) : OpR X (compareOp .Eq) rEqRows := by
  intro pins s σ H x y v u Q I rx ry h
  exact eqD_rc I (A := X.A) (by omega) (fun x y u v h rx ry => eqW_run I (A := X.A.in1) (by show X.A.units + 1 + 3 < cLine; omega) h rx ry) h.1 rx ry _ _ ⟨.bl true, H, I, rfl, h.2⟩
end
section
variable {σ : L2.St} {H : Hp} {ta tb : TE} {α : Type} {r : α → Pr}
theorem eqD_of {F : V → V → Prop} [Inhabited α] {d : List (Str × α)} (nd : (keys d).Nodup) (hF : ∀ x ∈ d, ∀ v u, r x.2 v H → r x.2 u H → F v u) {x y : V} (h1 : dP r d x H) (h2 : dP r d y H) : EqD F H x y := by
  obtain ⟨a, ks, rfl, f1, a1, _⟩ := h1
  obtain ⟨b, ls, rfl, f2, a2, _⟩ := h2
  refine ⟨a, b, ks, ls, rfl, rfl, f1, f2, a1.length.trans a2.length.symm, fun p hp => ?_⟩
  obtain ⟨i, hi, e⟩ := List.getElem_of_mem hp
  have hl := a1.length
  have hx : d[i]? = some (d[i]'(by omega)) := List.getElem?_eq_getElem _
  generalize d[i]'(by omega) = x at hx
  obtain ⟨v, hv, rv⟩ := a1.nth hx
  have hm : x ∈ d := List.mem_of_getElem? hx
  rw [List.getElem?_eq_getElem hi, e] at hv
  cases hv
  obtain ⟨u, hu, ru⟩ := a2.fnd (mem_keys hm)
  rw [look_of nd (show (x.1, x.2) ∈ d from hm)] at ru
  exact ⟨u, hu, hF x hm v u rv ru⟩
theorem r_eqRows {b : Book} (h : WfB b) : R2s rEqRows (dP rP b) (dP rP b) (bP true) := fun x y H1 h1 h2 Q q => by
  refine ⟨eqD_of h.nd (fun x hx v u hv hu => ?_) h1 h2, q _ H1 (Same.refl _) rfl⟩
  obtain ⟨a1, v1, v2, rfl, t1, p1, p2⟩ := TP.two hv
  obtain ⟨a2, u1, u2, rfl, t2, q1, q2⟩ := TP.two hu
  refine ⟨a1, a2, v1, v2, u1, u2, rfl, rfl, t1, t2, ⟨x.2.1, p1, q1⟩, eqD_of (h.row x hx).nd (fun z _ v u hv hu => ⟨z.2, hv, hu⟩) p2 q2⟩
end
/-! ### == of two desks -/
def RDesk (K : PySem.W.Frag) (a b : Addr) (H : Hp) : Prop := ∃ d : World', dkP K d (.ref a) H ∧ dkP K d (.ref b) H ∧ WfB d.1
abbrev sp_Desk_eq (K : PySem.W.Frag) : Sp := spEq (RDesk K)
abbrev N_Desk_eq : List Str := ["self", "other"]
theorem nd_Desk_eq : N_Desk_eq.Nodup := by decide
theorem t___eq__ (T : Tf w K mg) : C8.Met P w K mg base 1 (He.ga K "Desk") "__eq__" (sp_Desk_eq K) [] := by
  refine T.met (c := "Desk") (m := "__eq__") (d := d_Desk_eq) (N := N_Desk_eq) (ps := ["self", "other"]) 6 rfl rfl (by simp [fa, fa0, fa1, fa2, fa3]) T.clsD rfl rfl (by decide +kernel) (fun vs H Q E h => by obtain ⟨_, _, rfl, _⟩ := h; rfl) (fun _ _ _ _ _ _ us hl => match us, hl with | [_, _], _ => rfl) (fun f cdv A outer s H vs Q E hr hsp => ?_)
  obtain ⟨p1, p2, rfl, ⟨d, h_self, h_other, hok⟩, hq⟩ := hsp
  refine ⟨_, (pss_one (ps_ret (pe_and (pe_callB (k_isi (K := K) rfl) (by rfl) T.n_isinstance (by decide +kernel) (pa_cons (pv 1) (pa_cons (C8.pe_gc (v := .ref (cDesk K)) rfl ⟨_, T.g_Desk, rfl⟩) pa_nil))) (pe_and (pe_cmpR (op_eqRows (hu64 hr)) (k_fld (K := K) rfl (pv 0) rfl) (k_fld (K := K) rfl (pv 1) rfl) (nomark _)) (pe_one (pe_cmpR op_eq (k_fld (K := K) rfl (pv 0) rfl) (k_fld (K := K) rfl (pv 1) rfl) (nomark _))))))), ?_⟩
  refine ys_ret (y_and (b := true) (c := true) (y_isDesk T (y_var rfl h_other)) fun b2 => (Y.eqB (y_and (y_op (r_eqRows hok) (y_rows T (y_var rfl h_self)) (y_rows T (y_var rfl h_other))) fun b1 => (y_op r_eqS (y_first T (y_var rfl h_self)) (y_first T (y_var rfl h_other)))) ?_)) fun v H3 s3 h => ?_
  · rw [decide_eq_true rfl]
    rfl
  · have h : v = .bl true := h
    rw [h]
    exact hq H3 s3
section
variable {X : Cx} {j : Nat}
theorem op_eqOwn (T : Tf X.w X.K X.mg) (hr : Room j X.A) (hj : 2 ≤ j := by decide) : OpR X (compareOp .Eq) (rEqG (DIns (cDesk X.K) (RDesk X.K))) := by
  obtain ⟨f, fd, ps, ds, hc, hm, F, b, d⟩ := (t___eq__ (P := X.prog) (base := X.base) T).ex
  cases d
  exact op_eqG (rcG_ins (E := E0) F hm.at_ hm.fn b C8.pass0) (hr.mono (by omega))
variable {σ : L2.St} {H : Hp} {ta tb : TE}
theorem y_eqDesk {d : World'} (ya : Y ta σ H (dkP K d)) (yb : Y tb σ H (dkP K d)) (h : WfB d.1) : Y (tOp (rEqG (DIns (cDesk K) (RDesk K))) ta tb) σ H (bP true) := fun H1 u Q q =>
  ya H1 u _ fun x H2 s2 p2 => yb H2 (u.trans s2) _ fun y H3 s3 p3 => by
    have p2' : dkP K d x H3 := up_ s3 p2
    obtain ⟨a, dx, v1, rfl, e1, e2⟩ := id p2'
    obtain ⟨b, dy, v2, rfl, f1, f2⟩ := id p3
    exact ⟨⟨a, b, dx, dy, _, _, rfl, rfl, e1, f1, d, p2', p3, h⟩, fun H4 s4 => q _ H4 ((s2.trans s3).trans s4) rfl⟩
end
/-! ### _law_exact -/
section
variable {σ : L2.St} {H : Hp} {ta : TE}
theorem y_isiTB {c : Bool} (ya : Y ta σ H (bP c)) : Y (tCB (rIsiT K) (tCons ta (tCons (tTup (tCons (tC (.ty "list")) (tCons (tC (.ty "tuple")) tNil))) tNil))) σ H (bP false) := fun H1 u Q q =>
  ya H1 u _ fun x H2 s2 p2 => ⟨by rw [sizeLine_eq]; simp, fun p hp => ⟨x, p, _, .type "bool", [.type "list", .type "tuple"], false, rfl, L2.upd_same, .cons (.ty "list") (.cons (.ty "tuple") .nil), by rw [show x = .bl c from p2]; exact .base (.bl c), rfl, q _ _ (s2.trans (same_new _ hp)) rfl⟩⟩
end
abbrev sp_l_exact : Sp := Sp2 bP bP (fun _ _ => True) (fun a b => bP (a == b))
abbrev N_l_exact : List Str := ["_law_mine", "_law_theirs", "_law_alike", "_law_a", "_law_b", "_law_key"]
theorem nd_l_exact : N_l_exact.Nodup := by decide
theorem c_l_exact (T : Tf w K mg) : C8.Cal P w K mg base 1 "_law_exact" sp_l_exact [] := by
  refine T.cal (d := d_l_exact) (N := N_l_exact) (ps := ["_law_mine", "_law_theirs"]) 47 rfl rfl (by simp [fa, fa0, fa1, fa2, fa3]) rfl rfl (by decide +kernel) (len2 _ _) (fun _ _ _ _ _ _ us hl => match us, hl with | [_, _], _ => rfl) (fun f cdv A outer s H vs Q E hr hsp => ?_)
  obtain ⟨v_mine, v_theirs, a_mine, a_theirs, rfl, h_mine, h_theirs, hok, hq⟩ := hsp
  refine ⟨_, (pss_cons (ps_if (pt_val (pe_callB (k_isiT (K := K) rfl) (by rfl) T.n_isinstance (by decide +kernel) (pa_cons (pv 0) (pa_cons (pe_tup (pa_cons (pe_bltn rfl T.n_list (by decide +kernel) (v := .ty "list") rfl) (pa_cons (pe_bltn rfl T.n_tuple (by decide +kernel) (v := .ty "tuple") rfl) pa_nil))) pa_nil)))) pss_never
    pss_nil)
    (pss_cons (ps_if (pt_val (pe_callB (k_isiU T rfl) (by rfl) T.n_isinstance (by decide +kernel) (pa_cons (pv 0) (pa_cons (pe_bltn rfl T.n_dict (by decide +kernel) (v := .ty "dict") rfl) pa_nil)))) pss_never
    pss_nil)
    (pss_one (ps_ret (pe_and (pe_cmpR op_eq (pe_callB (k_isiU T rfl) (by rfl) T.n_isinstance (by decide +kernel) (pa_cons (pv 0) (pa_cons (pe_bltn rfl T.n_bool (by decide +kernel) (v := .ty "bool") rfl) pa_nil))) (pe_callB (k_isiU T rfl) (by rfl) T.n_isinstance (by decide +kernel) (pa_cons (pv 1) (pa_cons (pe_bltn rfl T.n_bool (by decide +kernel) (v := .ty "bool") rfl) pa_nil))) (nomark _)) (pe_one (pe_cmpR op_eq (pv 0) (pv 1) (nomark _)))))))), ?_⟩
  refine ys_seq (ys_if (b := false) (yt_b (y_isiTB (y_var rfl h_mine))) (fun b1 H1 s1 => by cases b1) (fun b1 H1 s1 => ?_))
  refine nx_ (ys_seq (ys_if (b := false) (yt_b (y_isi (b := false) (P1 := bP a_mine) (y_var rfl (up_ s1 h_mine)) fun v H h => ⟨.type "bool", .inl (by rw [show v = .bl a_mine from h]; exact .bl _), rfl⟩)) (fun b2 H2 s2 => by cases b2) (fun b2 H2 s2 => ?_)))
  exact nx_ (ys_ret (y_and (b := true) (Y.eqB (y_op r_eqB (y_isi (b := true) (P1 := bP a_mine) (y_var rfl (up_ (s1.trans s2) h_mine)) fun v H h => ⟨.type "bool", .inl (by rw [show v = .bl a_mine from h]; exact .bl _), rfl⟩) (y_isi (b := true) (P1 := bP a_theirs) (y_var rfl (up_ (s1.trans s2) h_theirs)) fun v H h => ⟨.type "bool", .inl (by rw [show v = .bl a_theirs from h]; exact .bl _), rfl⟩)) rfl) fun _ => y_op r_eqB (y_var rfl (up_ (s1.trans s2) h_mine)) (y_var rfl (up_ (s1.trans s2) h_theirs))) fun v H3 s3 h => hq v _ ((s1.trans s2).trans s3) h)
/-! ### _law_desk -/
structure SpW (d : World') : Prop where
  b : SpB d.1
  s : d.2 ∈ keys d.1
theorem SpW.wf {d : World'} (h : SpW d) : WfW d := ⟨h.b.wf, h.s⟩
theorem b_dictD {α : Type} {r : α → Pr} {d : List (Str × α)} [s : ∀ x, Sty (r x)] : Rbn (fun xs H Q => ∃ (a : Addr) (kvs : List (Key × V)), xs = [.ref a] ∧ Rd H a (.dK kvs) ∧ ∀ p, H p = none → Q (.ref p) (upd H p (.dK kvs))) (dP r d) (isD r d) := fun x H1 ⟨a, kvs, e, hd, al, z⟩ Q q =>
  ⟨a, kvs, by rw [e], hd.rd, fun p hp => q p _ _ (same_new _ hp) hp L2.upd_same ⟨kvs, rfl, al.up (up_new _ hp), z⟩⟩
theorem rows_self {b : Book} (h : (keys b).Nodup) : ((keys b).map fun s => (s, ((look b s).1, (look b s).2))) = b := by
  unfold keys
  rw [List.map_map]
  refine (List.map_congr_left (g := id) fun x hx => ?_).trans (List.map_id _)
  show (x.1, ((look b x.1).1, (look b x.1).2)) = x
  rw [look_of h (show (x.1, x.2) ∈ b from hx)]
abbrev sp_l_desk (K : PySem.W.Frag) : Sp := Sp1 wP (fun d => SpW d) (fun d => dkP K (normB d.1, d.2))
abbrev N_l_desk : List Str := ["_law_world_here", "_law_state"]
theorem nd_l_desk : N_l_desk.Nodup := by decide
theorem c_l_desk (T : Tf w K mg) : C8.Cal P w K mg base 6 "_law_desk" (sp_l_desk K) [] := by
  refine T.cal (d := d_l_desk) (N := N_l_desk) (ps := ["_law_world_here"]) 54 rfl rfl (by simp [fa, fa0, fa1, fa2, fa3]) rfl rfl (by decide +kernel) (len1 _) (fun _ _ _ _ _ _ us hl => match us, hl with | [_], _ => rfl) (fun f cdv A outer s H vs Q E hr hsp => ?_)
  obtain ⟨v_world, a_world, rfl, h_world, hok, hq⟩ := hsp
  refine ⟨_, (pss_one (ps_ret (C8.pe_mk (m_Desk T) hr (by decide) rfl (pa_cons (pe_fz (pe_callTy (k_dictP (K := K) rfl rfl) (by rfl) T.n_dict (by decide +kernel) (pa_cons (pe_fz (pe_lc (own := [("_law_state", 1)]) rfl nd_l_desk (pi_keys (pe_ix (k_ix_list (K := K) rfl) (pv 0) pe_int (fun _ _ => rfl))) (blkOk_by (own := [("_law_state", 1)]) (by first | decide +kernel | rfl)) (fun _ _ _ _ _ => (pg_name (i := 1) nd_l_desk rfl (Or.inl rfl))) (fun _ _ _ _ _ => pts_nil) (fun _ _ _ _ _ => (pe_tup (pa_cons (pv 1) (pa_cons (pe_tup (pa_cons (pe_ix (k_ix_tup (K := K) rfl) (pe_dget (hu_of hr) (pe_ix (k_ix_list (K := K) rfl) (pv 0) pe_int (fun _ _ => rfl)) (pv 1) (fun _ _ => rfl)) pe_int (fun _ _ => rfl)) (pa_cons (pe_fz (pe_callTy call_dictD (by rfl) T.n_dict (by decide +kernel) (pa_cons (pe_ix (k_ix_tup (K := K) rfl) (pe_dget (hu_of hr) (pe_ix (k_ix_list (K := K) rfl) (pv 0) pe_int (fun _ _ => rfl)) (pv 1) (fun _ _ => rfl)) pe_int (fun _ _ => rfl)) pa_nil))) pa_nil))) pa_nil)))))) pa_nil))) (pa_cons (pe_ix (k_ix_list (K := K) rfl) (pv 0) pe_int (fun _ _ => rfl)) pa_nil))))), ?_⟩
  exact ys_ret (y_mkDesk (Y_eq (r := dP rP) (rows_self hok.b.wf.nd) (y_fzD (yn_cb (b_dictP (by rw [keys_mk, List.map_id']; exact hok.b.wf.nd)) (y_fzl (yn_lc0 (r' := (itP rP)) (fun s => (s, ((look a_world.1 s).1, (look a_world.1 s).2))) (yi_keys (y_w0 (y_var rfl h_world))) (fun x1 m1 v1 H1 s1 h1 => bd1 ⟨rfl, yt_yes, fun e1 => (y_it (ya_cons (y_var rfl h1) (ya_cons (y_row (ya_cons (y_r0 (y_dget (y_w0 (y_var rfl (up_ s1 h_world))) (y_var rfl h1) m1)) (ya_cons (y_fzD (yn_cb b_dictD (y_r1 (y_dget (y_w0 (y_var rfl (up_ s1 h_world))) (y_var rfl h1) m1)))) ya_nil))) ya_nil)))⟩)))))) (y_w1 (y_var rfl h_world)) hok.b hok.s) fun v H2 s2 h => hq v _ s2 h
end En
set_option maxHeartbeats 4000000
/-! Purses: what is drawn. -/
namespace En
open PySem PySem.Spec PyProof.Rows L2
variable {P : Program} {w : World} {K : PySem.W.Frag} {mg : Str → Option Value} {base : Heap}
/-! ### ints -/
/-- a power of no more than 2 ^ 27 bits -/
def CPowX (i j : Int) : Prop := 0 ≤ j ∧ (Builtin.Int.intBits i : Int) * j ≤ 2 ^ 27
section
variable {X : Cx}
theorem op_powX : OpR X (binaryOp .Pow) (rI CPowX fun i j => .int (i ^ j.toNat)) := opI fun _ _ _ _ _ _ _ hc q => pow_int hc.1 hc.2 q
end
section
variable {σ : L2.St} {H : Hp} {ta tb : TE} {x y : Int}
theorem r_iC {C : Int → Int → Prop} {g : Int → Int → Int} (h : C x y) : R2s (rI C fun i j => .int (g i j)) (iP x) (iP y) (iP (g x y)) := fun _ _ H1 h1 h2 Q q => by
  cases h1; cases h2
  exact ⟨x, y, rfl, rfl, h, q _ _ (Same.refl _) rfl⟩
theorem r_mul (h : CMul x y) : R2s (rI CMul fun i j => .int (i * j)) (iP x) (iP y) (iP (x * y)) := r_iC h
theorem r_mod (h : 0 < y) : R2s (rI (fun _ j => 0 < j) fun i j => .int (i % j)) (iP x) (iP y) (iP (x % y)) := r_iC h
theorem r_fdiv (h : CDiv x y) : R2s (rI CDiv fun i j => .int (i / j)) (iP x) (iP y) (iP (x / y)) := r_iC h
theorem r_pow (h : CPowX x y) : R2s (rI CPowX fun i j => .int (i ^ j.toNat)) (iP x) (iP y) (iP (x ^ y.toNat)) := r_iC h
theorem b_int : Rb (fun xs H Q => (∃ i, xs = [.int i] ∧ Q (.int i) H) ∨ ∃ k, xs = [.bl k] ∧ Q (.int (if k then 1 else 0)) H) (iP x) (iP x) := fun v H1 h Q q => .inl ⟨x, by rw [show v = .int x from h], q _ H1 (Same.refl _) rfl⟩
theorem y_max2 (ya : Y ta σ H (iP x)) (yb : Y tb σ H (iP y)) : Y (tCB (fun xs H Q => ∃ i j, xs = [.int i, .int j] ∧ Q (.int (if j > i then j else i)) H) (tCons ta (tCons tb tNil))) σ H (iP (if y > x then y else x)) := fun H1 u Q q =>
  ya H1 u _ fun v H2 s2 p2 => yb H2 (u.trans s2) _ fun v' H3 s3 p3 => ⟨x, y, by rw [show v = .int x from p2, show v' = .int y from p3], q _ H3 (s2.trans s3) rfl⟩
theorem y_min2 (ya : Y ta σ H (iP x)) (yb : Y tb σ H (iP y)) : Y (tCB (fun xs H Q => ∃ i j, xs = [.int i, .int j] ∧ Q (.int (if j < i then j else i)) H) (tCons ta (tCons tb tNil))) σ H (iP (if y < x then y else x)) := fun H1 u Q q =>
  ya H1 u _ fun v H2 s2 p2 => yb H2 (u.trans s2) _ fun v' H3 s3 p3 => ⟨x, y, by rw [show v = .int x from p2, show v' = .int y from p3], q _ H3 (s2.trans s3) rfl⟩
theorem y_addAn (ya : Y ta σ H (iP x)) (yb : Y tb σ H (fun v _ => ∃ m : Int, v = .int m)) : Y (tOp (rI0 fun i j => .int (i + j)) ta tb) σ H (fun v _ => ∃ m : Int, v = .int m) := fun H1 u Q q =>
  ya H1 u _ fun v H2 s2 p2 => yb H2 (u.trans s2) _ fun v' H3 s3 ⟨m, p3⟩ => ⟨x, m, p2, p3, q _ H3 (s2.trans s3) ⟨_, rfl⟩⟩
theorem y_bits (ya : Y ta σ H (iP x)) : Y (tBits ta) σ H (iP (Builtin.Int.intBits x : Nat)) := fun H1 u Q q => ya H1 u _ fun v H2 s2 p => ⟨x, p, q _ H2 s2 rfl⟩
end
theorem bits_few {n : Nat} (h : n < 100000000) : (1 : Int) + (Builtin.Int.intBits (n : Int) : Nat) / 28 = ((1 : Nat) : Int) := by
  have h1 : Builtin.Int.intBits (n : Int) ≤ 27 := by
    unfold Builtin.Int.intBits
    split
    · omega
    · have : ((n : Int).natAbs).log2 < 27 := PySem.Flt.log2_lt_of (by decide) (by rw [Int.natAbs_natCast]; exact Nat.lt_trans h (by decide))
      omega
  have h2 : Builtin.Int.intBits (n : Int) / 28 = 0 := Nat.div_eq_of_lt (by omega)
  have h3 : ((Builtin.Int.intBits (n : Int) : Nat) : Int) / 28 = ((Builtin.Int.intBits (n : Int) / 28 : Nat) : Int) := by simp
  rw [h3, h2]
  rfl
/-! ### _law_mixed -/
def anI : Pr := fun v _ => ∃ m : Int, v = .int m
instance : Sty anI := ⟨fun _ h => h⟩
abbrev sp_l_mixed : Sp := Sp3 iP iP iP (fun _ t _ => -(2 ^ 64) < t ∧ t < 2 ^ 64) (fun _ _ _ => anI)
abbrev N_l_mixed : List Str := ["_law_seed", "_law_turn", "_law_at", "_law_mixed_here"]
theorem nd_l_mixed : N_l_mixed.Nodup := by decide
theorem c_l_mixed (T : Tf w K mg) : C8.Cal P w K mg base 1 "_law_mixed" sp_l_mixed [] := by
  refine T.cal (d := d_l_mixed) (N := N_l_mixed) (ps := ["_law_seed", "_law_turn", "_law_at"]) 42 rfl rfl (by simp [fa, fa0, fa1, fa2, fa3]) rfl rfl (by decide +kernel) (len3 _ _ _) (fun _ _ _ _ _ _ us hl => match us, hl with | [_, _, _], _ => rfl) (fun f cdv A outer s H vs Q E hr hsp => ?_)
  obtain ⟨v_seed, v_turn, v_at, a_seed, a_turn, a_at, rfl, h_seed, h_turn, h_at, hok, hq⟩ := hsp
  refine ⟨_, (pss_cons (ps_set (i := 3) nd_l_mixed rfl (Or.inl rfl) (pe_op op_add (pe_op op_mul (pv 0) pe_int) (pe_op op_mul (pe_op op_mul pe_int (pv 1)) (pv 1))))
    (pss_cons (ps_set (i := 3) nd_l_mixed rfl (Or.inl rfl) (pe_op op_mod (pe_callTy call_int1 (by rfl) T.n_int (by decide +kernel) (pa_cons (pe_op op_add (pe_op op_add (pv 3) (pe_op op_mul pe_int (pv 2))) (pv 1)) pa_nil)) pe_int))
    (pss_cons (ps_set (i := 3) nd_l_mixed rfl (Or.inl rfl) (pe_op op_mod (pe_callTy call_int1 (by rfl) T.n_int (by decide +kernel) (pa_cons (pe_op op_add (pe_op op_mul (pv 3) (pv 3)) pe_int) pa_nil)) pe_int))
    (pss_one (ps_ret (pe_op op_mod (pe_callTy call_int1 (by rfl) T.n_int (by decide +kernel) (pa_cons (pe_op op_mul (pv 3) pe_int) pa_nil)) pe_int)))))), ?_⟩
  have big : ∀ x : Int, CMul x 69069 := fun x => .inr ⟨by decide, by decide⟩
  refine ys_seq (ys_set (y_op r_add (y_op (r_mul (.inr ⟨by decide, by decide⟩)) (y_var rfl h_seed) y_int) (y_op (r_mul (.inr hok)) (y_op (r_mul (.inl ⟨by decide, by decide⟩)) y_int (y_var rfl h_turn)) (y_var rfl h_turn))) fun v_mixed H1 s1 h_mixed => ?_)
  refine nx_ (ys_seq (ys_set (y_op (r_mod (by decide)) (y_cb b_int (y_op r_add (y_op r_add (y_var rfl h_mixed) (y_op (r_mul (.inl ⟨by decide, by decide⟩)) y_int (y_var rfl (up_ s1 h_at)))) (y_var rfl (up_ s1 h_turn)))) y_int) fun v_mixed2 H2 s2 h_mixed2 => ?_))
  refine nx_ (ys_seq (ys_set (y_op (r_mod (by decide)) (y_cb b_int (y_op r_add (y_op (r_mul (.inl ?_)) (y_var rfl h_mixed2) (y_var rfl h_mixed2)) y_int)) y_int) fun v_mixed3 H3 s3 h_mixed3 => ?_))
  · exact ⟨Int.lt_of_lt_of_le (by decide) (Int.emod_nonneg _ (by decide)), Int.lt_trans (Int.emod_lt_of_pos _ (by decide)) (by decide)⟩
  exact nx_ (ys_ret (y_op (r_mod (by decide)) (y_cb b_int (y_op (r_mul (.inr ⟨by decide, by decide⟩)) (y_var rfl h_mixed3) y_int)) y_int) fun v H4 s4 h => hq v _ (((s1.trans s2).trans s3).trans s4) ⟨_, h⟩)
/-! ### a purse: four ints; k more pieces may be drawn -/
def PuO (k : Nat) (u : HO) : Prop := ∃ a b c d : Int, u = .lst [.int a, .int b, .int c, .int d] ∧ 0 ≤ c ∧ c + k < 2 ^ 63
def Pu (p : Addr) (k : Nat) (H : Hp) : Prop := ∃ u, H p = some u ∧ PuO k u
theorem Pu.same {p : Addr} {k : Nat} {H H' : Hp} (h : Pu p k H) (e : Same H H') : Pu p k H' := let ⟨u, h1, h2⟩ := h; ⟨u, e _ _ h1, h2⟩
theorem Pu.le {p : Addr} {k j : Nat} {H : Hp} (h : Pu p k H) (e : j ≤ k) : Pu p j H := by
  obtain ⟨u, h1, a, b, c, d, h2, h3, h4⟩ := h
  exact ⟨u, h1, a, b, c, d, h2, h3, by omega⟩
theorem Pu.ni {p : Addr} {k : Nat} {H : Hp} (h : Pu p k H) : ∀ q ∈ [p], ∀ u, H q = some u → ¬ Imm u := fun q hq u e => by
  obtain ⟨u', h1, a, b, c, d, h2, _⟩ := h
  rw [List.mem_singleton.mp hq, h1, h2] at e
  cases e
  exact fun z => z
theorem Pu.ne {p q : Addr} {k : Nat} {H : Hp} (h : Pu p k H) (hq : H q = none) : q ≠ p := fun e => by
  obtain ⟨u, h1, _⟩ := h
  rw [e, h1] at hq
  cases hq
/-- after drawing, what never changes stays -/
theorem Pu.up {p : Addr} {k : Nat} {H H' : Hp} (h : Pu p k H) (m : Mx [p] H H') : Up H H' := m.up h.ni
theorem iP_g {p : Addr} {H : Hp} {is : List Int} (h : H p = some (.lst (is.map V.int))) (hl : is.length ≤ 100 := by simp) : glP iP is (.ref p) H := ⟨p, _, rfl, .inl h, al_int is, by rw [List.length_map, sizeLine_eq]; omega⟩
section
variable {σ : L2.St} {H : Hp} {D : Ends} {te : TE} {i : Nat} {p : Addr}
theorem ys_setix {vs : List V} {k : Int} {j : Nat} {P : Pr} (e : σ[i]? = some (some (.ref p))) (hp : H p = some (.lst vs)) (hj : ixN vs.length k = some j) (y : Y te σ H P) (q : ∀ v H1, Same H H1 → P v H1 → D.nx σ (upd H1 p (.lst (vs.set j v)))) : tAsg te (gSub (tVar i) (tC (.int k)) rSetL) D σ H :=
  y H (Same.refl _) _ fun v H1 s1 pv => ⟨_, e, p, vs, k, j, rfl, rfl, s1 _ _ hp, hj, q v H1 s1 pv⟩
end
def sp_l_draw : Sp := fun vs H Q _ => ∃ p n k, vs = [.ref p, .int ((n : Nat) : Int)] ∧ 0 < n ∧ n < 100000000 ∧ Pu p (k + 1) H ∧ ∀ (m : Nat) H', m < n → Mx [p] H H' → Pu p k H' → Q (.int (m : Nat)) H'
abbrev N_l_draw : List Str := ["_law_purse_here", "_law_many", "_law_drawn", "_law_found", "_law_piece"]
theorem nd_l_draw : N_l_draw.Nodup := by decide
theorem c_l_draw (T : Tf w K mg) : C8.Cal P w K mg base 2 "_law_draw" sp_l_draw [] := by
  refine T.cal (d := d_l_draw) (N := N_l_draw) (ps := ["_law_purse_here", "_law_many"]) 43 rfl rfl (by simp [fa, fa0, fa1, fa2, fa3]) rfl rfl (by decide +kernel) (fun vs H Q E h => by obtain ⟨_, _, _, rfl, _⟩ := h; rfl) (fun _ _ _ _ _ _ us hl => match us, hl with | [_, _], _ => rfl) (fun f cdv A outer s H vs Q E hr hsp => ?_)
  obtain ⟨p, n, k, rfl, hn, hn2, hpu, hq⟩ := hsp
  refine ⟨_, (pss_cons (ps_if (pt_cmpR op_gt (pe_ix (k_ix_list (K := K) rfl) (pv 0) pe_int (fun _ _ => rfl)) pe_int (nomark _)) (pss_cons (ps_set (i := 2) nd_l_draw rfl (Or.inl rfl) (pe_op op_mod (pe_callTy call_int1 (by rfl) T.n_int (by decide +kernel) (pa_cons (pe_ix (k_ix_list (K := K) rfl) (pv 0) pe_int (fun _ _ => rfl)) pa_nil)) (pv 1)))
    (pss_cons (ps_asg (pe_op op_fdiv (pe_ix (k_ix_list (K := K) rfl) (pv 0) pe_int (fun _ _ => rfl)) (pv 1)) (pg_sub (pv 0) pe_int set_list))
    (pss_one (ps_ret (pv 2)))))
    pss_nil)
    (pss_cons (ps_set (i := 3) nd_l_draw rfl (Or.inl rfl) pe_int)
    (pss_cons (ps_for PassesOwn.never rfl (pi_range1 rfl T.n_range (pa_cons (pe_op op_add pe_int (pe_op op_fdiv (pe_bits (pv 1)) pe_int)) pa_nil)) (pg_name (i := 4) nd_l_draw rfl (Or.inl rfl))
    (pss_cons (ps_asg (pe_op op_add (pe_ix (k_ix_list (K := K) rfl) (pv 0) pe_int (fun _ _ => rfl)) pe_int) (pg_sub (pv 0) pe_int set_list))
    (pss_one (ps_set (i := 3) nd_l_draw rfl (Or.inl rfl) (pe_op op_add (pe_op op_mul (pv 3) pe_int) (C8.pe_c (c_l_mixed T) hr (by decide) rfl (pa_cons (pe_ix (k_ix_list (K := K) rfl) (pv 0) pe_int (fun _ _ => rfl)) (pa_cons (pe_ix (k_ix_list (K := K) rfl) (pv 0) pe_int (fun _ _ => rfl)) (pa_cons (pe_ix (k_ix_list (K := K) rfl) (pv 0) pe_int (fun _ _ => rfl)) pa_nil)))))))))
    (pss_one (ps_ret (pe_op op_mod (pe_callTy call_int1 (by rfl) T.n_int (by decide +kernel) (pa_cons (pv 3) pa_nil)) (pv 1))))))), ?_⟩
  obtain ⟨u, hp, a, b, c, d, rfl, hc, hck⟩ := hpu
  have hp : H p = some (.lst (([a, b, c, d]).map V.int)) := hp
  have nn : (0 : Int) < (n : Int) := by omega
  have md : ∀ x : Int, ∃ m : Nat, m < n ∧ x % (n : Int) = (m : Nat) := fun x => ⟨(x % n).toNat, by have h1 := Int.emod_nonneg x (show (n : Int) ≠ 0 by omega); have h2 := Int.emod_lt_of_pos x nn; omega, by have h1 := Int.emod_nonneg x (show (n : Int) ≠ 0 by omega); omega⟩
  have hN : iP (n : Int) (.int (n : Int)) H := rfl
  refine ys_seq (ys_if (yt_test (y_op r_gt (y_ixl (i := 0) (y_var rfl (iP_g hp)) y_int rfl) y_int)) (fun b1 H1 s1 => ?_) (fun b1 H1 s1 => ?_))
  · refine ys_seq (ys_set (y_op (r_mod nn) (y_cb b_int (y_ixl (i := 0) (y_var rfl (iP_g (s1 _ _ hp))) y_int rfl)) (y_var rfl (up_ s1 hN))) fun v_drawn H2 s2 h_drawn => ?_)
    have hp2 := s2 _ _ (s1 _ _ hp)
    refine nx_ (ys_seq (ys_setix (j := 0) rfl hp2 rfl (y_op (r_fdiv ⟨nn, by omega⟩) (y_ixl (i := 0) (y_var rfl (iP_g hp2)) y_int rfl) (y_var rfl (up_ (s1.trans s2) hN))) fun v H3 s3 h3 => ?_))
    obtain ⟨m, hm, em⟩ := md a
    refine nx_ ⟨_, rfl, ?_⟩
    have h_drawn : v_drawn = .int (a % n) := h_drawn
    rw [h_drawn, em]
    have h3 : v = .int (a / n) := h3
    rw [h3]
    exact hq m _ hm ((Mx.of ((s1.trans s2).trans s3)).trans (Mx.put (List.mem_singleton.mpr rfl))) ⟨_, L2.upd_same, a / n, b, c, d, rfl, hc, by omega⟩
  · refine nx_ (ys_seq (ys_set y_int fun v_found H2 s2 h_found => ?_))
    have s12 := s1.trans s2
    refine nx_ (ys_seq (ys_for (yi_range1 (n := 1) (Y_eq (r := iP) (bits_few hn2) (y_op r_add y_int (y_op (r_fdiv (y := 28) ⟨by decide, by decide⟩) (y_bits (y_var rfl (up_ s12 hN))) y_int))) (by decide)) fun H3 s3 => ⟨fun i σ' H' => ∃ (f : Int) (a2 x : Option V), σ' = [some (.ref p), some (.int n), a2, some (.int f), x] ∧ Mx [p] H3 H' ∧ H' p = some (.lst (([a, b, c + i, d]).map V.int)), ⟨0, _, _, by rw [show v_found = .int 0 from h_found]; rfl, Mx.rfl, by rw [show c + ((0 : Nat) : Int) = c by omega]; exact s3 _ _ (s12 _ _ hp)⟩, ?_, ?_, ?_⟩))
    · rintro i σ' H' ⟨f, a2, x, rfl, mx, h⟩
      exact mx.up fun q hq u e => by
        rw [List.mem_singleton.mp hq, s3 _ _ (s12 _ _ hp)] at e
        cases e
        exact fun z => z
    · rintro i y σ' H' hi ⟨f, a2, x, rfl, mx, h⟩ v H4 s4 hv
      have hi1 : i < 1 := by
        have := (List.getElem?_eq_some_iff.mp hi).1
        simpa using this
      have h4 := s4 _ _ h
      refine ys_seq (ys_setix (j := 2) rfl h4 rfl (y_op r_add (y_ixl (i := 2) (y_var rfl (iP_g h4)) y_int rfl) y_int) fun v5 H5 s5 h5 => ?_)
      have h5 : v5 = .int (c + i + 1) := h5
      have e6 : upd H5 p (.lst ((([a, b, c + i, d] : List Int).map V.int).set 2 v5)) p = some (.lst (([a, b, c + i + 1, d]).map V.int)) := by rw [L2.upd_same, h5]; rfl
      have i0 : i = 0 := by omega
      subst i0
      refine nx_ (ys_set (P := anI) (y_addAn (y_op (r_mul (.inr ⟨by decide, by decide⟩)) (y_var rfl (show iP f _ _ from rfl)) y_int) (y_call3 (y_ixl (i := 1) (y_var rfl (iP_g e6)) y_int rfl) (y_ixl (i := 2) (y_var rfl (iP_g e6)) y_int rfl) (y_ixl (i := 3) (y_var rfl (iP_g e6)) y_int rfl) ⟨?_, ?_⟩)) fun v7 H7 s7 ⟨f7, h7⟩ => ?_)
      · show -(2 ^ 64) < c + ((0 : Nat) : Int) + 1
        omega
      · show c + ((0 : Nat) : Int) + 1 < 2 ^ 64
        omega
      · refine ⟨f7, _, _, by rw [h7]; rfl, ((mx.trans (Mx.of (s4.trans s5))).trans (Mx.put (List.mem_singleton.mpr rfl))).trans (Mx.of s7), ?_⟩
        rw [show c + ((0 + 1 : Nat) : Int) = c + ((0 : Nat) : Int) + 1 by omega]
        exact s7 _ _ e6
    · rintro σ' H' ⟨f, a2, x, rfl, mx, h⟩
      have mxA : Mx [p] H H' := (Mx.of (s12.trans s3)).trans mx
      refine nx_ (ys_ret (y_op (r_mod nn) (y_cb b_int (y_var rfl (show iP f _ _ from rfl))) (y_var rfl (show iP (n : Int) _ _ from rfl))) fun v H4 s4 h4 => ?_)
      obtain ⟨m, hm, em⟩ := md f
      have h4 : v = .int (f % n) := h4
      rw [h4, em]
      exact hq m _ hm (mxA.trans (Mx.of s4)) ⟨_, s4 _ _ h, a, b, c + 1, d, rfl, by omega, by omega⟩
end En
set_option maxHeartbeats 4000000
/-! Purses made; one of, shuffled; words. -/
namespace En
open PySem PySem.Spec PyProof.Rows L2
variable {P : Program} {w : World} {K : PySem.W.Frag} {mg : Str → Option Value} {base : Heap}
/-! ### draws, by what goes on behind them -/
section
variable {σ : L2.St} {H : Hp} {D : Ends} {ta tb : TE} {i : Nat} {p : Addr} {k : Nat}
theorem cp_draw {n : Nat} {Q : VK} (e : σ[i]? = some (some (.ref p))) (yb : Y tb σ H (iP (n : Nat))) (h0 : 0 < n) (h1 : n < 100000000) (hp : Pu p (k + 1) H) (q : ∀ (m : Nat) H1, m < n → Mx [p] H H1 → Pu p k H1 → Q (.int (m : Nat)) H1) :
    tCall sp_l_draw [] E0 (tCons (tVar i) (tCons tb tNil)) σ H Q :=
  ⟨_, e, yb H (Same.refl _) _ fun v H1 s1 p1 => ⟨p, n, k, by rw [show v = .int (n : Nat) from p1]; rfl, h0, h1, hp.same s1, fun m H2 hm mx pu => q m H2 hm ((Mx.of s1).trans mx) pu⟩⟩
/-- draw(purse, n) == c -/
theorem cp_eq {n : Nat} {c : Int} {Q : Bool → Hp → Prop} (e : σ[i]? = some (some (.ref p))) (h0 : 0 < n) (h1 : n < 100000000) (hp : Pu p (k + 1) H) (q : ∀ b H1, Mx [p] H H1 → Pu p k H1 → Q b H1) :
    tTest (tOp rEq (tCall sp_l_draw [] E0 (tCons (tVar i) (tCons (tC (.int (n : Nat))) tNil))) (tC (.int c))) σ H Q :=
  (show tCall sp_l_draw [] E0 (tCons (tVar i) (tCons (tC (.int (n : Nat))) tNil)) σ H (fun x H1 => rEq x (.int c) H1 fun y H2 => ∃ b, y = .bl b ∧ Q b H2) from
    cp_draw e y_int h0 h1 hp fun m H1 hm mx pu => r_eqI (x := (m : Nat)) (y := c) _ _ H1 rfl rfl _ fun v H2 s2 h => ⟨_, h, q _ H2 (mx.trans (Mx.of s2)) (pu.same s2)⟩)
theorem cp_gt {n : Nat} {c : Int} {Q : Bool → Hp → Prop} (e : σ[i]? = some (some (.ref p))) (h0 : 0 < n) (h1 : n < 100000000) (hp : Pu p (k + 1) H) (q : ∀ b H1, Mx [p] H H1 → Pu p k H1 → Q b H1) :
    tTest (tOp (rI0 fun i j => .bl (decide (j < i))) (tCall sp_l_draw [] E0 (tCons (tVar i) (tCons (tC (.int (n : Nat))) tNil))) (tC (.int c))) σ H Q :=
  (show tCall sp_l_draw [] E0 (tCons (tVar i) (tCons (tC (.int (n : Nat))) tNil)) σ H (fun x H1 => rI0 (fun i j => .bl (decide (j < i))) x (.int c) H1 fun y H2 => ∃ b, y = .bl b ∧ Q b H2) from
    cp_draw e y_int h0 h1 hp fun m H1 hm mx pu => r_gt (x := (m : Nat)) (y := c) _ _ H1 rfl rfl _ fun v H2 s2 h => ⟨_, h, q _ H2 (mx.trans (Mx.of s2)) (pu.same s2)⟩)
end
/-! ### comprehensions with draws, with new objects -/
theorem paired_snoc {α β : Type} {φ : α → β → Prop} {x : α} {y : β} (h : φ x y) : ∀ {xs : List α} {ys : List β}, Paired φ xs ys → Paired φ (xs ++ [x]) (ys ++ [y])
  | _, _, .nil => .cons h .nil
  | _, _, .cons a b => .cons a (paired_snoc h b)
section
variable {σ : L2.St} {H : Hp} {α β : Type} {r : α → Pr} {r' : β → Pr} {wi : TI} {g : TG} {te : TE} {vs : List Nat} {xs : List α}
theorem lc_draw {p : Addr} {k cost : Nat} [s' : ∀ y, Sty (r' y)] (φ : α → β → Prop) (yi : Yi wi σ H (xs.map r)) (hp : Pu p (k + xs.length * cost) H)
    (hb : ∀ x ∈ xs, ∀ v H1 j, Mx [p] H H1 → Pu p (j + cost) H1 → r x v H1 → ∃ σ2, (∀ Q : L2.St → Hp → Prop, Q σ2 H1 → g v (wipe σ vs) H1 Q) ∧ wipe σ2 vs = wipe σ vs ∧ ∀ Q : VK, (∀ y H2 b, Mx [p] H1 H2 → Pu p j H2 → φ x b → r' b y H2 → Q y H2) → te σ2 H1 Q)
    {Q : VK} (q : ∀ v H2 ys, Mx [p] H H2 → Pu p k H2 → Paired φ xs ys → lP r' ys v H2 → Q v H2) : tFz (tLc wi g tYes te vs) σ H Q :=
  yi H (Same.refl _) _ fun J H2 s2 wk z D hD => by
    rw [List.length_map] at z
    have nD : H D = none := s2.free hD
    have hp2 := hp.same s2
    have ne : D ≠ p := hp.ne nD
    have two : ∀ q ∈ [p, D], ∀ u, (upd H2 D (.lst [])) q = some u → ¬ Imm u := fun q hq u e => by
      rcases List.mem_cons.mp hq with h | h
      · subst h
        rw [L2.upd_ne (Ne.symm ne)] at e
        exact hp2.ni _ (List.mem_singleton.mpr rfl) u e
      · rw [List.mem_singleton.mp h, L2.upd_same] at e
        cases e
        exact fun z => z
    have hp3 : Pu p (k + xs.length * cost) (upd H2 D (.lst [])) := hp2.same (same_new _ hD)
    refine ⟨fun i m H' => m = xs.length - i ∧ i ≤ xs.length ∧ Mx [p, D] (upd H2 D (.lst [])) H' ∧ Pu p (k + (xs.length - i) * cost) H' ∧ ∃ acc ys, H' D = some (.lst acc) ∧ Al H' (ys.map r') acc ∧ Paired φ (xs.take i) ys, ⟨_, rfl, Nat.zero_le _, Mx.rfl, hp3, [], [], L2.upd_same, by simp [Al], by rw [List.take_zero]; exact .nil⟩, ?_⟩
    rintro i m H' ⟨rfl, hi, mx, pu, acc, ys, hacc, al, pr⟩
    have up' : Up H2 H' := (up_new _ hD).trans (mx.up two)
    have mxp : Mx [p] H H' := fun b o hb ho => by
      have hbD : b ≠ D := fun e => by rw [e, nD] at ho; cases ho
      refine mx b o (fun hm => ?_) (by rw [L2.upd_ne hbD]; exact s2 _ _ ho)
      rcases List.mem_cons.mp hm with h | h
      · exact hb (List.mem_singleton.mpr h)
      · exact hbD (List.mem_singleton.mp h)
    obtain ⟨w1, w2⟩ := wk H' up'
    have hl := al.length
    rw [List.length_map] at hl
    have hly : (xs.take i).length = ys.length := Paired.length pr
    rw [List.length_take] at hly
    by_cases hlt : i < xs.length
    · refine .inr ?_
      have hx : xs[i]? = some xs[i] := List.getElem?_eq_getElem hlt
      obtain ⟨go, yl⟩ := w1 i (r xs[i]) (by rw [List.getElem?_map, hx]; rfl)
      refine ⟨go, fun H' => i + 1 ≤ xs.length ∧ Mx [p, D] (upd H2 D (.lst [])) H' ∧ Pu p (k + (xs.length - (i + 1)) * cost) H' ∧ ∃ acc ys, H' D = some (.lst acc) ∧ Al H' (ys.map r') acc ∧ Paired φ (xs.take (i + 1)) ys, fun H3 n3 => ⟨xs.length - (i + 1), by omega, rfl, n3⟩, fun x H3 hy => ?_⟩
      obtain ⟨s3, px⟩ := yl x H3 hy
      have ec : k + (xs.length - i) * cost = (k + (xs.length - (i + 1)) * cost) + cost := by
        rw [show xs.length - i = (xs.length - (i + 1)) + 1 by omega, Nat.add_mul]
        omega
      rw [ec] at pu
      obtain ⟨σ2, hg, hw, he⟩ := hb xs[i] (List.getElem_mem hlt) x H3 _ (mxp.trans (Mx.of s3)) (pu.same s3) px
      refine hg _ ⟨hw, he _ fun y H5 b mx5 pu5 hφ py => ?_⟩
      have h5 : H5 D = some (.lst acc) := mx5 _ _ (fun h => ne (List.mem_singleton.mp h)) (s3 _ _ hacc)
      have up5 : Up H' H5 := (up_same s3).trans ((pu.same s3).up mx5)
      refine ⟨acc, h5, by omega, hlt, ((mx.trans (Mx.of s3)).trans (mx_p mx5 fun q hq => by rw [List.mem_singleton.mp hq]; exact List.mem_cons_self ..)).trans (Mx.put (List.mem_cons_of_mem _ (List.mem_singleton.mpr rfl))), ?_, acc ++ [y], ys ++ [b], L2.upd_same, ?_, ?_⟩
      · obtain ⟨u, h6, h7⟩ := pu5
        exact ⟨u, by rw [L2.upd_ne (Ne.symm ne)]; exact h6, h7⟩
      · rw [List.map_append]
        have um := up_mut (H := H5) (.lst (acc ++ [y])) h5 (fun z => z)
        exact Al.app ((inferInstance : StyL (ys.map r')).up (up5.trans um) al) ⟨(s' _).up um py, trivial⟩
      · rw [take_one hx]
        exact paired_snoc hφ pr
    · have e : i = xs.length := by omega
      subst e
      rw [List.length_map] at w2
      rw [List.take_length] at pr
      refine .inl ⟨w2, D, _, rfl, hacc, trivial, fun o => q _ _ ys ?_ ?_ pr ⟨D, acc, rfl, ⟨o, L2.upd_same⟩, (inferInstance : StyL (ys.map r')).up (up_mut _ hacc fun z => z) al, by rw [List.length_map]; omega⟩⟩
      · exact fun b o hb ho => by
          have hbD : b ≠ D := fun e => by rw [e, nD] at ho; cases ho
          rw [L2.upd_ne hbD]
          exact mxp b o hb ho
      · obtain ⟨u, h6, h7⟩ := pu
        exact ⟨u, by rw [L2.upd_ne (Ne.symm ne)]; exact h6, by rw [Nat.sub_self, Nat.zero_mul] at h7; exact h7⟩
def adP (p : Addr) : Pr := eP (.ref p)
theorem al_ad {H : Hp} : ∀ ps : List Addr, Al H (ps.map adP) (ps.map V.ref)
  | [] => trivial
  | _ :: ps => ⟨rfl, al_ad ps⟩
/-- one turn, its name -/
theorem zd1 {C : VK → Prop} {i : Nat} {v : V} {H1 : Hp} (hw : wipe ((wipe σ vs).set i (some v)) vs = wipe σ vs) (h : ∀ Q, C Q → te ((wipe σ vs).set i (some v)) H1 Q) :
    ∃ σ2, (∀ Q : L2.St → Hp → Prop, Q σ2 H1 → gName i v (wipe σ vs) H1 Q) ∧ wipe σ2 vs = wipe σ vs ∧ ∀ Q : VK, C Q → te σ2 H1 Q := ⟨_, fun Q q => q, hw, h⟩
instance {p : Addr} : Sty (adP p) := inferInstanceAs (Sty (eP _))
theorem lc_new {R : HO → Prop} (yi : Yi wi σ H (xs.map r))
    (hb : ∀ x ∈ xs, ∀ v H1, Same H H1 → r x v H1 → ∃ σ2, (∀ Q : L2.St → Hp → Prop, Q σ2 H1 → g v (wipe σ vs) H1 Q) ∧ wipe σ2 vs = wipe σ vs ∧ ∀ Q : VK, (∀ d H2 u, Same H1 H2 → H1 d = none → H2 d = some u → R u → Q (.ref d) H2) → te σ2 H1 Q)
    {Q : VK} (q : ∀ v H2 ps, Same H H2 → ps.length = xs.length → ps.Nodup → (∀ p ∈ ps, H p = none ∧ ∃ u, H2 p = some u ∧ R u) → lP adP ps v H2 → Q v H2) : tFz (tLc wi g tYes te vs) σ H Q :=
  yi H (Same.refl _) _ fun J H2 s2 wk z D hD => by
    rw [List.length_map] at z
    have nD : H D = none := s2.free hD
    refine ⟨fun i m H' => m = xs.length - i ∧ i ≤ xs.length ∧ Same H2 H' ∧ ∃ ps : List Addr, H' D = some (.lst (ps.map V.ref)) ∧ ps.length = i ∧ ps.Nodup ∧ ∀ p ∈ ps, p ≠ D ∧ H p = none ∧ ∃ u, H' p = some u ∧ R u, ⟨_, rfl, Nat.zero_le _, same_new _ hD, [], L2.upd_same, rfl, .nil, fun p hp => by cases hp⟩, ?_⟩
    rintro i m H' ⟨rfl, hi, sH, ps, hacc, hl, nd, hps⟩
    obtain ⟨w1, w2⟩ := wk H' (up_same sH)
    by_cases hlt : i < xs.length
    · refine .inr ?_
      have hx : xs[i]? = some xs[i] := List.getElem?_eq_getElem hlt
      obtain ⟨go, yl⟩ := w1 i (r xs[i]) (by rw [List.getElem?_map, hx]; rfl)
      refine ⟨go, fun H' => i + 1 ≤ xs.length ∧ Same H2 H' ∧ ∃ ps : List Addr, H' D = some (.lst (ps.map V.ref)) ∧ ps.length = i + 1 ∧ ps.Nodup ∧ ∀ p ∈ ps, p ≠ D ∧ H p = none ∧ ∃ u, H' p = some u ∧ R u, fun H3 n3 => ⟨xs.length - (i + 1), by omega, rfl, n3⟩, fun x H3 hy => ?_⟩
      obtain ⟨s3, px⟩ := yl x H3 hy
      obtain ⟨σ2, hg, hw, he⟩ := hb xs[i] (List.getElem_mem hlt) x H3 (s2.trans (sH.trans s3)) px
      refine hg _ ⟨hw, he _ fun d H5 u s5 nd5 hd5 hR => ?_⟩
      have h3 : H3 D = some (.lst (ps.map V.ref)) := s3 _ _ hacc
      have h5 := s5 _ _ h3
      have dD : d ≠ D := fun e => by rw [e, h3] at nd5; cases nd5
      have dps : d ∉ ps := fun hm => by
        obtain ⟨_, _, u', h6, _⟩ := hps d hm
        rw [s3 _ _ h6] at nd5
        cases nd5
      refine ⟨ps.map V.ref, h5, by rw [List.length_map]; omega, hlt, same_mut _ ((sH.trans s3).trans s5) hD, ps ++ [d], ?_, by rw [List.length_append, hl]; rfl, ?_, ?_⟩
      · rw [L2.upd_same, List.map_append]
        rfl
      · exact List.nodup_append.mpr ⟨nd, List.nodup_cons.mpr ⟨List.not_mem_nil, List.nodup_nil⟩, fun a ha b hb e => by rw [List.mem_singleton.mp hb] at e; exact dps (e ▸ ha)⟩
      · intro p hp
        rcases List.mem_append.mp hp with h | h
        · obtain ⟨h1, h2, u', h6, h7⟩ := hps p h
          exact ⟨h1, h2, u', by rw [L2.upd_ne h1]; exact s5 _ _ (s3 _ _ h6), h7⟩
        · rw [List.mem_singleton.mp h]
          exact ⟨dD, (s2.trans (sH.trans s3)).free nd5, u, by rw [L2.upd_ne dD]; exact hd5, hR⟩
    · have e : i = xs.length := by omega
      subst e
      rw [List.length_map] at w2
      refine .inl ⟨w2, D, _, rfl, hacc, trivial, fun o => q _ _ ps ?_ hl nd ?_ ⟨D, _, rfl, ⟨o, L2.upd_same⟩, ?_, by rw [List.length_map]; omega⟩⟩
      · exact same_mut _ (s2.trans sH) nD
      · intro p hp
        obtain ⟨h1, h2, u, h3, h4⟩ := hps p hp
        exact ⟨h2, u, by rw [L2.upd_ne h1]; exact h3, h4⟩
      · exact al_ad ps
end
/-! ### the script; purses -/
def scP (K : PySem.W.Frag) (ns : List Int) : Pr := fun v H => ∃ a, v = .ref a ∧ SqL K H a (ns.map V.int) ∧ ns.length ≤ 1000
theorem sq_same {H H' : Hp} {a : Addr} {xs : List V} (h : SqL K H a xs) (e : Same H H') : SqL K H' a xs :=
  h.elim (fun h => .inl (h.elim (fun h => .inl (e _ _ h)) fun ⟨o, h⟩ => .inr ⟨o, e _ _ h⟩)) .inr
instance {ns : List Int} : Sts (scP K ns) := ⟨fun e ⟨a, h1, h2, h3⟩ => ⟨a, h1, sq_same h2 e, h3⟩⟩
section
variable {σ : L2.St} {H : Hp} {ta tb tc : TE} {ns : List Int} {lo hi : Int}
theorem y_lenSc (ya : Y ta σ H (scP K ns)) : Y (tCB (rLenA K) (tCons ta tNil)) σ H (iP ns.length) := fun H1 u Q q => ya H1 u _ fun v H2 s2 ⟨a, e, h, _⟩ => ⟨a, ns.length, by rw [e], .inl ⟨_, h, by rw [List.length_map]⟩, q _ H2 s2 rfl⟩
theorem yn_slSc (ya : Y ta σ H (scP K ns)) (yb : Y tb σ H (iP lo)) (yc : Y tc σ H (iP hi)) : Yn (tSl (rSlL K) ta (tPart tb) (tPart tc)) σ H (isL ((cutG ns (some lo) (some hi)).map iP)) := fun H1 u Q q =>
  ya H1 u _ fun x H2 s2 p2 => yb H2 (u.trans s2) _ fun y H3 s3 p => ⟨lo, p, yc H3 (u.trans (s2.trans s3)) _ fun z H4 s4 p4 => ⟨hi, p4, by
    obtain ⟨a, e, h, hl⟩ := up_ (P := scP K ns) (s3.trans s4) p2
    refine ⟨a, _, e, h, fun d hd => q d _ _ (((s2.trans s3).trans s4).trans (same_new _ hd)) (((s2.trans s3).trans s4).free hd) L2.upd_same ⟨_, rfl, ?_⟩⟩
    have e : cutV (ns.map V.int) (some lo) (some hi) = (cutG ns (some lo) (some hi)).map V.int := by
      unfold cutV cutG
      rw [List.length_map, List.map_take, List.map_drop]
    rw [e]
    refine ⟨al_int _, ?_⟩
    rw [List.length_map, sizeLine_eq]
    unfold cutG
    rw [List.length_take, List.length_drop]
    omega⟩⟩
theorem b_sum : Rb (rSum K) (lP iP ns) (iP ns.sum) := fun x H1 ⟨a, vs, e, hl, al, z⟩ Q q => by
  obtain rfl := al.int
  exact ⟨a, ns, by rw [e], hl.sq, q _ _ (Same.refl _) rfl⟩
end
abbrev PK : Nat := 1000000000
def sp_l_purse (K : PySem.W.Frag) : Sp := fun vs H Q _ => ∃ (v : V) (ns : List Int) (at_ : Int), vs = [v, .int at_] ∧ scP K ns v H ∧ ∀ p H' u, Same H H' → H p = none → H' p = some u → PuO PK u → Q (.ref p) H'
abbrev N_l_purse : List Str := ["_law_script", "_law_at", "_law_seed"]
theorem nd_l_purse : N_l_purse.Nodup := by decide
theorem c_l_purse (T : Tf w K mg) : C8.Cal P w K mg base 1 "_law_purse" (sp_l_purse K) [] := by
  refine T.cal (d := d_l_purse) (N := N_l_purse) (ps := ["_law_script", "_law_at"]) 41 rfl rfl (by simp [fa, fa0, fa1, fa2, fa3]) rfl rfl (by decide +kernel) (fun vs H Q E h => by obtain ⟨_, _, _, rfl, _⟩ := h; rfl) (fun _ _ _ _ _ _ us hl => match us, hl with | [_, _], _ => rfl) (fun f cdv A outer s H vs Q E hr hsp => ?_)
  obtain ⟨v_script, ns, at_, rfl, h_script, hq⟩ := hsp
  refine ⟨_, (pss_cons (ps_set (i := 2) nd_l_purse rfl (Or.inl rfl) (pe_callB (k_sum (K := K) rfl rfl) (by rfl) T.n_sum (by decide +kernel) (pa_cons (pe_fz (pe_slice (k_sl_list (K := K) rfl) (pv 0) (po_some (pv 1)) (po_some (pe_op op_add (pv 1) pe_int)))) pa_nil)))
    (pss_one (ps_ret (pe_lst (pa_cons (pe_op op_mod (pe_callTy call_int1 (by rfl) T.n_int (by decide +kernel) (pa_cons (pe_callB (call_max2 rfl) (by rfl) T.n_max (by decide +kernel) (pa_cons (pe_op op_sub (pv 2) (pe_op op_powX pe_int pe_int)) (pa_cons pe_int pa_nil))) pa_nil)) (pe_op op_powX (pe_op op_powX pe_int pe_int) pe_int)) (pa_cons (pe_op op_mod (pe_callTy call_int1 (by rfl) T.n_int (by decide +kernel) (pa_cons (pv 2) pa_nil)) pe_int) (pa_cons pe_int (pa_cons (pv 1) pa_nil)))))))), ?_⟩
  have h_at : iP at_ (.int at_) H := rfl
  refine ys_seq (ys_set (y_cb b_sum (y_fzl (yn_slSc (y_var rfl h_script) (y_var rfl h_at) (y_op r_add (y_var rfl h_at) y_int)))) fun v_seed H1 s1 h_seed => ?_)
  refine nx_ ((yn_lsts (r := iP) (yl_cons (y_op (r_mod (by decide +kernel)) (y_cb b_int (y_max2 (y_op r_sub (y_var rfl h_seed) (y_op (r_pow ⟨by decide, by decide +kernel⟩) y_int y_int)) y_int)) (y_op (r_pow ⟨by decide, by decide +kernel⟩) (y_op (r_pow ⟨by decide, by decide +kernel⟩) y_int y_int) y_int)) (yl_cons (y_op (r_mod (by decide)) (y_cb b_int (y_var rfl h_seed)) y_int) (yl_cons y_int (yl_cons (y_var rfl (up_ s1 h_at)) yl_nil))))) H1 (Same.refl _) _ fun p H2 u s2 n e ⟨vs, eu, al, z⟩ => hq p H2 u (s1.trans s2) (s1.free n) e ?_)
  have al' := al.int
  exact ⟨_, _, _, _, by rw [eu, al']; rfl, Int.le_refl _, by decide⟩
def sp_l_purses (K : PySem.W.Frag) : Sp := fun vs H Q _ => ∃ (v : V) (ns : List Int), vs = [v, .int 2] ∧ scP K ns v H ∧ ∀ u H' (ps : List Addr), Same H H' → lP adP ps u H' → ps.length ≤ 2 → ps.Nodup → (∀ p ∈ ps, H p = none ∧ Pu p PK H') → Q u H'
theorem few_purses (n : Nat) : ∃ m : Nat, m ≤ 2 ∧ (if (if ((n : Nat) : Int) < 2 then ((n : Nat) : Int) else 2) > 1 then (if ((n : Nat) : Int) < 2 then ((n : Nat) : Int) else 2) else 1) = (m : Int) := by
  by_cases h : ((n : Nat) : Int) < 2
  · rw [if_pos h]
    by_cases h2 : ((n : Nat) : Int) > 1
    · rw [if_pos h2]
      exact ⟨n, by omega, rfl⟩
    · rw [if_neg h2]
      exact ⟨1, by omega, rfl⟩
  · rw [if_neg h]
    exact ⟨2, Nat.le_refl _, rfl⟩
abbrev N_l_purses : List Str := ["_law_script", "_law_few", "_law_at"]
theorem nd_l_purses : N_l_purses.Nodup := by decide
theorem c_l_purses (T : Tf w K mg) : C8.Cal P w K mg base 2 "_law_purses" (sp_l_purses K) [] := by
  refine T.cal (d := d_l_purses) (N := N_l_purses) (ps := ["_law_script", "_law_few"]) 44 rfl rfl (by simp [fa, fa0, fa1, fa2, fa3]) rfl rfl (by decide +kernel) (fun vs H Q E h => by obtain ⟨_, _, rfl, _⟩ := h; rfl) (fun _ _ _ _ _ _ us hl => match us, hl with | [_, _], _ => rfl) (fun f cdv A outer s H vs Q E hr hsp => ?_)
  obtain ⟨v_script, ns, rfl, h_script, hq⟩ := hsp
  refine ⟨_, (pss_one (ps_ret (pe_fz (pe_lc (own := [("_law_at", 2)]) rfl nd_l_purses (pi_range1 rfl T.n_range (pa_cons (pe_callB (call_max2 rfl) (by rfl) T.n_max (by decide +kernel) (pa_cons pe_int (pa_cons (pe_callB (call_min2 rfl) (by rfl) T.n_min (by decide +kernel) (pa_cons (pv 1) (pa_cons (pe_callB (k_lenA (K := K) rfl) (by rfl) T.n_len (by decide +kernel) (pa_cons (pv 0) pa_nil)) pa_nil))) pa_nil))) pa_nil)) (blkOk_by (own := [("_law_at", 2)]) (by first | decide +kernel | rfl)) (fun _ _ _ _ _ => (pg_name (i := 2) nd_l_purses rfl (Or.inl rfl))) (fun _ _ _ _ _ => pts_nil) (fun _ _ _ _ _ => (C8.pe_c (c_l_purse T) hr (by decide) rfl (pa_cons (pv 0) (pa_cons (pv 2) pa_nil)))))))), ?_⟩
  obtain ⟨m, hm, em⟩ := few_purses ns.length
  refine (lc_new (R := PuO PK) (r := fun i : Nat => iP (i : Nat)) (yi_range1 (n := m) (Y_eq (r := iP) em (y_max2 y_int (y_min2 (y_var rfl (show iP 2 _ _ from rfl)) (y_lenSc (y_var rfl h_script))))) (by omega)) (fun x mx v H1 s1 hv => zd1 rfl fun Q q => ?_) fun v H2 ps s2 hl nd hps h => ?_)
  · exact ⟨_, rfl, _, rfl, v_script, ns, x, by rw [show v = .int (x : Nat) from hv]; rfl, up_ s1 h_script, fun p H2 u s2 n e r => q p H2 u s2 n e r⟩
  · refine hq v H2 ps s2 h (by rw [hl, List.length_range]; exact hm) nd fun p hp => ?_
    obtain ⟨h1, u, h2, h3⟩ := hps p hp
    exact ⟨h1, u, h2, h3⟩
end En
set_option maxHeartbeats 4000000
/-! One of, shuffled; a word. -/
namespace En
open PySem PySem.Spec PyProof.Rows L2
variable {P : Program} {w : World} {K : PySem.W.Frag} {mg : Str → Option Value} {base : Heap}
/-! ### _law_one_of -/
def sp_l_one_of : Sp := fun vs H Q _ => ∃ p v2 xs k, vs = [.ref p, v2] ∧ lP sP xs v2 H ∧ xs ≠ [] ∧ xs.length < 1000 ∧ Pu p (k + 1) H ∧ ∀ x H', x ∈ xs → Mx [p] H H' → Pu p k H' → Q (.str x) H'
abbrev N_l_one_of : List Str := ["_law_purse_here", "_law_some"]
theorem nd_l_one_of : N_l_one_of.Nodup := by decide
theorem c_l_one_of (T : Tf w K mg) : C8.Cal P w K mg base 3 "_law_one_of" sp_l_one_of [] := by
  refine T.cal (d := d_l_one_of) (N := N_l_one_of) (ps := ["_law_purse_here", "_law_some"]) 45 rfl rfl (by simp [fa, fa0, fa1, fa2, fa3]) rfl rfl (by decide +kernel) (fun vs H Q E h => by obtain ⟨_, _, _, _, rfl, _⟩ := h; rfl) (fun _ _ _ _ _ _ us hl => match us, hl with | [_, _], _ => rfl) (fun f cdv A outer s H vs Q E hr hsp => ?_)
  obtain ⟨p, v_some, xs, k, rfl, h_some, hne, hl, hpu, hq⟩ := hsp
  refine ⟨_, (pss_one (ps_ret (pe_ix (k_ix_list (K := K) rfl) (pv 1) (C8.pe_c (c_l_draw T) hr (by decide) rfl (pa_cons (pv 0) (pa_cons (pe_callB (k_lenA (K := K) rfl) (by rfl) T.n_len (by decide +kernel) (pa_cons (pv 1) pa_nil)) pa_nil))) (fun _ _ => rfl)))), ?_⟩
  have pos : 0 < xs.length := List.length_pos_iff.mpr hne
  refine ⟨_, rfl, cp_draw rfl (y_lenL (y_var rfl h_some)) pos (by omega) hpu fun m H1 hm mx pu => ?_⟩
  obtain ⟨a, vs, e, hf, al, z⟩ := (inferInstance : Sty (lP sP xs)).up (hpu.up mx) h_some
  obtain rfl := al.str
  exact ⟨a, _, m, .str xs[m], e, rfl, hf.sq, atI_nat (by rw [List.getElem?_map, List.getElem?_eq_getElem hm]; rfl), hq _ H1 (List.getElem_mem hm) mx pu⟩
/-! ### _law_shuffled -/
def sp_l_shuffled : Sp := fun vs H Q _ => ∃ (p : Addr) (v2 : V) (α : Type) (r : α → Pr) (_ : ∀ x, Sty (r x)) (xs : List α) (k : Nat), vs = [.ref p, v2] ∧ lP r xs v2 H ∧ xs.length < 100000 ∧ Pu p (k + xs.length) H ∧
  ∀ ys v H', ys.Perm xs → lP r ys v H' → Mx [p] H H' → Pu p k H' → Q v H'
theorem perm_ins {α : Type} {l m : List α} {x : α} (h : l.Perm m) (n : Nat) : (l.take n ++ [x] ++ l.drop n).Perm (m ++ [x]) := by
  rw [List.append_assoc]
  refine (List.perm_append_comm_assoc _ _ _).trans ?_
  rw [List.take_append_drop]
  exact (List.perm_append_comm).trans (h.append_right [x])
theorem Al.ins {H : Hp} {Ps : List Pr} {vs : List V} {Q : Pr} {v : V} (h : Al H Ps vs) (hv : Q v H) (n : Nat) : Al H (Ps.take n ++ [Q] ++ Ps.drop n) (vs.take n ++ [v] ++ vs.drop n) := Al.app (Al.app (h.tk n) ⟨hv, trivial⟩) (h.dr n)
abbrev N_l_shuffled : List Str := ["_law_purse_here", "_law_some", "_law_found", "_law_item"]
theorem nd_l_shuffled : N_l_shuffled.Nodup := by decide
theorem c_l_shuffled (T : Tf w K mg) : C8.Cal P w K mg base 3 "_law_shuffled" sp_l_shuffled [] := by
  refine T.cal (d := d_l_shuffled) (N := N_l_shuffled) (ps := ["_law_purse_here", "_law_some"]) 46 rfl rfl (by simp [fa, fa0, fa1, fa2, fa3]) rfl rfl (by decide +kernel) (fun vs H Q E h => by obtain ⟨_, _, _, _, _, _, _, rfl, _⟩ := h; rfl) (fun _ _ _ _ _ _ us hl => match us, hl with | [_, _], _ => rfl) (fun f cdv A outer s H vs Q E hr hsp => ?_)
  obtain ⟨p, v_some, α, r, sr, xs, k, rfl, h_some, hl, hpu, hq⟩ := hsp
  refine ⟨_, (pss_cons (ps_set (i := 2) nd_l_shuffled rfl (Or.inl rfl) (pe_lst pa_nil))
    (pss_cons (ps_for PassesOwn.never rfl (k_list (K := K) rfl (pv 1)) (pg_name (i := 3) nd_l_shuffled rfl (Or.inl rfl))
    (pss_one (ps_expr (pe_bm PySem.F.plainAttrs_list PySem.F.slot_list_insert PySem.F.type_list_insert mt_insert (pv 2) (pa_cons (C8.pe_c (c_l_draw T) hr (by decide) rfl (pa_cons (pv 0) (pa_cons (pe_op op_add (pe_callB (k_lenA (K := K) rfl) (by rfl) T.n_len (by decide +kernel) (pa_cons (pv 2) pa_nil)) pe_int) pa_nil))) (pa_cons (pv 3) pa_nil))))))
    (pss_one (ps_ret (pe_fz (pv 2)))))), ?_⟩
  refine ys_seq (ys_new (yn_lsts (r := r) yl_nil) fun f H1 u1 s1 nf e1 i1 => ?_)
  have ml0 : Ml r [] f H1 := Ml.of e1 i1
  have fp : f ≠ p := hpu.ne nf
  have pu1 := hpu.same s1
  refine nx_ (ys_seq (ys_for (yi_l (y_var rfl (up_ s1 h_some))) fun H2 s2 => ⟨fun i σ' H' => ∃ (a : Option V) (zs : List α), σ' = [some (.ref p), some v_some, some (.ref f), a] ∧ Mx [p, f] H2 H' ∧ Pu p (k + (xs.length - i)) H' ∧ Ml r zs f H' ∧ zs.Perm (xs.take i), ⟨_, [], rfl, Mx.rfl, pu1.same s2, ml0.same s2, by simp⟩, ?_, ?_, ?_⟩))
  · rintro i σ' H' ⟨a, zs, rfl, mx, pu, ml, pm⟩
    refine mx.up fun q hq u e => ?_
    rcases List.mem_cons.mp hq with h | h
    · exact (pu1.same s2).ni q (by rw [h]; exact List.mem_singleton.mpr rfl) u e
    · rw [List.mem_singleton.mp h] at e
      exact (ml0.same s2).ni u e
  · rintro i x σ' H' hx ⟨a, zs, rfl, mx, pu, ml, pm⟩ v H3 s3 hv
    have hlt : i < xs.length := (List.getElem?_eq_some_iff.mp hx).1
    have lz : zs.length = i := by rw [pm.length_eq, List.length_take]; omega
    have ec : k + (xs.length - i) = (k + (xs.length - (i + 1))) + 1 := by omega
    rw [ec] at pu
    obtain ⟨vs3, g1, g2, g3⟩ := ml.same s3
    have ml3 : Ml r zs f H3 := ⟨vs3, g1, g2, g3⟩
    show tDrop _ _ _ _
    refine ⟨_, rfl, .inl ⟨rfl, vs3, .inl (.inl g1)⟩, ?_⟩
    refine cp_draw (n := zs.length + 1) rfl (y_op r_add (y_lenL (y_var rfl ml3.g)) y_int) (Nat.succ_pos _) (by omega) (pu.same s3) fun m H4 hm mx4 pu4 => ⟨_, rfl, ?_⟩
    have g4 : H4 f = some (.lst vs3) := mx4 _ _ (fun h => fp (List.mem_singleton.mp h)) g1
    have up4 : Up H3 H4 := (pu.same s3).up mx4
    have lv := g2.length
    rw [List.length_map] at lv
    refine ⟨f, vs3, m, v, rfl, rfl, g4, by rw [lv, sizeLine_eq]; omega, by omega, by omega, ?_⟩
    have um := up_mut (.lst (vs3.take m ++ [v] ++ vs3.drop m)) g4 (fun z => z)
    rw [Int.toNat_natCast]
    refine ⟨_, zs.take m ++ [x] ++ zs.drop m, rfl, (((mx.trans (Mx.of s3)).trans (mx_p mx4 fun q hq => by rw [List.mem_singleton.mp hq]; exact List.mem_cons_self ..)).trans (Mx.put (List.mem_cons_of_mem _ (List.mem_singleton.mpr rfl)))), ?_, ⟨_, L2.upd_same, ?_, ?_⟩, ?_⟩
    · obtain ⟨u, h6, h7⟩ := pu4
      exact ⟨u, by rw [L2.upd_ne (Ne.symm fp)]; exact h6, h7⟩
    · have a3 : Al (upd H4 f (.lst (vs3.take m ++ [v] ++ vs3.drop m))) (zs.map r) vs3 := (inferInstance : StyL (zs.map r)).up (up4.trans um) g2
      have b3 : r x v (upd H4 f (.lst (vs3.take m ++ [v] ++ vs3.drop m))) := (sr x).up (up4.trans um) hv
      have := a3.ins (Q := r x) b3 m
      simpa [List.map_append, List.map_take, List.map_drop] using this
    · simp only [List.map_append, List.length_append, List.length_map, List.length_take, List.length_drop, List.length_cons, List.length_nil, sizeLine_eq]
      omega
    · rw [take_one hx]
      exact perm_ins pm m
  · rintro σ' H' ⟨a, zs, rfl, mx, pu, ml, pm⟩
    rw [List.take_length] at pm
    rw [Nat.sub_self] at pu
    refine nx_ (y_fzMl rfl ml _ fun v H3 mx3 h => hq zs v H3 pm h ?_ ?_)
    · exact fun b o hb ho => by
        have hbf : b ≠ f := fun e => by rw [e, nf] at ho; cases ho
        refine mx3 b o (fun z => hbf (List.mem_singleton.mp z)) (mx b o (fun z => ?_) (s2 _ _ (s1 _ _ ho)))
        rcases List.mem_cons.mp z with h | h
        · exact hb (List.mem_singleton.mpr h)
        · exact hbf (List.mem_singleton.mp h)
    · obtain ⟨u, h6, h7⟩ := pu
      exact ⟨u, mx3 _ _ (fun z => fp (List.mem_singleton.mp z).symm) h6, h7⟩
/-! ### _law_word -/
theorem spT_iff {x : Str} : spT x = true ↔ x.cps.toList ≠ [] ∧ x.cps.toList.length < 9 ∧ ∀ c ∈ x.cps.toList, c ∈ ABC.cps.toList := by
  unfold spT
  rw [Bool.and_eq_true, Bool.and_eq_true, decide_eq_true_eq, decide_eq_true_eq, List.all_eq_true]
  have e : x.length = x.cps.toList.length := (Array.length_toList).symm
  rw [e]
  simp only [decide_eq_true_eq]
  constructor
  · rintro ⟨⟨h1, h2⟩, h3⟩
    exact ⟨fun z => by rw [z] at h1; exact absurd h1 (by decide), by omega, h3⟩
  · rintro ⟨h1, h2, h3⟩
    have : 0 < x.cps.toList.length := List.length_pos_iff.mpr h1
    exact ⟨⟨by omega, by omega⟩, h3⟩
def joinC (cs : List Nat) : Str := Txt.join (Str.ofString "") (cs.map oneS)
theorem joinL_nil : ∀ cs : List Nat, TL.joinL [] (cs.map fun c => [c]) = cs
  | [] => rfl
  | [c] => rfl
  | c :: d :: cs => by
    have := joinL_nil (d :: cs)
    show [c] ++ ([] ++ TL.joinL [] ((d :: cs).map fun c => [c])) = c :: d :: cs
    rw [this]
    rfl
theorem joinC_tl (cs : List Nat) : (joinC cs).cps.toList = cs := by
  have h : TL.tl (Txt.join (Str.ofString "") (cs.map oneS)) = cs := by
    rw [TL.join_eq, TL.tl_join, List.map_map]
    exact joinL_nil cs
  exact h
theorem abc_len : ABC.cps.toList.length = 26 := by decide +kernel
theorem abc_size : ABC.length ≤ sizeLine := by decide +kernel
def swP (Q : Str → Hp → Prop) : VK := fun v H => ∃ x, v = .str x ∧ Q x H
def sp_l_word : Sp := fun vs H Q _ => ∃ p k, vs = [.ref p] ∧ Pu p (k + 10) H ∧ ∀ x H', spT x = true → Mx [p] H H' → Pu p k H' → Q (.str x) H'
section
variable {σ : L2.St} {H : Hp} {i : Nat} {p : Addr} {k : Nat} {Q : VK}
/-- a letter drawn -/
theorem cp_letter (e : σ[i]? = some (some (.ref p))) (hp : Pu p (k + 1) H) (q : ∀ c H1, c ∈ ABC.cps.toList → Mx [p] H H1 → Pu p k H1 → Q (.str (oneS c)) H1) :
    tOp rIxS (tC (.str "abcdefghijklmnopqrstuvwxyz")) (tCall sp_l_draw [] E0 (tCons (tVar i) (tCons (tC (.int (26 : Nat))) tNil))) σ H Q :=
  (show tCall sp_l_draw [] E0 (tCons (tVar i) (tCons (tC (.int (26 : Nat))) tNil)) σ H (fun y H2 => rIxS (.str ABC) y H2 Q) from
    cp_draw e y_int (by decide) (by decide) hp fun m H1 hm mx pu => by
      have hm' : m < ABC.cps.toList.length := by rw [abc_len]; exact hm
      exact ⟨ABC, m, ABC.cps.toList[m], rfl, rfl, abc_size, atI_nat (List.getElem?_eq_getElem hm'), q _ H1 (List.getElem_mem hm') mx pu⟩)
theorem cp_size (e : σ[i]? = some (some (.ref p))) (hp : Pu p (k + 2) H) (q : ∀ (m : Nat) H1, m < 8 → Mx [p] H H1 → Pu p k H1 → Q (.int (m : Nat)) H1) :
    tCall sp_l_draw [] E0 (tCons (tVar i) (tCons (tIf (tTest (tOp rEq (tCall sp_l_draw [] E0 (tCons (tVar i) (tCons (tC (.int 3)) tNil))) (tC (.int 0)))) (tC (.int 8)) (tC (.int 3))) tNil)) σ H Q :=
  ⟨_, e, cp_eq (n := 3) (k := k + 1) e (by decide) (by decide) hp fun b H1 mx pu => by
    cases b with
    | true => exact ⟨p, 8, k, rfl, by decide, by decide, pu, fun m H2 hm mx2 pu2 => q m H2 hm (mx.trans mx2) pu2⟩
    | false => exact ⟨p, 3, k, rfl, by decide, by decide, pu, fun m H2 hm mx2 pu2 => q m H2 (Nat.lt_of_lt_of_le hm (by decide)) (mx.trans mx2) pu2⟩⟩
end
abbrev N_l_word : List Str := ["_law_purse_here", "_law_size", "_law_turn"]
theorem nd_l_word : N_l_word.Nodup := by decide
theorem c_l_word (T : Tf w K mg) : C8.Cal P w K mg base 3 "_law_word" sp_l_word [] := by
  refine T.cal (d := d_l_word) (N := N_l_word) (ps := ["_law_purse_here"]) 48 rfl rfl (by simp [fa, fa0, fa1, fa2, fa3]) rfl rfl (by decide +kernel) (fun vs H Q E h => by obtain ⟨_, _, rfl, _⟩ := h; rfl) (fun _ _ _ _ _ _ us hl => match us, hl with | [_], _ => rfl) (fun f cdv A outer s H vs Q E hr hsp => ?_)
  obtain ⟨p, k, rfl, hpu, hq⟩ := hsp
  refine ⟨_, (pss_cons (ps_set (i := 1) nd_l_word rfl (Or.inl rfl) (pe_op op_add pe_int (C8.pe_c (c_l_draw T) hr (by decide) rfl (pa_cons (pv 0) (pa_cons (pe_ifExp (pt_cmpR op_eq (C8.pe_c (c_l_draw T) hr (by decide) rfl (pa_cons (pv 0) (pa_cons pe_int pa_nil))) pe_int (nomark _)) pe_int pe_int) pa_nil)))))
    (pss_one (ps_ret (pe_join pe_str (pe_fz (pe_lc (own := [("_law_turn", 2)]) rfl nd_l_word (pi_range1 rfl T.n_range (pa_cons (pv 1) pa_nil)) (blkOk_by (own := [("_law_turn", 2)]) (by first | decide +kernel | rfl)) (fun _ _ _ _ _ => (pg_name (i := 2) nd_l_word rfl (Or.inl rfl))) (fun _ _ _ _ _ => pts_nil) (fun _ _ _ _ _ => (pe_ix ix_str pe_str (C8.pe_c (c_l_draw T) hr (by decide) rfl (pa_cons (pv 0) (pa_cons pe_int pa_nil))) (fun _ _ => rfl))))))))), ?_⟩
  show tAsg _ _ _ _ _
  refine cp_size (k := k + 8) rfl hpu fun m H2 hm mx2 pu2 => ⟨1, m, rfl, rfl, ?_⟩
  have hsz : (1 : Int) + (m : Nat) = ((1 + m : Nat) : Int) := by omega
  show gName 1 (.int ((1 : Int) + (m : Nat))) _ H2 _
  rw [hsz]
  refine nx_ ⟨⟨_, rfl⟩, lc_draw (p := p) (k := k) (cost := 1) (r := fun i : Nat => iP (i : Nat)) (r' := fun c => sP (oneS c)) (fun _ c => c ∈ ABC.cps.toList) (yi_range1 (n := 1 + m) (y_var rfl rfl) (by omega)) (pu2.le (by rw [List.length_range]; omega)) (fun x mx3 v H3 j mx4 pu4 hv => zd1 rfl fun Q q => ?_) fun v H3 cs mx3 pu3 hcs h => ?_⟩
  · exact cp_letter rfl pu4 fun c H4 hc mx5 pu5 => q _ H4 c mx5 pu5 hc rfl
  · obtain ⟨a, vs, e, hf, al, z⟩ := h
    have hvs : vs = (cs.map oneS).map V.str := Al.str (by rw [List.map_map]; exact al)
    have hlen : (List.range (1 + m)).length = cs.length := Paired.length hcs
    rw [List.length_range] at hlen
    have all : ∀ c ∈ cs, c ∈ ABC.cps.toList := by
      clear hf al z hvs hlen
      intro c hc
      generalize List.range (1 + m) = l at hcs
      induction hcs with
      | nil => cases hc
      | cons h _ ih => exact (List.mem_cons.mp hc).elim (fun e => e ▸ h) ih
    have sm : ((cs.map oneS).map (·.length)).sum = cs.length := by
      clear hf al z hvs hlen all hcs
      induction cs with
      | nil => rfl
      | cons c cs ih => rw [List.map_cons, List.map_cons, List.sum_cons, ih, List.length_cons]; show 1 + _ = _; omega
    subst hvs
    refine ⟨_, a, cs.map oneS, rfl, by rw [e], .inl hf.sq, ?_, hq _ H3 ?_ (mx2.trans mx3) pu3⟩
    · rw [sm, List.length_map]
      show cs.length + cs.length * 0 ≤ _
      omega
    · show spT (joinC cs) = true
      rw [spT_iff, joinC_tl]
      exact ⟨fun z => by rw [z] at hlen; simp at hlen, by omega, all⟩
end En
set_option maxHeartbeats 4000000
/-! Words, a pool. -/
namespace En
open PySem PySem.Spec PyProof.Rows L2
variable {P : Program} {w : World} {K : PySem.W.Frag} {mg : Str → Option Value} {base : Heap}
/-! ### texts cut -/
theorem slice_to (z : Str) (n : Nat) : (Txt.slice z none (some (n : Int))).cps.toList = z.cps.toList.take n := by
  rw [← C8.cutS_slice]
  have e : z.length = z.cps.toList.length := (Array.length_toList).symm
  show ((z.cps.toList.drop (HT.sIx z.length 0 none)).take (HT.sIx z.length z.length (some (n : Int)) - HT.sIx z.length 0 none)) = _
  rw [e]
  exact cutG_to _ n
theorem slice_from (z : Str) (n : Nat) : (Txt.slice z (some (n : Int)) none).cps.toList = z.cps.toList.drop n := by
  rw [← C8.cutS_slice]
  have e : z.length = z.cps.toList.length := (Array.length_toList).symm
  show ((z.cps.toList.drop (HT.sIx z.length 0 (some (n : Int)))).take (HT.sIx z.length z.length none - HT.sIx z.length 0 (some (n : Int)))) = _
  rw [e]
  exact cutG_from _ n
theorem app_list (x y : Str) : (x ++ y).cps.toList = x.cps.toList ++ y.cps.toList := TL.tl_append x y
theorem len_list (x : Str) : x.length = x.cps.toList.length := (Array.length_toList).symm
/-- another letter at a place -/
def bendT (z : Str) (n c : Nat) : Str := (Txt.slice z none (some (n : Int)) ++ oneS c) ++ Txt.slice z (some ((n : Int) + 1)) none
theorem bend_list (z : Str) (n c : Nat) : (bendT z n c).cps.toList = z.cps.toList.take n ++ [c] ++ z.cps.toList.drop (n + 1) := by
  unfold bendT
  rw [app_list, app_list, slice_to, show ((n : Int) + 1) = ((n + 1 : Nat) : Int) by omega, slice_from]
  rfl
theorem bend_ok {z : Str} {n c : Nat} (h : spT z = true) (hn : n < z.length) (hc : c ∈ ABC.cps.toList) : spT (bendT z n c) = true := by
  rw [spT_iff] at h ⊢
  rw [bend_list]
  rw [len_list] at hn
  obtain ⟨h1, h2, h3⟩ := h
  refine ⟨by simp, ?_, fun d hd => ?_⟩
  · simp only [List.length_append, List.length_take, List.length_drop, List.length_cons, List.length_nil]
    omega
  · rw [List.mem_append, List.mem_append, List.mem_singleton] at hd
    rcases hd with (hd | hd) | hd
    · exact h3 d (List.mem_of_mem_take hd)
    · exact hd ▸ hc
    · exact h3 d (List.mem_of_mem_drop hd)
section
variable {σ : L2.St} {H : Hp} {ta tb : TE} {x : Str} {n : Nat}
theorem y_slXt (ya : Y ta σ H (sP x)) (hz : x.length ≤ sizeLine) (yi : Y tb σ H (iP (n : Nat))) : Y (tSl C8.rSlX ta tNoPart (tPart tb)) σ H (sP (Txt.slice x none (some (n : Int)))) := fun H1 u Q q =>
  ya H1 u _ fun v H2 s2 p2 => yi H2 (u.trans s2) _ fun y H3 s3 p => ⟨n, p, x, p2, hz, q _ H3 (s2.trans s3) rfl⟩
theorem y_slXf {i : Int} (ya : Y ta σ H (sP x)) (hz : x.length ≤ sizeLine) (yi : Y tb σ H (iP i)) : Y (tSl C8.rSlX ta (tPart tb) tNoPart) σ H (sP (Txt.slice x (some i) none)) := fun H1 u Q q =>
  ya H1 u _ fun v H2 s2 p2 => yi H2 (u.trans s2) _ fun y H3 s3 p => ⟨i, p, x, p2, hz, q _ H3 (s2.trans s3) rfl⟩
theorem yn_listStr (ya : Y ta σ H (sP x)) (hz : x.length ≤ sizeLine) : Yn (tCB (fun xs H Q => ∃ z, xs = [.str z] ∧ z.length ≤ sizeLine ∧ ∀ p, H p = none → Q (.ref p) (upd H p (.lst (signV z)))) (tCons ta tNil)) σ H (isL ((x.cps.toList.map oneS).map sP)) := fun H1 u Q q =>
  ya H1 u _ fun v H2 s2 p2 => ⟨x, by rw [show v = .str x from p2], hz, fun d hd => q d _ _ (s2.trans (same_new _ hd)) (s2.free hd) L2.upd_same ⟨_, rfl, by
    have e : signV x = (x.cps.toList.map oneS).map V.str := by unfold signV; rw [List.map_map]; rfl
    rw [e]
    exact al_str _, by rw [List.length_map, List.length_map, ← len_list]; exact hz⟩⟩
end
theorem sp_size {x : Str} (h : spT x = true) : x.length ≤ sizeLine := by
  have := sp_len h
  rw [sizeLine_eq]
  omega
theorem sp_pos {x : Str} (h : spT x = true) : 0 < x.length ∧ x.length < 9 := by
  obtain ⟨h1, h2, _⟩ := spT_iff.mp h
  rw [len_list]
  exact ⟨List.length_pos_iff.mpr h1, h2⟩
section
variable {σ : L2.St} {H : Hp} {D : Ends} {ta tb : TE} {i : Nat} {p : Addr} {k : Nat} {Q : VK}
theorem cp_word (e : σ[i]? = some (some (.ref p))) (hp : Pu p (k + 10) H) (q : ∀ x H1, spT x = true → Mx [p] H H1 → Pu p k H1 → Q (.str x) H1) : tCall sp_l_word [] E0 (tCons (tVar i) tNil) σ H Q := ⟨_, e, p, k, rfl, hp, q⟩
theorem cp_eqV {n : Nat} {c : Int} (e : σ[i]? = some (some (.ref p))) (h0 : 0 < n) (h1 : n < 100000000) (hp : Pu p (k + 1) H) (q : ∀ b H1, Mx [p] H H1 → Pu p k H1 → Q (.bl b) H1) :
    tOp rEq (tCall sp_l_draw [] E0 (tCons (tVar i) (tCons (tC (.int (n : Nat))) tNil))) (tC (.int c)) σ H Q :=
  (show tCall sp_l_draw [] E0 (tCons (tVar i) (tCons (tC (.int (n : Nat))) tNil)) σ H (fun x H1 => rEq x (.int c) H1 Q) from
    cp_draw e y_int h0 h1 hp fun m H1 hm mx pu => r_eqI (x := (m : Nat)) (y := c) _ _ H1 rfl rfl _ fun v H2 s2 h => by rw [show v = .bl _ from h]; exact q _ H2 (mx.trans (Mx.of s2)) (pu.same s2))
theorem set_self {σ : L2.St} {i : Nat} {v : Option V} (h : σ[i]? = some v) : σ.set i v = σ := by
  apply List.ext_getElem?
  intro j
  rw [List.getElem?_set]
  by_cases e : i = j
  · subst e
    rw [if_pos rfl, h]
    have := (List.getElem?_eq_some_iff.mp h).1
    rw [if_pos this]
  · rw [if_neg e]
/-- if not near: word = word(..) -/
theorem w_if1 {j : Nat} {nb : Bool} {x : Str} {l : Nat} (e : σ[i]? = some (some (.ref p))) (e2 : σ[j]? = some (some (.bl nb))) (e3 : σ[l]? = some (some (.str x))) (hx : spT x = true) (hp : Pu p (k + 10) H)
    (q : ∀ y H1, spT y = true → Mx [p] H H1 → Pu p k H1 → D.nx (σ.set l (some (.str y))) H1) : tIfS (tNot (tB (tVar j))) (tAsg (tCall sp_l_word [] E0 (tCons (tVar i) tNil)) (gName l)) tNext D σ H := by
  refine ⟨_, e2, nb, rfl, ?_⟩
  cases nb with
  | true =>
    have := q x H hx Mx.rfl (hp.le (by omega))
    rw [set_self e3] at this
    exact this
  | false => exact cp_word e hp fun y H1 hy mx pu => q y H1 hy mx pu
/-- if word in found: the first letter that is not there -/
theorem w_if2 {j l m : Nat} {zs : List Str} {x : Str} (e3 : σ[l]? = some (some (.str x))) (e4 : σ[j]? = some (some (.ref p))) (hm : m < σ.length) (hjm : j ≠ m) (hx : spT x = true) (ml : Ml sP zs p H) (hz : zs.length < 26)
    (q : ∀ y H1, spT y = true → y ∉ zs → Same H H1 → D.nx (σ.set l (some (.str y))) H1) :
    tIfS (tTest (tOp (rIn K false) (tVar l) (tVar j))) (tAsg (tOp (rIxL K) (tFz (tLc (iList K (tFz (tCB (fun xs H Q => ∃ z, xs = [.str z] ∧ z.length ≤ sizeLine ∧ ∀ p, H p = none → Q (.ref p) (upd H p (.lst (signV z)))) (tCons (tC (.str "abcdefghijklmnopqrstuvwxyz")) tNil)))) (gName m) (tTest (tOp (rIn K true) (tVar m) (tVar j))) (tVar m) [m])) (tC (.int 0))) (gName l)) tNext D σ H := by
  refine ys_if (yt_test (y_inS (x := x) (xs := zs) (y_var e3 rfl) (y_var e4 ml.g))) (fun b H1 s1 => ?_) (fun b H1 s1 => ?_)
  · have ml1 := ml.same s1
    have some_ : ∃ y, y ∈ ABC.cps.toList.map oneS ∧ y ∉ zs := by
      apply Classical.byContradiction
      intro n
      have nd : (ABC.cps.toList.map oneS).Nodup := by decide +kernel
      have h1 := len_sub (l := ABC.cps.toList.map oneS) (m := zs) nd fun y hy => by
        apply Classical.byContradiction
        intro hn
        exact n ⟨y, hy, hn⟩
      rw [List.length_map, abc_len] at h1
      omega
    obtain ⟨y0, hy0, hn0⟩ := some_
    have hmem : y0 ∈ (ABC.cps.toList.map oneS).filter fun s => !decide (s ∈ zs) := List.mem_filter.mpr ⟨hy0, by simp [hn0]⟩
    obtain ⟨y, ys, hys⟩ : ∃ y ys, ((ABC.cps.toList.map oneS).filter fun s => !decide (s ∈ zs)) = y :: ys := by
      cases h : (ABC.cps.toList.map oneS).filter fun s => !decide (s ∈ zs) with
      | nil => rw [h] at hmem; cases hmem
      | cons y ys => exact ⟨y, ys, rfl⟩
    have hy : y ∈ (ABC.cps.toList.map oneS).filter fun s => !decide (s ∈ zs) := by rw [hys]; exact List.mem_cons_self ..
    obtain ⟨hy1, hy2⟩ := List.mem_filter.mp hy
    obtain ⟨c, hc, rfl⟩ := List.mem_map.mp hy1
    have e4' : (wipe σ [m])[j]? = some (some (.ref p)) := by
      show (σ.set m none)[j]? = _
      rw [List.getElem?_set_ne (Ne.symm hjm)]
      exact e4
    have lm : m < (wipe σ [m]).length := by rw [wipe_length]; exact hm
    refine ys_set (P := sP (oneS c)) (y_ixl (i := 0) (y_fzl (yn_lc (xs := ABC.cps.toList.map oneS) (r := sP) (r' := sP) (fun s => !decide (s ∈ zs)) (fun s => s) (yi_l (y_fzl (yn_listStr (x := ABC) (y_c (P := sP ABC) fun _ => rfl) abc_size))) (fun x2 m2 v2 H2 s2 h2 => bd1 ⟨?_, yt_test (y_notInS (y_var ?_ h2) (y_var ?_ (ml1.same s2).g)), fun _ => y_var ?_ h2⟩))) y_int ?_) fun v H3 s3 h => ?_
    · show ((σ.set m none).set m (some v2)).set m none = σ.set m none
      rw [List.set_set, List.set_set]
    · exact List.getElem?_set_self lm
    · rw [List.getElem?_set_ne (Ne.symm hjm)]
      exact e4'
    · exact List.getElem?_set_self lm
    · rw [List.map_id', hys]
      rfl
    · rw [show v = .str (oneS c) from h]
      refine q _ H3 (spT_iff.mpr ⟨by simp [oneS], by simp [oneS], fun d hd => ?_⟩) (by simpa using hy2) (s1.trans s3)
      have : d = c := by simpa [oneS] using hd
      exact this ▸ hc
  · have := q x H1 hx (of_decide_eq_false b) s1
    rw [set_self e3] at this
    exact this
end
theorem Ml.mx {α : Type} {r : α → Pr} [∀ x, Sty (r x)] {xs : List α} {f p : Addr} {k : Nat} {H H' : Hp} (h : Ml r xs f H) (pu : Pu p k H) (m : Mx [p] H H') (ne : f ≠ p) : Ml r xs f H' := h.up (pu.up m) fun o q => m _ _ (fun z => ne (List.mem_singleton.mp z)) q
/-! ### _law_words -/
def sp_l_words : Sp := fun vs H Q _ => ∃ p n k, vs = [.ref p, .int ((n : Nat) : Int)] ∧ n ≤ 6 ∧ Pu p (k + 100) H ∧ ∀ v ws H', lP sP ws v H' → ws.length = n → ws.Nodup → (∀ x ∈ ws, spT x = true) → Mx [p] H H' → Pu p k H' → Q v H'
abbrev N_l_words : List Str := ["_law_purse_here", "_law_many", "_law_base", "_law_near", "_law_spot", "_law_found", "_law_turn", "_law_word_here", "_law_letter"]
theorem nd_l_words : N_l_words.Nodup := by decide
theorem c_l_words (T : Tf w K mg) : C8.Cal P w K mg base 4 "_law_words" sp_l_words [] := by
  refine T.cal (d := d_l_words) (N := N_l_words) (ps := ["_law_purse_here", "_law_many"]) 49 rfl rfl (by simp [fa, fa0, fa1, fa2, fa3]) rfl rfl (by decide +kernel) (fun vs H Q E h => by obtain ⟨_, _, _, rfl, _⟩ := h; rfl) (fun _ _ _ _ _ _ us hl => match us, hl with | [_, _], _ => rfl) (fun f cdv A outer s H vs Q E hr hsp => ?_)
  obtain ⟨p, n, k, rfl, hn, hpu, hq⟩ := hsp
  refine ⟨_, (pss_cons (ps_par (i := 2) (j := 3) rfl nd_l_words rfl rfl (by decide) rfl rfl (pa_cons (C8.pe_c (c_l_word T) hr (by decide) rfl (pa_cons (pv 0) pa_nil)) (pa_cons (pe_cmpR op_eq (C8.pe_c (c_l_draw T) hr (by decide) rfl (pa_cons (pv 0) (pa_cons pe_int pa_nil))) pe_int (nomark _)) pa_nil)) (by rfl))
    (pss_cons (ps_asg (pe_tup (pa_cons (C8.pe_c (c_l_draw T) hr (by decide) rfl (pa_cons (pv 0) (pa_cons (pe_callB call_len_str (by rfl) T.n_len (by decide +kernel) (pa_cons (pv 2) pa_nil)) pa_nil))) (pa_cons (pe_lst pa_nil) pa_nil))) (k_pg_tup (K := K) (n := 2) rfl rfl (pgs_cons (pg_name (i := 4) nd_l_words rfl (Or.inl rfl)) (pgs_cons (pg_name (i := 5) nd_l_words rfl (Or.inr rfl)) pgs_nil))))
    (pss_cons (ps_for PassesOwn.never rfl (pi_range1 rfl T.n_range (pa_cons (pv 1) pa_nil)) (pg_name (i := 6) nd_l_words rfl (Or.inl rfl))
    (pss_cons (ps_set (i := 7) nd_l_words rfl (Or.inl rfl) (pe_op op_add_str (pe_op op_add_str (pe_slice C8.sl_txt (pv 2) po_none (po_some (pv 4))) (pe_ix ix_str pe_str (C8.pe_c (c_l_draw T) hr (by decide) rfl (pa_cons (pv 0) (pa_cons pe_int pa_nil))) (fun _ _ => rfl))) (pe_slice C8.sl_txt (pv 2) (po_some (pe_op op_add (pv 4) pe_int)) po_none)))
    (pss_cons (ps_if (pt_not (pt_val (pv 3))) (pss_one (ps_set (i := 7) nd_l_words rfl (Or.inl rfl) (C8.pe_c (c_l_word T) hr (by decide) rfl (pa_cons (pv 0) pa_nil))))
    pss_nil)
    (pss_cons (ps_if (pt_cmpR (k_in_seq (K := K) rfl) (pv 7) (pv 5) rfl) (pss_one (ps_set (i := 7) nd_l_words rfl (Or.inl rfl) (pe_ix (k_ix_list (K := K) rfl) (pe_fz (pe_lc (own := [("_law_letter", 8)]) rfl nd_l_words (k_list (K := K) rfl (pe_fz (pe_callTy (call_listStr rfl) (by rfl) T.n_list (by decide +kernel) (pa_cons pe_str pa_nil)))) (blkOk_by (own := [("_law_letter", 8)]) (by first | decide +kernel | rfl)) (fun _ _ _ _ _ => (pg_name (i := 8) nd_l_words rfl (Or.inl rfl))) (fun _ _ _ _ _ => (pts_one (pt_cmpR (k_notIn_seq (K := K) rfl) (pv 8) (pv 5) rfl))) (fun _ _ _ _ _ => (pv 8)))) pe_int (fun _ _ => rfl))))
    pss_nil)
    (pss_one (ps_expr (pe_bm PySem.F.plainAttrs_list PySem.F.slot_list_append PySem.F.type_list_append mt_append (pv 5) (pa_cons (pv 7) pa_nil))))))))
    (pss_one (ps_ret (pe_fz (pv 5))))))), ?_⟩
  show tSeq _ _ _ _ _
  refine ys_seq (cp_word (k := k + 90) rfl hpu fun base H1 hb mx1 pu1 => cp_eqV (n := 3) (k := k + 89) rfl (by decide) (by decide) pu1 fun near H2 mx2 pu2 => ⟨_, _, rfl, ?_⟩)
  obtain ⟨bl0, bl9⟩ := sp_pos hb
  refine nx_ (ys_seq (cp_draw (n := base.length) (k := k + 88) rfl (y_lenS (x := base) (y_var rfl rfl) (sp_size hb)) bl0 (by omega) pu2 fun m H3 hm mx3 pu3 => ⟨by rw [sizeLine_eq]; simp, fun f nf => ⟨by rw [sizeLine_eq]; simp, fun t nt => ⟨t, _, rfl, SqT.of L2.upd_same, rfl, _, _, rfl, _, _, rfl, rfl, ?_⟩⟩⟩))
  have tf : t ≠ f := fun e => by rw [e, L2.upd_same] at nt; cases nt
  have fp : f ≠ p := pu3.ne nf
  have s4 : Same H3 (upd (upd H3 f (.lst [])) t (.tup [.int (m : Nat), .ref f])) := (same_new _ nf).trans (same_new _ nt)
  generalize hH4 : upd (upd H3 f (.lst [])) t (.tup [.int (m : Nat), .ref f]) = H4 at s4
  have ml4 : Ml sP [] f H4 := ⟨[], by rw [← hH4, L2.upd_ne (Ne.symm tf), L2.upd_same], trivial, by rw [sizeLine_eq]; simp⟩
  have pu4 := pu3.same s4
  have mx04 : Mx [p] H H4 := ((mx1.trans mx2).trans mx3).trans (Mx.of s4)
  have nf0 : H f = none := by
    apply Classical.byContradiction
    intro h
    obtain ⟨o, ho⟩ := Option.ne_none_iff_exists'.mp h
    have := (mx1.trans (mx2.trans mx3)) f o (fun z => fp (List.mem_singleton.mp z)) ho
    rw [nf] at this
    cases this
  refine nx_ (ys_seq (ys_for (yi_range1 (n := n) (y_var rfl rfl) (by omega)) fun H5 s5 => ⟨fun i σ' H' => ∃ (a b c : Option V) (zs : List Str), σ' = [some (.ref p), some (.int (n : Nat)), some (.str base), some (.bl near), some (.int (m : Nat)), some (.ref f), a, b, c] ∧ Mx [p, f] H5 H' ∧ Pu p (k + (n - i) * 12) H' ∧ Ml sP zs f H' ∧ zs.length = i ∧ zs.Nodup ∧ ∀ x ∈ zs, spT x = true, ⟨_, _, _, [], rfl, Mx.rfl, (pu4.same s5).le (by omega), ml4.same s5, rfl, .nil, fun x hx => by cases hx⟩, ?_, ?_, ?_⟩))
  · rintro i σ' H' ⟨a, b, c, zs, rfl, mx, _⟩
    refine mx.up fun q hq u e => ?_
    rcases List.mem_cons.mp hq with h | h
    · exact (pu4.same s5).ni q (by rw [h]; exact List.mem_singleton.mpr rfl) u e
    · rw [List.mem_singleton.mp h] at e
      exact (ml4.same s5).ni u e
  · rintro i y σ' H' hi ⟨a, b, c, zs, rfl, mx, pu, ml, lz, nd, sp⟩ v H6 s6 hv
    have hlt : i < n := by
      have := (List.getElem?_eq_some_iff.mp hi).1
      rwa [List.length_range] at this
    have ec : k + (n - i) * 12 = (((k + (n - (i + 1)) * 12) + 1) + 10) + 1 := by
      rw [show n - i = (n - (i + 1)) + 1 by omega, Nat.add_mul]
      omega
    rw [ec] at pu
    have hm9 : ∀ z : Str, z.length ≤ 100 → z.length ≤ sizeLine := fun z h => by rw [sizeLine_eq]; omega
    have l1 : (Txt.slice base none (some (m : Int))).length ≤ 9 := by rw [len_list, slice_to, List.length_take, ← len_list]; omega
    have l2 : (Txt.slice base (some ((m : Int) + 1)) none).length ≤ 9 := by rw [len_list, show ((m : Int) + 1) = ((m + 1 : Nat) : Int) by omega, slice_from, List.length_drop, ← len_list]; omega
    show tSeq _ _ _ _ _
    refine ys_seq ((y_slXt (x := base) (n := m) (y_var rfl rfl) (sp_size hb) (y_var rfl rfl)) H6 (Same.refl _) _ fun v7 H7 s7 h7 => cp_letter (k := k + (n - (i + 1)) * 12 + 1 + 10) rfl ((pu.same s6).same s7) fun ch H8 hch mx8 pu8 => ?_)
    have h7 : v7 = .str (Txt.slice base none (some (m : Int))) := h7
    refine ⟨_, oneS ch, h7, rfl, by rw [sizeLine_eq]; show _ + 1 ≤ _; omega, ?_⟩
    refine (y_slXf (x := base) (i := (m : Int) + 1) (y_var rfl rfl) (sp_size hb) (y_op r_add (y_var rfl (show iP (m : Nat) _ _ from rfl)) y_int)) H8 (Same.refl _) _ fun v9 H9 s9 h9 => ?_
    have h9 : v9 = .str (Txt.slice base (some ((m : Int) + 1)) none) := h9
    refine ⟨_, _, rfl, h9, ?_, ?_⟩
    · rw [sizeLine_eq, len_list, app_list, List.length_append, ← len_list, ← len_list]
      show _ + 1 + _ ≤ _
      omega
    have hx1 : spT (bendT base m ch) = true := bend_ok hb hm hch
    refine nx_ (ys_seq (w_if1 (k := k + (n - (i + 1)) * 12 + 1) (x := bendT base m ch) rfl rfl rfl hx1 (pu8.same s9) fun x2 H10 hx2 mx10 pu10 => ?_))
    have ml10 : Ml sP zs f H10 := Ml.mx (((((ml.same s6).same s7).mx ((pu.same s6).same s7) mx8 fp)).same s9) (pu8.same s9) mx10 fp
    refine nx_ (ys_seq (w_if2 (p := f) (zs := zs) (x := x2) rfl rfl (show 8 < 9 by decide) (by decide) hx2 ml10 (by omega) fun x3 H11 hx3 hn3 s11 => ?_))
    refine nx_ (ys_app (x := x3) rfl (ml10.same s11) (y_var rfl rfl) (by omega) fun H12 mx12 ml12 => ?_)
    refine ⟨_, _, _, zs ++ [x3], rfl, ?_, ?_, ml12, by rw [List.length_append, lz]; rfl, ?_, ?_⟩
    · have one : ∀ {A B : Hp}, Mx [p] A B → Mx [p, f] A B := fun h => mx_p h fun q hq => by rw [List.mem_singleton.mp hq]; exact List.mem_cons_self ..
      exact ((((((mx.trans (Mx.of s6)).trans (Mx.of s7)).trans (one mx8)).trans (Mx.of s9)).trans (one mx10)).trans (Mx.of s11)).trans (mx_p mx12 fun q hq => by rw [List.mem_singleton.mp hq]; exact List.mem_cons_of_mem _ (List.mem_singleton.mpr rfl))
    · obtain ⟨u, h6, h7⟩ := (pu10.same s11).le (Nat.le_succ _)
      exact ⟨u, mx12 _ _ (fun z => fp (List.mem_singleton.mp z).symm) h6, h7⟩
    · exact List.nodup_append.mpr ⟨nd, List.nodup_cons.mpr ⟨List.not_mem_nil, List.nodup_nil⟩, fun a ha b hb e => by rw [List.mem_singleton.mp hb] at e; exact hn3 (e ▸ ha)⟩
    · intro x hx
      rcases List.mem_append.mp hx with h | h
      · exact sp x h
      · rw [List.mem_singleton.mp h]
        exact hx3
  · rintro σ' H' ⟨a, b, c, zs, rfl, mx, pu, ml, lz, nd, sp⟩
    rw [List.length_range] at lz
    refine nx_ (y_fzMl rfl ml _ fun v H6 mx6 h => hq v zs H6 h lz nd sp ?_ ?_)
    · exact fun b o hb ho => by
        have hbf : b ≠ f := fun e => by rw [e, nf0] at ho; cases ho
        refine mx6 b o (fun z => hbf (List.mem_singleton.mp z)) (mx b o (fun z => ?_) (s5 _ _ (mx04 _ _ hb ho)))
        rcases List.mem_cons.mp z with h | h
        · exact hb (List.mem_singleton.mpr h)
        · exact hbf (List.mem_singleton.mp h)
    · obtain ⟨u, h6, h7⟩ := pu.le (Nat.le_add_right k _)
      exact ⟨u, mx6 _ _ (fun z => fp (List.mem_singleton.mp z).symm) h6, h7⟩
end En
set_option maxHeartbeats 4000000
/-! A pool, turns. -/
namespace En
open PySem PySem.Spec PyProof.Rows L2
variable {P : Program} {w : World} {K : PySem.W.Frag} {mg : Str → Option Value} {base : Heap}
section
variable {σ : L2.St} {H : Hp} {D : Ends} {ta tb : TE} {i : Nat} {p : Addr} {k : Nat} {Q : VK}
theorem cp_words {n : Nat} (e : σ[i]? = some (some (.ref p))) (yb : Y tb σ H (iP (n : Nat))) (hn : n ≤ 6) (hp : Pu p (k + 100) H) (q : ∀ v ws H1, lP sP ws v H1 → ws.length = n → ws.Nodup → (∀ x ∈ ws, spT x = true) → Mx [p] H H1 → Pu p k H1 → Q v H1) :
    tCall sp_l_words [] E0 (tCons (tVar i) (tCons tb tNil)) σ H Q :=
  ⟨_, e, yb H (Same.refl _) _ fun v H1 s1 p1 => ⟨p, n, k, by rw [show v = .int (n : Nat) from p1]; rfl, hn, hp.same s1, fun v ws H2 h1 h2 h3 h4 mx pu => q v ws H2 h1 h2 h3 h4 ((Mx.of s1).trans mx) pu⟩⟩
theorem cp_one {xs : List Str} (e : σ[i]? = some (some (.ref p))) (yb : Y tb σ H (lP sP xs)) (hn : xs ≠ []) (hl : xs.length < 1000) (hp : Pu p (k + 1) H) (q : ∀ x H1, x ∈ xs → Mx [p] H H1 → Pu p k H1 → Q (.str x) H1) :
    tCall sp_l_one_of [] E0 (tCons (tVar i) (tCons tb tNil)) σ H Q :=
  ⟨_, e, yb H (Same.refl _) _ fun v H1 s1 p1 => ⟨p, v, xs, k, rfl, p1, hn, hl, hp.same s1, fun x H2 hx mx pu => q x H2 hx ((Mx.of s1).trans mx) pu⟩⟩
theorem cp_shuf {α : Type} {r : α → Pr} [s : ∀ x, Sty (r x)] {xs : List α} (e : σ[i]? = some (some (.ref p))) (yb : Y tb σ H (lP r xs)) (hl : xs.length < 100000) (hp : Pu p (k + xs.length) H) (q : ∀ ys v H1, ys.Perm xs → lP r ys v H1 → Mx [p] H H1 → Pu p k H1 → Q v H1) :
    tCall sp_l_shuffled [] E0 (tCons (tVar i) (tCons tb tNil)) σ H Q :=
  ⟨_, e, yb H (Same.refl _) _ fun v H1 s1 p1 => ⟨p, v, α, r, s, xs, k, rfl, p1, hl, hp.same s1, fun ys v H2 pm hh mx pu => q ys v H2 pm hh ((Mx.of s1).trans mx) pu⟩⟩
end
/-! ### _law_pool -/
def sp_l_pool : Sp := fun vs H Q _ => ∃ p k, vs = [.ref p] ∧ Pu p (k + 200) H ∧ ∀ v ws H', lP sP ws v H' → ws.length = 6 → ws.Nodup → (∀ x ∈ ws, spT x = true) → Mx [p] H H' → Pu p k H' → Q v H'
def nmS : List Str := ["says", "hears", "done", "start", "end"]
theorem nm_ok : nmS.Nodup ∧ ∀ x ∈ nmS, spT x = true := by decide +kernel
theorem pool_ok {ws : List Str} (nd : ws.Nodup) (hl : ws.length = 6) (sp : ∀ x ∈ ws, spT x = true) : ((((nmS.filter fun s => !decide (s ∈ ws)).take 2) ++ ws).take 6).Nodup ∧ ((((nmS.filter fun s => !decide (s ∈ ws)).take 2) ++ ws).take 6).length = 6 ∧ ∀ x ∈ ((((nmS.filter fun s => !decide (s ∈ ws)).take 2) ++ ws).take 6), spT x = true := by
  have n1 : ((((nmS.filter fun s => !decide (s ∈ ws)).take 2) ++ ws)).Nodup := by
    refine List.nodup_append.mpr ⟨List.Nodup.sublist ((List.take_sublist _ _).trans List.filter_sublist) nm_ok.1, nd, fun a ha b hb e => ?_⟩
    have := (List.mem_filter.mp (List.mem_of_mem_take ha)).2
    rw [e] at this
    simp [hb] at this
  refine ⟨List.Nodup.sublist (List.take_sublist _ _) n1, ?_, fun x hx => ?_⟩
  · rw [List.length_take, List.length_append, hl]
    omega
  · rcases List.mem_append.mp (List.mem_of_mem_take hx) with h | h
    · exact nm_ok.2 x (List.mem_filter.mp (List.mem_of_mem_take h)).1
    · exact sp x h
abbrev N_l_pool : List Str := ["_law_purse_here", "_law_words_here", "_law_word_here"]
theorem nd_l_pool : N_l_pool.Nodup := by decide
theorem c_l_pool (T : Tf w K mg) : C8.Cal P w K mg base 5 "_law_pool" sp_l_pool [] := by
  refine T.cal (d := d_l_pool) (N := N_l_pool) (ps := ["_law_purse_here"]) 50 rfl rfl (by simp [fa, fa0, fa1, fa2, fa3]) rfl rfl (by decide +kernel) (fun vs H Q E h => by obtain ⟨_, _, rfl, _⟩ := h; rfl) (fun _ _ _ _ _ _ us hl => match us, hl with | [_], _ => rfl) (fun f cdv A outer s H vs Q E hr hsp => ?_)
  obtain ⟨p, k, rfl, hpu, hq⟩ := hsp
  refine ⟨_, (pss_cons (ps_set (i := 1) nd_l_pool rfl (Or.inr rfl) (C8.pe_c (c_l_words T) hr (by decide) rfl (pa_cons (pv 0) (pa_cons pe_int pa_nil))))
    (pss_cons (ps_if (pt_cmpR op_eq (C8.pe_c (c_l_draw T) hr (by decide) rfl (pa_cons (pv 0) (pa_cons pe_int pa_nil))) pe_int (nomark _)) (pss_one (ps_set (i := 1) nd_l_pool rfl (Or.inr rfl) (pe_fz (pe_slice (k_sl_list (K := K) rfl) (pe_fz (pe_op op_catS (pe_fz (pe_slice (k_sl_list (K := K) rfl) (pe_fz (pe_lc (own := [("_law_word_here", 2)]) rfl nd_l_pool (k_list (K := K) rfl (pe_fz (pe_lst (pa_cons pe_str (pa_cons pe_str (pa_cons pe_str (pa_cons pe_str (pa_cons pe_str pa_nil)))))))) (blkOk_by (own := [("_law_word_here", 2)]) (by first | decide +kernel | rfl)) (fun _ _ _ _ _ => (pg_name (i := 2) nd_l_pool rfl (Or.inl rfl))) (fun _ _ _ _ _ => (pts_one (pt_cmpR (k_notIn_seq (K := K) rfl) (pv 2) (pv 1) rfl))) (fun _ _ _ _ _ => (pv 2)))) po_none (po_some pe_int))) (pv 1))) po_none (po_some pe_int)))))
    pss_nil)
    (pss_one (ps_ret (C8.pe_c (c_l_shuffled T) hr (by decide) rfl (pa_cons (pv 0) (pa_cons (pv 1) pa_nil))))))), ?_⟩
  refine ys_seq (show tAsg _ _ _ _ _ from cp_words (n := 6) (k := k + 100) rfl y_int (by decide) hpu fun v1 ws H1 hws hl nd sp mx1 pu1 => ?_)
  have fin : ∀ (zs : List Str) (v2 : V) (H2 : Hp), lP sP zs v2 H2 → zs.Nodup → zs.length = 6 → (∀ x ∈ zs, spT x = true) → Mx [p] H H2 → Pu p (k + 50) H2 → ∀ a, tRet (tCall sp_l_shuffled [] E0 (tCons (tVar 0) (tCons (tVar 1) tNil))) { nx := fun _ H' => Q .non H', rt := Q } [some (.ref p), some v2, a] H2 := by
    intro zs v2 H2 h2 nd2 hl2 sp2 mx2 pu2 a
    refine cp_shuf (r := sP) (xs := zs) (k := k) rfl (y_var rfl h2) (by omega) (pu2.le (by omega)) fun ys v H3 pm hy mx3 pu3 => ?_
    exact hq v ys H3 hy (by rw [pm.length_eq]; exact hl2) (pm.nodup_iff.mpr nd2) (fun x hx => sp2 x (pm.mem_iff.mp hx)) (mx2.trans mx3) pu3
  refine nx_ (ys_seq (show tIfS _ _ _ _ _ _ from cp_eq (n := 3) (k := k + 99) rfl (by decide) (by decide) pu1 fun b H2 mx2 pu2 => ?_))
  have hws2 : lP sP ws v1 H2 := Sty.up (pu1.up mx2) hws
  cases b with
  | false => exact fin ws v1 H2 hws2 nd hl sp (mx1.trans mx2) (pu2.le (by omega)) _
  | true =>
    obtain ⟨p1, p2, p3⟩ := pool_ok nd hl sp
    refine ys_set (P := lP sP ((((nmS.filter fun s => !decide (s ∈ ws)).take 2) ++ ws).take 6)) (y_fzl (yn_slTo (n := 6) (y_fzl (yn_catl (y_fzl (yn_slTo (n := 2) (y_fzl (by
      have y := yn_lc (σ := [some (.ref p), some v1, none]) (H := H2) (wi := iList K (tFz (tLst (tCons (tC (.str "says")) (tCons (tC (.str "hears")) (tCons (tC (.str "done")) (tCons (tC (.str "start")) (tCons (tC (.str "end")) tNil)))))))) (g := gName 2) (tt := tTest (tOp (rIn K true) (tVar 2) (tVar 1))) (te := tVar 2) (vs := [2]) (r := sP) (r' := sP) (xs := nmS) (fun s => !decide (s ∈ ws)) (fun s => s) (yi_l (y_fzl (yn_lsts (r := sP) (yl_cons y_str (yl_cons y_str (yl_cons y_str (yl_cons y_str (yl_cons y_str yl_nil))))) (by decide)))) (fun x3 m3 v3 H3 s3 h3 => bd1 ⟨rfl, (yt_test (y_notInS (y_var rfl h3) (y_var rfl (up_ s3 hws2)))), fun e3 => (y_var rfl h3)⟩)
      rw [List.map_id'] at y
      exact y)) y_int)) (y_var rfl hws2) (by rw [List.length_take, hl, sizeLine_eq]; omega))) y_int)) fun v4 H4 s4 h4 => ?_
    exact fin _ v4 H4 h4 p1 p2 p3 ((mx1.trans mx2).trans (Mx.of s4)) ((pu2.same s4).le (by omega)) _
end En
set_option maxHeartbeats 4000000
/-! Turns. -/
namespace En
open PySem PySem.Spec PyProof.Rows L2
variable {P : Program} {w : World} {K : PySem.W.Frag} {mg : Str → Option Value} {base : Heap}
theorem Md.mx {α : Type} {r : α → Pr} [∀ x, Sty (r x)] {d : List (Str × α)} {f p : Addr} {k : Nat} {H H' : Hp} (h : Md r d f H) (pu : Pu p k H) (m : Mx [p] H H') (ne : f ≠ p) : Md r d f H' := h.up (pu.up m) fun o q => m _ _ (fun z => ne (List.mem_singleton.mp z)) q
theorem Pu.mx {f p : Addr} {k : Nat} {H H' : Hp} (h : Pu p k H) (m : Mx [f] H H') (ne : f ≠ p) : Pu p k H' := by
  obtain ⟨u, h6, h7⟩ := h
  exact ⟨u, m _ _ (fun z => ne (List.mem_singleton.mp z).symm) h6, h7⟩
theorem mx_l {p f : Addr} {A B : Hp} (h : Mx [p] A B) : Mx [p, f] A B := mx_p h fun q hq => by rw [List.mem_singleton.mp hq]; exact List.mem_cons_self ..
theorem mx_r {p f : Addr} {A B : Hp} (h : Mx [f] A B) : Mx [p, f] A B := mx_p h fun q hq => by rw [List.mem_singleton.mp hq]; exact List.mem_cons_of_mem _ (List.mem_singleton.mpr rfl)
/-- what is fresh drops out -/
theorem mx_drop {p f : Addr} {H A B : Hp} (nf : H f = none) (h : Mx [p] H A) (h2 : Mx [p, f] A B) : Mx [p] H B := fun b o hb ho => by
  have hbf : b ≠ f := fun e => by rw [e, nf] at ho; cases ho
  refine h2 b o (fun z => ?_) (h b o hb ho)
  rcases List.mem_cons.mp z with q | q
  · exact hb (List.mem_singleton.mpr q)
  · exact hbf (List.mem_singleton.mp q)
theorem mx_none {p f : Addr} {H A : Hp} (h : Mx [p] H A) (nf : A f = none) (ne : f ≠ p) : H f = none := by
  apply Classical.byContradiction
  intro n
  obtain ⟨o, ho⟩ := Option.ne_none_iff_exists'.mp n
  have := h f o (fun z => ne (List.mem_singleton.mp z)) ho
  rw [nf] at this
  cases this
theorem ni_two {p f : Addr} {A : Hp} {k : Nat} (h : Pu p k A) (hf : ∀ u, A f = some u → ¬ Imm u) : ∀ q ∈ [p, f], ∀ u, A q = some u → ¬ Imm u := fun q hq u e => by
  rcases List.mem_cons.mp hq with z | z
  · exact h.ni q (by rw [z]; exact List.mem_singleton.mpr rfl) u e
  · rw [List.mem_singleton.mp z] at e
    exact hf u e
theorem few_turns (l t : Nat) (hl : 1 ≤ l) (ht : 1 ≤ t) : ∃ n : Nat, 0 < n ∧ n ≤ l ∧ (if (if (l : Int) < (t : Int) then (l : Int) else t) > 1 then (if (l : Int) < (t : Int) then (l : Int) else t) else 1) = (n : Int) := by
  by_cases h : (l : Int) < (t : Int)
  · rw [if_pos h]
    by_cases h2 : (l : Int) > 1
    · rw [if_pos h2]
      exact ⟨l, by omega, Nat.le_refl _, rfl⟩
    · rw [if_neg h2]
      exact ⟨1, by omega, hl, rfl⟩
  · rw [if_neg h]
    by_cases h2 : (t : Int) > 1
    · rw [if_pos h2]
      exact ⟨t, by omega, by omega, rfl⟩
    · rw [if_neg h2]
      exact ⟨1, by omega, hl, rfl⟩
theorem dput_last {α : Type} {r : α → Pr} [∀ x, Sty (r x)] {d : List (Str × α)} {k : Str} {x : α} {p : Addr} {H : Hp} {y v : V} {N : Hp → Prop} (m : Md r d p H) (pk : sP k y H) (px : r x v H) (hl : d.length < 1000000)
    (q : ∀ H2, Mx [p] H H2 → Md r (put d k x) p H2 → N H2) : ∃ a H4, V.ref p = V.ref a ∧ DPut H a y v H4 ∧ N H4 := by
  obtain ⟨kvs, h1, h2, n, z⟩ := m
  have hlen := h2.length
  refine ⟨p, _, rfl, .inl ⟨kvs, .inr k, h1, pk, by rw [hlen, sizeLine_eq]; omega, rfl⟩, q _ (Mx.put (List.mem_singleton.mpr rfl)) ⟨_, L2.upd_same, ?_, nodup_put n, ?_⟩⟩
  · have um := up_mut (.dK (putK kvs (.inr k) v)) h1 (fun z => z)
    exact Ad.up um (Ad.put h2 n px)
  · have := len_put d k x
    rw [sizeLine_eq]
    omega
def sp_l_turns : Sp := fun vs H Q _ => ∃ (p : Addr) (v2 v3 : V) (ss ws : List Str) (at_ top k : Nat), vs = [.ref p, v2, v3, .int (at_ : Nat), .int (top : Nat)] ∧ lP sP ss v2 H ∧ lP sP ws v3 H ∧ ss ≠ [] ∧ ss.length ≤ 6 ∧ ws ≠ [] ∧ ws.length ≤ 6 ∧ ws.Nodup ∧ 1 ≤ top ∧ Pu p (k + 50) H ∧
  ∀ v d H', dP sP d v H' → d ≠ [] → (keys d).Nodup → d.length ≤ ws.length → (∀ t ∈ d, t.1 ∈ ws ∧ t.2 ∈ ss) → Mx [p] H H' → Pu p k H' → Q v H'
abbrev N_l_turns : List Str := ["_law_purse_here", "_law_states", "_law_words_here", "_law_at", "_law_top", "_law_many", "_law_found", "_law_word_here"]
theorem nd_l_turns : N_l_turns.Nodup := by decide
theorem c_l_turns (T : Tf w K mg) : C8.Cal P w K mg base 4 "_law_turns" sp_l_turns [] := by
  refine T.cal (d := d_l_turns) (N := N_l_turns) (ps := ["_law_purse_here", "_law_states", "_law_words_here", "_law_at", "_law_top"]) 51 rfl rfl (by simp [fa, fa0, fa1, fa2, fa3]) rfl rfl (by decide +kernel) (fun vs H Q E h => by obtain ⟨_, _, _, _, _, _, _, _, rfl, _⟩ := h; rfl) (fun _ _ _ _ _ _ us hl => match us, hl with | [_, _, _, _, _], _ => rfl) (fun f cdv A outer s H vs Q E hr hsp => ?_)
  obtain ⟨p, v2, v3, ss, ws, at_, top, k, rfl, h_states, h_words, sne, sl, wne, wl, wnd, ht, hpu, hq⟩ := hsp
  refine ⟨_, (pss_cons (ps_par (i := 5) (j := 6) rfl nd_l_turns rfl rfl (by decide) rfl rfl (pa_cons (pe_op op_add pe_int (C8.pe_c (c_l_draw T) hr (by decide) rfl (pa_cons (pv 0) (pa_cons (pe_callB (call_max2 rfl) (by rfl) T.n_max (by decide +kernel) (pa_cons pe_int (pa_cons (pe_callB (call_min2 rfl) (by rfl) T.n_min (by decide +kernel) (pa_cons (pv 4) (pa_cons (pe_callB (k_lenA (K := K) rfl) (by rfl) T.n_len (by decide +kernel) (pa_cons (pv 2) pa_nil)) pa_nil))) pa_nil))) pa_nil)))) (pa_cons pe_dnewK pa_nil)) (by rfl))
    (pss_cons (ps_for PassesOwn.never rfl (k_list (K := K) rfl (pe_fz (pe_slice (k_sl_list (K := K) rfl) (C8.pe_c (c_l_shuffled T) hr (by decide) rfl (pa_cons (pv 0) (pa_cons (pv 2) pa_nil))) po_none (po_some (pv 5))))) (pg_name (i := 7) nd_l_turns rfl (Or.inl rfl))
    (pss_one (ps_dput (hu_of hr) (pv 6) (pv 7) (C8.pe_c (c_l_one_of T) hr (by decide) rfl (pa_cons (pv 0) (pa_cons (pv 1) pa_nil))) rfl)))
    (pss_cons (ps_if (PW.pt (pw_and (pt_cmpR op_lt (pe_op op_add (pv 3) pe_int) (pe_callB (k_lenA (K := K) rfl) (by rfl) T.n_len (by decide +kernel) (pa_cons (pv 1) pa_nil)) (nomark _)) (pw_and1 (pt_cmpR op_gt (C8.pe_c (c_l_draw T) hr (by decide) rfl (pa_cons (pv 0) (pa_cons pe_int pa_nil))) pe_int (nomark _))))) (pss_one (ps_dput (hu_of hr) (pv 6) (C8.pe_c (c_l_one_of T) hr (by decide) rfl (pa_cons (pv 0) (pa_cons (pe_fz (pe_callTy (call_listD rfl) (by rfl) T.n_list (by decide +kernel) (pa_cons (pv 6) pa_nil))) pa_nil))) (C8.pe_c (c_l_one_of T) hr (by decide) rfl (pa_cons (pv 0) (pa_cons (pe_fz (pe_slice (k_sl_list (K := K) rfl) (pv 1) (po_some (pe_op op_add (pv 3) pe_int)) po_none)) pa_nil))) rfl))
    pss_nil)
    (pss_one (ps_ret (pe_fz (pv 6))))))), ?_⟩
  have l1 : 1 ≤ ws.length := List.length_pos_iff.mpr wne
  obtain ⟨n0, hn0, hnl, en⟩ := few_turns ws.length top l1 ht
  refine ys_seq (cp_draw (n := n0) (k := k + 49) rfl (Y_eq (r := iP) en (y_max2 y_int (y_min2 (y_var rfl (show iP (top : Nat) _ _ from rfl)) (y_lenL (y_var rfl h_words))))) hn0 (by omega) hpu fun m H1 hm mx1 pu1 => ⟨1, m, rfl, rfl, fun f nf => ⟨_, _, rfl, ?_⟩⟩)
  have fp : f ≠ p := pu1.ne nf
  have s2 : Same H1 (upd H1 f (.dK [])) := same_new _ nf
  have md2 : Md sP [] f (upd H1 f (.dK [])) := ⟨[], L2.upd_same, trivial, List.nodup_nil, Nat.zero_le _⟩
  have nf0 := mx_none mx1 nf fp
  generalize upd H1 f (.dK []) = H2 at s2 md2
  have pu2 := pu1.same s2
  have mx2 : Mx [p] H H2 := mx1.trans (Mx.of s2)
  have up2 : Up H H2 := hpu.up mx2
  have hstat2 : lP sP ss v2 H2 := Sty.up up2 h_states
  have hN : ((1 : Int) + (m : Nat)) = ((1 + m : Nat) : Int) := by omega
  refine nx_ ?_
  show tSeq _ _ _ [some (.ref p), some v2, some v3, some (.int (at_ : Nat)), some (.int (top : Nat)), some (.int ((1 : Int) + (m : Nat))), some (.ref f), none] H2
  rw [hN]
  refine (ys_seq (show tFor _ _ _ _ _ _ from cp_shuf (r := sP) (xs := ws) (k := k + 40) rfl (y_var rfl (Sty.up up2 h_words)) (by omega) (pu2.le (by omega)) fun ys vy H3 pm hy mx3 pu3 => ?_))
  have md3 := md2.mx pu2 mx3 fp
  have mx03 : Mx [p] H H3 := mx2.trans mx3
  have ynd : ys.Nodup := pm.nodup_iff.mpr wnd
  have yl : ys.length = ws.length := pm.length_eq
  have fin : ∀ (d : List (Str × Str)) (H5 : Hp) (a : Option V), Md sP d f H5 → d ≠ [] → d.length ≤ ws.length → (∀ t ∈ d, t.1 ∈ ws ∧ t.2 ∈ ss) → Mx [p, f] H3 H5 → Pu p k H5 → tRet (tFz (tVar 6)) { nx := fun _ H' => Q .non H', rt := Q } [some (.ref p), some v2, some v3, some (.int (at_ : Nat)), some (.int (top : Nat)), some (.int ((1 + m : Nat) : Int)), some (.ref f), a] H5 := by
    intro d H5 a md5 dne dl dall mx5 pu5
    exact y_fzMd rfl md5 _ fun v H6 mx6 h => hq v d H6 h dne (let ⟨_, _, _, n, _⟩ := md5; n) dl dall (mx_drop nf0 mx03 (mx5.trans (mx_r mx6))) (pu5.mx mx6 fp)
  refine (show tFor (iList K (tFz (tSl (rSlL K) (tC vy) tNoPart (tPart (tVar 5))))) (gName 7) _ _ _ H3 from ys_for (xs := ys.take (1 + m)) (r := sP) (yi_l (y_fzl (yn_slTo (n := 1 + m) (y_cs hy) (y_var rfl rfl)))) fun H4 s4 => ⟨fun i σ' H' => ∃ (a : Option V) (d : List (Str × Str)), σ' = [some (.ref p), some v2, some v3, some (.int (at_ : Nat)), some (.int (top : Nat)), some (.int ((1 + m : Nat) : Int)), some (.ref f), a] ∧ Mx [p, f] H4 H' ∧ Pu p (k + 10 + ((ys.take (1 + m)).length - i)) H' ∧ Md sP d f H' ∧ keys d = (ys.take (1 + m)).take i ∧ ∀ t ∈ d, t.2 ∈ ss, ⟨_, [], rfl, Mx.rfl, (pu3.same s4).le (by rw [List.length_take]; omega), md3.same s4, rfl, fun t ht => by cases ht⟩, ?_, ?_, ?_⟩)
  · rintro i σ' H' ⟨a, d, rfl, mx, _⟩
    exact mx.up (ni_two (pu3.same s4) (md3.same s4).ni)
  · rintro i x σ' H' hx ⟨a, d, rfl, mx, pu, md, kd, dall⟩ v H6 s6 hv
    have hlt : i < (ys.take (1 + m)).length := (List.getElem?_eq_some_iff.mp hx).1
    have ec : k + 10 + ((ys.take (1 + m)).length - i) = (k + 10 + ((ys.take (1 + m)).length - (i + 1))) + 1 := by omega
    rw [ec] at pu
    have up36 : Up H2 H6 := ((pu2.up mx3).trans (up_same s4)).trans ((mx.up (ni_two (pu3.same s4) (md3.same s4).ni)).trans (up_same s6))
    have dl : d.length = i := by rw [← keys_length, kd, List.length_take]; omega
    refine (show sDPut _ _ _ _ _ _ from cp_one (xs := ss) rfl (y_var rfl (Sty.up up36 hstat2)) sne (by omega) (pu.same s6) fun z H7 hz mx7 pu7 => ?_)
    have md7 := (md.same s6).mx (pu.same s6) mx7 fp
    have hv7 : sP x v H7 := hv
    refine (show sDPut (tVar 6) (tVar 7) (tC (.str z)) _ _ H7 from ys_dput (k := x) (x := z) y_str rfl md7 (y_var rfl hv7) (by rw [List.length_take] at hlt; omega) fun H8 mx8 md8 => ?_)
    have hnew : x ∉ keys d := by
      rw [kd]
      exact not_mem_take (List.Nodup.sublist (List.take_sublist _ _) ynd) hx
    refine ⟨_, put d x z, rfl, ((mx.trans (Mx.of s6)).trans (mx_l mx7)).trans (mx_r mx8), pu7.mx mx8 fp, md8, ?_, fun t ht => ?_⟩
    · rw [keys_put, if_neg hnew, kd, take_one hx]
    · rcases mem_put_iff ht with e | e
      · rw [e]; exact hz
      · exact dall t e
  · rintro σ' H' ⟨a, d, rfl, mx, pu, md, kd, dall⟩
    rw [List.take_length] at kd
    have dl : d.length = (ys.take (1 + m)).length := by rw [← keys_length, kd]
    have dlen : d.length ≤ ws.length := by rw [dl, List.length_take]; omega
    have dpos : 0 < d.length := by rw [dl, List.length_take]; omega
    have dne : d ≠ [] := List.length_pos_iff.mp dpos
    have dw : ∀ t ∈ d, t.1 ∈ ws ∧ t.2 ∈ ss := fun t ht => ⟨pm.mem_iff.mp (List.mem_of_mem_take (show t.1 ∈ ys.take (1 + m) from kd ▸ mem_keys ht)), dall t ht⟩
    have mx35 : Mx [p, f] H3 H' := (Mx.of s4).trans mx
    have up2' : Up H2 H' := ((pu2.up mx3).trans (up_same s4)).trans (mx.up (ni_two (pu3.same s4) (md3.same s4).ni))
    have hst' : lP sP ss v2 H' := Sty.up up2' hstat2
    refine nx_ (ys_seq (show tIfS _ _ _ _ _ _ from ?_))
    refine (yt_test (y_op r_lt (y_op r_add (y_var rfl (show iP (at_ : Nat) _ _ from rfl)) y_int) (y_lenL (y_var rfl hst')))) H' (Same.refl _) _ fun H6 s6 => ?_
    by_cases hb : ((at_ : Int) + 1 < (ss.length : Int))
    · rw [decide_eq_true hb]
      refine (show (tTest _) _ _ _ from cp_gt (n := 8) (k := k + 8) rfl (by decide) (by decide) ((pu.same s6).le (by omega)) fun b H7 mx7 pu7 => ?_)
      have md7 := (md.same s6).mx (pu.same s6) mx7 fp
      have mx37 : Mx [p, f] H3 H7 := (mx35.trans (Mx.of s6)).trans (mx_l mx7)
      cases b with
      | false => exact fin d H7 _ md7 dne dlen dw mx37 (pu7.le (by omega))
      | true =>
        have hst7 : lP sP ss v2 H7 := Sty.up ((pu.same s6).up mx7) (up_ s6 hst')
        have hdrop : ss.drop (at_ + 1) ≠ [] := fun z => by
          have := congrArg List.length z
          rw [List.length_drop] at this
          simp only [List.length_nil] at this
          omega
        show (if true = true then _ else _)
        rw [if_pos rfl]
        refine (show sDPut _ _ _ _ _ _ from cp_one (xs := ss.drop (at_ + 1)) (k := k + 7) rfl (y_fzl (yn_slFrom (n := at_ + 1) (y_var rfl hst7) (y_op r_add (y_var rfl (show iP (at_ : Nat) _ _ from rfl)) y_int))) hdrop (by rw [List.length_drop]; omega) pu7 fun z H8 hz mx8 pu8 => ?_)
        have md8 := md7.mx pu7 mx8 fp
        refine ⟨_, rfl, cp_one (xs := keys d) (k := k + 6) rfl (y_fzl (yn_listD (y_var rfl md8.g))) (fun z => dne (List.map_eq_nil_iff.mp z)) (by rw [keys_length]; omega) pu8 fun y H9 hy mx9 pu9 => ?_⟩
        have md9 := md8.mx pu8 mx9 fp
        refine dput_last (k := y) (x := z) md9 rfl rfl (by omega) fun H10 mx10 md10 => ?_
        refine fin (put d y z) H10 _ md10 (fun e => ?_) ?_ (fun t ht => ?_) (((mx37.trans (mx_l mx8)).trans (mx_l mx9)).trans (mx_r mx10)) ((pu9.mx mx10 fp).le (by omega))
        · have : y ∈ keys (put d y z) := mem_put.mpr (.inl rfl)
          rw [e] at this
          cases this
        · rw [← keys_length, keys_put, if_pos hy, keys_length]
          exact dlen
        · rcases mem_put_iff ht with e | e
          · rw [e]
            obtain ⟨t', ht', e2⟩ := List.mem_map.mp hy
            exact ⟨e2 ▸ (dw t' ht').1, List.mem_of_mem_drop hz⟩
          · exact dw t e
    · rw [decide_eq_false hb]
      exact fin d H6 _ (md.same s6) dne dlen dw (mx35.trans (Mx.of s6)) ((pu.same s6).le (by omega))
end En
set_option maxHeartbeats 4000000
/-! A world. -/
namespace En
open PySem PySem.Spec PyProof.Rows L2
variable {P : Program} {w : World} {K : PySem.W.Frag} {mg : Str → Option Value} {base : Heap}
theorem pe_index {X : Cx} {o e : Expr} {to : TE} {t : TA} {apos cpos : Pos} (hK : X.K = K) (ho : PE X o to) (ha : PA X [e] t)
    (hbase : attributeBase o (Str.ofString "index") X.env (eval o X.env) = eval o X.env := by rfl)
    (hs : ((backTo cpos (starEach [e] X.env)).all (fun x => !x.1) && (backToKw cpos (keywordEach [] X.env)).all (fun x => x.1.isSome) && decide (([e].length + ([] : List (Option Str × Expr)).length + if ([] : List (Option Str × Expr)).isEmpty then 0 else 1) < 30)) = true := by rfl)
    (hline : (apos.endLine == cpos.line) = true := by rfl) (hst : starEach [e] X.env = (false, eval e X.env) :: starEach [] X.env := by rfl) (hpl : (backTo cpos (starEach [] X.env)).any (·.1) = false := by rfl) :
    PE X (.Call (.Attribute o (Str.ofString "index") apos) [e] [] cpos) (tBM K "list" (rIndex K) to t) := by
  subst hK
  exact pe_bm PySem.F.plainAttrs_list PySem.F.slot_list_index PySem.F.type_list_index mt_index ho ha hbase hs hline hst hpl
/-! ### the first place of a text -/
def idxS : List Str → Str → Nat
  | [], _ => 0
  | y :: l, x => if y = x then 0 else idxS l x + 1
theorem idxS_at : ∀ {l : List Str} {x : Str}, x ∈ l → l[idxS l x]? = some x ∧ ∀ m, m < idxS l x → ∀ y, l[m]? = some y → y ≠ x
  | [], _, h => by cases h
  | y :: l, x, h => by
    unfold idxS
    by_cases e : y = x
    · rw [if_pos e]
      exact ⟨by rw [← e]; rfl, fun m hm => absurd hm (Nat.not_lt_zero _)⟩
    · rw [if_neg e]
      have hx : x ∈ l := (List.mem_cons.mp h).resolve_left fun z => e z.symm
      obtain ⟨h1, h2⟩ := idxS_at hx
      refine ⟨by rw [List.getElem?_cons_succ]; exact h1, fun m hm z hz => ?_⟩
      cases m with
      | zero => rw [List.getElem?_cons_zero] at hz; cases hz; exact e
      | succ m => rw [List.getElem?_cons_succ] at hz; exact h2 m (by omega) z hz
def isFirst (S : List Str) (i : Nat) : Bool := decide (((idxS S (S.getD i default) : Nat) : Int) = ((i : Nat) : Int))
def firsts (S : List Str) : List Str := ((List.range S.length).filter (isFirst S)).map fun i => S.getD i default
theorem firsts_mem {S : List Str} {x : Str} (h : x ∈ firsts S) : x ∈ S := by
  obtain ⟨i, hi, rfl⟩ := List.mem_map.mp h
  have hl := List.mem_range.mp (List.mem_filter.mp hi).1
  rw [List.getD_eq_getElem?_getD, List.getElem?_eq_getElem hl]
  exact List.getElem_mem hl
theorem firsts_len (S : List Str) : (firsts S).length ≤ S.length := by
  unfold firsts
  rw [List.length_map]
  refine Nat.le_trans (List.length_filter_le _ _) ?_
  rw [List.length_range]
  exact Nat.le_refl _
theorem firsts_nd (S : List Str) : (firsts S).Nodup := by
  unfold firsts
  unfold List.Nodup
  rw [List.pairwise_map]
  have h0 : ((List.range S.length).filter (isFirst S)).Nodup := List.Nodup.sublist List.filter_sublist List.nodup_range
  refine List.Pairwise.imp_of_mem (fun {a b} ha hb hne e => hne ?_) h0
  have h1 := of_decide_eq_true (List.mem_filter.mp ha).2
  have h2 := of_decide_eq_true (List.mem_filter.mp hb).2
  rw [e] at h1
  rw [h1] at h2
  omega
theorem firsts_ne {S : List Str} (h : S ≠ []) : firsts S ≠ [] := by
  cases S with
  | nil => exact absurd rfl h
  | cons x S =>
    have : (0 : Nat) ∈ (List.range (x :: S).length).filter (isFirst (x :: S)) := by
      refine List.mem_filter.mpr ⟨List.mem_range.mpr (by simp), ?_⟩
      unfold isFirst idxS
      simp
    intro z
    have h2 := List.mem_map_of_mem (f := fun i => (x :: S).getD i default) this
    rw [show ((List.range (x :: S).length).filter (isFirst (x :: S))).map (fun i => (x :: S).getD i default) = [] from z] at h2
    cases h2
section
variable {σ : L2.St} {H : Hp} {D : Ends} {ta tb tc td : TE} {i : Nat} {p : Addr} {k : Nat} {Q : VK}
theorem all_flatS (xs : List Str) : (xs.map V.str).all flatV = true := by
  rw [List.all_map]
  exact List.all_eq_true.mpr fun _ _ => rfl
theorem y_index {S : List Str} {x : Str} (ya : Y ta σ H (lP sP S)) (yb : Y tb σ H (sP x)) (hx : x ∈ S) : Y (tBM K "list" (rIndex K) ta (tCons tb tNil)) σ H (iP (idxS S x : Nat)) := fun H1 u Q q => ya H1 u _ fun v H2 s2 pv => by
  obtain ⟨a, vs, rfl, hl, al, z⟩ := pv
  have hvs := Al.str al
  subst hvs
  obtain ⟨h1, h2⟩ := idxS_at hx
  refine ⟨.inl ⟨rfl, _, hl.sq⟩, yb H2 (u.trans s2) _ fun y H3 s3 py => ?_⟩
  cases (show y = .str x from py)
  refine ⟨a, _, .str x, idxS S x, .str x, rfl, rfl, (hl.up (up_same s3)).sq, rfl, all_flatS S, by rw [List.getElem?_map, h1]; rfl, by show (x == x) = true; exact beq_self_eq_true x, fun m z' hm hz => ?_, q _ _ (s2.trans s3) rfl⟩
  rw [List.getElem?_map] at hz
  obtain ⟨y, hy, rfl⟩ := Option.map_eq_some_iff.mp hz
  show (y == x) = false
  exact beq_false_of_ne (h2 m hm y hy)
/-- the states drawn -/
theorem cp_states {n : Nat} {ws : List Str} {v3 : V} (e : σ[0]? = some (some (.ref p))) (e1 : σ[1]? = some (some (.int (n : Nat)))) (e2 : σ[2]? = some (some v3)) (h3 : lP sP ws v3 H) (hn : n ≤ 6) (hw : ws.length ≤ 6) (hs : ∀ x ∈ ws, spT x = true) (hp : Pu p (k + 120) H)
    (q : ∀ v ss H1, lP sP ss v H1 → ss.length = n → (∀ x ∈ ss, spT x = true) → Mx [p] H H1 → Pu p k H1 → Q v H1) :
    tCall sp_l_shuffled [] E0 (tCons (tVar 0) (tCons (tIf (tTest (tOp rEq (tCall sp_l_draw [] E0 (tCons (tVar 0) (tCons (tC (.int 2)) tNil))) (tC (.int 0)))) (tCall sp_l_words [] E0 (tCons (tVar 0) (tCons (tVar 1) tNil))) (tFz (tSl (rSlL K) (tFz (tOp rCatS (tVar 2) (tCall sp_l_words [] E0 (tCons (tVar 0) (tCons (tVar 1) tNil))))) tNoPart (tPart (tVar 1))))) tNil)) σ H Q := by
  have fin : ∀ (v : V) (ss : List Str) (H1 : Hp), lP sP ss v H1 → ss.length = n → (∀ x ∈ ss, spT x = true) → Mx [p] H H1 → Pu p (k + 19) H1 → sp_l_shuffled [.ref p, v] H1 Q E0 := fun v ss H1 hv hl hsp mx pu =>
    ⟨p, v, Str, sP, inferInstance, ss, k, rfl, hv, by omega, pu.le (by omega), fun ys v2 H2 pm hy mx2 pu2 => q v2 ys H2 hy (by rw [pm.length_eq]; exact hl) (fun x hx => hsp x (pm.mem_iff.mp hx)) (mx.trans mx2) pu2⟩
  refine ⟨_, e, (show tIf _ _ _ _ _ _ from cp_eq (n := 2) (k := k + 119) e (by decide) (by decide) hp fun b H1 mx1 pu1 => ?_)⟩
  have h31 : lP sP ws v3 H1 := Sty.up (hp.up mx1) h3
  cases b with
  | true => exact (show (tCall _ _ _ _) _ _ _ from cp_words (n := n) (k := k + 19) e (y_var e1 rfl) hn pu1 fun v ss H2 hv hl nd hsp mx2 pu2 => fin v ss H2 hv hl hsp (mx1.trans mx2) pu2)
  | false =>
    show tFz (tSl (rSlL K) (tFz (tOp rCatS (tVar 2) (tCall sp_l_words [] E0 (tCons (tVar 0) (tCons (tVar 1) tNil))))) tNoPart (tPart (tVar 1))) σ H1 _
    refine ⟨_, e2, cp_words (n := n) (k := k + 19) e (y_var e1 rfl) hn pu1 fun v ss H2 hv hl nd hsp mx2 pu2 => ?_⟩
    show tFz (tSl (rSlL K) (tFz (tOp rCatS (tC v3) (tC v))) tNoPart (tPart (tVar 1))) σ H2 _
    have h32 : lP sP ws v3 H2 := Sty.up (pu1.up mx2) h31
    refine (y_fzl (yn_slTo (r := sP) (xs := ws ++ ss) (n := n) (y_fzl (yn_catl (y_cs h32) (y_cs hv) (by rw [sizeLine_eq]; omega))) (y_var e1 rfl))) H2 (Same.refl _) _ fun v5 H3 s3 h5 => ?_
    refine fin v5 _ H3 h5 (by rw [List.length_take, List.length_append]; omega) (fun x hx => ?_) ((mx1.trans mx2).trans (Mx.of s3)) (pu2.same s3)
    rcases List.mem_append.mp (List.mem_of_mem_take hx) with z | z
    · exact hs x z
    · exact hsp x z
theorem cp_turns {ss ws : List Str} {at_ top : Nat} (e : σ[i]? = some (some (.ref p))) (ya : Y ta σ H (lP sP ss)) (yb : Y tb σ H (lP sP ws)) (yc : Y tc σ H (iP (at_ : Nat))) (yd : Y td σ H (iP (top : Nat))) (h1 : ss ≠ []) (h2 : ss.length ≤ 6) (h3 : ws ≠ []) (h4 : ws.length ≤ 6) (h5 : ws.Nodup) (h6 : 1 ≤ top) (hp : Pu p (k + 50) H)
    (q : ∀ v d H', dP sP d v H' → d ≠ [] → (keys d).Nodup → d.length ≤ ws.length → (∀ t ∈ d, t.1 ∈ ws ∧ t.2 ∈ ss) → Mx [p] H H' → Pu p k H' → Q v H') :
    tCall sp_l_turns [] E0 (tCons (tVar i) (tCons ta (tCons tb (tCons tc (tCons td tNil))))) σ H Q :=
  ⟨_, e, ya H (Same.refl _) _ fun va H1 s1 pa => yb H1 s1 _ fun vb H2 s2 pb => yc H2 (s1.trans s2) _ fun vc H3 s3 pc => yd H3 ((s1.trans s2).trans s3) _ fun vd H4 s4 pd =>
    ⟨p, va, vb, ss, ws, at_, top, k, by rw [show vc = .int (at_ : Nat) from pc, show vd = .int (top : Nat) from pd]; rfl, up_ ((s2.trans s3).trans s4) pa, up_ (s3.trans s4) pb, h1, h2, h3, h4, h5, h6, hp.same (((s1.trans s2).trans s3).trans s4), fun v d H' a b c d' f mx pu => q v d H' a b c d' f ((Mx.of (((s1.trans s2).trans s3).trans s4)).trans mx) pu⟩⟩
end
theorem rP_new {x : Str} {d : List (Str × Str)} {kd vd : V} {H : Hp} {t : Addr} (nt : H t = none) (hk : sP x kd H) (hd : dP sP d vd H) : rP (x, d) (.ref t) (upd H t (.tup [kd, vd])) :=
  ⟨t, _, rfl, L2.upd_same, ⟨up_ (same_new _ nt) hk, up_ (same_new _ nt) hd, trivial⟩, by rw [sizeLine_eq]; simp⟩
/-- a row as it is drawn -/
structure RowD (S : List Str) (r : Row) : Prop where
  kind : KindOk r.1
  nd : (keys r.2).Nodup
  len : r.2.length ≤ 6
  words : ∀ t ∈ r.2, spT t.1 = true ∧ t.2 ∈ S
  fin : r.1 = "done" ↔ r.2 = []
theorem kindS : KindOk "says" := by unfold KindOk; decide
theorem kindH : KindOk "hears" := by unfold KindOk; decide
theorem kindD : KindOk "done" := by unfold KindOk; decide
theorem rowD_done {S : List Str} : RowD S ("done", []) := ⟨kindD, List.nodup_nil, Nat.zero_le _, fun t ht => (by cases ht), ⟨fun _ => rfl, fun _ => rfl⟩⟩
theorem rowD_says {S : List Str} {d : List (Str × Str)} (h1 : (keys d).Nodup) (h2 : d.length ≤ 6) (h3 : ∀ t ∈ d, spT t.1 = true ∧ t.2 ∈ S) (h4 : d ≠ []) : RowD S ("says", d) := ⟨kindS, h1, h2, h3, ⟨fun z => absurd (show (("says" : Str)) = "done" from z) (by decide), fun z => absurd z h4⟩⟩
theorem rowD_hears {S : List Str} {d : List (Str × Str)} (h1 : (keys d).Nodup) (h2 : d.length ≤ 6) (h3 : ∀ t ∈ d, spT t.1 = true ∧ t.2 ∈ S) (h4 : d ≠ []) : RowD S ("hears", d) := ⟨kindH, h1, h2, h3, ⟨fun z => absurd (show (("hears" : Str)) = "done" from z) (by decide), fun z => absurd z h4⟩⟩
theorem rowD_new {S : List Str} {d : List (Str × Str)} {b : Bool} (h1 : (keys d).Nodup) (h2 : d.length ≤ 6) (h3 : ∀ t ∈ d, spT t.1 = true ∧ t.2 ∈ S) (h4 : d ≠ []) : RowD S ((if b = true then "says" else "hears"), d) := by
  cases b with
  | true => exact rowD_says h1 h2 h3 h4
  | false => exact rowD_hears h1 h2 h3 h4
structure SpS (d : World') : Prop where
  w : SpW d
  n : d.1.length ≤ 6
  m : ∀ r ∈ d.1, r.2.2.length ≤ 6
theorem spw_of {S : List Str} {b : Book} (kd : keys b = S) (nd : S.Nodup) (hs : ∀ x ∈ S, spT x = true) (hl6 : S.length ≤ 6) (h : ∀ r ∈ b, RowD S r.2) {s : Str} (hf : s ∈ S) : SpS (b, s) := by
  have hl : S.length < 64 := by omega
  refine ⟨?_, by rw [← keys_length, kd]; exact hl6, fun r hr => (h r hr).len⟩
  refine ⟨⟨⟨by rw [kd]; exact nd, by rw [← keys_length, kd]; exact hl, fun r hr => ?_⟩, fun s hs' => hs s (kd ▸ hs'), fun r hr t ht => ((h r hr).words t ht).1⟩, by show s ∈ keys b; rw [kd]; exact hf⟩
  have x := h r hr
  exact ⟨x.kind, spT_ok (hs _ (kd ▸ mem_keys hr)), x.nd, by have := x.len; omega, fun t ht => spT_ok (x.words t ht).1, fun t ht => by rw [kd]; exact (x.words t ht).2, x.fin⟩
def sp_l_world : Sp := fun vs H Q _ => ∃ (p : Addr) (v3 : V) (n : Nat) (ws : List Str) (top k : Nat), vs = [.ref p, .int (n : Nat), v3, .int (top : Nat)] ∧ lP sP ws v3 H ∧ 1 ≤ n ∧ n ≤ 6 ∧ ws ≠ [] ∧ ws.length ≤ 6 ∧ ws.Nodup ∧ (∀ x ∈ ws, spT x = true) ∧ 1 ≤ top ∧ Pu p (k + 1000) H ∧
  ∀ v d H', wP d v H' → SpS d → Mx [p] H H' → Pu p k H' → Q v H'
abbrev N_l_world : List Str := ["_law_purse_here", "_law_many", "_law_words_here", "_law_top", "_law_states", "_law_at", "_law_book", "_law_last", "_law_way"]
theorem nd_l_world : N_l_world.Nodup := by decide
theorem c_l_world (T : Tf w K mg) : C8.Cal P w K mg base 5 "_law_world" sp_l_world [] := by
  refine T.cal (d := d_l_world) (N := N_l_world) (ps := ["_law_purse_here", "_law_many", "_law_words_here", "_law_top"]) 52 rfl rfl (by simp [fa, fa0, fa1, fa2, fa3]) rfl rfl (by decide +kernel) (fun vs H Q E h => by obtain ⟨_, _, _, _, _, _, rfl, _⟩ := h; rfl) (fun _ _ _ _ _ _ us hl => match us, hl with | [_, _, _, _], _ => rfl) (fun f cdv A outer s H vs Q E hr hsp => ?_)
  obtain ⟨p, v3, n, ws, top, k, rfl, h_words, n1, n6, wne, wl, wnd, wsp, ht, hpu, hq⟩ := hsp
  refine ⟨_, (pss_cons (ps_set (i := 4) nd_l_world rfl (Or.inr rfl) (C8.pe_c (c_l_shuffled T) hr (by decide) rfl (pa_cons (pv 0) (pa_cons (pe_ifExp (pt_cmpR op_eq (C8.pe_c (c_l_draw T) hr (by decide) rfl (pa_cons (pv 0) (pa_cons pe_int pa_nil))) pe_int (nomark _)) (C8.pe_c (c_l_words T) hr (by decide) rfl (pa_cons (pv 0) (pa_cons (pv 1) pa_nil))) (pe_fz (pe_slice (k_sl_list (K := K) rfl) (pe_fz (pe_op op_catS (pv 2) (C8.pe_c (c_l_words T) hr (by decide) rfl (pa_cons (pv 0) (pa_cons (pv 1) pa_nil))))) po_none (po_some (pv 1))))) pa_nil))))
    (pss_cons (ps_set (i := 4) nd_l_world rfl (Or.inr rfl) (pe_fz (pe_lc (own := [("_law_at", 5)]) rfl nd_l_world (pi_range1 rfl T.n_range (pa_cons (pv 1) pa_nil)) (blkOk_by (own := [("_law_at", 5)]) (by first | decide +kernel | rfl)) (fun _ _ _ _ _ => (pg_name (i := 5) nd_l_world rfl (Or.inl rfl))) (fun _ _ _ _ _ => (pts_one (pt_cmpR op_eq (pe_index (K := K) rfl (pv 4) (pa_cons (pe_ix (k_ix_list (K := K) rfl) (pv 4) (pv 5) (fun _ _ => rfl)) pa_nil)) (pv 5) (nomark _)))) (fun _ _ _ _ _ => (pe_ix (k_ix_list (K := K) rfl) (pv 4) (pv 5) (fun _ _ => rfl))))))
    (pss_cons (ps_par (i := 6) (j := 7) rfl nd_l_world rfl rfl (by decide) rfl rfl (pa_cons pe_dnewK (pa_cons (pe_op op_sub (pe_callB (k_lenA (K := K) rfl) (by rfl) T.n_len (by decide +kernel) (pa_cons (pv 4) pa_nil)) pe_int) pa_nil)) (by rfl))
    (pss_cons (ps_for PassesOwn.never rfl (pi_range1 rfl T.n_range (pa_cons (pe_callB (k_lenA (K := K) rfl) (by rfl) T.n_len (by decide +kernel) (pa_cons (pv 4) pa_nil)) pa_nil)) (pg_name (i := 5) nd_l_world rfl (Or.inl rfl))
    (pss_cons (ps_set (i := 8) nd_l_world rfl (Or.inl rfl) (C8.pe_c (c_l_draw T) hr (by decide) rfl (pa_cons (pv 0) (pa_cons pe_int pa_nil))))
    (pss_one (ps_if (PW.pt (pw_or (PW.pt (pw_and (pt_cmpR op_eq (pv 5) (pv 7) (nomark _)) (pw_and1 (pt_cmpR op_gt (pv 8) pe_int (nomark _))))) (pw_or1 (PW.pt (pw_and (pt_cmpR op_eq (pv 8) pe_int (nomark _)) (pw_and1 (pt_cmpR op_gt (pv 5) pe_int (nomark _)))))))) (pss_one (ps_dput (hu_of hr) (pv 6) (pe_ix (k_ix_list (K := K) rfl) (pv 4) (pv 5) (fun _ _ => rfl)) (pe_tup (pa_cons pe_str (pa_cons (pe_fz pe_dnewK) pa_nil))) rfl))
    (pss_one (ps_dput (hu_of hr) (pv 6) (pe_ix (k_ix_list (K := K) rfl) (pv 4) (pv 5) (fun _ _ => rfl)) (pe_tup (pa_cons (pe_ifExp (pt_cmpR op_eq (pe_op op_mod (pv 8) pe_int) pe_int (nomark _)) pe_str pe_str) (pa_cons (C8.pe_c (c_l_turns T) hr (by decide) rfl (pa_cons (pv 0) (pa_cons (pv 4) (pa_cons (pv 2) (pa_cons (pv 5) (pa_cons (pv 3) pa_nil)))))) pa_nil))) rfl))))))
    (pss_one (ps_ret (pe_fz (pe_lst (pa_cons (pe_fz (pv 6)) (pa_cons (pe_ix (k_ix_list (K := K) rfl) (pv 4) pe_int (fun _ _ => rfl)) pa_nil)))))))))), ?_⟩
  refine ys_seq (show tAsg _ _ _ _ _ from cp_states (n := n) (ws := ws) (k := k + 880) rfl rfl rfl h_words n6 wl wsp hpu fun v1 S H1 hS Sl Ssp mx1 pu1 => ?_)
  have hw1 : lP sP ws v3 H1 := Sty.up (hpu.up mx1) h_words
  have Sne : S ≠ [] := fun z => by rw [z] at Sl; simp at Sl; omega
  have gd : ∀ m, m < n → S[m]? = some (S.getD m default) := fun m hm => by
    rw [List.getD_eq_getElem?_getD, List.getElem?_eq_getElem (by omega)]
    rfl
  refine nx_ (ys_seq (ys_set (P := lP sP (firsts S)) (y_fzl (by
    have y := yn_lc (σ := [some (.ref p), some (.int (n : Nat)), some v3, some (.int (top : Nat)), some v1, none, none, none, none]) (H := H1) (wi := iRng1 (tCons (tVar 1) tNil)) (g := gName 5) (tt := tTest (tOp rEq (tBM K "list" (rIndex K) (tVar 4) (tCons (tOp (rIxL K) (tVar 4) (tVar 5)) tNil)) (tVar 5))) (te := tOp (rIxL K) (tVar 4) (tVar 5)) (vs := [5]) (r := fun i : Nat => iP (i : Int)) (r' := sP) (xs := List.range n) (isFirst S) (fun i => S.getD i default) (yi_range1 (y_var rfl rfl) (by omega)) (fun x3 m3 v3 H3 s3 h3 => bd1 ⟨rfl, (yt_test (y_op r_eqI (y_index (y_var rfl (up_ s3 hS)) (y_ixl (y_var rfl (up_ s3 hS)) (y_var rfl h3) (gd _ (List.mem_range.mp m3))) (List.mem_of_getElem? (gd _ (List.mem_range.mp m3)))) (y_var rfl h3))), fun e3 => (y_ixl (y_var rfl (up_ s3 hS)) (y_var rfl h3) (gd _ (List.mem_range.mp m3)))⟩)
    rw [← Sl] at y
    rw [← Sl]
    exact y)) fun v4 H2 s2 h4 => ?_))
  have Fnd := firsts_nd S
  have Fne := firsts_ne Sne
  have Fl := firsts_len S
  have Fsp : ∀ x ∈ firsts S, spT x = true := fun x hx => Ssp x (firsts_mem hx)
  have F1 : 1 ≤ (firsts S).length := List.length_pos_iff.mpr Fne
  generalize firsts S = F at h4 Fnd Fne Fl Fsp F1
  have pu2 := pu1.same s2
  have mx2 : Mx [p] H H2 := mx1.trans (Mx.of s2)
  have hw2 : lP sP ws v3 H2 := up_ s2 hw1
  refine nx_ (ys_seq (ys_parN (Pb := iP ((F.length : Nat) - 1)) (yn_newK (r := rP)) (y_op r_sub (y_lenL (y_var rfl h4)) y_int) fun f H3 H4 u v5 s3 nf ef rf s4 h5 => ?_))
  have fp : f ≠ p := (pu2).ne nf
  have md4 : Md rP [] f H4 := by
    obtain ⟨vs, rfl, al, z⟩ := rf
    have e4 := s4 _ _ ef
    exact ⟨vs, e4, al.up (up_same s4), List.nodup_nil, Nat.zero_le _⟩
  have nf0 : H f = none := mx_none mx2 nf fp
  have mx4 : Mx [p] H H4 := mx2.trans (Mx.of (s3.trans s4))
  have pu4 := (pu2.same s3).same s4
  have hw4 : lP sP ws v3 H4 := up_ (s3.trans s4) hw2
  have h44 : lP sP F v4 H4 := up_ (s3.trans s4) h4
  have h5e : v5 = .int ((F.length : Nat) - 1) := h5
  subst h5e
  refine nx_ (ys_seq (show tFor _ _ _ _ _ _ from ys_for (xs := List.range F.length) (r := fun i : Nat => iP (i : Int)) (yi_range1 (y_lenL (y_var rfl h44)) (by omega)) fun H5 s5 => ⟨fun i σ' H' => ∃ (a b : Option V) (d : Book), σ' = [some (.ref p), some (.int (n : Nat)), some v3, some (.int (top : Nat)), some v4, a, some (.ref f), some (.int ((F.length : Nat) - 1)), b] ∧ Mx [p, f] H5 H' ∧ Pu p (k + (F.length - i) * 60) H' ∧ Md rP d f H' ∧ keys d = F.take i ∧ ∀ r ∈ d, RowD F r.2, ⟨_, _, [], rfl, Mx.rfl, (pu4.same s5).le (by omega), md4.same s5, rfl, fun t ht => by cases ht⟩, ?_, ?_, ?_⟩))
  · rintro i σ' H' ⟨a, b, d, rfl, mx, _⟩
    exact mx.up (ni_two (pu4.same s5) (md4.same s5).ni)
  · rintro i x σ' H' hi ⟨a, b, d, rfl, mx, pu, md, kd, dall⟩ v H6 s6 hv
    have hlt : i < F.length := by
      have := (List.getElem?_eq_some_iff.mp hi).1
      rwa [List.length_range] at this
    have hxi : x = i := by
      rw [List.getElem?_range hlt] at hi
      exact (Option.some.inj hi).symm
    subst hxi
    have hv6 : v = .int (x : Nat) := hv
    subst hv6
    have ec : k + (F.length - x) * 60 = (k + (F.length - (x + 1)) * 60 + 59) + 1 := by
      rw [show F.length - x = (F.length - (x + 1)) + 1 by omega, Nat.add_mul]
      omega
    rw [ec] at pu
    have up46 : Up H4 H6 := (up_same s5).trans ((mx.up (ni_two (pu4.same s5) (md4.same s5).ni)).trans (up_same s6))
    have h46 : lP sP F v4 H6 := Sty.up up46 h44
    have hw6 : lP sP ws v3 H6 := Sty.up up46 hw4
    have md6 := md.same s6
    have dl : d.length = x := by rw [← keys_length, kd, List.length_take]; omega
    have hx : F[x]? = some F[x] := List.getElem?_eq_getElem hlt
    have hnew : F[x] ∉ keys d := by
      rw [kd]
      exact not_mem_take Fnd hx
    have kput : ∀ r : Row, keys (put d F[x] r) = F.take (x + 1) := fun r => by rw [keys_put, if_neg hnew, kd, take_one hx]
    have rput : ∀ r : Row, RowD F r → ∀ t ∈ put d F[x] r, RowD F t.2 := fun r hr t ht => by
      rcases mem_put_iff ht with e | e
      · rw [e]; exact hr
      · exact dall t e
    refine ys_seq (show tAsg _ _ _ _ _ from cp_draw (n := 11) (k := k + (F.length - (x + 1)) * 60 + 59) rfl y_int (by decide) (by decide) (pu.same s6) fun m H7 hm mx7 pu7 => ?_)
    have md7 := md6.mx (pu.same s6) mx7 fp
    have h47 : lP sP F v4 H7 := Sty.up ((pu.same s6).up mx7) h46
    have hw7 : lP sP ws v3 H7 := Sty.up ((pu.same s6).up mx7) hw6
    have mx57 : Mx [p, f] H5 H7 := (mx.trans (Mx.of s6)).trans (mx_l mx7)
    refine nx_ (ys_if (yt_or (yt_and (yt_test (y_op r_eqI (y_var (P := iP (x : Nat)) rfl rfl) (y_var (P := iP ((F.length : Nat) - 1)) rfl rfl))) fun b8 => (yt_test (y_op r_gt (y_var (P := iP (m : Nat)) rfl rfl) y_int))) fun b10 => (yt_and (yt_test (y_op r_eqI (y_var (P := iP (m : Nat)) rfl rfl) y_int)) fun b9 => (yt_test (y_op r_gt (y_var (P := iP (x : Nat)) rfl rfl) y_int)))) (fun b11 H8 s8 => ?_) (fun b11 H8 s8 => ?_))
    · refine (show sDPut (tVar 6) _ _ _ _ _ from ys_dput (k := F[x]) (x := (("done", []) : Row)) (y_row (ya_cons y_str (ya_cons (y_fzD yn_newK) ya_nil))) rfl (md7.same s8) (y_ixl (y_var rfl (up_ s8 h47)) (y_var (P := iP (x : Nat)) rfl rfl) hx) (by omega) fun H9 mx9 md9 => ?_)
      exact ⟨_, _, _, rfl, (mx57.trans (Mx.of s8)).trans (mx_r mx9), ((pu7.same s8).mx mx9 fp).le (by omega), md9, kput _, rput _ rowD_done⟩
    · refine (show sDPut (tVar 6) _ _ _ _ _ from (y_if (r := sP) (x := "says") (z := "hears") (yt_test (y_op r_eqI (y_op (r_mod (by decide)) (y_var (P := iP (m : Nat)) rfl rfl) y_int) y_int)) (fun c12 => y_str) (fun c12 => y_str)) H8 (Same.refl _) _ fun kd' H9 s9 hk => ?_)
      have s79 := s8.trans s9
      refine cp_turns (ss := F) (ws := ws) (at_ := x) (top := top) (k := k + (F.length - (x + 1)) * 60) rfl (y_var rfl (up_ s79 h47)) (y_var rfl (up_ s79 hw7)) (y_var rfl rfl) (y_var rfl rfl) Fne (by omega) wne wl wnd ht ((pu7.same s79).le (by omega)) fun vd dd H10 hd dne dnd dlen dall' mx10 pu10 => ⟨by rw [sizeLine_eq]; simp, fun t nt => ?_⟩
      have md10 := (md7.same s79).mx (pu7.same s79) mx10 fp
      have s11 := same_new (.tup [kd', vd]) nt
      have hrow := rP_new nt hk hd
      generalize upd H10 t (.tup [kd', vd]) = H11 at s11 hrow
      have h411 : lP sP F v4 H11 := up_ s11 (Sty.up ((pu7.same s79).up mx10) (up_ s79 h47))
      refine ⟨_, rfl, (y_ixl (y_var rfl h411) (y_var (P := iP (x : Nat)) rfl rfl) hx) H11 (Same.refl _) _ fun y H12 s12 hy => ?_⟩
      refine dput_last (k := F[x]) (md10.same (s11.trans s12)) hy (up_ s12 hrow) (by omega) fun H13 mx13 md13 => ?_
      refine ⟨_, _, _, rfl, (((mx57.trans (Mx.of s79)).trans (mx_l mx10)).trans (Mx.of (s11.trans s12))).trans (mx_r mx13), (((pu10.same s11).same s12).mx mx13 fp), md13, kput _, rput _ (rowD_new dnd (by omega) (fun t ht => ⟨wsp _ (dall' t ht).1, (dall' t ht).2⟩) dne)⟩
  · rintro σ' H' ⟨a, b, d, rfl, mx, pu, md, kd, dall⟩
    rw [List.length_range, List.take_length] at kd
    have up4' : Up H4 H' := (up_same s5).trans (mx.up (ni_two (pu4.same s5) (md4.same s5).ni))
    have h4' : lP sP F v4 H' := Sty.up up4' h44
    have h0 : F[0]? = some F[0] := List.getElem?_eq_getElem F1
    refine nx_ (ys_retW (x := F[0]) rfl md (fun H7 mx7 => y_ixl (y_var rfl (Sty.up (mx7.up (fun q hq u e => by rw [List.mem_singleton.mp hq] at e; exact md.ni u e)) h4')) (y_int (i := ((0 : Nat) : Int))) h0) fun v H7 mx7 h => ?_)
    exact hq v (d, F[0]) H7 h (spw_of kd Fnd Fsp (by omega) dall (List.getElem_mem F1)) (mx_drop nf0 mx4 (((Mx.of s5).trans mx).trans (mx_r mx7))) ((pu.le (by omega)).mx mx7 fp)
end En
set_option maxHeartbeats 4000000
/-! Shapes. -/
namespace En
open PySem PySem.Spec PyProof.Rows L2
variable {P : Program} {w : World} {K : PySem.W.Frag} {mg : Str → Option Value} {base : Heap}
def sp_l_shape : Sp := fun vs H Q _ => ∃ (p : Addr) (v2 : V) (ws : List Str) (k : Nat), vs = [.ref p, v2] ∧ lP sP ws v2 H ∧ 4 ≤ ws.length ∧ ws.Nodup ∧ (∀ x ∈ ws, spT x = true) ∧ Pu p (k + 200) H ∧
  ∀ v d H', wP d v H' → SpS d → Mx [p] H H' → Pu p k H' → Q v H'
theorem dis1 {α : Type} {a : Str} {x : α} : (keys [(a, x)]).Nodup ∧ [(a, x)].length ≤ 15 := ⟨by simp [keys], by simp⟩
theorem dis2 {α : Type} {a b : Str} {x y : α} (h : [a, b].Nodup) : (keys [(a, x), (b, y)]).Nodup ∧ [(a, x), (b, y)].length ≤ 15 := ⟨h, by simp⟩
theorem dis3 {α : Type} {a b c : Str} {x y z : α} (h : [a, b, c].Nodup) : (keys [(a, x), (b, y), (c, z)]).Nodup ∧ [(a, x), (b, y), (c, z)].length ≤ 15 := ⟨h, by simp⟩
theorem all1 {α : Type} {P : α → Prop} {a : α} (h : P a) : ∀ x ∈ [a], P x := fun x hx => by rw [List.mem_singleton.mp hx]; exact h
theorem all2 {α : Type} {P : α → Prop} {a b : α} (h : P a) (h2 : P b) : ∀ x ∈ [a, b], P x := fun x hx => (List.mem_cons.mp hx).elim (fun e => e ▸ h) (all1 h2 x)
theorem all3 {α : Type} {P : α → Prop} {a b c : α} (h : P a) (h2 : P b) (h3 : P c) : ∀ x ∈ [a, b, c], P x := fun x hx => (List.mem_cons.mp hx).elim (fun e => e ▸ h) (all2 h2 h3 x)
theorem all4 {α : Type} {P : α → Prop} {a b c d : α} (h : P a) (h2 : P b) (h3 : P c) (h4 : P d) : ∀ x ∈ [a, b, c, d], P x := fun x hx => (List.mem_cons.mp hx).elim (fun e => e ▸ h) (all3 h2 h3 h4 x)
section
variable {σ : L2.St} {H : Hp} {D : Ends} {te : TE}
theorem ys_un4 {i j l m : Nat} {a b c d : Str} (y : Y te σ H (lP sP [a, b, c, d])) (q : ∀ H2, Same H H2 → D.nx ((((σ.set i (some (.str a))).set j (some (.str b))).set l (some (.str c))).set m (some (.str d))) H2) : tAsg te (gUnl K 4 (gCons (gName i) (gCons (gName j) (gCons (gName l) (gCons (gName m) gNil))))) D σ H := y H (Same.refl _) _ fun v H2 s h => by
  obtain ⟨x, vs, e, hl, al, z⟩ := h
  have hv := Al.str al
  subst hv
  exact ⟨x, _, e, hl.sq, rfl, _, _, rfl, _, _, rfl, _, _, rfl, _, _, rfl, rfl, q H2 s⟩
end
theorem four_of {α : Type} : ∀ {l : List α}, 4 ≤ l.length → ∃ a b c d r, l = a :: b :: c :: d :: r
  | a :: b :: c :: d :: r, _ => ⟨a, b, c, d, r, rfl⟩
theorem four_is {α : Type} : ∀ {l : List α}, l.length = 4 → ∃ a b c d, l = [a, b, c, d]
  | [a, b, c, d], _ => ⟨a, b, c, d, rfl⟩
abbrev N_l_shape : List Str := ["_law_purse_here", "_law_words_here", "_law_way", "_law_states", "_law_begin", "_law_second", "_law_third", "_law_last", "_law_go", "_law_out", "_law_on", "_law_end", "_law_row"]
theorem nd_l_shape : N_l_shape.Nodup := by decide
theorem c_l_shape (T : Tf w K mg) : C8.Cal P w K mg base 5 "_law_shape" sp_l_shape [] := by
  refine T.cal (d := d_l_shape) (N := N_l_shape) (ps := ["_law_purse_here", "_law_words_here"]) 53 rfl rfl (by simp [fa, fa0, fa1, fa2, fa3]) rfl rfl (by decide +kernel) (fun vs H Q E h => by obtain ⟨_, _, _, _, rfl, _⟩ := h; rfl) (fun _ _ _ _ _ _ us hl => match us, hl with | [_, _], _ => rfl) (fun f cdv A outer s H vs Q E hr hsp => ?_)
  obtain ⟨p, v2, ws, k, rfl, h_words, wl, wnd, wsp, hpu, hq⟩ := hsp
  refine ⟨_, (pss_cons (ps_par (i := 2) (j := 3) rfl nd_l_shape rfl rfl (by decide) rfl rfl (pa_cons (C8.pe_c (c_l_draw T) hr (by decide) rfl (pa_cons (pv 0) (pa_cons pe_int pa_nil))) (pa_cons (C8.pe_c (c_l_words T) hr (by decide) rfl (pa_cons (pv 0) (pa_cons pe_int pa_nil))) pa_nil)) (by rfl))
    (pss_cons (ps_asg (pv 3) (k_pg_unl (K := K) (n := 4) rfl rfl (pgs_cons (pg_name (i := 4) nd_l_shape rfl (Or.inl rfl)) (pgs_cons (pg_name (i := 5) nd_l_shape rfl (Or.inl rfl)) (pgs_cons (pg_name (i := 6) nd_l_shape rfl (Or.inl rfl)) (pgs_cons (pg_name (i := 7) nd_l_shape rfl (Or.inl rfl)) pgs_nil))))))
    (pss_cons (ps_asg (pe_fz (pe_slice (k_sl_list (K := K) rfl) (pv 1) po_none (po_some pe_int))) (k_pg_unl (K := K) (n := 4) rfl rfl (pgs_cons (pg_name (i := 8) nd_l_shape rfl (Or.inl rfl)) (pgs_cons (pg_name (i := 9) nd_l_shape rfl (Or.inl rfl)) (pgs_cons (pg_name (i := 10) nd_l_shape rfl (Or.inl rfl)) (pgs_cons (pg_name (i := 11) nd_l_shape rfl (Or.inl rfl)) pgs_nil))))))
    (pss_cons (ps_if (pt_cmpR op_eq (pv 2) pe_int (nomark _)) (pss_one (ps_ret (pe_fz (pe_lst (pa_cons (pe_fz (pe_disp (pps_cons (pv 4) (pe_tup (pa_cons pe_str (pa_cons (pe_fz (pe_disp (pps_cons (pv 8) (pv 4) (pps_cons (pv 9) (pv 5) pps_nil)) (by rfl) (by rfl) (fun z => by cases z) (by decide))) pa_nil))) (pps_cons (pv 5) (pe_tup (pa_cons pe_str (pa_cons (pe_fz pe_dnewK) pa_nil))) pps_nil)) (by rfl) (by rfl) (fun z => by cases z) (by decide))) (pa_cons (pv 4) pa_nil))))))
    pss_nil)
    (pss_cons (ps_if (pt_cmpR op_eq (pv 2) pe_int (nomark _)) (pss_one (ps_ret (pe_fz (pe_lst (pa_cons (pe_fz (pe_disp (pps_cons (pv 4) (pe_tup (pa_cons pe_str (pa_cons (pe_fz (pe_disp (pps_cons (pv 8) (pv 5) (pps_cons (pv 9) (pv 6) pps_nil)) (by rfl) (by rfl) (fun z => by cases z) (by decide))) pa_nil))) (pps_cons (pv 5) (pe_tup (pa_cons pe_str (pa_cons (pe_fz (pe_disp (pps_cons (pv 10) (pv 4) (pps_cons (pv 11) (pv 6) pps_nil)) (by rfl) (by rfl) (fun z => by cases z) (by decide))) pa_nil))) (pps_cons (pv 6) (pe_tup (pa_cons pe_str (pa_cons (pe_fz pe_dnewK) pa_nil))) pps_nil))) (by rfl) (by rfl) (fun z => by cases z) (by decide))) (pa_cons (pv 4) pa_nil))))))
    pss_nil)
    (pss_cons (ps_set (i := 12) nd_l_shape rfl (Or.inl rfl) (pe_disp (pps_cons (pv 4) (pe_tup (pa_cons pe_str (pa_cons (pe_fz (pe_disp (pps_cons (pv 8) (pv 5) (pps_cons (pv 9) (pv 6) pps_nil)) (by rfl) (by rfl) (fun z => by cases z) (by decide))) pa_nil))) (pps_cons (pv 5) (pe_tup (pa_cons pe_str (pa_cons (pe_fz (pe_disp (pps_cons (pv 10) (pv 4) (pps_cons (pv 11) (pv 7) pps_nil)) (by rfl) (by rfl) (fun z => by cases z) (by decide))) pa_nil))) (pps_cons (pv 7) (pe_tup (pa_cons pe_str (pa_cons (pe_fz pe_dnewK) pa_nil))) pps_nil))) (by rfl) (by rfl) (fun z => by cases z) (by decide)))
    (pss_cons (ps_dput (hu_of hr) (pv 12) (pv 6) (pe_ifExp (pt_cmpR op_eq (pv 2) pe_int (nomark _)) (pe_tup (pa_cons pe_str (pa_cons (pe_fz (pe_disp (pps_cons (pv 10) (pv 4) (pps_cons (pv 11) (pv 7) pps_nil)) (by rfl) (by rfl) (fun z => by cases z) (by decide))) pa_nil))) (pe_tup (pa_cons pe_str (pa_cons (pe_fz (pe_disp (pps_cons (pv 10) (pv 6) pps_nil) (by rfl) (by rfl) (fun z => by cases z) (by decide))) pa_nil)))) rfl)
    (pss_one (ps_ret (pe_fz (pe_lst (pa_cons (pe_fz (pv 12)) (pa_cons (pv 4) pa_nil))))))))))))), ?_⟩
  refine ys_seq (show tPar _ _ _ _ _ _ from cp_draw (n := 4) (k := k + 199) rfl y_int (by decide) (by decide) hpu fun m H1 hm mx1 pu1 => cp_words (n := 4) (k := k + 99) rfl y_int (by decide) pu1 fun v3 ss H2 hss sl snd ssp mx2 pu2 => ⟨_, _, rfl, ?_⟩)
  obtain ⟨a, b, c, d, rfl⟩ := four_is sl
  obtain ⟨g, o, n, e, r, rfl⟩ := four_of wl
  have hw2 : lP sP (g :: o :: n :: e :: r) v2 H2 := Sty.up ((hpu.up mx1).trans (pu1.up mx2)) h_words
  have sp_a := ssp a (by simp)
  have sp_b := ssp b (by simp)
  have sp_c := ssp c (by simp)
  have sp_d := ssp d (by simp)
  have sp_g := wsp g (by simp)
  have sp_o := wsp o (by simp)
  have sp_n := wsp n (by simp)
  have sp_e := wsp e (by simp)
  have nd_ab : [a, b].Nodup := snd.sublist (by simp)
  have nd_abc : [a, b, c].Nodup := snd.sublist (by simp)
  have nd_abd : [a, b, d].Nodup := snd.sublist (by simp)
  have nd_abdc : [a, b, d, c].Nodup := (List.Perm.nodup_iff (((List.Perm.swap d c []).cons b).cons a)).mp snd
  have c_new : c ∉ [a, b, d] := fun z => by
    have := List.nodup_append.mp (show ([a, b, d] ++ [c]).Nodup from nd_abdc)
    exact this.2.2 c z c (List.mem_singleton.mpr rfl) rfl
  have nd_go : [g, o].Nodup := wnd.sublist (by simp)
  have nd_ne : [n, e].Nodup := wnd.sublist (((((List.nil_sublist r).cons_cons e).cons_cons n).cons o).cons g)
  refine nx_ (ys_seq (ys_un4 (a := a) (b := b) (c := c) (d := d) (y_var rfl hss) fun H3 s3 => ?_))
  refine nx_ (ys_seq (ys_un4 (a := g) (b := o) (c := n) (d := e) (y_fzl (yn_slTo (n := 4) (xs := g :: o :: n :: e :: r) (y_var rfl (up_ s3 hw2)) y_int)) fun H4 s4 => ?_))
  have mx4 : Mx [p] H H4 := (mx1.trans mx2).trans (Mx.of (s3.trans s4))
  have pu4 := (pu2.same s3).same s4
  refine nx_ (ys_seq (ys_if (yt_test (y_op r_eqI (y_var (P := iP (m : Nat)) rfl rfl) y_int)) (fun b5 H5 s5 => ?_) (fun b5 H5 s5 => ?_)))
  · have s5' := Same.refl H5
    refine ys_ret (y_wld (b := [(a, (("says", [(g, a), (o, b)]) : Row)), (b, (("done", []) : Row))]) (x := a) (y_fzD (yn_disp (r := rP) (xs := ([(a, (("says", [(g, a), (o, b)]) : Row)), (b, (("done", []) : Row))] : Book)) (yd_cons (y_var rfl rfl) (y_row (x := "says") (d := [(g, a), (o, b)]) (ya_cons y_str (ya_cons (y_fzD (yn_disp (xs := [(g, a), (o, b)]) (yd_cons (y_var rfl rfl) (y_var rfl rfl) (yd_cons (y_var rfl rfl) (y_var rfl rfl) yd_nil)) (dis2 nd_go))) ya_nil))) (yd_cons (y_var rfl rfl) (y_row (x := "done") (d := []) (ya_cons y_str (ya_cons (y_fzD yn_newK) ya_nil))) yd_nil)) (dis2 nd_ab))) (y_var rfl rfl)) fun v H6 s6 h => ?_
    exact hq v _ H6 h (spw_of (S := [a, b]) rfl nd_ab (by simp [sp_a, sp_b, sp_c, sp_d]) (by simp) (all2 (rowD_says (d := [(g, a), (o, b)]) nd_go (by simp) (all2 ⟨sp_g, by simp⟩ ⟨sp_o, by simp⟩) (by simp)) rowD_done) (by simp)) (mx4.trans (Mx.of ((s5.trans s5').trans s6))) (pu4.same ((s5.trans s5').trans s6) |>.le (by omega))
  refine nx_ (ys_seq (ys_if (yt_test (y_op r_eqI (y_var (P := iP (m : Nat)) rfl rfl) y_int)) (fun b6 H6 s5' => ?_) (fun b6 H6 s5' => ?_)))
  · refine ys_ret (y_wld (b := [(a, (("says", [(g, b), (o, c)]) : Row)), (b, (("says", [(n, a), (e, c)]) : Row)), (c, (("done", []) : Row))]) (x := a) (y_fzD (yn_disp (r := rP) (xs := ([(a, (("says", [(g, b), (o, c)]) : Row)), (b, (("says", [(n, a), (e, c)]) : Row)), (c, (("done", []) : Row))] : Book)) (yd_cons (y_var rfl rfl) (y_row (x := "says") (d := [(g, b), (o, c)]) (ya_cons y_str (ya_cons (y_fzD (yn_disp (xs := [(g, b), (o, c)]) (yd_cons (y_var rfl rfl) (y_var rfl rfl) (yd_cons (y_var rfl rfl) (y_var rfl rfl) yd_nil)) (dis2 nd_go))) ya_nil))) (yd_cons (y_var rfl rfl) (y_row (x := "says") (d := [(n, a), (e, c)]) (ya_cons y_str (ya_cons (y_fzD (yn_disp (xs := [(n, a), (e, c)]) (yd_cons (y_var rfl rfl) (y_var rfl rfl) (yd_cons (y_var rfl rfl) (y_var rfl rfl) yd_nil)) (dis2 nd_ne))) ya_nil))) (yd_cons (y_var rfl rfl) (y_row (x := "done") (d := []) (ya_cons y_str (ya_cons (y_fzD yn_newK) ya_nil))) yd_nil))) (dis3 nd_abc))) (y_var rfl rfl)) fun v H6 s6 h => ?_
    exact hq v _ H6 h (spw_of (S := [a, b, c]) rfl nd_abc (by simp [sp_a, sp_b, sp_c, sp_d]) (by simp) (all3 (rowD_says (d := [(g, b), (o, c)]) nd_go (by simp) (all2 ⟨sp_g, by simp⟩ ⟨sp_o, by simp⟩) (by simp)) (rowD_says (d := [(n, a), (e, c)]) nd_ne (by simp) (all2 ⟨sp_n, by simp⟩ ⟨sp_e, by simp⟩) (by simp)) rowD_done) (by simp)) (mx4.trans (Mx.of ((s5.trans s5').trans s6))) (pu4.same ((s5.trans s5').trans s6) |>.le (by omega))
  refine nx_ (ys_seq (ys_new (yn_disp (r := rP) (xs := ([(a, (("hears", [(g, b), (o, c)]) : Row)), (b, (("says", [(n, a), (e, d)]) : Row)), (d, (("done", []) : Row))] : Book)) (yd_cons (y_var rfl rfl) (y_row (x := "hears") (d := [(g, b), (o, c)]) (ya_cons y_str (ya_cons (y_fzD (yn_disp (xs := [(g, b), (o, c)]) (yd_cons (y_var rfl rfl) (y_var rfl rfl) (yd_cons (y_var rfl rfl) (y_var rfl rfl) yd_nil)) (dis2 nd_go))) ya_nil))) (yd_cons (y_var rfl rfl) (y_row (x := "says") (d := [(n, a), (e, d)]) (ya_cons y_str (ya_cons (y_fzD (yn_disp (xs := [(n, a), (e, d)]) (yd_cons (y_var rfl rfl) (y_var rfl rfl) (yd_cons (y_var rfl rfl) (y_var rfl rfl) yd_nil)) (dis2 nd_ne))) ya_nil))) (yd_cons (y_var rfl rfl) (y_row (x := "done") (d := []) (ya_cons y_str (ya_cons (y_fzD yn_newK) ya_nil))) yd_nil))) (dis3 nd_abd)) fun f H7 u s7 nf ef rf => ?_))
  have fp : f ≠ p := (pu4.same (s5.trans s5')).ne nf
  have nf0 : H f = none := mx_none (mx4.trans (Mx.of (s5.trans s5'))) nf fp
  have mx7 : Mx [p] H H7 := mx4.trans (Mx.of ((s5.trans s5').trans s7))
  have pu7 := pu4.same ((s5.trans s5').trans s7)
  have md7 : Md rP ([(a, (("hears", [(g, b), (o, c)]) : Row)), (b, (("says", [(n, a), (e, d)]) : Row)), (d, (("done", []) : Row))] : Book) f H7 := by
    obtain ⟨vs, rfl, al, z⟩ := rf
    exact ⟨vs, ef, al, nd_abd, z⟩
  refine nx_ (ys_seq (show sDPut (tVar 12) _ _ _ _ _ from ys_dput (k := c) (r := rP) (y_if (r := rP) (x := (("says", [(n, a), (e, d)]) : Row)) (z := (("says", [(n, c)]) : Row)) (yt_test (y_op r_eqI (y_var (P := iP (m : Nat)) rfl rfl) y_int)) (fun _ => (y_row (x := "says") (d := [(n, a), (e, d)]) (ya_cons y_str (ya_cons (y_fzD (yn_disp (xs := [(n, a), (e, d)]) (yd_cons (y_var rfl rfl) (y_var rfl rfl) (yd_cons (y_var rfl rfl) (y_var rfl rfl) yd_nil)) (dis2 nd_ne))) ya_nil)))) (fun _ => (y_row (x := "says") (d := [(n, c)]) (ya_cons y_str (ya_cons (y_fzD (yn_disp (xs := [(n, c)]) (yd_cons (y_var rfl rfl) (y_var rfl rfl) yd_nil) (dis1 ))) ya_nil))))) rfl md7 (y_var rfl rfl) (by simp) fun H8 mx8 md8 => ?_))
  refine nx_ (ys_retW (x := a) rfl md8 (fun H9 mx9 => y_var rfl rfl) fun v H9 mx9 h => ?_)
  refine hq v _ H9 h (spw_of (S := [a, b, d, c]) ?_ nd_abdc (by simp [sp_a, sp_b, sp_c, sp_d]) (by simp) (fun t ht => ?_) (by simp)) (mx_drop nf0 mx7 ((mx_r mx8).trans (mx_r mx9))) (((pu7.mx mx8 fp).mx mx9 fp).le (by omega))
  · rw [keys_put, if_neg (show c ∉ keys ([(a, (("hears", [(g, b), (o, c)]) : Row)), (b, (("says", [(n, a), (e, d)]) : Row)), (d, (("done", []) : Row))] : Book) from c_new)]
    rfl
  · rcases mem_put_iff ht with z | z
    · rw [z]
      show RowD _ (if _ then _ else _)
      split
      · exact (rowD_says (d := [(n, a), (e, d)]) nd_ne (by simp) (all2 ⟨sp_n, by simp⟩ ⟨sp_e, by simp⟩) (by simp))
      · exact (rowD_says (by simp [keys]) (by simp) (all1 ⟨sp_n, by simp⟩) (by simp))
    · exact all3 (P := fun t : Str × Row => RowD [a, b, d, c] t.2) (rowD_hears (d := [(g, b), (o, c)]) nd_go (by simp) (all2 ⟨sp_g, by simp⟩ ⟨sp_o, by simp⟩) (by simp)) (rowD_says (d := [(n, a), (e, d)]) nd_ne (by simp) (all2 ⟨sp_n, by simp⟩ ⟨sp_e, by simp⟩) (by simp)) rowD_done t z
end En
set_option maxHeartbeats 4000000
/-! A row of the law: a world and its words. -/
namespace En
open PySem PySem.Spec PyProof.Rows L2
variable {P : Program} {w : World} {K : PySem.W.Frag} {mg : Str → Option Value} {base : Heap}
def rwP (x : World' × List Str) : Pr := LP [wP x.1, lP sP x.2]
instance (x : World' × List Str) : Sty (rwP x) := inferInstanceAs (Sty (LP [wP x.1, lP sP x.2]))
section
variable {σ : L2.St} {H : Hp} {D : Ends} {ta tb tc td : TE} {i : Nat} {p : Addr} {k : Nat} {Q : VK}
theorem cp_world1 {ws : List Str} {top : Nat} (e : σ[i]? = some (some (.ref p))) (yb : Y tb σ H (iP (6 : Nat))) (yc : ∀ H1, Up H H1 → Y tc σ H1 (lP sP ws)) (h1 : ws ≠ []) (h2 : ws.length ≤ 6) (h3 : ws.Nodup) (h4 : ∀ x ∈ ws, spT x = true) (h5 : 1 ≤ top) (hp : Pu p (k + 1001) H)
    (q : ∀ v d H', wP d v H' → SpS d → Mx [p] H H' → Pu p k H' → Q v H') :
    tCall sp_l_world [] E0 (tCons (tVar i) (tCons (tOp (rI0 fun i j => .int (i + j)) (tC (.int 1)) (tCall sp_l_draw [] E0 (tCons (tVar i) (tCons tb tNil)))) (tCons tc (tCons (tC (.int (top : Nat))) tNil)))) σ H Q := by
  refine ⟨_, e, (show tCall sp_l_draw [] E0 (tCons (tVar i) (tCons tb tNil)) σ H _ from cp_draw (n := 6) (k := k + 1000) e yb (by decide) (by decide) hp fun m H1 hm mx1 pu1 => ⟨1, m, rfl, rfl, yc H1 (hp.up mx1) H1 (Same.refl _) _ fun v3 H2 s2 h3' => ?_⟩)⟩
  exact ⟨p, v3, 1 + m, ws, top, k, by rw [show ((1 + m : Nat) : Int) = (1 : Int) + (m : Nat) by omega]; rfl, h3', by omega, by omega, h1, h2, h3, h4, h5, pu1.same s2, fun v d H3 a b mx pu => q v d H3 a b ((mx1.trans (Mx.of s2)).trans mx) pu⟩
end
def sp_l_row_of : Sp := fun vs H Q _ => ∃ (p : Addr) (k : Nat), vs = [.ref p, .int (6 : Nat)] ∧ Pu p (k + 2000) H ∧
  ∀ v d ws H', rwP (d, ws) v H' → SpS d → ws.length ≤ 6 → (∀ x ∈ ws, spT x = true) → Mx [p] H H' → Pu p k H' → Q v H'
abbrev N_l_row_of : List Str := ["_law_purse_here", "_law_top", "_law_pool_here", "_law_words_here"]
theorem nd_l_row_of : N_l_row_of.Nodup := by decide
theorem c_l_row_of (T : Tf w K mg) : C8.Cal P w K mg base 6 "_law_row_of" sp_l_row_of [] := by
  refine T.cal (d := d_l_row_of) (N := N_l_row_of) (ps := ["_law_purse_here", "_law_top"]) 65 rfl rfl (by simp [fa, fa0, fa1, fa2, fa3]) rfl rfl (by decide +kernel) (fun vs H Q E h => by obtain ⟨_, _, rfl, _⟩ := h; rfl) (fun _ _ _ _ _ _ us hl => match us, hl with | [_, _], _ => rfl) (fun f cdv A outer s H vs Q E hr hsp => ?_)
  obtain ⟨p, k, rfl, hpu, hq⟩ := hsp
  refine ⟨_, (pss_cons (ps_set (i := 2) nd_l_row_of rfl (Or.inl rfl) (C8.pe_c (c_l_pool T) hr (by decide) rfl (pa_cons (pv 0) pa_nil)))
    (pss_cons (ps_if (pt_cmpR op_eq (C8.pe_c (c_l_draw T) hr (by decide) rfl (pa_cons (pv 0) (pa_cons pe_int pa_nil))) pe_int (nomark _)) (pss_one (ps_ret (pe_fz (pe_lst (pa_cons (C8.pe_c (c_l_world T) hr (by decide) rfl (pa_cons (pv 0) (pa_cons (pe_op op_add pe_int (C8.pe_c (c_l_draw T) hr (by decide) rfl (pa_cons (pv 0) (pa_cons (pv 1) pa_nil)))) (pa_cons (pe_fz (pe_slice (k_sl_list (K := K) rfl) (pv 2) po_none (po_some pe_int))) (pa_cons pe_int pa_nil))))) (pa_cons (pe_fz (pe_slice (k_sl_list (K := K) rfl) (pv 2) po_none (po_some pe_int))) pa_nil))))))
    pss_nil)
    (pss_cons (ps_set (i := 3) nd_l_row_of rfl (Or.inl rfl) (pe_fz (pe_slice (k_sl_list (K := K) rfl) (pv 2) po_none (po_some (pe_op op_add pe_int (C8.pe_c (c_l_draw T) hr (by decide) rfl (pa_cons (pv 0) (pa_cons (pe_callB (call_min2 rfl) (by rfl) T.n_min (by decide +kernel) (pa_cons pe_int (pa_cons (pe_callB (k_lenA (K := K) rfl) (by rfl) T.n_len (by decide +kernel) (pa_cons (pv 2) pa_nil)) pa_nil))) pa_nil))))))))
    (pss_cons (ps_if (PW.pt (pw_and (pt_cmpR op_gt (pe_callB (k_lenA (K := K) rfl) (by rfl) T.n_len (by decide +kernel) (pa_cons (pv 3) pa_nil)) pe_int (nomark _)) (pw_and1 (pt_cmpR op_eq (C8.pe_c (c_l_draw T) hr (by decide) rfl (pa_cons (pv 0) (pa_cons pe_int pa_nil))) pe_int (nomark _))))) (pss_one (ps_ret (pe_fz (pe_lst (pa_cons (C8.pe_c (c_l_shape T) hr (by decide) rfl (pa_cons (pv 0) (pa_cons (pv 3) pa_nil))) (pa_cons (pv 3) pa_nil))))))
    pss_nil)
    (pss_one (ps_ret (pe_fz (pe_lst (pa_cons (C8.pe_c (c_l_world T) hr (by decide) rfl (pa_cons (pv 0) (pa_cons (pe_op op_add pe_int (C8.pe_c (c_l_draw T) hr (by decide) rfl (pa_cons (pv 0) (pa_cons (pv 1) pa_nil)))) (pa_cons (pv 3) (pa_cons pe_int pa_nil))))) (pa_cons (pv 3) pa_nil)))))))))), ?_⟩
  refine ys_seq (show tAsg _ _ _ _ _ from ⟨_, rfl, p, k + 1800, rfl, hpu, fun v2 pool H1 hpool pl pnd psp mx1 pu1 => ?_⟩)
  refine nx_ (ys_seq (show tIfS _ _ _ _ _ _ from cp_eq (n := 8) (k := k + 1799) rfl (by decide) (by decide) pu1 fun b H2 mx2 pu2 => ?_))
  have hp2 : lP sP pool v2 H2 := Sty.up (pu1.up mx2) hpool
  have fin : ∀ (ws : List Str) (v3 : V) (top : Nat) (H3 : Hp), lP sP ws v3 H3 → ws ≠ [] → ws.length ≤ 6 → ws.Nodup → (∀ x ∈ ws, spT x = true) → 1 ≤ top → Mx [p] H H3 → Pu p (k + 1500) H3 → tRet (tFz (tLst (tCons (tCall sp_l_world [] E0 (tCons (tVar 0) (tCons (tOp (rI0 fun i j => .int (i + j)) (tC (.int 1)) (tCall sp_l_draw [] E0 (tCons (tVar 0) (tCons (tVar 1) tNil)))) (tCons (tVar 3) (tCons (tC (.int (top : Nat))) tNil))))) (tCons (tVar 3) tNil)))) { nx := fun _ H' => Q .non H', rt := Q } [some (.ref p), some (.int (6 : Nat)), some v2, some v3] H3 := by
    intro ws v3 top H3 h3 wne wl wnd wsp ht mx3 pu3
    refine cp_world1 (ws := ws) (top := top) (k := k + 400) rfl (y_var rfl rfl) (fun H4 u => y_var rfl (Sty.up u h3)) wne wl wnd wsp ht (pu3.le (by omega)) fun v d H4 hd spw mx4 pu4 => ?_
    have h34 : lP sP ws v3 H4 := Sty.up (pu3.up mx4) h3
    refine (show tFz (tLst (tCons (tC v) (tCons (tVar 3) tNil))) _ H4 _ from (y_fzL (yn_lst (ya_cons (y_cs hd) (ya_cons (y_var rfl h34) ya_nil)))) H4 (Same.refl _) _ fun v5 H5 s5 h5 => ?_)
    exact hq v5 d ws H5 h5 spw wl wsp ((mx3.trans mx4).trans (Mx.of s5)) ((pu4.same s5).le (by omega))
  have pne : pool ≠ [] := fun z => by rw [z] at pl; cases pl
  cases b with
  | true =>
    have yc : ∀ H4, Up H2 H4 → Y (tFz (tSl (rSlL K) (tVar 2) tNoPart (tPart (tC (.int 6))))) [some (.ref p), some (.int (6 : Nat)), some v2, none] H4 (lP sP pool) := fun H4 u => by
      have y := y_fzl (r := sP) (yn_slTo (K := K) (n := 6) (xs := pool) (y_var (σ := [some (.ref p), some (.int (6 : Nat)), some v2, none]) (i := 2) rfl (Sty.up u hp2)) y_int)
      rwa [List.take_of_length_le (by omega)] at y
    refine (show tRet (tFz (tLst (tCons _ (tCons (tFz (tSl (rSlL K) (tVar 2) tNoPart (tPart (tC (.int 6))))) tNil)))) _ _ H2 from cp_world1 (ws := pool) (top := 6) (k := k + 400) rfl (y_var rfl rfl) yc pne (by omega) pnd psp (by decide) (pu2.le (by omega)) fun v d H4 hd spw mx4 pu4 => ?_)
    refine (show tFz (tLst (tCons (tC v) (tCons (tFz (tSl (rSlL K) (tVar 2) tNoPart (tPart (tC (.int 6))))) tNil))) _ H4 _ from (y_fzL (yn_lst (ya_cons (y_cs hd) (ya_cons (yc H4 (pu2.up mx4)) ya_nil)))) H4 (Same.refl _) _ fun v5 H5 s5 h5 => ?_)
    exact hq v5 d pool H5 h5 spw (by omega) psp (((mx1.trans mx2).trans mx4).trans (Mx.of s5)) ((pu4.same s5).le (by omega))
  | false =>
    refine nx_ (ys_seq (show tAsg _ _ _ _ _ from ⟨_, rfl, cp_draw (n := 5) (k := k + 1798) rfl (Y_eq (r := iP) (by rw [pl]; rfl) (y_min2 (y_int (i := 5)) (y_lenL (y_var rfl hp2)))) (by decide) (by decide) pu2 fun m H3 hm mx3 pu3 => ⟨1, m, rfl, rfl, ?_⟩⟩))
    have hp3 : lP sP pool v2 H3 := Sty.up (pu2.up mx3) hp2
    refine (show tAsg (tFz (tSl (rSlL K) (tC v2) tNoPart (tPart (tC (.int ((1 : Int) + (m : Nat))))))) (gName 3) _ _ H3 from ys_set (P := lP sP (pool.take (1 + m))) (y_fzl (yn_slTo (n := 1 + m) (y_cs hp3) (Y_eq (r := iP) (by omega) y_int))) fun v3 H4 s4 h4 => ?_)
    have wne : pool.take (1 + m) ≠ [] := fun z => by
      have := congrArg List.length z
      rw [List.length_take, List.length_nil] at this
      omega
    have wl : (pool.take (1 + m)).length ≤ 6 := by rw [List.length_take]; omega
    have wnd : (pool.take (1 + m)).Nodup := pnd.sublist (List.take_sublist _ _)
    have wsp : ∀ x ∈ pool.take (1 + m), spT x = true := fun x hx => psp x (List.mem_of_mem_take hx)
    generalize pool.take (1 + m) = ws at h4 wne wl wnd wsp
    have mx4 : Mx [p] H H4 := ((mx1.trans mx2).trans mx3).trans (Mx.of s4)
    have pu4 := pu3.same s4
    refine nx_ (ys_seq (show tIfS _ _ _ _ _ _ from ?_))
    refine (yt_test (y_op r_gt (y_lenL (y_var rfl h4)) y_int)) H4 (Same.refl _) _ fun H5 s5 => ?_
    by_cases hb : ((3 : Int) < (ws.length : Nat))
    · rw [decide_eq_true hb]
      refine (show (tTest _) _ _ _ from cp_eq (n := 3) (k := k + 1797) rfl (by decide) (by decide) (pu4.same s5) fun b H6 mx6 pu6 => ?_)
      have h6 : lP sP ws v3 H6 := Sty.up ((pu4.same s5).up mx6) (up_ s5 h4)
      have mxh : Mx [p] H H6 := (mx4.trans (Mx.of s5)).trans mx6
      cases b with
      | false => exact fin ws v3 3 H6 h6 wne wl wnd wsp (by decide) mxh (pu6.le (by omega))
      | true =>
        refine (show tRet (tFz (tLst (tCons (tCall sp_l_shape [] E0 (tCons (tVar 0) (tCons (tVar 3) tNil))) (tCons (tVar 3) tNil)))) _ _ H6 from ⟨_, rfl, _, rfl, p, v3, ws, k + 400, rfl, h6, by omega, wnd, wsp, pu6.le (by omega), fun v d H7 hd spw mx7 pu7 => ?_⟩)
        have h37 : lP sP ws v3 H7 := Sty.up (pu6.up mx7) h6
        refine (show tFz (tLst (tCons (tC v) (tCons (tVar 3) tNil))) _ H7 _ from (y_fzL (yn_lst (ya_cons (y_cs hd) (ya_cons (y_var rfl h37) ya_nil)))) H7 (Same.refl _) _ fun v8 H8 s8 h8 => ?_)
        exact hq v8 d ws H8 h8 spw wl wsp ((mxh.trans mx7).trans (Mx.of s8)) ((pu7.same s8).le (by omega))
    · rw [decide_eq_false hb]
      exact fin ws v3 3 H5 (up_ s5 h4) wne wl wnd wsp (by decide) (mx4.trans (Mx.of s5)) ((pu4.same s5).le (by omega))
end En
set_option maxHeartbeats 4000000
/-! Chatty desks, desks at an end. -/
namespace En
open PySem PySem.Spec PyProof.Rows L2
variable {P : Program} {w : World} {K : PySem.W.Frag} {mg : Str → Option Value} {base : Heap}
def sp_l_ended : Sp := fun vs H Q _ => ∃ (p : Addr) (v2 : V) (d : World') (k : Nat), vs = [.ref p, v2] ∧ wP d v2 H ∧ SpS d ∧ Pu p (k + 2) H ∧
  ∀ v d' H', wP d' v H' → SpS d' → Mx [p] H H' → Pu p k H' → Q v H'
abbrev N_l_ended : List Str := ["_law_purse_here", "_law_world_here", "_law_done", "_law_state"]
theorem nd_l_ended : N_l_ended.Nodup := by decide
theorem c_l_ended (T : Tf w K mg) : C8.Cal P w K mg base 4 "_law_ended" sp_l_ended [] := by
  refine T.cal (d := d_l_ended) (N := N_l_ended) (ps := ["_law_purse_here", "_law_world_here"]) 66 rfl rfl (by simp [fa, fa0, fa1, fa2, fa3]) rfl rfl (by decide +kernel) (fun vs H Q E h => by obtain ⟨_, _, _, _, rfl, _⟩ := h; rfl) (fun _ _ _ _ _ _ us hl => match us, hl with | [_, _], _ => rfl) (fun f cdv A outer s H vs Q E hr hsp => ?_)
  obtain ⟨p, v2, d, k, rfl, h_world, hd, hpu, hq⟩ := hsp
  refine ⟨_, (pss_cons (ps_setLcF (i := 2) (own := [("_law_state", 3)]) rfl nd_l_ended rfl rfl (sw_true rfl rfl rfl (by decide +kernel)) (pi_keys (pe_ix (k_ix_list (K := K) rfl) (pv 1) pe_int (fun _ _ => rfl))) (blkOk_by (own := [("_law_state", 3)]) (by first | decide +kernel | rfl)) (fun _ _ _ _ _ => (pg_name (i := 3) nd_l_ended rfl (Or.inl rfl))) (fun _ _ _ _ _ => (pts_one (pt_cmpR op_eq (pe_ix (k_ix_tup (K := K) rfl) (pe_dget (hu_of hr) (pe_ix (k_ix_list (K := K) rfl) (pv 1) pe_int (fun _ _ => rfl)) (pv 3) (fun _ _ => rfl)) pe_int (fun _ _ => rfl)) pe_str (nomark _)))) (fun _ _ _ _ _ => (pv 3)))
    (pss_one (ps_ret (pe_ifExp (PW.pt (pw_and (pt_cmpR (k_neD (K := K) rfl (hu64 hr)) (pv 2) (pe_fz (pe_lst pa_nil)) (nomark _)) (pw_and1 (pt_cmpR op_eq (C8.pe_c (c_l_draw T) hr (by decide) rfl (pa_cons (pv 0) (pa_cons pe_int pa_nil))) pe_int (nomark _))))) (pe_fz (pe_lst (pa_cons (pe_ix (k_ix_list (K := K) rfl) (pv 1) pe_int (fun _ _ => rfl)) (pa_cons (C8.pe_c (c_l_one_of T) hr (by decide) rfl (pa_cons (pv 0) (pa_cons (pv 2) pa_nil))) pa_nil)))) (pv 1))))), ?_⟩
  refine ys_seq (ys_set (y_fzl (yn_lc (r' := sP) (fun s => decide ((look d.1 s).1 = "done")) (fun s => s) (yi_keys (y_w0 (y_var rfl h_world))) (fun x1 m1 v1 H1 s1 h1 => bd1 ⟨rfl, (yt_test (y_op r_eqS (y_r0 (y_dget (y_w0 (y_var rfl (up_ s1 h_world))) (y_var rfl h1) m1)) y_str)), fun e1 => (y_var rfl h1)⟩))) fun v3 H2 s2 h3 => ?_)
  rw [List.map_id'] at h3
  have hsub : ∀ x ∈ (keys d.1).filter (fun s => decide ((look d.1 s).1 = "done")), x ∈ keys d.1 := fun x hx => (List.mem_filter.mp hx).1
  have hlen : ((keys d.1).filter (fun s => decide ((look d.1 s).1 = "done"))).length < 1000 := by
    have h1 := List.length_filter_le (fun s => decide ((look d.1 s).1 = "done")) (keys d.1)
    have h2 := hd.w.b.wf.len
    rw [keys_length] at h1
    omega
  generalize (keys d.1).filter (fun s => decide ((look d.1 s).1 = "done")) = zs at h3 hsub hlen
  have pu2 := hpu.same s2
  have hw2 := up_ s2 h_world
  refine nx_ (show tRet (tIf _ _ _) _ _ _ from ?_)
  refine (yt_test (y_neNilS (y_var rfl h3) (fun y hy => spT_ok (hd.w.b.st y (hsub y hy))))) H2 (Same.refl _) _ fun H3 s3 => ?_
  cases hz : zs.isEmpty with
  | true => exact ⟨_, rfl, hq v2 d H3 (up_ s3 hw2) hd (Mx.of (s2.trans s3)) ((pu2.same s3).le (by omega))⟩
  | false =>
    refine (show (tTest _) _ _ _ from cp_eq (n := 10) (k := k + 1) rfl (by decide) (by decide) (pu2.same s3) fun b H4 mx4 pu4 => ?_)
    have hw4 : wP d v2 H4 := Sty.up ((pu2.same s3).up mx4) (up_ s3 hw2)
    cases b with
    | false => exact ⟨_, rfl, hq v2 d H4 hw4 hd ((Mx.of (s2.trans s3)).trans mx4) (pu4.le (by omega))⟩
    | true =>
      refine (show tFz (tLst (tCons (tOp (rIxL K) (tVar 1) (tC (.int 0))) (tCons (tCall sp_l_one_of [] E0 (tCons (tVar 0) (tCons (tVar 2) tNil))) tNil))) _ H4 _ from (y_w0 (y_var rfl hw4)) H4 (Same.refl _) _ fun vb H5 s5 hb => ?_)
      refine (show tCall sp_l_one_of [] E0 (tCons (tVar 0) (tCons (tVar 2) tNil)) _ H5 _ from cp_one (xs := zs) (k := k) rfl (y_var rfl (up_ s5 (Sty.up ((pu2.same s3).up mx4) (up_ s3 h3)))) (fun z => by rw [z] at hz; cases hz) hlen (pu4.same s5) fun x H6 hx mx6 pu6 => ?_)
      have hb6 : dP rP d.1 vb H6 := Sty.up ((pu4.same s5).up mx6) hb
      refine (show tFz (tLst (tCons (tC vb) (tCons (tC (.str x)) tNil))) [some (.ref p), some v2, some v3, none] H6 _ from (y_wld (x := x) (y_cs hb6) y_str) H6 (Same.refl _) _ fun v7 H7 s7 h7 => ?_)
      exact hq v7 (d.1, x) H7 h7 ⟨⟨hd.w.b, hsub x hx⟩, hd.n, hd.m⟩ ((((Mx.of (s2.trans s3)).trans mx4).trans (Mx.of s5)).trans (mx6.trans (Mx.of s7))) (pu6.same s7)
section
variable {σ : L2.St} {H : Hp} {D : Ends} {ta tb tc td te : TE} {i : Nat} {p : Addr} {k : Nat} {Q : VK}
theorem cp_some {ws : List Str} {v1 : V} (e : σ[0]? = some (some (.ref p))) (e1 : σ[1]? = some (some v1)) (h1 : lP sP ws v1 H) (hl : ws.length = 6) (hn : ws.Nodup) (hp : Pu p (k + 7) H)
    (q : ∀ v zs H1, lP sP zs v H1 → zs.Nodup → zs ≠ [] → zs.length ≤ 6 → (∀ x ∈ zs, x ∈ ws) → Mx [p] H H1 → Pu p k H1 → Q v H1) :
    tFz (tSl (rSlL K) (tCall sp_l_shuffled [] E0 (tCons (tVar 0) (tCons (tVar 1) tNil))) tNoPart (tPart (tOp (rI0 fun i j => .int (i + j)) (tC (.int 4)) (tCall sp_l_draw [] E0 (tCons (tVar 0) (tCons (tC (.int 3)) tNil)))))) σ H Q := by
  refine (show tCall sp_l_shuffled [] E0 (tCons (tVar 0) (tCons (tVar 1) tNil)) σ H _ from cp_shuf (r := sP) (xs := ws) (k := k + 1) e (y_var e1 h1) (by omega) (hp.le (by omega)) fun ys v H1 pm hy mx1 pu1 => ?_)
  refine (show tCall sp_l_draw [] E0 (tCons (tVar 0) (tCons (tC (.int 3)) tNil)) σ H1 _ from cp_draw (n := 3) (k := k) e y_int (by decide) (by decide) pu1 fun m H2 hm mx2 pu2 => ⟨4, m, rfl, rfl, ?_⟩)
  have hy2 : lP sP ys v H2 := Sty.up (pu1.up mx2) hy
  refine (show tFz (tSl (rSlL K) (tC v) tNoPart (tPart (tC (.int ((4 : Int) + (m : Nat)))))) σ H2 Q from (y_fzl (yn_slTo (n := 4 + m) (y_cs hy2) (Y_eq (r := iP) (by omega) y_int))) H2 (Same.refl _) _ fun v3 H3 s3 h3 => ?_)
  have yl : ys.length = 6 := by rw [pm.length_eq]; exact hl
  refine q v3 _ H3 h3 ((pm.nodup_iff.mpr hn).sublist (List.take_sublist _ _)) (fun z => ?_) (by rw [List.length_take]; omega) (fun x hx => pm.mem_iff.mp (List.mem_of_mem_take hx)) ((mx1.trans mx2).trans (Mx.of s3)) (pu2.same s3)
  have := congrArg List.length z
  rw [List.length_take, List.length_nil] at this
  omega
theorem paired_keys {opts : List Str} : ∀ {zs : List Str} {ys : List (Str × Str)}, Paired (fun (x : Str) (y : Str × Str) => y.1 = x ∧ y.2 ∈ opts) zs ys → keys ys = zs ∧ ∀ t ∈ ys, t.2 ∈ opts
  | _, _, .nil => ⟨rfl, fun t ht => by cases ht⟩
  | _, _, .cons a b => by
    obtain ⟨h1, h2⟩ := paired_keys b
    refine ⟨?_, fun t ht => ?_⟩
    · exact (show _ = _ from a.1 ▸ h1 ▸ rfl)
    · rcases List.mem_cons.mp ht with e | e
      · rw [e]; exact a.2
      · exact h2 t e
theorem tcb1 {rl : List V → Hp → VK → Prop} (h : ta σ H fun v H3 => tFz (tCB rl (tCons (tC v) tNil)) σ H3 Q) : tFz (tCB rl (tCons ta tNil)) σ H Q := h
theorem sdput_row {kd : Str} {tk : TE} (h : td σ H fun vd H7 => sDPut (tVar i) tk (tTup (tCons (tC (.str kd)) (tCons (tC vd) tNil))) D σ H7) : sDPut (tVar i) tk (tTup (tCons (tC (.str kd)) (tCons td tNil))) D σ H := h
theorem tret_w1 (h : tFz (tVar i) σ H fun vb H1 => tRet (tFz (tLst (tCons (tFz (tLst (tCons (tC vb) (tCons tb tNil)))) (tCons tc tNil)))) D σ H1) : tRet (tFz (tLst (tCons (tFz (tLst (tCons (tFz (tVar i)) (tCons tb tNil)))) (tCons tc tNil)))) D σ H := h
theorem tret_w2 {vb : V} (h : tb σ H fun x H1 => tRet (tFz (tLst (tCons (tFz (tLst (tCons (tC vb) (tCons (tC x) tNil)))) (tCons tc tNil)))) D σ H1) : tRet (tFz (tLst (tCons (tFz (tLst (tCons (tC vb) (tCons tb tNil)))) (tCons tc tNil)))) D σ H := h
theorem cp_dict {zs opts : List Str} {vz : V} (hz : lP sP zs vz H) (zn : zs.Nodup) (zl : zs.length ≤ 6) (ei : σ[i]? = some (some vz)) (hw : ∀ v, wipe ((wipe σ [10]).set 10 (some v)) [10] = wipe σ [10]) (e0 : ∀ v, ((wipe σ [10]).set 10 (some v))[0]? = some (some (.ref p))) (e10 : ∀ v, ((wipe σ [10]).set 10 (some v))[10]? = some (some v))
    (yo : ∀ v H1, Y te ((wipe σ [10]).set 10 (some v)) H1 (lP sP opts)) (on : opts ≠ []) (ol : opts.length < 1000) (hp : Pu p (k + 6) H)
    (q : ∀ v dd H1, dP sP dd v H1 → keys dd = zs → (∀ t ∈ dd, t.2 ∈ opts) → Mx [p] H H1 → Pu p k H1 → Q v H1) :
    tFz (tCB (fun xs H Q => ∃ (a : Addr) (ps : List Addr) (kvs : List (Key × V)), xs = [.ref a] ∧ SqL K H a (ps.map V.ref) ∧ Paired (fun p kv => SqT K H p [kV kv.1, kv.2]) ps kvs ∧ ∀ p, H p = none → Q (.ref p) (upd H p (.dK (mergeK [] kvs)))) (tCons (tFz (tLc (iList K (tVar i)) (gName 10) tYes (tTup (tCons (tVar 10) (tCons (tCall sp_l_one_of [] E0 (tCons (tVar 0) (tCons te tNil))) tNil))) [10])) tNil)) σ H Q := by
  refine tcb1 (lc_draw (p := p) (k := k) (cost := 1) (r := sP) (r' := itP sP) (fun (x : Str) (y : Str × Str) => y.1 = x ∧ y.2 ∈ opts) (yi_l (y_var ei hz)) (hp.le (by omega)) (fun x mx3 v H3 j mx4 pu4 hv => zd1 (hw v) fun Q q => ?_) fun v H3 ys mx3 pu3 hcs h => ?_)
  · refine (show tTup _ _ _ _ from ⟨_, e10 v, cp_one (xs := opts) (k := j) (e0 v) (yo v H3) on ol pu4 fun z H4 hz mx5 pu5 => ?_⟩)
    have hv4 : sP x v H4 := hv
    refine (show tTup (tCons (tC v) (tCons (tC (.str z)) tNil)) ((wipe σ [10]).set 10 (some v)) H4 _ from (y_it (r := sP) (x := x) (y := z) (ya_cons (y_cs hv4) (ya_cons y_str ya_nil))) H4 (Same.refl _) _ fun v6 H6 s6 h6 => ?_)
    exact q v6 H6 (x, z) (mx5.trans (Mx.of s6)) (pu5.same s6) ⟨rfl, hz⟩ h6
  · obtain ⟨h1, h2⟩ := paired_keys hcs
    refine ((y_fzD (yn_cb (b_dictP (K := K) (r := sP) (xs := ys) (by rw [h1]; exact zn)) (y_cs h))) H3 (Same.refl _) Q fun v7 H7 s7 h7 => ?_)
    exact q v7 ys H7 h7 h1 h2 (mx3.trans (Mx.of s7)) (pu3.same s7)
end
def sp_l_chatty : Sp := fun vs H Q _ => ∃ (p : Addr) (k : Nat), vs = [.ref p] ∧ Pu p (k + 2000) H ∧
  ∀ v d ws H', rwP (d, ws) v H' → SpS d → ws.length ≤ 6 → (∀ x ∈ ws, spT x = true) → Mx [p] H H' → Pu p k H' → Q v H'
abbrev N_l_chatty : List Str := ["_law_purse_here", "_law_words_here", "_law_states", "_law_first", "_law_later", "_law_last", "_law_other", "_law_said", "_law_heard", "_law_book", "_law_word_here"]
theorem nd_l_chatty : N_l_chatty.Nodup := by decide
theorem c_l_chatty (T : Tf w K mg) : C8.Cal P w K mg base 5 "_law_chatty" sp_l_chatty [] := by
  refine T.cal (d := d_l_chatty) (N := N_l_chatty) (ps := ["_law_purse_here"]) 67 rfl rfl (by simp [fa, fa0, fa1, fa2, fa3]) rfl rfl (by decide +kernel) (fun vs H Q E h => by obtain ⟨_, _, rfl, _⟩ := h; rfl) (fun _ _ _ _ _ _ us hl => match us, hl with | [_], _ => rfl) (fun f cdv A outer s H vs Q E hr hsp => ?_)
  obtain ⟨p, k, rfl, hpu, hq⟩ := hsp
  refine ⟨_, (pss_cons (ps_par (i := 1) (j := 2) rfl nd_l_chatty rfl rfl (by decide) rfl rfl (pa_cons (C8.pe_c (c_l_words T) hr (by decide) rfl (pa_cons (pv 0) (pa_cons pe_int pa_nil))) (pa_cons (C8.pe_c (c_l_words T) hr (by decide) rfl (pa_cons (pv 0) (pa_cons pe_int pa_nil))) pa_nil)) (by rfl))
    (pss_cons (ps_asg (pv 2) (k_pg_unl (K := K) (n := 4) rfl rfl (pgs_cons (pg_name (i := 3) nd_l_chatty rfl (Or.inr rfl)) (pgs_cons (pg_name (i := 4) nd_l_chatty rfl (Or.inr rfl)) (pgs_cons (pg_name (i := 5) nd_l_chatty rfl (Or.inr rfl)) (pgs_cons (pg_name (i := 6) nd_l_chatty rfl (Or.inr rfl)) pgs_nil))))))
    (pss_cons (ps_par (i := 7) (j := 8) rfl nd_l_chatty rfl rfl (by decide) rfl rfl (pa_cons (pe_fz (pe_slice (k_sl_list (K := K) rfl) (C8.pe_c (c_l_shuffled T) hr (by decide) rfl (pa_cons (pv 0) (pa_cons (pv 1) pa_nil))) po_none (po_some (pe_op op_add pe_int (C8.pe_c (c_l_draw T) hr (by decide) rfl (pa_cons (pv 0) (pa_cons pe_int pa_nil))))))) (pa_cons (pe_fz (pe_slice (k_sl_list (K := K) rfl) (C8.pe_c (c_l_shuffled T) hr (by decide) rfl (pa_cons (pv 0) (pa_cons (pv 1) pa_nil))) po_none (po_some (pe_op op_add pe_int (C8.pe_c (c_l_draw T) hr (by decide) rfl (pa_cons (pv 0) (pa_cons pe_int pa_nil))))))) pa_nil)) (by rfl))
    (pss_cons (ps_set (i := 9) nd_l_chatty rfl (Or.inl rfl) (pe_disp (pps_cons (pv 5) (pe_tup (pa_cons pe_str (pa_cons (pe_fz pe_dnewK) pa_nil))) (pps_cons (pv 6) (pe_tup (pa_cons pe_str (pa_cons (pe_fz (pe_disp (pps_cons (pe_ix (k_ix_list (K := K) rfl) (pv 1) pe_int (fun _ _ => rfl)) (pv 6) pps_nil) (by rfl) (by rfl) (fun z => by cases z) (by decide))) pa_nil))) pps_nil)) (by rfl) (by rfl) (fun z => by cases z) (by decide)))
    (pss_cons (ps_dput (hu_of hr) (pv 9) (pv 3) (pe_tup (pa_cons pe_str (pa_cons (pe_fz (pe_callTy (k_dictP (K := K) rfl rfl) (by rfl) T.n_dict (by decide +kernel) (pa_cons (pe_fz (pe_lc (own := [("_law_word_here", 10)]) rfl nd_l_chatty (k_list (K := K) rfl (pv 7)) (blkOk_by (own := [("_law_word_here", 10)]) (by first | decide +kernel | rfl)) (fun _ _ _ _ _ => (pg_name (i := 10) nd_l_chatty rfl (Or.inl rfl))) (fun _ _ _ _ _ => pts_nil) (fun _ _ _ _ _ => (pe_tup (pa_cons (pv 10) (pa_cons (C8.pe_c (c_l_one_of T) hr (by decide) rfl (pa_cons (pv 0) (pa_cons (pe_fz (pe_lst (pa_cons (pv 4) (pa_cons (pv 4) (pa_cons (pv 5) (pa_cons (pv 3) pa_nil)))))) pa_nil))) pa_nil)))))) pa_nil))) pa_nil))) rfl)
    (pss_cons (ps_dput (hu_of hr) (pv 9) (pv 4) (pe_tup (pa_cons pe_str (pa_cons (pe_fz (pe_callTy (k_dictP (K := K) rfl rfl) (by rfl) T.n_dict (by decide +kernel) (pa_cons (pe_fz (pe_lc (own := [("_law_word_here", 10)]) rfl nd_l_chatty (k_list (K := K) rfl (pv 8)) (blkOk_by (own := [("_law_word_here", 10)]) (by first | decide +kernel | rfl)) (fun _ _ _ _ _ => (pg_name (i := 10) nd_l_chatty rfl (Or.inl rfl))) (fun _ _ _ _ _ => pts_nil) (fun _ _ _ _ _ => (pe_tup (pa_cons (pv 10) (pa_cons (C8.pe_c (c_l_one_of T) hr (by decide) rfl (pa_cons (pv 0) (pa_cons (pe_fz (pe_lst (pa_cons (pv 5) (pa_cons (pv 5) (pa_cons (pv 3) (pa_cons (pv 6) pa_nil)))))) pa_nil))) pa_nil)))))) pa_nil))) pa_nil))) rfl)
    (pss_one (ps_ret (pe_fz (pe_lst (pa_cons (pe_fz (pe_lst (pa_cons (pe_fz (pv 9)) (pa_cons (C8.pe_c (c_l_one_of T) hr (by decide) rfl (pa_cons (pv 0) (pa_cons (pe_fz (pe_lst (pa_cons (pv 3) (pa_cons (pv 3) (pa_cons (pv 4) pa_nil))))) pa_nil))) pa_nil)))) (pa_cons (pv 1) pa_nil)))))))))))), ?_⟩
  refine ys_seq (show tPar _ _ _ _ _ _ from cp_words (n := 6) (k := k + 1900) rfl y_int (by decide) hpu fun v1 ws H1 hws wl wnd wsp mx1 pu1 => cp_words (n := 4) (k := k + 1800) rfl y_int (by decide) pu1 fun v2 ss H2 hss sl snd ssp mx2 pu2 => ⟨_, _, rfl, ?_⟩)
  obtain ⟨a, b, c, d, rfl⟩ := four_is sl
  obtain ⟨g, g2, g3, g4, r, ew⟩ := four_of (l := ws) (by omega)
  have hw2 : lP sP ws v1 H2 := Sty.up (pu1.up mx2) hws
  have sp_a := ssp a (by simp)
  have sp_b := ssp b (by simp)
  have sp_c := ssp c (by simp)
  have sp_d := ssp d (by simp)
  have sp_g := wsp g (by rw [ew]; simp)
  have nd4 : [c, d, a, b].Nodup := (show ([a, b] ++ [c, d]).Perm ([c, d] ++ [a, b]) from List.perm_append_comm).nodup_iff.mp snd
  have nd3 : [c, d, a].Nodup := nd4.sublist (by simp)
  have nd2 : [c, d].Nodup := nd4.sublist (by simp)
  have na : a ∉ [c, d] := fun z => (List.nodup_append.mp (show ([c, d] ++ [a]).Nodup from nd3)).2.2 a z a (List.mem_singleton.mpr rfl) rfl
  have nb : b ∉ [c, d, a] := fun z => (List.nodup_append.mp (show ([c, d, a] ++ [b]).Nodup from nd4)).2.2 b z b (List.mem_singleton.mpr rfl) rfl
  refine nx_ (ys_seq (ys_un4 (a := a) (b := b) (c := c) (d := d) (y_var rfl hss) fun H3 s3 => ?_))
  have pu3 := pu2.same s3
  have hw3 : lP sP ws v1 H3 := up_ s3 hw2
  refine nx_ (ys_seq (show tPar _ _ _ _ _ _ from cp_some (ws := ws) (k := k + 1700) rfl rfl hw3 wl wnd (pu3.le (by omega)) fun v7 said H4 h7 n7 e7 l7 m7 mx4 pu4 => cp_some (ws := ws) (k := k + 1600) rfl rfl (Sty.up (pu3.up mx4) hw3) wl wnd (pu4.le (by omega)) fun v8 heard H5 h8 n8 e8 l8 m8 mx5 pu5 => ⟨_, _, rfl, ?_⟩))
  have hw5 : lP sP ws v1 H5 := Sty.up (pu4.up mx5) (Sty.up (pu3.up mx4) hw3)
  have h75 : lP sP said v7 H5 := Sty.up (pu4.up mx5) h7
  have mx05 : Mx [p] H H5 := (((mx1.trans mx2).trans (Mx.of s3)).trans mx4).trans mx5
  refine nx_ (ys_seq (ys_new (yn_disp (r := rP) (xs := ([(c, (("done", []) : Row)), (d, (("hears", [(g, d)]) : Row))] : Book)) (yd_cons (y_var rfl rfl) (y_row (x := "done") (d := []) (ya_cons y_str (ya_cons (y_fzD yn_newK) ya_nil))) (yd_cons (y_var rfl rfl) (y_row (x := "hears") (d := [(g, d)]) (ya_cons y_str (ya_cons (y_fzD (yn_disp (xs := [(g, d)]) (yd_cons (y_ixl (xs := ws) (i := 0) (y_var rfl hw5) y_int (by rw [ew]; rfl)) (y_var rfl rfl) yd_nil) dis1)) ya_nil))) yd_nil)) (dis2 nd2)) fun f H6 u s6 nf ef rf => ?_))
  have fp : f ≠ p := pu5.ne nf
  have nf0 : H f = none := mx_none mx05 nf fp
  have mx6 : Mx [p] H H6 := mx05.trans (Mx.of s6)
  have pu6 := pu5.same s6
  have md6 : Md rP ([(c, (("done", []) : Row)), (d, (("hears", [(g, d)]) : Row))] : Book) f H6 := by
    obtain ⟨vs, rfl, al, z⟩ := rf
    exact ⟨vs, ef, al, nd2, z⟩
  have ra : ∀ t ∈ ([(c, (("done", []) : Row)), (d, (("hears", [(g, d)]) : Row))] : Book), RowD [c, d, a, b] t.2 := all2 rowD_done (rowD_hears (d := [(g, d)]) (by simp [keys]) (by simp) (all1 ⟨sp_g, by simp⟩) (by simp))
  have k6 : keys ([(c, (("done", []) : Row)), (d, (("hears", [(g, d)]) : Row))] : Book) = [c, d] := rfl
  generalize ([(c, (("done", []) : Row)), (d, (("hears", [(g, d)]) : Row))] : Book) = B at md6 ra k6
  have bl : B.length = 2 := by rw [← keys_length, k6]; rfl
  have rowOf : ∀ (zs : List Str) (dd : List (Str × Str)) (opts : List Str), keys dd = zs → zs.Nodup → zs ≠ [] → zs.length ≤ 6 → (∀ x ∈ zs, x ∈ ws) → (∀ t ∈ dd, t.2 ∈ opts) → (∀ x ∈ opts, x ∈ [c, d, a, b]) → (keys dd).Nodup ∧ dd.length ≤ 6 ∧ (∀ t ∈ dd, spT t.1 = true ∧ t.2 ∈ [c, d, a, b]) ∧ dd ≠ [] := by
    intro zs dd opts hk hn he hl hm ho hs
    refine ⟨by rw [hk]; exact hn, by rw [← keys_length, hk]; exact hl, fun t ht => ⟨wsp _ (hm _ (hk ▸ mem_keys ht)), hs _ (ho t ht)⟩, fun z => he ?_⟩
    rw [← hk, z]
    rfl
  refine nx_ (ys_seq (sdput_row (cp_dict (zs := said) (opts := [b, b, c, a]) (k := k + 1500) (Sty.up (up_same s6) h75) n7 l7 rfl (fun v => rfl) (fun v => rfl) (fun v => rfl) (fun v H1 => y_fzl (yn_lsts (r := sP) (yl_cons (y_var rfl rfl) (yl_cons (y_var rfl rfl) (yl_cons (y_var rfl rfl) (yl_cons (y_var rfl rfl) yl_nil)))))) (by simp) (by simp) (pu6.le (by omega)) fun vd dd H7 hd kd od mx7 pu7 => ys_dput (r := rP) (k := a) (x := ("says", dd)) (y_row (x := "says") (d := dd) (ya_cons y_str (ya_cons (y_cs hd) ya_nil))) rfl (md6.mx pu6 mx7 fp) (y_var rfl rfl) (by omega) fun H8 mx8 md8 => ?_)))
  have pu8 := pu7.mx mx8 fp
  have mx68 : Mx [p, f] H6 H8 := (mx_l mx7).trans (mx_r mx8)
  obtain ⟨q1, q2, q3, q4⟩ := rowOf said dd _ kd n7 e7 l7 m7 od (by simp)
  have k8 : keys (put B a (("says", dd) : Row)) = [c, d, a] := by rw [keys_put, if_neg (by rw [k6]; exact na), k6]; rfl
  have ra8 : ∀ t ∈ put B a (("says", dd) : Row), RowD [c, d, a, b] t.2 := fun t ht => by
    rcases mem_put_iff ht with e | e
    · rw [e]; exact rowD_says q1 q2 q3 q4
    · exact ra t e
  generalize put B a (("says", dd) : Row) = B2 at md8 k8 ra8
  have bl2 : B2.length = 3 := by rw [← keys_length, k8]; rfl
  have up68 : Up H6 H8 := mx68.up (ni_two pu6 md6.ni)
  have h88 : lP sP heard v8 H8 := Sty.up up68 (up_ s6 h8)
  have hw8 : lP sP ws v1 H8 := Sty.up up68 (up_ s6 hw5)
  refine nx_ (ys_seq (sdput_row (cp_dict (zs := heard) (opts := [c, c, a, d]) (k := k + 1400) h88 n8 l8 rfl (fun v => rfl) (fun v => rfl) (fun v => rfl) (fun v H1 => y_fzl (yn_lsts (r := sP) (yl_cons (y_var rfl rfl) (yl_cons (y_var rfl rfl) (yl_cons (y_var rfl rfl) (yl_cons (y_var rfl rfl) yl_nil)))))) (by simp) (by simp) (pu8.le (by omega)) fun vd2 dd2 H9 hd2 kd2 od2 mx9 pu9 => ys_dput (r := rP) (k := b) (x := ("hears", dd2)) (y_row (x := "hears") (d := dd2) (ya_cons y_str (ya_cons (y_cs hd2) ya_nil))) rfl (md8.mx pu8 mx9 fp) (y_var rfl rfl) (by omega) fun H10 mx10 md10 => ?_)))
  have pu10 := pu9.mx mx10 fp
  have mx810 : Mx [p, f] H8 H10 := (mx_l mx9).trans (mx_r mx10)
  obtain ⟨r1, r2, r3, r4⟩ := rowOf heard dd2 _ kd2 n8 e8 l8 m8 od2 (by simp)
  have k10 : keys (put B2 b (("hears", dd2) : Row)) = [c, d, a, b] := by rw [keys_put, if_neg (by rw [k8]; exact nb), k8]; rfl
  have ra10 : ∀ t ∈ put B2 b (("hears", dd2) : Row), RowD [c, d, a, b] t.2 := fun t ht => by
    rcases mem_put_iff ht with e | e
    · rw [e]; exact rowD_hears r1 r2 r3 r4
    · exact ra8 t e
  generalize put B2 b (("hears", dd2) : Row) = B3 at md10 k10 ra10
  have up810 : Up H8 H10 := mx810.up (ni_two pu8 md8.ni)
  have hw10 : lP sP ws v1 H10 := Sty.up up810 hw8
  refine nx_ (tret_w1 (y_fzMd rfl md10 _ fun vb H11 mx11 hb => ?_))
  have pu11 := pu10.mx mx11 fp
  have hw11 : lP sP ws v1 H11 := Sty.up (mx11.up fun q hq u e => by rw [List.mem_singleton.mp hq] at e; exact md10.ni u e) hw10
  refine tret_w2 (cp_one (xs := [a, a, b]) (k := k) rfl (y_fzl (yn_lsts (r := sP) (yl_cons (y_var rfl rfl) (yl_cons (y_var rfl rfl) (yl_cons (y_var rfl rfl) yl_nil))))) (by simp) (by simp) (pu11.le (by omega)) fun x H12 hx mx12 pu12 => ?_)
  have hb12 : dP rP B3 vb H12 := Sty.up (pu11.up mx12) hb
  have hw12 : lP sP ws v1 H12 := Sty.up (pu11.up mx12) hw11
  refine ys_ret (y_fzL (yn_lst (ya_cons (y_wld (x := x) (y_cs hb12) y_str) (ya_cons (y_var rfl hw12) ya_nil)))) fun v13 H13 s13 h13 => ?_
  refine hq v13 (B3, x) ws H13 h13 (spw_of k10 nd4 (by simp [sp_a, sp_b, sp_c, sp_d]) (by simp) ra10 ?_) (by omega) wsp (mx_drop nf0 mx6 (((mx68.trans mx810).trans (mx_r mx11)).trans ((mx_l mx12).trans (Mx.of s13)))) ((pu12.same s13).le (by omega))
  have : x = a ∨ x = b := by simpa using hx
  rcases this with e | e <;> simp [e]
end En
set_option maxHeartbeats 4000000
/-! A word more. -/
namespace En
open PySem PySem.Spec PyProof.Rows L2
variable {P : Program} {w : World} {K : PySem.W.Frag} {mg : Str → Option Value} {base : Heap}
theorem norm_row (b : Book) (s : Str) : (look (normB b) s).1 = (look b s).1 ∧ (∀ wd, wd ∈ keys (look (normB b) s).2 ↔ wd ∈ keys (look b s).2) ∧ (look (normB b) s).2.length = (look b s).2.length := by
  refine ⟨by rw [look_normB]; rfl, fun wd => by rw [look_normB, keys_normR, mem_sortS], ?_⟩
  rw [look_normB, ← keys_length, ← keys_length, keys_normR]
  exact (sortS_perm _).length_eq
theorem add_ok {d : World'} (h : SpW d) {x wd g : Str} (hx : x ∈ keys d.1) (hk : (look d.1 x).1 = "hears") (hw : wd ∉ keys (look d.1 x).2) (sw : spT wd = true) (hg : g ∈ keys d.1) (hl : (look d.1 x).2.length < 6) : AddOk (normB d.1, d.2) (x, wd, g) := by
  obtain ⟨n1, n2, n3⟩ := norm_row d.1 x
  refine ⟨sp_norm h.b, by rw [keys_normB, mem_sortS]; exact h.s, by rw [keys_normB, mem_sortS]; exact hx, by rw [← hk]; exact n1, fun z => hw ((n2 wd).mp z), sw, by rw [keys_normB, mem_sortS]; exact hg, ?_⟩
  show (look (normB d.1) x).2.length < 60
  omega
def sp_l_more_right (K : PySem.W.Frag) : Sp := fun vs H Q _ => ∃ (p : Addr) (v2 v3 v4 : V) (d : World') (ws : List Str) (k : Nat), vs = [.ref p, v2, v3, v4] ∧ wP d v2 H ∧ dkP K (normB d.1, d.2) v3 H ∧ lP sP ws v4 H ∧ SpW d ∧ (∀ x ∈ ws, spT x = true) ∧ ws.length ≤ 6 ∧ Pu p (k + 10) H ∧
  ∀ H', Mx [p] H H' → Pu p k H' → Q (.bl true) H'
abbrev N_l_more_right : List Str := ["_law_purse_here", "_law_world_here", "_law_desk_here", "_law_words_here", "_law_state", "_law_hearing", "_law_free", "_law_late", "_law_word_here"]
theorem nd_l_more_right : N_l_more_right.Nodup := by decide
theorem c_l_more_right (T : Tf w K mg) : C8.Cal P w K mg base 10 "_law_more_right" (sp_l_more_right K) [] := by
  refine T.cal (d := d_l_more_right) (N := N_l_more_right) (ps := ["_law_purse_here", "_law_world_here", "_law_desk_here", "_law_words_here"]) 73 rfl rfl (by simp [fa, fa0, fa1, fa2, fa3]) rfl rfl (by decide +kernel) (fun vs H Q E h => by obtain ⟨_, _, _, _, _, _, _, rfl, _⟩ := h; rfl) (fun _ _ _ _ _ _ us hl => match us, hl with | [_, _, _, _], _ => rfl) (fun f cdv A outer s H vs Q E hr hsp => ?_)
  obtain ⟨p, v2, v3, v4, d, ws, k, rfl, h_world, h_desk, h_words, hd, wsp, wl, hpu, hq⟩ := hsp
  refine ⟨_, (pss_cons (ps_setLcF (i := 5) (own := [("_law_state", 4)]) rfl nd_l_more_right rfl rfl (sw_true rfl rfl rfl (by decide +kernel)) (k_list (K := K) rfl (pe_fz (pe_callB (call_sortedD rfl) (by rfl) T.n_sorted (by decide +kernel) (pa_cons (pe_ix (k_ix_list (K := K) rfl) (pv 1) pe_int (fun _ _ => rfl)) pa_nil)))) (blkOk_by (own := [("_law_state", 4)]) (by first | decide +kernel | rfl)) (fun _ _ _ _ _ => (pg_name (i := 4) nd_l_more_right rfl (Or.inl rfl))) (fun _ _ _ _ _ => (pts_one (pt_cmpR op_eq (pe_ix (k_ix_tup (K := K) rfl) (pe_dget (hu_of hr) (pe_ix (k_ix_list (K := K) rfl) (pv 1) pe_int (fun _ _ => rfl)) (pv 4) (fun _ _ => rfl)) pe_int (fun _ _ => rfl)) pe_str (nomark _)))) (fun _ _ _ _ _ => (pv 4)))
    (pss_cons (ps_for PassesOwn.never rfl (k_list (K := K) rfl (pe_fz (pe_slice (k_sl_list (K := K) rfl) (pv 5) po_none (po_some pe_int)))) (pg_name (i := 4) nd_l_more_right rfl (Or.inr rfl))
    (pss_cons (ps_setLcF (i := 6) (own := [("_law_word_here", 8)]) rfl nd_l_more_right rfl rfl (sw_true rfl rfl rfl (by decide +kernel)) (k_list (K := K) rfl (pv 3)) (blkOk_by (own := [("_law_word_here", 8)]) (by first | decide +kernel | rfl)) (fun _ _ _ _ _ => (pg_name (i := 8) nd_l_more_right rfl (Or.inl rfl))) (fun _ _ _ _ _ => (pts_one (pt_cmp (pc_dnotin (hu_of hr) (pv 8) (pe_ix (k_ix_tup (K := K) rfl) (pe_dget (hu_of hr) (pe_ix (k_ix_list (K := K) rfl) (pv 1) pe_int (fun _ _ => rfl)) (pv 4) (fun _ _ => rfl)) pe_int (fun _ _ => rfl))) rfl))) (fun _ _ _ _ _ => (pv 8)))
    (pss_one (ps_if (PW.pt (pw_and (pt_cmpR (k_neD (K := K) rfl (hu64 hr)) (pv 6) (pe_fz (pe_lst pa_nil)) (nomark _)) (pw_and1 (pt_cmpR op_lt (pe_callB (k_lenA (K := K) rfl) (by rfl) T.n_len (by decide +kernel) (pa_cons (pe_ix (k_ix_tup (K := K) rfl) (pe_dget (hu_of hr) (pe_ix (k_ix_list (K := K) rfl) (pv 1) pe_int (fun _ _ => rfl)) (pv 4) (fun _ _ => rfl)) pe_int (fun _ _ => rfl)) pa_nil)) pe_int (nomark _))))) (pss_cons (ps_set (i := 7) nd_l_more_right rfl (Or.inl rfl) (C8.pe_c (c_changed T) hr (by decide) rfl (pa_cons (pv 2) (pa_cons (pe_tup (pa_cons pe_str (pa_cons (pv 4) (pa_cons (C8.pe_c (c_l_one_of T) hr (by decide) rfl (pa_cons (pv 0) (pa_cons (pv 6) pa_nil))) (pa_cons (C8.pe_c (c_l_one_of T) hr (by decide) rfl (pa_cons (pv 0) (pa_cons (pe_fz (pe_callB (call_sortedD rfl) (by rfl) T.n_sorted (by decide +kernel) (pa_cons (pe_ix (k_ix_list (K := K) rfl) (pv 1) pe_int (fun _ _ => rfl)) pa_nil))) pa_nil))) pa_nil))))) pa_nil))))
    (pss_one (ps_if (pt_cmpR op_notBl (C8.pe_c (c_stands T) hr (by decide) rfl (pa_cons (pv 2) (pa_cons (pv 7) pa_nil))) pe_bl (nomark _)) (pss_one (ps_ret pe_bl))
    pss_nil)))
    pss_nil))))
    (pss_one (ps_ret pe_bl)))), ?_⟩
  have blen := hd.b.wf.len
  refine ys_seq (ys_set (y_fzl (yn_lc (r' := sP) (fun s => decide ((look d.1 s).1 = "hears")) (fun s => s) (yi_l (y_fzl (yn_sortedD (y_w0 (y_var rfl h_world)) blen))) (fun x1 m1 v1 H1 s1 h1 => bd1 ⟨rfl, (yt_test (y_op r_eqS (y_r0 (y_dget (y_w0 (y_var rfl (up_ s1 h_world))) (y_var rfl h1) (mem_sortS.mp m1))) y_str)), fun e1 => (y_var rfl h1)⟩))) fun v5 H2 s2 h5 => ?_)
  rw [List.map_id'] at h5
  have hin : ∀ x ∈ ((sortS (keys d.1)).filter fun s => decide ((look d.1 s).1 = "hears")).take 2, x ∈ keys d.1 ∧ (look d.1 x).1 = "hears" := fun x hx => by
    have := List.mem_filter.mp (List.mem_of_mem_take hx)
    exact ⟨mem_sortS.mp this.1, of_decide_eq_true this.2⟩
  have htl : (((sortS (keys d.1)).filter fun s => decide ((look d.1 s).1 = "hears")).take 2).length ≤ 2 := by rw [List.length_take]; omega
  generalize (sortS (keys d.1)).filter (fun s => decide ((look d.1 s).1 = "hears")) = zs at h5 hin htl
  have pu2 := hpu.same s2
  refine nx_ (ys_seq (ys_for (r := sP) (xs := zs.take 2) (yi_l (y_fzl (yn_slTo (n := 2) (y_var rfl h5) y_int))) fun H3 s3 => ⟨fun i σ' H' => ∃ (a b c e : Option V), σ' = [some (.ref p), some v2, some v3, some v4, a, some v5, b, c, e] ∧ Mx [p] H3 H' ∧ Pu p (k + ((zs.take 2).length - i) * 2) H', ⟨_, _, _, _, rfl, Mx.rfl, (pu2.same s3).le (by omega)⟩, ?_, ?_, ?_⟩))
  · rintro i σ' H' ⟨a, b, c, e, rfl, mx, pu⟩
    exact (pu2.same s3).up mx
  · rintro i x σ' H' hx ⟨a, b, c, e, rfl, mx, pu⟩ v H4 s4 hv
    have hlt : i < (zs.take 2).length := (List.getElem?_eq_some_iff.mp hx).1
    obtain ⟨xk, xh⟩ := hin x (List.mem_of_getElem? hx)
    have ec : k + ((zs.take 2).length - i) * 2 = ((k + ((zs.take 2).length - (i + 1)) * 2) + 1) + 1 := by omega
    rw [ec] at pu
    have pu4 := pu.same s4
    have up04 : Up H H4 := (up_same (s2.trans s3)).trans (((pu2.same s3).up mx).trans (up_same s4))
    have hw4 : wP d v2 H4 := Sty.up up04 h_world
    have hd4 : dkP K (normB d.1, d.2) v3 H4 := Sty.up up04 h_desk
    have hws4 : lP sP ws v4 H4 := Sty.up up04 h_words
    have hv4 : sP x v H4 := hv
    refine ys_seq (ys_set (y_fzl (yn_lc (r' := sP) (fun wd => !has (look d.1 x).2 wd) (fun s => s) (yi_l (y_var rfl hws4)) (fun x4 m4 v4 H5 s5 h4 => bd1 ⟨rfl, (yt_b (y_dnotin (y_var rfl h4) (y_r1 (y_dget (y_w0 (y_var rfl (up_ s5 hw4))) (y_var rfl (up_ s5 hv4)) xk)))), fun e4 => (y_var rfl h4)⟩))) fun v6 H5 s5 h6 => ?_)
    rw [List.map_id'] at h6
    have hfr : ∀ y ∈ ws.filter (fun wd => !has (look d.1 x).2 wd), spT y = true ∧ y ∉ keys (look d.1 x).2 := fun y hy => by
      obtain ⟨m1, m2⟩ := List.mem_filter.mp hy
      refine ⟨wsp y m1, fun z => ?_⟩
      rw [has_iff.mpr z] at m2
      cases m2
    have hfl : (ws.filter (fun wd => !has (look d.1 x).2 wd)).length ≤ 6 := Nat.le_trans (List.length_filter_le _ _) wl
    generalize ws.filter (fun wd => !has (look d.1 x).2 wd) = fr at h6 hfr hfl
    have s45 := s4.trans s5
    have pu5 := pu4.same s5
    have back : ∀ (H9 : Hp) (a b c e : Option V), Mx [p] H5 H9 → Pu p (k + ((zs.take 2).length - (i + 1)) * 2) H9 → ∃ (a' b' c' e' : Option V), [some (.ref p), some v2, some v3, some v4, a, some v5, b, c, e] = [some (.ref p), some v2, some v3, some v4, a', some v5, b', c', e'] ∧ Mx [p] H3 H9 ∧ Pu p (k + ((zs.take 2).length - (i + 1)) * 2) H9 := fun H9 a b c e m pu => ⟨a, b, c, e, rfl, (mx.trans (Mx.of s45)).trans m, pu⟩
    refine nx_ (ys_if (yt_and (yt_test (y_neNilS (y_var rfl h6) (fun y hy => spT_ok (hfr y hy).1))) fun b6 => (yt_test (y_op r_lt (y_lenD (y_r1 (y_dget (y_w0 (y_var rfl (up_ s5 hw4))) (y_var rfl (up_ s5 hv4)) xk))) y_int))) (fun b7 H7 s7 => ?_) (fun b7 H7 s7 => ?_))
    · rw [Bool.and_eq_true] at b7
      have fne : fr ≠ [] := fun z => by rw [z] at b7; cases b7.1
      have rl : (look d.1 x).2.length < 6 := by have := of_decide_eq_true b7.2; omega
      have hd7 := up_ (s5.trans s7) hd4
      have kne : sortS (keys d.1) ≠ [] := fun z => by
        have : d.2 ∈ sortS (keys d.1) := mem_sortS.mpr hd.s
        rw [z] at this
        cases this
      have kl : (sortS (keys d.1)).length < 1000 := by rw [(sortS_perm _).length_eq, keys_length]; omega
      refine ys_seq (show tAsg _ _ _ _ _ from ⟨_, rfl, _, rfl, cp_one (xs := fr) (k := (k + ((zs.take 2).length - (i + 1)) * 2) + 1) rfl (y_var rfl (up_ s7 h6)) fne (by omega) (pu5.same s7) fun wd H8 hwd mx8 pu8 => cp_one (xs := sortS (keys d.1)) (k := k + ((zs.take 2).length - (i + 1)) * 2) rfl (y_fzl (yn_sortedD (y_w0 (y_var rfl (Sty.up ((pu5.same s7).up mx8) (up_ (s5.trans s7) hw4)))) blen)) kne kl pu8 fun g H9 hg mx9 pu9 => ⟨by rw [sizeLine_eq]; simp, fun t nt => ?_⟩⟩)
      have ok := add_ok hd xk xh (hfr wd hwd).2 (hfr wd hwd).1 (mem_sortS.mp hg) rl
      have s10 := same_new (.tup [.str "add", v, .str wd, .str g]) nt
      have hc : chP (x, wd, g) (.ref t) (upd H9 t (.tup [.str "add", v, .str wd, .str g])) := ⟨t, _, rfl, L2.upd_same, ⟨rfl, hv4, rfl, rfl, trivial⟩, by rw [sizeLine_eq]; simp⟩
      have hd9 : dkP K (normB d.1, d.2) v3 H9 := Sty.up (((pu5.same s7).up mx8).trans (pu8.up mx9)) hd7
      refine ⟨v3, .ref t, (normB d.1, d.2), (x, wd, g), rfl, up_ s10 hd9, hc, ok, fun v7 H11 s11 h7 => ?_⟩
      have s911 := s10.trans s11
      refine nx_ (ys_if (b := false) (yt_test (Y.eqB (y_op r_notB (y_call2 (y_var rfl (up_ s911 hd9)) (y_var rfl h7) ⟨⟨wf_norm hd.b.wf, ok.st⟩, wf_norm (sp_more ok).wf, by rw [keys_normB, mem_sortS]; unfold moreB; exact mem_put.mpr (.inr ok.st)⟩) y_bl) (by
        show (standsB (normB d.1, d.2) (normB (moreB (normB d.1) x wd g), d.2) != true) = false
        rw [more_norm hd.b.wf ok.hk ok.wd]
        rfl))) (fun b9 _ _ => by cases b9) (fun b9 H12 s12 => ?_))
      exact back H12 _ _ _ _ ((((Mx.of s7).trans mx8).trans mx9).trans (Mx.of (s911.trans s12))) (pu9.same (s911.trans s12))
    · exact back H7 _ _ _ _ (Mx.of s7) ((pu5.same s7).le (by omega))
  · rintro σ' H' ⟨a, b, c, e, rfl, mx, pu⟩
    exact nx_ (hq H' ((Mx.of (s2.trans s3)).trans mx) (pu.le (by omega)))
end En
set_option maxHeartbeats 4000000
/-! What the law's questions come to. -/
namespace En
open PySem PySem.Spec PyProof.Rows L2
variable {P : Program} {w : World} {K : PySem.W.Frag} {mg : Str → Option Value} {base : Heap}
/-! ### ascending -/
theorem lt_irr (a : List Nat) : ¬ a < a := List.lt_irrefl a
theorem ltP_irr (a : Str × Str) : ltP a a = false := by
  unfold ltP
  rw [if_pos rfl]
  exact decide_eq_false (lt_irr _)
theorem ltP_asym {a b : Str × Str} (h : ltP a b = true) : ltP b a = false := by
  unfold ltP at h ⊢
  by_cases e : a.1 = b.1
  · rw [if_pos e] at h
    rw [if_pos e.symm]
    exact decide_eq_false fun z => lt_irr _ (List.lt_trans z (of_decide_eq_true h))
  · rw [if_neg e] at h
    rw [if_neg (fun z => e z.symm)]
    exact decide_eq_false fun z => lt_irr _ (List.lt_trans z (of_decide_eq_true h))
theorem ltS_of {a b : Str} (h : leS a b = true) (ne : a ≠ b) : a.cps.toList < b.cps.toList := by
  apply Classical.byContradiction
  intro n
  exact ne (leS_anti a b h ((leS_iff b a).mpr n))
theorem ltP_tot {a b : Str × Str} (h : ltP b a = false) (ne : a ≠ b) : ltP a b = true := by
  unfold ltP at h ⊢
  by_cases e : a.1 = b.1
  · rw [if_pos e.symm] at h
    rw [if_pos e]
    have h2 := of_decide_eq_false h
    exact decide_eq_true (ltS_of ((leS_iff _ _).mpr h2) fun z => ne (Prod.ext e z))
  · rw [if_neg (fun z => e z.symm)] at h
    rw [if_neg e]
    have h2 := of_decide_eq_false h
    exact decide_eq_true (ltS_of ((leS_iff _ _).mpr h2) e)
abbrev AscP (l : List (Str × Str)) : Prop := l.Pairwise fun a b => ltP a b = true
theorem asc_at {l : List (Str × Str)} {i : Nat} (h : i < l.length) : l[i]?.getD default = l[i] := by
  rw [List.getElem?_eq_getElem h]
  rfl
theorem ascB_of {l : List (Str × Str)} (h : AscP l) : ascB l = true := by
  unfold ascB
  rw [List.all_eq_true]
  intro i hi
  have h1 := List.mem_range.mp hi
  rw [asc_at (by omega), asc_at (by omega)]
  exact List.pairwise_iff_getElem.mp h i (i + 1) (by omega) (by omega) (by omega)
theorem ascB_no {l m : List (Str × Str)} {a b : Str × Str} (h : ltP a b = false) : ascB (l ++ [a, b] ++ m) = false := by
  unfold ascB
  rw [List.all_eq_false]
  refine ⟨l.length, List.mem_range.mpr (by simp), ?_⟩
  rw [show (l ++ [a, b] ++ m)[l.length]? = some a by simp, show (l ++ [a, b] ++ m)[l.length + 1]? = some b by simp]
  show ¬ ltP a b = true
  rw [h]
  simp
theorem asc_sortS {l : List Str} (h : l.Nodup) : (sortS l).Pairwise fun a b => a.cps.toList < b.cps.toList :=
  ((sortS_sorted l).and ((sortS_perm l).nodup_iff.mpr h)).imp fun ⟨h1, h2⟩ => ltS_of h1 h2
theorem asc_items {b : Book} (h : WfB b) (kd : Str) : AscP (itemsOf b kd) := by
  unfold itemsOf AscP
  rw [List.pairwise_flatMap]
  refine ⟨fun st hs => ?_, (asc_sortS h.nd).imp_of_mem fun {s t} hs ht hst x hx y hy => ?_⟩
  · split
    · rw [List.pairwise_map]
      refine (asc_sortS (h.at (mem_sortS.mp hs)).nd).imp fun hab => ?_
      unfold ltP
      rw [if_pos rfl]
      exact decide_eq_true hab
    · exact List.Pairwise.nil
  · have e1 : x.1 = s := by
      split at hx
      · obtain ⟨_, _, rfl⟩ := List.mem_map.mp hx; rfl
      · cases hx
    have e2 : y.1 = t := by
      split at hy
      · obtain ⟨_, _, rfl⟩ := List.mem_map.mp hy; rfl
      · cases hy
    unfold ltP
    rw [e1, e2, if_neg (fun z => by rw [z] at hst; exact lt_irr _ hst)]
    exact decide_eq_true hst
theorem mem_items {b : Book} (h : WfB b) {kd : Str} {p : Str × Str} : p ∈ itemsOf b kd ↔ p ∈ wordsAt b kd := by
  rw [words_look h]
  unfold itemsOf
  rw [List.mem_flatMap]
  constructor
  · rintro ⟨st, hs, hp⟩
    split at hp
    · obtain ⟨wd, hw, rfl⟩ := List.mem_map.mp hp
      exact ⟨mem_sortS.mp hs, by assumption, mem_sortS.mp hw⟩
    · cases hp
  · rintro ⟨h1, h2, h3⟩
    refine ⟨p.1, mem_sortS.mpr h1, ?_⟩
    rw [if_pos h2]
    exact List.mem_map.mpr ⟨p.2, mem_sortS.mpr h3, rfl⟩
theorem nodup_asc {l : List (Str × Str)} (h : AscP l) : l.Nodup := h.imp fun {a b} hab e => by
  rw [e, ltP_irr] at hab
  cases hab
open PySem.W in
theorem asc_sortP {l : List (Str × Str)} (h : l.Nodup) : AscP (sortP l) := by
  have t := PySem.W.sortLe_total (listOrd itemOrd) false fun b : Str × Str => keyToks (dPr b)
  have s : (sortP l).Pairwise (fun a b => dataLe false dPr a b = true) := List.pairwise_mergeSort t.trans (fun a b => by rw [Bool.or_eq_true]; exact t.total a b) l
  have n : (sortP l).Nodup := (sortP_perm l).nodup_iff.mpr h
  refine (s.and n).imp fun {a b} ⟨h1, h2⟩ => ltP_tot ?_ h2
  rw [dataLe_eq] at h1
  have h3 : (!dataLt (dPr b) (dPr a)) = true := h1
  rw [dataLt_p] at h3
  rw [Bool.not_eq_true'] at h3
  exact h3
theorem lots_sub : ∀ (xs : List (Str × Str)) (f : List (List (Str × Str))) (pre : List (Str × Str)), (∀ l ∈ f, l.Sublist pre) → ∀ l ∈ lots xs f, l.Sublist (pre ++ xs)
  | [], f, pre, h, l, hl => by rw [List.append_nil]; exact h l hl
  | x :: xs, f, pre, h, l, hl => by
    have := lots_sub xs (f ++ f.map fun l => l ++ [x]) (pre ++ [x]) (fun m hm => by
      rcases List.mem_append.mp hm with z | z
      · exact (h m z).trans (List.sublist_append_left _ _)
      · obtain ⟨m', hm', rfl⟩ := List.mem_map.mp z
        exact (h m' hm').append (List.Sublist.refl _)) l hl
    rwa [List.append_assoc] at this
/-! ### spare -/
def toWi (p : Str × Str) : Wi := .two (some p.1) (some p.2)
theorem toWi_map (l : List (Str × Str)) : (l.map toWi).map wiPair = l := by
  rw [List.map_map]
  exact List.map_id' l
theorem words_norm {b : Book} (h : WfB b) {k : Str} {p : Str × Str} : p ∈ wordsAt (normB b) k ↔ p ∈ wordsAt b k := by
  obtain ⟨n1, n2, _⟩ := norm_row b p.1
  rw [words_look h, words_look (wf_norm h), keys_normB, mem_sortS, n1, n2]
theorem words_sp {b : Book} (h : SpB b) {k : Str} {p : Str × Str} (hp : p ∈ wordsAt b k) : spT p.1 = true ∧ spT p.2 = true := by
  obtain ⟨r, hr, _, h1, h2⟩ := wordsAt_mem.mp hp
  obtain ⟨t, ht, e⟩ := List.mem_map.mp h2
  exact ⟨by rw [h1]; exact h.st _ (mem_keys hr), e ▸ h.wd r hr t ht⟩
theorem spare_exact {d : World'} (h : SpW d) {lot : List (Str × Str)} (hm : ∀ p ∈ lot, p ∈ wordsAt d.1 "hears") (ha : AscP lot) : (listB (normB d.1) "hears" (.lst (lot.map toWi)) && spareV (normB d.1, d.2) (.lst (lot.map toWi))) = spareB d lot := by
  have e1 : (lot.map toWi).all wiB = true := by
    rw [List.all_map, List.all_eq_true]
    intro p hp
    obtain ⟨q1, q2⟩ := words_sp h.b (hm p hp)
    show (spT p.1 && spT p.2) = true
    rw [q1, q2]
    rfl
  have e2 : (lot.all fun p => decide (p ∈ wordsAt (normB d.1) "hears")) = true := by
    rw [List.all_eq_true]
    exact fun p hp => decide_eq_true ((words_norm h.b.wf).mpr (hm p hp))
  show (((lot.map toWi).all wiB && (ascB ((lot.map toWi).map wiPair) && ((((lot.map toWi).map wiPair).all fun p => decide (p ∈ wordsAt (normB d.1) "hears")) && leaves (normB d.1) ((lot.map toWi).map wiPair)))) && standsB (normB d.1, d.2) (normB (cutB (normB d.1) ((lot.map toWi).map wiPair)), d.2)) = (leaves d.1 lot && standsB d (cutB d.1 lot, d.2))
  rw [e1, toWi_map, ascB_of ha, e2, Bool.true_and, Bool.true_and, Bool.true_and, leaves_beq (beq_norm d.1) (wf_norm h.b.wf) h.b.wf]
  congr 1
  exact spare_norm h.b.wf d.2 lot
theorem wi_gl {lot : List (Str × Str)} {v : V} {H : Hp} (h : glP pP lot v H) : lvP K (.lst (lot.map toWi)) v H := by
  show glP (wiP K) (lot.map toWi) v H
  unfold glP at h ⊢
  rw [show (lot.map toWi).map (wiP K) = lot.map pP by rw [List.map_map]; rfl]
  exact h
theorem wi_ok {lot : List (Str × Str)} {kd : Str} {d : World'} (h : SpW d) (hm : ∀ p ∈ lot, p ∈ wordsAt d.1 kd) (hl : lot.length ≤ 1000) : lvOk (.lst (lot.map toWi)) := by
  refine ⟨fun x hx => ?_, by rw [List.length_map]; exact hl⟩
  obtain ⟨p, hp, rfl⟩ := List.mem_map.mp hx
  obtain ⟨q1, q2⟩ := words_sp h.b (hm p hp)
  exact ⟨fun s e => by cases e; exact sp_len q1, fun s e => by cases e; exact sp_len q2⟩
theorem need_check {d : World'} (h : SpW d) (hv : Via d.1 d.2) {lot l : List (Str × Str)} (hm : ∀ p ∈ lot, p ∈ wordsAt d.1 "hears") (hlv : leaves d.1 lot = true) (hl : ∀ p, p ∈ l ↔ Need (normB d.1, d.2) p) :
    spareB d lot = !(lot.map fun p => decide (p ∈ l)).any id := by
  have e : standsB (normB d.1, d.2) (cutB (normB d.1) lot, d.2) = standsB d (cutB d.1 lot, d.2) := stands_beq (beq_norm d.1) (beq_cut (beq_norm d.1) lot) (wf_norm h.b.wf).rows d.2 d.2
  have s := spare_need (st := d.2) (wf_norm h.b.wf) (((beq_norm d.1).via (wf_norm h.b.wf).rows d.2).mpr hv) (lot := lot) fun p hp => (words_norm h.b.wf).mpr (hm p hp)
  unfold spareB
  rw [hlv, Bool.true_and, ← e]
  refine bool_eq (s.trans ?_)
  rw [Bool.not_eq_true', List.any_eq_false]
  constructor
  · intro k x hx z
    obtain ⟨p, hp, rfl⟩ := List.mem_map.mp hx
    exact k p hp ((hl p).mp (of_decide_eq_true z))
  · intro k p hp z
    exact k _ (List.mem_map_of_mem hp) (decide_eq_true ((hl p).mpr z))
end En
set_option maxHeartbeats 4000000
/-! Objects that are no lists of heard words. -/
namespace En
open PySem PySem.Spec PyProof.Rows L2
variable {P : Program} {w : World} {K : PySem.W.Frag} {mg : Str → Option Value} {base : Heap}
def flP (K : PySem.W.Frag) : Lv → Pr
  | .lst xs => lP (wiP K) xs
  | .non => nlP K
instance {x : Lv} : Sty (flP K x) := match x with
  | .lst xs => inferInstanceAs (Sty (lP (wiP K) xs))
  | .non => inferInstanceAs (Sty (nlP K))
theorem fl_lv {x : Lv} {v : V} {H : Hp} (h : flP K x v H) : lvP K x v H := match x, h with
  | .lst xs, ⟨a, vs, e, hl, al, z⟩ => ⟨a, vs, e, .inr hl, al, z⟩
  | .non, h => h
def NotL (b : Book) (x : Lv) : Prop := lvOk x ∧ listB b "hears" x = false
def btP (K : PySem.W.Frag) (b : Book) (_ : Unit) : Pr := fun v H => ∃ x, flP K x v H ∧ NotL b x
instance {b : Book} {u : Unit} : Sty (btP K b u) := ⟨fun e ⟨x, h1, h2⟩ => ⟨x, (inferInstance : Sty (flP K x)).up e h1, h2⟩⟩
theorem bt_nl {b : Book} {v : V} {H : Hp} {u : Unit} (h : nlP K v H) : btP K b u v H := ⟨.non, h, trivial, rfl⟩
theorem bt_lst {b : Book} {xs : List Wi} {v : V} {H : Hp} {u : Unit} (h : lP (wiP K) xs v H) (ok : ∀ x ∈ xs, wiOk x) (hl : xs.length ≤ 1000) (n : listB b "hears" (.lst xs) = false) : btP K b u v H := ⟨.lst xs, h, ⟨ok, hl⟩, n⟩
theorem list_bad1 {b : Book} {k : Str} {xs : List Wi} {x : Wi} (hx : x ∈ xs) (h : wiB x = false) : listB b k (.lst xs) = false := by
  have : xs.all wiB = false := List.all_eq_false.mpr ⟨x, hx, by rw [h]; decide⟩
  show (xs.all wiB && _) = false
  rw [this]
  rfl
theorem list_bad2 {b : Book} {k : Str} {xs : List (Str × Str)} {p : Str × Str} (hp : p ∈ xs) (h : p ∉ wordsAt b k) : listB b k (.lst (xs.map toWi)) = false := by
  have : (xs.all fun p => decide (p ∈ wordsAt b k)) = false := List.all_eq_false.mpr ⟨p, hp, by simp [h]⟩
  show ((xs.map toWi).all wiB && (ascB ((xs.map toWi).map wiPair) && ((((xs.map toWi).map wiPair).all fun p => decide (p ∈ wordsAt b k)) && leaves b ((xs.map toWi).map wiPair)))) = false
  rw [toWi_map, this]
  simp
theorem list_bad3 {b : Book} {k : Str} {xs : List (Str × Str)} (h : ascB xs = false) : listB b k (.lst (xs.map toWi)) = false := by
  show ((xs.map toWi).all wiB && (ascB ((xs.map toWi).map wiPair) && ((((xs.map toWi).map wiPair).all fun p => decide (p ∈ wordsAt b k)) && leaves b ((xs.map toWi).map wiPair)))) = false
  rw [toWi_map, h]
  simp
theorem wi_l {lot : List (Str × Str)} {v : V} {H : Hp} (h : lP pP lot v H) : lP (wiP K) (lot.map toWi) v H := by
  unfold lP at h ⊢
  rw [show (lot.map toWi).map (wiP K) = lot.map pP by rw [List.map_map]; rfl]
  exact h
def OkL (lot : List (Str × Str)) : Prop := ∀ p ∈ lot, p.1.length ≤ 1000 ∧ p.2.length ≤ 1000
theorem ok_wi {lot : List (Str × Str)} (h : OkL lot) : ∀ x ∈ lot.map toWi, wiOk x := fun x hx => by
  obtain ⟨p, hp, rfl⟩ := List.mem_map.mp hx
  exact ⟨fun s e => by cases e; exact (h p hp).1, fun s e => by cases e; exact (h p hp).2⟩
theorem bt_prs2 {b : Book} {xs : List (Str × Str)} {v : V} {H : Hp} {u : Unit} {p : Str × Str} (h : lP pP xs v H) (ok : OkL xs) (hl : xs.length ≤ 1000) (hp : p ∈ xs) (n : p ∉ wordsAt b "hears") : btP K b u v H := bt_lst (wi_l h) (ok_wi ok) (by rw [List.length_map]; exact hl) (list_bad2 hp n)
theorem bt_prs3 {b : Book} {xs : List (Str × Str)} {v : V} {H : Hp} {u : Unit} (h : lP pP xs v H) (ok : OkL xs) (hl : xs.length ≤ 1000) (n : ascB xs = false) : btP K b u v H := bt_lst (wi_l h) (ok_wi ok) (by rw [List.length_map]; exact hl) (list_bad3 n)
/-- a list of one object -/
theorem bt_one {b : Book} {P1 : Pr} {x : Wi} {v : V} {H : Hp} {u : Unit} (h : LP [P1] v H) (e : ∀ v H, P1 v H → wiP K x v H) (ok : wiOk x) (n : wiB x = false) : btP K b u v H := by
  obtain ⟨a, vs, e1, hl, al, z⟩ := h
  obtain ⟨v1, rfl, h1⟩ := al1 al
  exact bt_lst (xs := [x]) ⟨a, _, e1, hl, ⟨e _ _ h1, trivial⟩, z⟩ (fun y hy => by rw [List.mem_singleton.mp hy]; exact ok) (by simp) (list_bad1 (List.mem_singleton.mpr rfl) n)
theorem nl_non {v : V} {H : Hp} (h : nP v H) : nlP K v H := ⟨_, by rw [show v = .non from h]; exact .non, rfl⟩
theorem nl_int {v : V} {H : Hp} {i : Int} (h : iP i v H) : nlP K v H := ⟨_, by rw [show v = .int i from h]; exact .int i, rfl⟩
theorem nl_bl {v : V} {H : Hp} {i : Bool} (h : bP i v H) : nlP K v H := ⟨_, by rw [show v = .bl i from h]; exact .bl i, rfl⟩
theorem nl_str {v : V} {H : Hp} {i : Str} (h : sP i v H) : nlP K v H := ⟨_, by rw [show v = .str i from h]; exact .str i, rfl⟩
theorem nl_dict {α : Type} {r : α → Pr} {d : List (Str × α)} {v : V} {H : Hp} (h : dP r d v H) : nlP K v H := by
  obtain ⟨a, kvs, e, ⟨o, h1⟩, _⟩ := h
  exact ⟨_, by rw [e]; exact .dK h1, rfl⟩
theorem nl_dictq {α : Type} {r : α → Pr} {d : List ((Str × Str) × α)} {v : V} {H : Hp} (h : qP r d v H) : nlP K v H := by
  obtain ⟨a, kvs, e, ⟨o, h1⟩, _⟩ := h
  exact ⟨_, by rw [e]; exact .dT h1, rfl⟩
theorem nl_tup {Ps : List Pr} {v : V} {H : Hp} (h : TP Ps v H) : nlP K v H := by
  obtain ⟨a, kvs, e, h1, _⟩ := h
  exact ⟨_, by rw [e]; exact .tup h1, rfl⟩
theorem nl_desk (T : Tf w K mg) {d : World'} {v : V} {H : Hp} (h : dkP K d v H) : nlP K v H := by
  obtain ⟨a, dx, b, e, h1, _⟩ := h
  exact ⟨_, by rw [e]; exact .desk h1, T.vals.2.2.1⟩
theorem nw_non {v : V} {H : Hp} (h : nP v H) : wiP K .non v H := .inl ⟨_, by rw [show v = .non from h]; exact .non, rfl⟩
theorem nw_int {v : V} {H : Hp} {i : Int} (h : iP i v H) : wiP K .non v H := .inl ⟨_, by rw [show v = .int i from h]; exact .int i, rfl⟩
theorem nw_str {v : V} {H : Hp} {i : Str} (h : sP i v H) : wiP K .non v H := .inl ⟨_, by rw [show v = .str i from h]; exact .str i, rfl⟩
theorem nw_lst {Ps : List Pr} {v : V} {H : Hp} (h : LP Ps v H) : wiP K .non v H := by
  obtain ⟨a, kvs, e, ⟨o, h1⟩, _⟩ := h
  exact .inl ⟨_, by rw [e]; exact .lst h1, rfl⟩
theorem nw_desk (T : Tf w K mg) {d : World'} {v : V} {H : Hp} (h : dkP K d v H) : wiP K .non v H := by
  obtain ⟨a, dx, b, e, h1, _⟩ := h
  exact .inl ⟨_, by rw [e]; exact .desk h1, T.vals.2.2.2⟩
theorem nw_tup {Ps : List Pr} {v : V} {H : Hp} (h : TP Ps v H) (n : Ps.length ≠ 2) : wiP K .non v H := by
  obtain ⟨a, vs, e, h1, al, _⟩ := h
  exact .inr ⟨a, vs, e, h1, by rw [al.length]; exact n⟩
theorem wi_odd {Ps : List Pr} {α : Type} {r : α → Pr} {d : List (Str × α)} {v : V} {H : Hp} (h : TP [LP Ps, dP r d] v H) : wiP K (.two none none) v H := by
  obtain ⟨a, vs, e, h1, al, z⟩ := h
  obtain ⟨v1, v2, rfl, ⟨a1, x1, e1, ⟨o1, q1⟩, _⟩, ⟨a2, x2, e2, ⟨o2, q2⟩, _⟩⟩ := al2 al
  exact ⟨a, _, e, h1, ⟨.inl ⟨a1, o1, x1, e1, q1⟩, .inr ⟨a2, o2, x2, e2, q2⟩, trivial⟩, z⟩
/-! ### letters over and over -/
def repC (k c : Nat) : Str := ⟨(List.replicate k c).toArray⟩
section
variable {σ : L2.St} {H : Hp} {D : Ends} {ta tb tc td te : TE} {i j : Nat}
theorem r_repC {c k : Nat} (h2 : 2 ≤ k) (h3 : k ≤ 100) : R2s rStrRep (sP (oneS c)) (iP (k : Nat)) (sP (repC k c)) := fun _ _ H1 h1 h2' Q q => ⟨c, k, h1, h2', h2, h3, q _ H1 (Same.refl _) rfl⟩
theorem repC_list (k c : Nat) : (repC k c).cps.toList = List.replicate k c := by simp [repC]
theorem repC_sp {k c : Nat} (hc : c ∈ ABC.cps.toList) (h1 : 1 ≤ k) (h2 : k ≤ 8) : spT (repC k c) = true := by
  rw [spT_iff, repC_list]
  refine ⟨fun z => ?_, by rw [List.length_replicate]; omega, fun d hd => by rw [(List.mem_replicate.mp hd).2]; exact hc⟩
  have := congrArg List.length z
  rw [List.length_replicate, List.length_nil] at this
  omega
theorem repC_inj {k c d : Nat} (h1 : 1 ≤ k) (e : repC k c = repC k d) : c = d := by
  have h := congrArg (fun z : Str => z.cps.toList) e
  simp only [repC_list] at h
  have : c ∈ List.replicate k d := h ▸ List.mem_replicate.mpr ⟨by omega, rfl⟩
  exact (List.mem_replicate.mp this).2
theorem pick_head {cs : List Nat} {F : List Str} {p : Nat → Bool} {k : Nat} (hk : 1 ≤ k) (nd : cs.Nodup) (hF : ∀ c ∈ cs, p c = false → repC k c ∈ F) (hl : F.length < cs.length) : ∃ c ∈ cs, p c = true ∧ ((cs.filter p).map (repC k))[0]? = some (repC k c) := by
  have some_ : ∃ c ∈ cs, p c = true := by
    apply Classical.byContradiction
    intro n
    have nd2 : (cs.map (repC k)).Nodup := by
      unfold List.Nodup
      rw [List.pairwise_map]
      exact nd.imp fun hne e => hne (repC_inj hk e)
    have := len_sub nd2 (m := F) fun x hx => by
      obtain ⟨c, hc, rfl⟩ := List.mem_map.mp hx
      refine hF c hc ?_
      cases h : p c with
      | false => rfl
      | true => exact absurd ⟨c, hc, h⟩ n
    rw [List.length_map] at this
    omega
  obtain ⟨c, hc, hp⟩ := some_
  have hm : c ∈ cs.filter p := List.mem_filter.mpr ⟨hc, hp⟩
  cases h : cs.filter p with
  | nil => rw [h] at hm; cases hm
  | cons y ys =>
    have hy : y ∈ cs.filter p := by rw [h]; exact List.mem_cons_self ..
    exact ⟨y, (List.mem_filter.mp hy).1, (List.mem_filter.mp hy).2, rfl⟩
theorem yi_letters {x : Str} (hx : x.length ≤ 1000) : Yi (iList K (tFz (tCB (fun xs H Q => ∃ z, xs = [.str z] ∧ z.length ≤ sizeLine ∧ ∀ p, H p = none → Q (.ref p) (upd H p (.lst (signV z)))) (tCons (tC (.str x)) tNil)))) σ H (x.cps.toList.map fun c => sP (oneS c)) := by
  have y := yi_l (K := K) (r := sP) (y_fzl (yn_listStr (x := x) (σ := σ) (H := H) (y_c (P := sP x) fun _ => rfl) (by rw [sizeLine_eq]; omega)))
  rw [List.map_map] at y
  exact y
/-! ### more rules -/
theorem yt_eq {tt : TT} {b c : Bool} (e : b = c) (y : Yt tt σ H b) : Yt tt σ H c := e ▸ y
theorem b_intB {b : Bool} : Rb (fun xs H Q => (∃ i, xs = [.int i] ∧ Q (.int i) H) ∨ ∃ k, xs = [.bl k] ∧ Q (.int (if k then 1 else 0)) H) (bP b) (iP (if b then 1 else 0)) := fun v H1 h Q q => .inr ⟨b, by rw [show v = .bl b from h], q _ H1 (Same.refl _) rfl⟩
theorem yn_rep1 {P1 : Pr} {b : Bool} [s : Sty P1] (ya : Yn ta σ H (isL [P1])) (yb : Y tb σ H (iP (if b then 1 else 0))) : Yn (tOp rRep ta tb) σ H (isL (if b then [P1] else [])) := fun H1 u Q q => ya H1 u _ fun l H2 uo s2 n e r => yb H2 (u.trans s2) _ fun y H3 s3 py => by
  obtain ⟨vs, rfl, al, z⟩ := r
  obtain ⟨v1, rfl, h1⟩ := al1 al
  refine ⟨l, _, [v1], rfl, py, s3 _ _ e, ?_, ?_, ?_, fun p hp => ?_⟩
  · cases b <;> decide
  · cases b <;> decide
  · cases b <;> (rw [sizeLine_eq]; simp)
  · refine q p _ _ ((s2.trans s3).trans (same_new _ hp)) ((s2.trans s3).free hp) L2.upd_same ?_
    cases b with
    | false => exact ⟨[], rfl, trivial, by rw [sizeLine_eq]; simp⟩
    | true => exact ⟨[v1], rfl, ⟨s.up (up_same (s3.trans (same_new _ hp))) h1, trivial⟩, by rw [sizeLine_eq]; simp⟩
theorem y_tupleOf {α : Type} {r : α → Pr} {xs : List α} [s : ∀ x, Sty (r x)] (ya : Y ta σ H (lP r xs)) : Y (tCB (rTupleOf K) (tCons ta tNil)) σ H (TP (xs.map r)) := fun H1 u Q q => ya H1 u _ fun v H2 s2 ⟨a, vs, e, hl, al, z⟩ =>
  ⟨a, vs, by rw [e], .inl ⟨hl.sq, fun p hp => q _ _ (s2.trans (same_new _ hp)) ⟨p, vs, rfl, L2.upd_same, al_same (same_new _ hp) al, z⟩⟩⟩
theorem y_catT3 {a b c : Str} (ya : Y ta σ H (pP (a, b))) (yb : Y tb σ H (TP [sP c])) : Y (tOp (rCatT K) ta tb) σ H (TP [sP a, sP b, sP c]) := fun H1 u Q q => ya H1 u _ fun v H2 s2 p2 => yb H2 (u.trans s2) _ fun v2 H3 s3 p3 => by
  obtain ⟨x, vs, e, ht, al, z⟩ := up_ s3 p2
  obtain ⟨x2, vs2, e2, ht2, al2', z2⟩ := p3
  obtain ⟨w1, w2, rfl, h1, h2⟩ := al2 al
  obtain ⟨w3, rfl, h3⟩ := al1 al2'
  refine ⟨x, x2, _, _, e, e2, ht.sq, ht2.sq, by simp, by rw [sizeLine_eq]; simp, fun z => (by cases z), fun _ p hp => q _ _ ((s2.trans s3).trans (same_new _ hp)) ⟨p, _, rfl, L2.upd_same, ⟨h1, h2, h3, trivial⟩, by rw [sizeLine_eq]; simp⟩⟩
theorem yn_slLast {α : Type} {r : α → Pr} {xs : List α} {x : α} [s : ∀ x, Sty (r x)] (ya : Y ta σ H (lP r (xs ++ [x]))) (yi : Y tb σ H (iP (-1))) : Yn (tSl (rSlL K) ta (tPart tb) tNoPart) σ H (isL [r x]) := fun H1 u Q q =>
  ya H1 u _ fun v H2 s2 p2 => yi H2 (u.trans s2) _ fun y H3 s3 p => by
    obtain ⟨a, vs, e, hl, al, z⟩ := (inferInstance : Sty (lP r (xs ++ [x]))).up (up_same s3) p2
    refine ⟨-1, p, a, vs, e, hl.sq, fun d hd => q d _ _ ((s2.trans s3).trans (same_new _ hd)) ((s2.trans s3).free hd) L2.upd_same ⟨_, rfl, ?_⟩⟩
    have hlen := al.length
    rw [List.length_map, List.length_append, List.length_singleton] at hlen
    have hc : cutV vs (some (-1)) none = vs.drop xs.length := by
      have e1 : HT.sIx vs.length 0 (some (-1)) = xs.length := by
        rw [hlen]
        unfold HT.sIx
        simp
        omega
      have e2 : HT.sIx vs.length vs.length none = vs.length := rfl
      unfold cutV
      rw [e1, e2]
      exact List.take_of_length_le (by rw [List.length_drop]; omega)
    rw [hc]
    have al3 := al.dr xs.length
    rw [show ((xs ++ [x]).map r).drop xs.length = [r x] by rw [List.map_append, List.drop_append_of_le_length (by rw [List.length_map]; omega), List.drop_of_length_le (by rw [List.length_map]; omega)]; rfl] at al3
    exact ⟨al_same (same_new _ hd) al3, by rw [sizeLine_eq]; simp⟩
theorem ys_parYN {R : HO → Hp → Prop} {Pa : Pr} [sa : Sts Pa] (y1 : Y ta σ H Pa) (y2 : Yn tb σ H R) (q : ∀ va p H2 u, Same H H2 → H p = none → H2 p = some u → R u H2 → Pa va H2 → D.nx ((σ.set i (some va)).set j (some (.ref p))) H2) : tPar i j (tCons ta (tCons tb tNil)) D σ H :=
  y1 H (Same.refl _) _ fun va H1 s1 pa => y2 H1 s1 _ fun p H2 u s2 n e r => ⟨_, _, rfl, q va p H2 u (s1.trans s2) (s1.free n) e r (up_ s2 pa)⟩
end
end En
set_option maxHeartbeats 8000000
/-! A world asked. -/
namespace En
open PySem PySem.Spec PyProof.Rows L2
variable {P : Program} {w : World} {K : PySem.W.Frag} {mg : Str → Option Value} {base : Heap}
instance {d : World'} : Sty (ndP d) := ⟨fun e ⟨l, h1, h2⟩ => ⟨l, Sty.up e h1, h2⟩⟩
section
variable {σ : L2.St} {H : Hp} {D : Ends} {ta tb tn te : TE} {g : TG} {bd : TS}
theorem wr_some (h : ta σ H fun v H1 => tAsg (tTup (tCons (tFz (tSl (rSlL K) (tC v) tNoPart (tPart tn))) (tCons tb tNil))) g D σ H1) : tAsg (tTup (tCons (tFz (tSl (rSlL K) ta tNoPart (tPart tn))) (tCons tb tNil))) g D σ H := h
theorem wr_for (h : ta σ H fun v H1 => tFor (iList K (tFz (tOp rCatS (tFz (tSl (rSlL K) (tC v) tNoPart (tPart tn))) tb))) g bd D σ H1) : tFor (iList K (tFz (tOp rCatS (tFz (tSl (rSlL K) ta tNoPart (tPart tn))) tb))) g bd D σ H := h
theorem xs_gl {α : Type} {r : α → Pr} {xs : List α} {v : V} (h : lP r xs v H) : glP r xs v H := let ⟨a, vs, e, hl, al, z⟩ := h; ⟨a, vs, e, .inr hl, al, z⟩
theorem one_non {v : V} (h : LP [nP] v H) : lP (wiP K) [Wi.non] v H := by
  obtain ⟨a, vs, e1, hl, al, z⟩ := h
  obtain ⟨v1, rfl, h1⟩ := al1 al
  exact ⟨a, _, e1, hl, ⟨nw_non h1, trivial⟩, z⟩
theorem yn_listTup {a b : Str} (ya : Y ta σ H (pP (a, b))) : Yn (tCB (rListOf K) (tCons ta tNil)) σ H (isL [sP a, sP b]) := yn_cb (fun x H1 ⟨p, vs, e, ht, al, z⟩ Q q => ⟨p, vs, by rw [e], .inr ht.sq, fun l hl => q l _ _ (same_new _ hl) hl L2.upd_same ⟨_, rfl, al_same (same_new _ hl) al, z⟩⟩) ya
theorem yn_rep2 {α : Type} {r : α → Pr} {x : α} {b : Bool} [s : ∀ x, Sty (r x)] (ya : Yn ta σ H (isL ([x].map r))) (yb : Y tb σ H (iP (if b then 1 else 0))) : Yn (tOp rRep ta tb) σ H (isL ((if b then [x] else []).map r)) := by
  have y := yn_rep1 (P1 := r x) (b := b) ya yb
  cases b <;> exact y
end
structure Gd (b : Book) (x : List (Str × Str)) : Prop where
  m : ∀ p ∈ x, p ∈ wordsAt b "hears"
  a : AscP x
  l : x.length ≤ 384
theorem Gd.sub {b : Book} {x y : List (Str × Str)} (h : Gd b x) (s : y.Sublist x) : Gd b y := ⟨fun p hp => h.m p (s.subset hp), h.a.sublist s, Nat.le_trans s.length_le h.l⟩
theorem Gd.ok {b : Book} {x : List (Str × Str)} (h : Gd b x) (wf : WfB b) : ∀ y ∈ x, OkP y := fun y hy => wordsAt_ok wf y (h.m y hy)
theorem Gd.wi {d : World'} {x : List (Str × Str)} (h : Gd d.1 x) (hd : SpW d) : lvOk (.lst (x.map toWi)) := wi_ok hd h.m (by have := h.l; omega)
theorem Gd.okl {d : World'} {x : List (Str × Str)} (h : Gd d.1 x) (hd : SpW d) : OkL x := fun p hp => ⟨sp_len (words_sp hd.b (h.m p hp)).1, sp_len (words_sp hd.b (h.m p hp)).2⟩
theorem zz_ok : wiOk (toWi ("zzzzzzzzz", "a")) := ⟨fun s e => by cases e; decide, fun s e => by cases e; decide⟩
theorem zz_no : wiB (toWi ("zzzzzzzzz", "a")) = false := by decide +kernel
theorem letters16 : (Str.ofString "abcdefghijklmnop").cps.toList.length = 16 := by decide +kernel
theorem letters12 : (Str.ofString "abcdefghijkl").cps.toList.length = 12 := by decide +kernel
theorem letters_abc {c : Nat} (h : c ∈ (Str.ofString "abcdefghijklmnop").cps.toList) : c ∈ ABC.cps.toList := (show ∀ c ∈ (Str.ofString "abcdefghijklmnop").cps.toList, c ∈ ABC.cps.toList by decide +kernel) c h
theorem letters_abc2 {c : Nat} (h : c ∈ (Str.ofString "abcdefghijkl").cps.toList) : c ∈ ABC.cps.toList := (show ∀ c ∈ (Str.ofString "abcdefghijkl").cps.toList, c ∈ ABC.cps.toList by decide +kernel) c h
theorem one_okl {a b : Str} (h1 : a.length ≤ 1000) (h2 : b.length ≤ 1000) : OkL [(a, b)] := fun p hp => by rw [List.mem_singleton.mp hp]; exact ⟨h1, h2⟩
theorem not_spare {d : World'} {x : Lv} {v : V} {H : Hp} (h : NotL d.1 x) (e : bP (listB d.1 "hears" x && spareV d x) v H) : bP false v H := by
  rw [h.2] at e
  exact e
def sp_l_world_right (K : PySem.W.Frag) : Sp := fun vs H Q _ => ∃ (p : Addr) (v1 v2 : V) (d : World') (ws : List Str) (k : Nat), vs = [.ref p, v1, v2] ∧ wP d v1 H ∧ lP sP ws v2 H ∧ SpS d ∧ (∀ x ∈ ws, spT x = true) ∧ ws.length ≤ 6 ∧ Pu p (k + 10000) H ∧
  ∀ H', Mx [p] H H' → Pu p k H' → Q (.bl true) H'
abbrev N_l_world_right : List Str := ["_law_purse_here", "_law_world_here", "_law_words_here", "_law_desk_here", "_law_items_here", "_law_some", "_law_needed", "_law_viable_here", "_law_grown", "_law_item", "_law_value", "_law_due", "_law_handed", "_law_bent", "_law_state", "_law_free", "_law_strange", "_law_said", "_law_lot", "_law_letter"]
theorem nd_l_world_right : N_l_world_right.Nodup := by decide
theorem c_l_world_right (T : Tf w K mg) : C8.Cal P w K mg base 11 "_law_world_right" (sp_l_world_right K) [] := by
  refine T.cal (d := d_l_world_right) (N := N_l_world_right) (ps := ["_law_purse_here", "_law_world_here", "_law_words_here"]) 74 rfl rfl (by simp [fa, fa0, fa1, fa2, fa3]) rfl rfl (by decide +kernel) (fun vs H Q E h => by obtain ⟨_, _, _, _, _, _, rfl, _⟩ := h; rfl) (fun _ _ _ _ _ _ us hl => match us, hl with | [_, _, _], _ => rfl) (fun f cdv A outer s H vs Q E hr hsp => ?_)
  obtain ⟨p, v1, v2, d, ws, k, rfl, h_world, h_words, hs, wsp, wl, hpu, hq⟩ := hsp
  refine ⟨_, (pss_cons (ps_asg (pe_tup (pa_cons (C8.pe_c (c_l_desk T) hr (by decide) rfl (pa_cons (pv 1) pa_nil)) (pa_cons (C8.pe_c (c_l_items T) hr (by decide) rfl (pa_cons (pv 1) (pa_cons pe_str pa_nil))) pa_nil))) (k_pg_tup (K := K) (n := 2) rfl rfl (pgs_cons (pg_name (i := 3) nd_l_world_right rfl (Or.inr rfl)) (pgs_cons (pg_name (i := 4) nd_l_world_right rfl (Or.inl rfl)) pgs_nil))))
    (pss_cons (ps_asg (pe_tup (pa_cons (pe_fz (pe_slice (k_sl_list (K := K) rfl) (C8.pe_c (c_l_shuffled T) hr (by decide) rfl (pa_cons (pv 0) (pa_cons (pv 4) pa_nil))) po_none (po_some pe_int))) (pa_cons (C8.pe_c (c_needed_heard T) hr (by decide) rfl (pa_cons (pv 3) pa_nil)) pa_nil))) (k_pg_tup (K := K) (n := 2) rfl rfl (pgs_cons (pg_name (i := 5) nd_l_world_right rfl (Or.inl rfl)) (pgs_cons (pg_name (i := 6) nd_l_world_right rfl (Or.inr rfl)) pgs_nil))))
    (pss_cons (ps_par (i := 7) (j := 8) rfl nd_l_world_right rfl rfl (by decide) rfl rfl (pa_cons (pe_cmpR (k_in_seq (K := K) rfl) (pe_ix (k_ix_list (K := K) rfl) (pv 1) pe_int (fun _ _ => rfl)) (C8.pe_c (c_l_viable T) hr (by decide) rfl (pa_cons (pv 1) pa_nil)) rfl) (pa_cons (pe_lst pa_nil) pa_nil)) (by rfl))
    (pss_cons (ps_for PassesOwn.never rfl (k_list (K := K) rfl (pe_fz (pe_op op_catS (pe_fz (pe_slice (k_sl_list (K := K) rfl) (C8.pe_c (c_l_shuffled T) hr (by decide) rfl (pa_cons (pv 0) (pa_cons (C8.pe_c (c_l_lots T) hr (by decide) rfl (pa_cons (pe_fz (pe_callB (cr_sortedD (enc := dPr) (K := K) rfl rfl (hu65 hr)) (by rfl) T.n_sorted (by decide +kernel) (pa_cons (pv 5) pa_nil))) pa_nil)) pa_nil))) po_none (po_some pe_int))) (pe_fz (pe_lst (pa_cons (pv 4) (pa_cons (pe_fz (pe_callB (cr_sortedD (enc := dPr) (K := K) rfl rfl (hu65 hr)) (by rfl) T.n_sorted (by decide +kernel) (pa_cons (pv 5) pa_nil))) (pa_cons (pe_fz (pe_lc (own := [("_law_item", 9)]) rfl nd_l_world_right (k_list (K := K) rfl (pv 4)) (blkOk_by (own := [("_law_item", 9)]) (by first | decide +kernel | rfl)) (fun _ _ _ _ _ => (pg_name (i := 9) nd_l_world_right rfl (Or.inl rfl))) (fun _ _ _ _ _ => (pts_one (pt_cmpR (k_notInD (K := K) rfl (hu65 hr)) (pv 9) (pv 6) rfl))) (fun _ _ _ _ _ => (pv 9)))) pa_nil)))))))) (pg_name (i := 10) nd_l_world_right rfl (Or.inl rfl))
    (pss_cons (ps_par (i := 11) (j := 12) rfl nd_l_world_right rfl rfl (by decide) rfl rfl (pa_cons (C8.pe_c (c_l_is_spare T) hr (by decide) rfl (pa_cons (pv 1) (pa_cons (pv 10) pa_nil))) (pa_cons (pe_fz (pe_callTy (k_list_of (K := K) rfl) (by rfl) T.n_list (by decide +kernel) (pa_cons (pv 10) pa_nil))) pa_nil)) (by rfl))
    (pss_cons (ps_if (PW.pt (pw_or (pt_not (pt_val (C8.pe_c (c_l_exact T) hr (by decide) rfl (pa_cons (C8.pe_c (c_is_spare T) hr (by decide) rfl (pa_cons (pv 3) (pa_cons (pv 12) pa_nil))) (pa_cons (pv 11) pa_nil))))) (pw_or1 (pt_cmpR (k_neD (K := K) rfl (hu64 hr)) (pv 12) (pv 10) (nomark _))))) (pss_one (ps_ret pe_bl))
    pss_nil)
    (pss_one (ps_if (PW.pt (pw_and (pt_val (pv 7)) (pw_and (pt_val (C8.pe_c (c_l_leaves T) hr (by decide) rfl (pa_cons (pv 1) (pa_cons (pv 10) pa_nil)))) (pw_and1 (pt_cmpR op_ne (pv 11) (pe_not (pe_callB (k_any (K := K) rfl rfl) (by rfl) T.n_any (by decide +kernel) (pa_cons (pe_fz (pe_lc (own := [("_law_item", 9)]) rfl nd_l_world_right (k_list (K := K) rfl (pv 10)) (blkOk_by (own := [("_law_item", 9)]) (by first | decide +kernel | rfl)) (fun _ _ _ _ _ => (pg_name (i := 9) nd_l_world_right rfl (Or.inl rfl))) (fun _ _ _ _ _ => pts_nil) (fun _ _ _ _ _ => (pe_cmpR (k_inD (K := K) rfl (hu65 hr)) (pv 9) (pv 6) rfl)))) pa_nil))) (nomark _)))))) (pss_one (ps_ret pe_bl))
    pss_nil)))))
    (pss_cons (ps_for PassesOwn.never rfl (k_list (K := K) rfl (pv 4)) (pg_name (i := 9) nd_l_world_right rfl (Or.inl rfl))
    (pss_cons (ps_if (pt_not (pt_val (C8.pe_c (c_l_exact T) hr (by decide) rfl (pa_cons (C8.pe_c (c_is_spare T) hr (by decide) rfl (pa_cons (pv 3) (pa_cons (pv 8) pa_nil))) (pa_cons (C8.pe_c (c_l_is_spare T) hr (by decide) rfl (pa_cons (pv 1) (pa_cons (pv 8) pa_nil))) pa_nil))))) (pss_one (ps_ret pe_bl))
    pss_nil)
    (pss_one (ps_expr (pe_bm PySem.F.plainAttrs_list PySem.F.slot_list_append PySem.F.type_list_append mt_append (pv 8) (pa_cons (pv 9) pa_nil))))))
    (pss_cons (ps_set (i := 13) nd_l_world_right rfl (Or.inl rfl) (pe_fz (pe_lst (pa_cons pe_non (pa_cons pe_int (pa_cons pe_bl (pa_cons pe_str (pa_cons (pe_fz pe_dnewK) (pa_cons (pe_tup pa_nil) (pa_cons (pv 3) (pa_cons (pe_fz (pe_lst (pa_cons (pv 3) pa_nil))) (pa_cons (pe_fz (pe_lst (pa_cons pe_non pa_nil))) (pa_cons (pe_fz (pe_lst (pa_cons pe_int pa_nil))) (pa_cons (pe_fz (pe_lst (pa_cons (pe_tup pa_nil) pa_nil))) (pa_cons (pe_fz (pe_lst (pa_cons (pe_fz (pe_lst pa_nil)) pa_nil))) (pa_cons (pe_fz (pe_lst (pa_cons (pe_tup (pa_cons pe_str pa_nil)) pa_nil))) (pa_cons (pe_fz (pe_lst (pa_cons pe_str pa_nil))) (pa_cons (pe_fz (pe_lst (pa_cons (pe_tup (pa_cons pe_str (pa_cons pe_str pa_nil))) pa_nil))) (pa_cons (pe_fz (pe_lst (pa_cons (pe_tup (pa_cons (pe_fz (pe_lst pa_nil)) (pa_cons (pe_fz pe_dnewK) pa_nil))) pa_nil))) pa_nil)))))))))))))))))))
    (pss_cons (ps_for PassesOwn.never rfl (k_list (K := K) rfl (pe_fz (pe_callB (call_sortedD rfl) (by rfl) T.n_sorted (by decide +kernel) (pa_cons (pe_ix (k_ix_list (K := K) rfl) (pv 1) pe_int (fun _ _ => rfl)) pa_nil)))) (pg_name (i := 14) nd_l_world_right rfl (Or.inr rfl))
    (pss_cons (ps_set (i := 15) nd_l_world_right rfl (Or.inl rfl) (pe_ix (k_ix_list (K := K) rfl) (pe_fz (pe_lc (own := [("_law_letter", 19)]) rfl nd_l_world_right (k_list (K := K) rfl (pe_fz (pe_callTy (call_listStr rfl) (by rfl) T.n_list (by decide +kernel) (pa_cons pe_str pa_nil)))) (blkOk_by (own := [("_law_letter", 19)]) (by first | decide +kernel | rfl)) (fun _ _ _ _ _ => (pg_name (i := 19) nd_l_world_right rfl (Or.inl rfl))) (fun _ _ _ _ _ => (pts_one (PW.pt (pw_and (pt_cmp (pc_dnotin (hu_of hr) (pe_op op_strRep (pv 19) pe_int) (pe_ix (k_ix_tup (K := K) rfl) (pe_dget (hu_of hr) (pe_ix (k_ix_list (K := K) rfl) (pv 1) pe_int (fun _ _ => rfl)) (pv 14) (fun _ _ => rfl)) pe_int (fun _ _ => rfl))) rfl) (pw_and1 (pt_cmp (pc_dnotin (hu_of hr) (pe_op op_strRep (pv 19) pe_int) (pe_ix (k_ix_list (K := K) rfl) (pv 1) pe_int (fun _ _ => rfl))) rfl)))))) (fun _ _ _ _ _ => (pe_op op_strRep (pv 19) pe_int)))) pe_int (fun _ _ => rfl)))
    (pss_one (ps_set (i := 13) nd_l_world_right rfl (Or.inl rfl) (pe_fz (pe_op op_catS (pv 13) (pe_fz (pe_lst (pa_cons (pe_fz (pe_lst (pa_cons (pe_tup (pa_cons (pv 14) (pa_cons (pv 15) pa_nil))) pa_nil))) (pa_cons (pe_fz (pe_lst (pa_cons (pe_tup (pa_cons (pv 15) (pa_cons (pv 14) pa_nil))) pa_nil))) pa_nil))))))))))
    (pss_cons (ps_set (i := 16) nd_l_world_right rfl (Or.inr rfl) (pe_ix (k_ix_list (K := K) rfl) (pe_fz (pe_lc (own := [("_law_letter", 19)]) rfl nd_l_world_right (k_list (K := K) rfl (pe_fz (pe_callTy (call_listStr rfl) (by rfl) T.n_list (by decide +kernel) (pa_cons pe_str pa_nil)))) (blkOk_by (own := [("_law_letter", 19)]) (by first | decide +kernel | rfl)) (fun _ _ _ _ _ => (pg_name (i := 19) nd_l_world_right rfl (Or.inl rfl))) (fun _ _ _ _ _ => (pts_one (pt_cmp (pc_dnotin (hu_of hr) (pe_op op_strRep (pv 19) pe_int) (pe_ix (k_ix_list (K := K) rfl) (pv 1) pe_int (fun _ _ => rfl))) rfl))) (fun _ _ _ _ _ => (pe_op op_strRep (pv 19) pe_int)))) pe_int (fun _ _ => rfl)))
    (pss_cons (ps_set (i := 13) nd_l_world_right rfl (Or.inl rfl) (pe_fz (pe_op op_catS (pv 13) (pe_fz (pe_lc (own := [("_law_item", 9)]) rfl nd_l_world_right (k_list (K := K) rfl (pe_fz (pe_slice (k_sl_list (K := K) rfl) (pv 4) po_none (po_some pe_int)))) (blkOk_by (own := [("_law_item", 9)]) (by first | decide +kernel | rfl)) (fun _ _ _ _ _ => (pg_name (i := 9) nd_l_world_right rfl (Or.inl rfl))) (fun _ _ _ _ _ => pts_nil) (fun _ _ _ _ _ => (pe_fz (pe_lst (pa_cons (pe_tup (pa_cons (pv 16) (pa_cons (pe_ix (k_ix_tup (K := K) rfl) (pv 9) pe_int (fun _ _ => rfl)) pa_nil))) pa_nil)))))))))
    (pss_cons (ps_set (i := 17) nd_l_world_right rfl (Or.inl rfl) (pe_fz (pe_slice (k_sl_list (K := K) rfl) (C8.pe_c (c_l_items T) hr (by decide) rfl (pa_cons (pv 1) (pa_cons pe_str pa_nil))) po_none (po_some pe_int))))
    (pss_cons (ps_if (PW.pt (pw_and (pt_cmpR (k_neD (K := K) rfl (hu64 hr)) (pv 17) (pe_fz (pe_lst pa_nil)) (nomark _)) (pw_and1 (pt_cmpR op_notBl (C8.pe_c (c_is_spare T) hr (by decide) rfl (pa_cons (pv 3) (pa_cons (pv 17) pa_nil))) pe_bl (nomark _))))) (pss_one (ps_ret pe_bl))
    pss_nil)
    (pss_cons (ps_for PassesOwn.never rfl (k_list (K := K) rfl (pe_fz (pe_op op_catS (pe_fz (pe_lc (own := [("_law_item", 9)]) rfl nd_l_world_right (k_list (K := K) rfl (pe_fz (pe_slice (k_sl_list (K := K) rfl) (pv 4) po_none (po_some pe_int)))) (blkOk_by (own := [("_law_item", 9)]) (by first | decide +kernel | rfl)) (fun _ _ _ _ _ => (pg_name (i := 9) nd_l_world_right rfl (Or.inl rfl))) (fun _ _ _ _ _ => pts_nil) (fun _ _ _ _ _ => (pe_fz (pe_lst (pa_cons (pv 9) pa_nil)))))) (pe_fz (pe_op op_rep (pe_lst (pa_cons (pe_fz (pe_slice (k_sl_list (K := K) rfl) (pv 4) po_none (po_some pe_int))) pa_nil)) (pe_callTy call_int1 (by rfl) T.n_int (by decide +kernel) (pa_cons (pe_cmpR op_gt (pe_callB (k_lenA (K := K) rfl) (by rfl) T.n_len (by decide +kernel) (pa_cons (pv 4) pa_nil)) pe_int (nomark _)) pa_nil))))))) (pg_name (i := 18) nd_l_world_right rfl (Or.inl rfl))
    (pss_cons (ps_set (i := 13) nd_l_world_right rfl (Or.inl rfl) (pe_fz (pe_op op_catS (pv 13) (pe_fz (pe_lst (pa_cons (pe_callTy (k_tuple_of (K := K) rfl) (by rfl) T.n_tuple (by decide +kernel) (pa_cons (pv 18) pa_nil)) (pa_cons (pe_fz (pe_op op_catS (pv 18) (pe_fz (pe_slice (k_sl_list (K := K) rfl) (pv 18) (po_some (pe_un un_neg pe_int)) po_none)))) (pa_cons (pe_fz (pe_op op_catS (pv 18) (pe_fz (pe_lst (pa_cons pe_non pa_nil))))) (pa_cons (pe_fz (pe_op op_catS (pe_fz (pe_lst (pa_cons pe_non pa_nil))) (pv 18))) (pa_cons (pe_fz (pe_lc (own := [("_law_item", 9)]) rfl nd_l_world_right (k_list (K := K) rfl (pv 18)) (blkOk_by (own := [("_law_item", 9)]) (by first | decide +kernel | rfl)) (fun _ _ _ _ _ => (pg_name (i := 9) nd_l_world_right rfl (Or.inl rfl))) (fun _ _ _ _ _ => pts_nil) (fun _ _ _ _ _ => (pe_fz (pe_callTy (k_list_of (K := K) rfl) (by rfl) T.n_list (by decide +kernel) (pa_cons (pv 9) pa_nil)))))) (pa_cons (pe_fz (pe_lc (own := [("_law_item", 9)]) rfl nd_l_world_right (k_list (K := K) rfl (pv 18)) (blkOk_by (own := [("_law_item", 9)]) (by first | decide +kernel | rfl)) (fun _ _ _ _ _ => (pg_name (i := 9) nd_l_world_right rfl (Or.inl rfl))) (fun _ _ _ _ _ => pts_nil) (fun _ _ _ _ _ => (pe_op (k_catT (K := K) rfl) (pv 9) (pe_tup (pa_cons pe_str pa_nil)))))) pa_nil)))))))))))
    (pss_one (ps_set (i := 13) nd_l_world_right rfl (Or.inl rfl) (pe_fz (pe_op op_catS (pe_fz (pe_op op_catS (pv 13) (pe_fz (pe_op op_rep (pe_lst (pa_cons (pe_fz (k_revL (K := K) rfl (pv 18))) pa_nil)) (pe_callTy call_int1 (by rfl) T.n_int (by decide +kernel) (pa_cons (pe_cmpR op_gt (pe_callB (k_lenA (K := K) rfl) (by rfl) T.n_len (by decide +kernel) (pa_cons (pv 18) pa_nil)) pe_int (nomark _)) pa_nil)))))) (pe_fz (pe_lst (pa_cons (pe_fz (pe_callTy (call_dictT (K := K) rfl rfl (hu65 hr)) (by rfl) T.n_dict (by decide +kernel) (pa_cons (pe_fz (pe_lc (own := [("_law_item", 9)]) rfl nd_l_world_right (k_list (K := K) rfl (pv 18)) (blkOk_by (own := [("_law_item", 9)]) (by first | decide +kernel | rfl)) (fun _ _ _ _ _ => (pg_name (i := 9) nd_l_world_right rfl (Or.inl rfl))) (fun _ _ _ _ _ => pts_nil) (fun _ _ _ _ _ => (pe_tup (pa_cons (pv 9) (pa_cons pe_int pa_nil)))))) pa_nil))) pa_nil)))))))))
    (pss_cons (ps_if (PW.pt (pw_or (pt_val (pe_callB (k_any (K := K) rfl rfl) (by rfl) T.n_any (by decide +kernel) (pa_cons (pe_fz (pe_lc (own := [("_law_value", 10)]) rfl nd_l_world_right (k_list (K := K) rfl (pv 13)) (blkOk_by (own := [("_law_value", 10)]) (by first | decide +kernel | rfl)) (fun _ _ _ _ _ => (pg_name (i := 10) nd_l_world_right rfl (Or.inl rfl))) (fun _ _ _ _ _ => pts_nil) (fun _ _ _ _ _ => (pe_cmpR op_notBl (C8.pe_c (c_is_spare T) hr (by decide) rfl (pa_cons (pv 3) (pa_cons (pv 10) pa_nil))) pe_bl (nomark _))))) pa_nil))) (pw_or1 (pt_not (pt_val (C8.pe_c (c_l_more_right T) hr (by decide) rfl (pa_cons (pv 0) (pa_cons (pv 1) (pa_cons (pv 3) (pa_cons (pv 2) pa_nil)))))))))) (pss_one (ps_ret pe_bl))
    pss_nil)
    (pss_one (ps_ret (pe_cmpR (op_eqOwn T hr) (pv 3) (C8.pe_c (c_l_desk T) hr (by decide) rfl (pa_cons (pv 1) pa_nil)) (nomark _))))))))))))))))), ?_⟩
  have hd := hs.w
  have wf := hd.b.wf
  have nwf := wf_norm wf
  have nst : d.2 ∈ keys (normB d.1) := by rw [keys_normB, mem_sortS]; exact hd.s
  have blen := wf.len
  refine ys_seq (ys_tup2 (y_tup (ya_cons (y_call1 (y_var rfl h_world) hd) (ya_cons (y_call2 (y_var rfl h_world) y_str wf) ya_nil))) fun v3 v4 H1 s1 h_desk h_items => ?_)
  have gI : Gd d.1 (itemsOf d.1 "hears") := by
    refine ⟨fun p hp => (mem_items wf).mp hp, asc_items wf "hears", ?_⟩
    have h1 := items_len wf (kd := "hears") (sortS (keys d.1)) fun x hx => mem_sortS.mp hx
    rw [(sortS_perm _).length_eq, keys_length] at h1
    have := hs.n
    unfold itemsOf
    omega
  generalize itemsOf d.1 "hears" = I at h_items gI
  have lI := gI.l
  refine nx_ (ys_seq (wr_some (cp_shuf (r := pP) (xs := I) (k := k + 9000) rfl (y_var rfl h_items) (by omega) ((hpu.same s1).le (by omega)) fun ys vy H2 pm hy mx2 pu2 => ?_)))
  have up12 : Up H1 H2 := (hpu.same s1).up mx2
  have hdk2 : dkP K (normB d.1, d.2) v3 H2 := Sty.up up12 h_desk
  have hit2 : lP pP I v4 H2 := Sty.up up12 h_items
  have hw2 : wP d v1 H2 := Sty.up up12 (up_ s1 h_world)
  have hws2 : lP sP ws v2 H2 := Sty.up up12 (up_ s1 h_words)
  have mx02 : Mx [p] H H2 := (Mx.of s1).trans mx2
  refine ys_tup2 (y_tup (ya_cons (y_fzl (yn_slTo (n := 6) (y_cs hy) y_int)) (ya_cons (y_call1 (y_var rfl hdk2) ⟨nwf, nst⟩) ya_nil))) fun v5 v6 H3 s3 h_some hnd => ?_
  obtain ⟨l, h_need, hl⟩ := hnd
  have okl : ∀ y ∈ l, OkP y := fun y hy => wordsAt_ok nwf y ((hl y).mp hy).1
  have sm : ∀ p ∈ ys.take 6, p ∈ I := fun p hp => pm.mem_iff.mp (List.mem_of_mem_take hp)
  have sn : (ys.take 6).Nodup := (pm.nodup_iff.mpr (nodup_asc gI.a)).sublist (List.take_sublist _ _)
  have sl : (ys.take 6).length ≤ 6 := by rw [List.length_take]; omega
  generalize ys.take 6 = S at h_some sm sn sl
  have slen : (sortP S).length ≤ 6 := by rw [(sortP_perm S).length_eq]; exact sl
  have gS : Gd d.1 (sortP S) := ⟨fun p hp => gI.m p (sm p ((sortP_perm S).mem_iff.mp hp)), asc_sortP sn, by omega⟩
  refine nx_ (ys_seq (ys_parYN (y_inS (y_w1 (y_var rfl (up_ s3 hw2))) (y_call1 (y_var rfl (up_ s3 hw2)) wf)) (yn_lsts (r := pP) yl_nil) fun v7 f H4 u s4 nf ef rf h7 => ?_))
  have fp : f ≠ p := (pu2.same s3).ne nf
  have mx03 : Mx [p] H H3 := mx02.trans (Mx.of s3)
  have nf0 : H f = none := mx_none mx03 nf fp
  have pu4 := (pu2.same s3).same s4
  have s24 := s3.trans s4
  have ml4 : Ml pP [] f H4 := by
    obtain ⟨vs, rfl, al, z⟩ := rf
    exact ⟨vs, ef, al, z⟩
  have llen : (sortL (lots (sortP S) [[]])).length ≤ 64 := by
    rw [(sortL_perm _).length_eq, lots_len, List.length_singleton, Nat.mul_one]
    exact Nat.pow_le_pow_right (by decide) slen
  refine nx_ (ys_seq (wr_for (cp_shuf (r := lP pP) (xs := sortL (lots (sortP S) [[]])) (k := k + 8000) rfl (y_call1 (y_fzl (yn_sortedP (y_var rfl (up_ s4 h_some)))) slen) (by omega) (pu4.le (by omega)) fun zs vz H5 pmz hz mx5 pu5 => ?_)))
  have up45 : Up H4 H5 := pu4.up mx5
  have hdk5 : dkP K (normB d.1, d.2) v3 H5 := Sty.up up45 (up_ s24 hdk2)
  have hit5 : lP pP I v4 H5 := Sty.up up45 (up_ s24 hit2)
  have hw5 : wP d v1 H5 := Sty.up up45 (up_ s24 hw2)
  have hws5 : lP sP ws v2 H5 := Sty.up up45 (up_ s24 hws2)
  have hso5 : lP pP S v5 H5 := Sty.up up45 (up_ s4 h_some)
  have hne5 : lP pP l v6 H5 := Sty.up up45 (up_ s4 h_need)
  have h75 : bP (decide (d.2 ∈ viaL d.1)) v7 H5 := h7
  have ml5 := ml4.mx pu4 mx5 fp
  have gL : ∀ x ∈ zs.take 12 ++ [I, sortP S, (I.filter fun p => !decide (p ∈ l)).map fun p => p], Gd d.1 x := fun x hx => by
    rcases List.mem_append.mp hx with z | z
    · have hx2 := (sortL_perm _).mem_iff.mp (pmz.mem_iff.mp (List.mem_of_mem_take z))
      have := lots_sub (sortP S) [[]] [] (fun l hl => by rw [List.mem_singleton.mp hl]; exact List.Sublist.refl _) x hx2
      exact gS.sub this
    · rcases List.mem_cons.mp z with z | z
      · rw [z]; exact gI
      · rcases List.mem_cons.mp z with z | z
        · rw [z]; exact gS
        · rw [List.mem_singleton.mp z, List.map_id']
          exact gI.sub List.filter_sublist
  refine ys_for (r := lP pP) (xs := zs.take 12 ++ [I, sortP S, (I.filter fun p => !decide (p ∈ l)).map fun p => p]) (yi_l (y_fzl (yn_catl (y_fzl (yn_slTo (n := 12) (y_cs hz) y_int)) (y_fzl (yn_lsts (r := lP pP) (yl_cons (y_var rfl hit5) (yl_cons (y_fzl (yn_sortedP (y_var rfl hso5))) (yl_cons (y_fzl (yn_lc (r' := pP) (fun p => !decide (p ∈ l)) (fun p => p) (yi_l (y_var rfl hit5)) (fun x4 m4 v4 H4 s4 h4 => bd1 ⟨rfl, (yt_test (y_notInP (y_var rfl h4) (y_var rfl (up_ s4 hne5)) (gI.ok wf _ m4) okl)), fun e4 => (y_var rfl h4)⟩))) yl_nil))))) (by rw [List.length_take, sizeLine_eq]; simp; omega)))) fun H6 s6 => ⟨fun i σ' H' => ∃ (a9 a10 a11 a12 a13 a14 a15 a16 a17 a18 a19 : Option V), σ' = [some (.ref p), some v1, some v2, some v3, some v4, some v5, some v6, some v7, some (.ref f), a9, a10, a11, a12, a13, a14, a15, a16, a17, a18, a19] ∧ Same H6 H', ⟨_, _, _, _, _, _, _, _, _, _, _, rfl, Same.refl _⟩, ?_, ?_, ?_⟩
  · rintro i σ' H' ⟨a9, a10, a11, a12, a13, a14, a15, a16, a17, a18, a19, rfl, sH⟩
    exact up_same sH
  · rintro i x σ' H' hx ⟨a9, a10, a11, a12, a13, a14, a15, a16, a17, a18, a19, rfl, sH⟩ v H7 s7 hv
    have gx := gL x (List.mem_of_getElem? hx)
    have s57 := s6.trans (sH.trans s7)
    have hv7 : lP pP x v H7 := hv
    refine ys_seq (ys_par (ya_cons (y_call2 (y_var rfl (up_ s57 hw5)) (y_gl (y_var rfl hv7)) ⟨hd.wf, gx.ok wf⟩) (ya_cons (y_fzl (yn_listOf (y_var rfl hv7))) ya_nil)) fun v11 v12 H8 s8 h11 h12 => ?_)
    have s58 := s57.trans s8
    have h12g : lvP K (.lst (x.map toWi)) v12 H8 := wi_gl (xs_gl h12)
    refine nx_ (ys_seq (ys_if (b := false) (yt_eq (by
      show (!((listB (normB d.1) "hears" (.lst (x.map toWi)) && spareV (normB d.1, d.2) (.lst (x.map toWi))) == spareB d x) || !decide (x = x)) = false
      rw [spare_exact hd gx.m gx.a]
      simp) (yt_or (yt_not (yt_b (y_call2 (y_call2 (y_var rfl (up_ s58 hdk5)) (y_var rfl h12g) ⟨sp_norm hd.b, nst, gx.wi hd⟩) (y_var rfl h11) trivial))) fun b7 => (yt_test (y_neP (y_var rfl h12) (y_var rfl (up_ s8 hv7)) (gx.ok wf) (gx.ok wf))))) (fun b8 H9 s9 => by cases b8) (fun b8 H9 s9 => ?_)))
    have s59 := s58.trans s9
    refine nx_ (ys_if (b := false) (yt_eq (by
      show (decide (d.2 ∈ viaL d.1) && (leaves d.1 x && (spareB d x != !((x.map fun p => decide (p ∈ l)).any id)))) = false
      by_cases hv : d.2 ∈ viaL d.1
      · cases hlv : leaves d.1 x with
        | false => simp
        | true =>
          rw [need_check hd (mem_viaL.mp hv) gx.m hlv hl]
          simp
      · rw [decide_eq_false hv]
        rfl) (yt_and (yt_b (y_var rfl (up_ s59 h75))) fun b12 => (yt_and (yt_b (y_call2 (y_var rfl (up_ s59 hw5)) (y_gl (y_var rfl (up_ (s8.trans s9) hv7))) ⟨wf, gx.ok wf⟩)) fun b11 => (yt_test (y_op r_neB (y_var rfl (up_ s9 h11)) (y_not (y_cb b_any (y_fzl (yn_lc0 (r' := bP) (fun p => decide (p ∈ l)) (yi_l (y_var rfl (up_ (s8.trans s9) hv7))) (fun x10 m10 v10 H10 s10 h10 => bd1 ⟨rfl, yt_yes, fun e10 => (y_inP (y_var rfl h10) (y_var rfl (up_ (s59.trans s10) hne5)) (gx.ok wf _ m10) okl)⟩)))))))))) (fun b13 H13 s13 => by cases b13) (fun b13 H13 s13 => ?_))
    exact ⟨_, _, _, _, _, _, _, _, _, _, _, rfl, sH.trans (((s7.trans s8).trans s9).trans s13)⟩
  rintro σ' H7 ⟨a9, a10, a11, a12, a13, a14, a15, a16, a17, a18, a19, rfl, sH⟩
  have s57 := s6.trans sH
  have hdk7 := up_ s57 hdk5
  have hit7 := up_ s57 hit5
  have hw7 := up_ s57 hw5
  have hws7 := up_ s57 hws5
  have ml7 := ml5.same s57
  have pu7 := pu5.same s57
  have mx37 : Mx [p, f] H3 H7 := ((Mx.of s4).trans (mx_l mx5)).trans (Mx.of s57)
  refine nx_ (ys_seq (ys_for (r := pP) (xs := I) (yi_l (y_var rfl hit7)) fun H8 s8 => ⟨fun i σ' H' => ∃ (a9 a10 a11 a12 a13 a14 a15 a16 a17 a18 a19 : Option V), σ' = [some (.ref p), some v1, some v2, some v3, some v4, some v5, some v6, some v7, some (.ref f), a9, a10, a11, a12, a13, a14, a15, a16, a17, a18, a19] ∧ Mx [f] H8 H' ∧ Ml pP (I.take i) f H', ⟨_, _, _, _, _, _, _, _, _, _, _, rfl, Mx.rfl, ml7.same s8⟩, ?_, ?_, ?_⟩))
  · rintro i σ' H' ⟨a9, a10, a11, a12, a13, a14, a15, a16, a17, a18, a19, rfl, mx, _⟩
    exact mx.up fun q hq u e => by rw [List.mem_singleton.mp hq] at e; exact (ml7.same s8).ni u e
  · rintro i x σ' H' hx ⟨a9, a10, a11, a12, a13, a14, a15, a16, a17, a18, a19, rfl, mx, ml⟩ v H9 s9 hv
    have up79 : Up H7 H9 := (up_same s8).trans ((mx.up fun q hq u e => by rw [List.mem_singleton.mp hq] at e; exact (ml7.same s8).ni u e).trans (up_same s9))
    have gx := gI.sub (List.take_sublist i I)
    have ml9 := ml.same s9
    have hg : lvP K (.lst ((I.take i).map toWi)) (.ref f) H9 := wi_gl ml9.g
    have hlt : i < I.length := (List.getElem?_eq_some_iff.mp hx).1
    refine ys_seq (ys_if (b := false) (yt_eq (by
      show (!((listB (normB d.1) "hears" (.lst ((I.take i).map toWi)) && spareV (normB d.1, d.2) (.lst ((I.take i).map toWi))) == spareB d (I.take i))) = false
      rw [spare_exact hd gx.m gx.a]
      simp) (yt_not (yt_b (y_call2 (y_call2 (y_var rfl (Sty.up up79 hdk7)) (y_var rfl hg) ⟨sp_norm hd.b, nst, gx.wi hd⟩) (y_call2 (y_var rfl (Sty.up up79 hw7)) (y_var rfl ml9.g) ⟨hd.wf, gx.ok wf⟩) trivial)))) (fun b16 H16 s16 => by cases b16) (fun b16 H16 s16 => ?_))
    refine nx_ (ys_app (x := x) rfl (ml9.same s16) (y_var rfl (up_ s16 hv)) (by rw [List.length_take]; omega) fun H17 mx17 ml17 => ?_)
    exact ⟨_, _, _, _, _, _, _, _, _, _, _, rfl, (mx.trans (Mx.of (s9.trans s16))).trans mx17, by rw [take_one hx]; exact ml17⟩
  rintro σ' H9 ⟨a9, a10, a11, a12, a13, a14, a15, a16, a17, a18, a19, rfl, mx9, ml9⟩
  have nif : ∀ q ∈ [f], ∀ u, H8 q = some u → ¬ Imm u := fun q hq u e => by rw [List.mem_singleton.mp hq] at e; exact (ml7.same s8).ni u e
  have up79 : Up H7 H9 := (up_same s8).trans (mx9.up nif)
  have hdk9 : dkP K (normB d.1, d.2) v3 H9 := Sty.up up79 hdk7
  have hit9 : lP pP I v4 H9 := Sty.up up79 hit7
  have hw9 : wP d v1 H9 := Sty.up up79 hw7
  have hws9 : lP sP ws v2 H9 := Sty.up up79 hws7
  have pu9 : Pu p (k + 8000) H9 := (pu7.same s8).mx mx9 fp
  have mx39 : Mx [p, f] H3 H9 := (mx37.trans (Mx.of s8)).trans (mx_r mx9)
  clear pm pmz hy hz llen h_some h_need ml4 ml5 ml7 gL hdk2 hit2 hw2 hws2 hdk5 hit5 hw5 hws5 hdk7 hit7 hw7 hws7 h75 hso5 hne5 mx37
  have nB : ∀ p, p ∈ wordsAt (normB d.1) "hears" → p.1 ∈ keys d.1 ∧ (look d.1 p.1).1 = "hears" ∧ p.2 ∈ keys (look d.1 p.1).2 := fun p hp => (words_look wf).mp ((words_norm wf).mp hp)
  refine nx_ (ys_seq (ys_set (P := lP (btP K (normB d.1)) (List.replicate 16 ())) (y_fzl (yn_lsts (r := btP K (normB d.1)) (xs := [(), (), (), (), (), (), (), (), (), (), (), (), (), (), (), ()])
    (yl_cons (y_non.mono fun _ _ h => bt_nl (nl_non h)) (yl_cons ((y_int (i := 5)).mono fun _ _ h => bt_nl (nl_int h)) (yl_cons ((y_bl (x := true)).mono fun _ _ h => bt_nl (nl_bl h)) (yl_cons ((y_str (x := "")).mono fun _ _ h => bt_nl (nl_str h))
    (yl_cons ((y_fzD (r := sP) yn_newK).mono fun _ _ h => bt_nl (nl_dict h)) (yl_cons ((y_tup ya_nil).mono fun _ _ h => bt_nl (nl_tup h)) (yl_cons ((y_var rfl hdk9).mono fun _ _ h => bt_nl (nl_desk T h))
    (yl_cons ((y_fzL (yn_lst (ya_cons (y_var rfl hdk9) ya_nil))).mono fun _ _ h => bt_one (x := .non) h (fun _ _ h => nw_desk T h) trivial rfl)
    (yl_cons ((y_fzL (yn_lst (ya_cons y_non ya_nil))).mono fun _ _ h => bt_one (x := .non) h (fun _ _ h => nw_non h) trivial rfl)
    (yl_cons ((y_fzL (yn_lst (ya_cons (y_int (i := 5)) ya_nil))).mono fun _ _ h => bt_one (x := .non) h (fun _ _ h => nw_int h) trivial rfl)
    (yl_cons ((y_fzL (yn_lst (ya_cons (y_tup ya_nil) ya_nil))).mono fun _ _ h => bt_one (x := .non) h (fun _ _ h => nw_tup h (by decide)) trivial rfl)
    (yl_cons ((y_fzL (yn_lst (ya_cons (y_fzL (yn_lst ya_nil)) ya_nil))).mono fun _ _ h => bt_one (x := .non) h (fun _ _ h => nw_lst h) trivial rfl)
    (yl_cons ((y_fzL (yn_lst (ya_cons (y_tup (ya_cons (y_str (x := "a")) ya_nil)) ya_nil))).mono fun _ _ h => bt_one (x := .non) h (fun _ _ h => nw_tup h (by simp)) trivial rfl)
    (yl_cons ((y_fzL (yn_lst (ya_cons (y_str (x := "a")) ya_nil))).mono fun _ _ h => bt_one (x := .non) h (fun _ _ h => nw_str h) trivial rfl)
    (yl_cons ((y_fzL (yn_lst (ya_cons (y_pair (x := "zzzzzzzzz") (y := "a") (ya_cons y_str (ya_cons y_str ya_nil))) ya_nil))).mono fun _ _ h => bt_one (x := toWi ("zzzzzzzzz", "a")) h (fun _ _ h => h) zz_ok zz_no)
    (yl_cons ((y_fzL (yn_lst (ya_cons (y_tup (ya_cons (y_fzL (yn_lst ya_nil)) (ya_cons (y_fzD (r := sP) yn_newK) ya_nil))) ya_nil))).mono fun _ _ h => bt_one (x := .two none none) h (fun _ _ h => wi_odd h) ⟨fun s e => (by cases e), fun s e => (by cases e)⟩ rfl)
    yl_nil)))))))))))))))))) fun vb H10 s10 hb10 => ?_))
  have hw10 := up_ s10 hw9
  refine nx_ (ys_seq (ys_for (r := sP) (xs := sortS (keys d.1)) (yi_l (y_fzl (yn_sortedD (y_w0 (y_var rfl hw10)) blen))) fun H11 s11 => ⟨fun i σ' H' => ∃ (a9 a10 a11 a12 a14 a15 a16 a17 a18 a19 : Option V) (vb : V) (us : List Unit), σ' = [some (.ref p), some v1, some v2, some v3, some v4, some v5, some v6, some v7, some (.ref f), a9, a10, a11, a12, some vb, a14, a15, a16, a17, a18, a19] ∧ Same H11 H' ∧ lP (btP K (normB d.1)) us vb H' ∧ us.length ≤ 16 + 2 * i, ⟨_, _, _, _, _, _, _, _, _, _, _, _, rfl, Same.refl _, up_ s11 hb10, by simp⟩, ?_, ?_, ?_⟩))
  · rintro i σ' H' ⟨a9, a10, a11, a12, a14, a15, a16, a17, a18, a19, vb, us, rfl, sH, _⟩
    exact up_same sH
  · rintro i x σ' H' hx ⟨a9, a10, a11, a12, a14, a15, a16, a17, a18, a19, vb, us, rfl, sH, hb, ul⟩ v H12 s12 hv
    have hil : i < 6 := by
      have h1 := (List.getElem?_eq_some_iff.mp hx).1
      rw [(sortS_perm _).length_eq, keys_length] at h1
      have := hs.n
      omega
    have xk : x ∈ keys d.1 := mem_sortS.mp (List.mem_of_getElem? hx)
    have s1012 := s11.trans (sH.trans s12)
    have hw12 := up_ s1012 hw10
    have hv12 : sP x v H12 := hv
    obtain ⟨c0, hc0, hp0, hat⟩ := pick_head (cs := (Str.ofString "abcdefghijklmnop").cps.toList) (F := keys (look d.1 x).2 ++ keys d.1) (p := fun c => (!has (look d.1 x).2 (repC 7 c) && !has d.1 (repC 7 c))) (k := 7) (by decide) (by decide +kernel) (fun c hc h => by
      rw [Bool.and_eq_false_iff, Bool.not_eq_false', Bool.not_eq_false'] at h
      rcases h with h | h
      · exact List.mem_append_left _ (has_iff.mp h)
      · exact List.mem_append_right _ (has_iff.mp h)) (by
      rw [List.length_append, keys_length, keys_length, letters16]
      have h1 := hs.n
      have h2 := hs.m _ (look_mem xk)
      have h2 : (look d.1 x).2.length ≤ 6 := h2
      omega)
    rw [Bool.and_eq_true, Bool.not_eq_true', Bool.not_eq_true'] at hp0
    have n1 : repC 7 c0 ∉ keys (look d.1 x).2 := fun z => by rw [has_iff.mpr z] at hp0; cases hp0.1
    have n2 : repC 7 c0 ∉ keys d.1 := fun z => by rw [has_iff.mpr z] at hp0; cases hp0.2
    have sp0 : (repC 7 c0).length ≤ 1000 := sp_len (repC_sp (letters_abc hc0) (by decide) (by decide))
    have spx : x.length ≤ 1000 := sp_len (hd.b.st x xk)
    refine ys_seq (ys_set (P := sP (repC 7 c0)) (y_ixl (i := 0) (y_fzl (yn_lc (r := fun c => sP (oneS c)) (r' := sP) (fun c => (!has (look d.1 x).2 (repC 7 c) && !has d.1 (repC 7 c))) (repC 7) (yi_letters (by decide)) (fun x20 m20 v20 H20 s20 h20 => bd1 ⟨rfl, (yt_and (yt_b (y_dnotin (y_op (r_repC (k := 7) (by decide) (by decide)) (y_var rfl h20) y_int) (y_r1 (y_dget (y_w0 (y_var rfl (up_ s20 hw12))) (y_var rfl (up_ s20 hv12)) xk)))) fun b21 => (yt_b (y_dnotin (y_op (r_repC (k := 7) (by decide) (by decide)) (y_var rfl h20) y_int) (y_w0 (y_var rfl (up_ s20 hw12)))))), fun e20 => (y_op (r_repC (k := 7) (by decide) (by decide)) (y_var rfl h20) y_int)⟩))) y_int hat) fun v15 H22 s22 h15 => ?_)
    refine nx_ (ys_set (P := lP (btP K (normB d.1)) (us ++ [(), ()])) (y_fzl (yn_catl (y_var rfl (up_ (s12.trans s22) hb)) (y_fzl (yn_lsts (r := btP K (normB d.1)) (xs := [(), ()]) (yl_cons ((y_fzl (yn_lsts (r := pP) (xs := [(x, repC 7 c0)]) (yl_cons (y_pair (ya_cons (y_var rfl (up_ s22 hv12)) (ya_cons (y_var rfl h15) ya_nil))) yl_nil))).mono fun _ _ h => bt_prs2 h (one_okl spx sp0) (by simp) (List.mem_singleton.mpr rfl) fun z => n1 (nB _ z).2.2) (yl_cons ((y_fzl (yn_lsts (r := pP) (xs := [(repC 7 c0, x)]) (yl_cons (y_pair (ya_cons (y_var rfl h15) (ya_cons (y_var rfl (up_ s22 hv12)) ya_nil))) yl_nil))).mono fun _ _ h => bt_prs2 h (one_okl sp0 spx) (by simp) (List.mem_singleton.mpr rfl) fun z => n2 (nB _ z).1) yl_nil)))) (by rw [sizeLine_eq]; simp; omega))) fun v13 H23 s23 h13 => ?_)
    exact ⟨_, _, _, _, _, _, _, _, _, _, _, _, rfl, sH.trans ((s12.trans s22).trans s23), h13, by rw [List.length_append]; simp; omega⟩
  rintro σ' H12 ⟨a9, a10, a11, a12, a14, a15, a16, a17, a18, a19, vb, us, rfl, sH, hb, ul⟩
  have ul : us.length ≤ 28 := by
    rw [(sortS_perm _).length_eq, keys_length] at ul
    have := hs.n
    omega
  have s912 := (s10.trans s11).trans sH
  have hw12 := up_ s912 hw9
  have hit12 := up_ s912 hit9
  have hdk12 := up_ s912 hdk9
  obtain ⟨c1, hc1, hp1, hat1⟩ := pick_head (cs := (Str.ofString "abcdefghijkl").cps.toList) (F := keys d.1) (p := fun c => !has d.1 (repC 6 c)) (k := 6) (by decide) (by decide +kernel) (fun c hc h => by
      rw [Bool.not_eq_false'] at h
      exact has_iff.mp h) (by
      rw [keys_length, letters12]
      have h1 := hs.n
      omega)
  rw [Bool.not_eq_true'] at hp1
  have n3 : repC 6 c1 ∉ keys d.1 := fun z => by rw [has_iff.mpr z] at hp1; cases hp1
  have sp1 : (repC 6 c1).length ≤ 1000 := sp_len (repC_sp (letters_abc2 hc1) (by decide) (by decide))
  refine nx_ (ys_seq (ys_set (P := sP (repC 6 c1)) (y_ixl (i := 0) (y_fzl (yn_lc (r := fun c => sP (oneS c)) (r' := sP) (fun c => !has d.1 (repC 6 c)) (repC 6) (yi_letters (by decide)) (fun x20 m20 v20 H20 s20 h20 => bd1 ⟨rfl, (yt_b (y_dnotin (y_op (r_repC (k := 6) (by decide) (by decide)) (y_var rfl h20) y_int) (y_w0 (y_var rfl (up_ s20 hw12))))), fun e20 => (y_op (r_repC (k := 6) (by decide) (by decide)) (y_var rfl h20) y_int)⟩))) y_int hat1) fun v16 H13 s13 h16 => ?_))
  have gI2 := gI.sub (List.take_sublist 2 I)
  refine nx_ (ys_seq (ys_set (P := lP (btP K (normB d.1)) (us ++ (I.take 2).map fun _ => ())) (y_fzl (yn_catl (y_var rfl (up_ s13 hb)) (y_fzl (yn_lc0 (r' := btP K (normB d.1)) (fun _ => ()) (yi_l (y_fzl (yn_slTo (n := 2) (y_var rfl (up_ s13 hit12)) y_int))) (fun x26 m26 v26 H26 s26 h26 => bd1 ⟨rfl, yt_yes, fun e26 => ((y_fzl (yn_lsts (r := pP) (xs := [(repC 6 c1, x26.2)]) (yl_cons (y_pair (ya_cons (y_var rfl (up_ s26 h16)) (ya_cons (y_p1 (y_var rfl h26)) ya_nil))) yl_nil))).mono fun _ _ h => bt_prs2 h (one_okl sp1 (gI2.okl hd _ m26).2) (by simp) (List.mem_singleton.mpr rfl) fun z => n3 (nB _ z).1)⟩))) (by rw [List.length_map, List.length_take, sizeLine_eq]; omega))) fun vb2 H14 s14 hb14 => ?_))
  have ul2 : (us ++ (I.take 2).map fun _ => ()).length ≤ 30 := by rw [List.length_append, List.length_map, List.length_take]; omega
  generalize (us ++ (I.take 2).map fun _ => ()) = us2 at hb14 ul2
  have s1214 := s13.trans s14
  have hw14 := up_ s1214 hw12
  have hit14 := up_ s1214 hit12
  have hdk14 := up_ s1214 hdk12
  refine nx_ (ys_seq (ys_set (y_fzl (yn_slTo (n := 1) (y_call2 (y_var rfl hw14) y_str wf) y_int)) fun v17 H15 s15 h17 => ?_))
  have gS1 : ∀ q ∈ (itemsOf d.1 "says").take 1, q ∈ wordsAt d.1 "says" := fun q hq => (mem_items wf).mp (List.mem_of_mem_take hq)
  have lS1 : ((itemsOf d.1 "says").take 1).length ≤ 1 := by rw [List.length_take]; omega
  generalize (itemsOf d.1 "says").take 1 = S1 at h17 gS1 lS1
  have h17g : lvP K (.lst (S1.map toWi)) v17 H15 := wi_gl (xs_gl h17)
  refine nx_ (ys_seq (ys_if (b := false) (yt_eq (by
    show (!S1.isEmpty && ((listB (normB d.1) "hears" (.lst (S1.map toWi)) && spareV (normB d.1, d.2) (.lst (S1.map toWi))) != false)) = false
    cases S1 with
    | nil => rfl
    | cons q r =>
      have hq := (words_look wf).mp (gS1 q (List.mem_cons_self ..))
      rw [list_bad2 (p := q) (List.mem_cons_self ..) fun z => by
        have := (nB _ z).2.1
        rw [hq.2.1] at this
        exact absurd this (by decide)]
      rfl) (yt_and (yt_test (y_neNilP (y_var rfl h17) (fun y hy => wordsAt_ok wf y (gS1 y hy)))) fun b29 => (yt_test (y_op r_notB (y_call2 (y_var rfl (up_ s15 hdk14)) (y_var rfl h17g) ⟨sp_norm hd.b, nst, wi_ok hd gS1 (by omega)⟩) y_bl)))) (fun b30 H30 s30 => by cases b30) (fun b30 H16 s16 => ?_)))
  have s1416 := s15.trans s16
  have hit16 := up_ s1416 hit14
  have hb16 := up_ s1416 hb14
  have gLo : ∀ y ∈ (I.take 2).map (fun q => [q]) ++ (if decide ((1 : Int) < (I.length : Nat)) then [I.take 2] else []), y.Sublist I ∧ ((∃ q, y = [q]) ∨ ∃ a b, y = [a, b]) := fun y hy => by
    rcases List.mem_append.mp hy with z | z
    · obtain ⟨q, hq, rfl⟩ := List.mem_map.mp z
      exact ⟨List.singleton_sublist.mpr (List.mem_of_mem_take hq), .inl ⟨q, rfl⟩⟩
    · split at z
      · rw [List.mem_singleton.mp z]
        refine ⟨List.take_sublist 2 I, .inr ?_⟩
        have h1 : (1 : Int) < (I.length : Nat) := of_decide_eq_true (by assumption)
        match I, h1 with
        | a :: b :: r, _ => exact ⟨a, b, rfl⟩
        | [a], h => exact absurd h (by simp)
        | [], h => exact absurd h (by simp)
      · cases z
  have lLo : ((I.take 2).map (fun q => [q]) ++ (if decide ((1 : Int) < (I.length : Nat)) then [I.take 2] else [])).length ≤ 3 := by
    rw [List.length_append, List.length_map, List.length_take]
    split <;> simp <;> omega
  refine nx_ (ys_seq (ys_for (r := lP pP) (xs := (I.take 2).map (fun q => [q]) ++ (if decide ((1 : Int) < (I.length : Nat)) then [I.take 2] else [])) (yi_l (y_fzl (yn_catl (y_fzl (yn_lc0 (r' := lP pP) (fun q => [q]) (yi_l (y_fzl (yn_slTo (n := 2) (y_var rfl hit16) y_int))) (fun x32 m32 v32 H32 s32 h32 => bd1 ⟨rfl, yt_yes, fun e32 => (y_fzl (yn_lsts (r := pP) (xs := [x32]) (yl_cons (y_var rfl h32) yl_nil)))⟩))) (y_fzl (yn_rep2 (r := lP pP) (yn_lsts (r := lP pP) (xs := [I.take 2]) (yl_cons (y_fzl (yn_slTo (n := 2) (y_var rfl hit16) y_int)) yl_nil)) (y_cb b_intB (y_op r_gt (y_lenL (y_var rfl hit16)) y_int)))) (by rw [← List.length_append, sizeLine_eq]; omega)))) fun H17 s17 => ⟨fun i σ' H' => ∃ (a9 a10 a11 a12 a14 a15 a16 a17 a18 a19 : Option V) (vb : V) (us : List Unit), σ' = [some (.ref p), some v1, some v2, some v3, some v4, some v5, some v6, some v7, some (.ref f), a9, a10, a11, a12, some vb, a14, a15, a16, a17, a18, a19] ∧ Same H17 H' ∧ lP (btP K (normB d.1)) us vb H' ∧ us.length ≤ 30 + 9 * i, ⟨_, _, _, _, _, _, _, _, _, _, _, _, rfl, Same.refl _, up_ s17 hb16, by omega⟩, ?_, ?_, ?_⟩))
  · rintro i σ' H' ⟨a9, a10, a11, a12, a14, a15, a16, a17, a18, a19, vb, us, rfl, sH, _⟩
    exact up_same sH
  · rintro i y σ' H' hx ⟨a9, a10, a11, a12, a14, a15, a16, a17, a18, a19, vb, us, rfl, sH, hb, ul⟩ v H18 s18 hv
    have hil : i < 3 := Nat.lt_of_lt_of_le (List.getElem?_eq_some_iff.mp hx).1 lLo
    obtain ⟨ys, yf⟩ := gLo y (List.mem_of_getElem? hx)
    have gy := gI.sub ys
    have okl := gy.okl hd
    have hv18 : lP pP y v H18 := hv
    obtain ⟨ini, z, ez⟩ : ∃ ini z, y = ini ++ [z] := by
      rcases yf with ⟨q, e⟩ | ⟨a, b, e⟩
      · exact ⟨[], q, e⟩
      · exact ⟨[a], b, e⟩
    have zl : y.length ≤ 2 := by rcases yf with ⟨q, e⟩ | ⟨a, b, e⟩ <;> rw [e] <;> simp
    have zm : z ∈ y := by rw [ez]; simp
    have yne : ∃ q, q ∈ y := ⟨z, zm⟩
    have bnon : ∀ {v : V} {H : Hp} {u : Unit}, lP (wiP K) (y.map fun _ => Wi.non) v H → btP K (normB d.1) u v H := fun h => bt_lst h (fun x hx => by obtain ⟨_, _, rfl⟩ := List.mem_map.mp hx; trivial) (by rw [List.length_map]; omega) (list_bad1 (List.mem_map.mpr ⟨z, zm, rfl⟩) rfl)
    have tw : lP pP (ini ++ [z]) v H18 := ez ▸ hv18
    have asc2 : ascB (y ++ [z]) = false := by
      rw [ez, show (ini ++ [z]) ++ [z] = ini ++ [z, z] ++ [] by simp]
      exact ascB_no (ltP_irr z)
    have okz : OkL (y ++ [z]) := fun q hq => (List.mem_append.mp hq).elim (okl q) fun h => by rw [List.mem_singleton.mp h]; exact okl z zm
    refine ys_seq (ys_set (P := lP (btP K (normB d.1)) (us ++ [(), (), (), (), (), ()])) (y_fzl (yn_catl (y_var rfl (up_ s18 hb)) (y_fzl (yn_lsts (r := btP K (normB d.1)) (xs := [(), (), (), (), (), ()])
      (yl_cons ((y_tupleOf (y_var rfl hv18)).mono fun _ _ h => bt_nl (nl_tup h))
      (yl_cons ((y_fzl (yn_catl (r := pP) (xs := y) (ys := [z]) (y_var rfl hv18) (y_fzl (yn_slLast (y_var rfl tw) (y_neg y_int))) (by rw [sizeLine_eq]; simp; omega))).mono fun _ _ h => bt_prs3 h okz (by rw [List.length_append]; simp; omega) asc2)
      (yl_cons ((y_fzl (yn_catl (r := wiP K) (xs := y.map toWi) (ys := [Wi.non]) (y_var rfl (wi_l hv18)) ((y_fzL (yn_lst (ya_cons y_non ya_nil))).mono fun _ _ h => one_non h) (by rw [List.length_map, sizeLine_eq]; simp; omega))).mono fun _ _ h => bt_lst h (fun x hx => (List.mem_append.mp hx).elim (ok_wi okl x) fun h => by rw [List.mem_singleton.mp h]; trivial) (by rw [List.length_append, List.length_map]; simp; omega) (list_bad1 (List.mem_append_right _ (List.mem_singleton.mpr rfl)) rfl))
      (yl_cons ((y_fzl (yn_catl (r := wiP K) (xs := [Wi.non]) (ys := y.map toWi) ((y_fzL (yn_lst (ya_cons y_non ya_nil))).mono fun _ _ h => one_non h) (y_var rfl (wi_l hv18)) (by rw [List.length_map, sizeLine_eq]; simp; omega))).mono fun _ _ h => bt_lst h (fun x hx => (List.mem_append.mp hx).elim (fun h => by rw [List.mem_singleton.mp h]; trivial) (ok_wi okl x)) (by rw [List.length_append, List.length_map]; simp; omega) (list_bad1 (List.mem_append_left _ (List.mem_singleton.mpr rfl)) rfl))
      (yl_cons ((y_fzl (yn_lc0 (r' := wiP K) (fun _ => Wi.non) (yi_l (y_var rfl hv18)) (fun x34 m34 v34 H34 s34 h34 => bd1 ⟨rfl, yt_yes, fun e34 => (y_fzL (yn_listTup (a := x34.1) (b := x34.2) (y_var rfl h34))).mono fun _ _ h => nw_lst h⟩))).mono fun _ _ h => bnon h)
      (yl_cons ((y_fzl (yn_lc0 (r' := wiP K) (fun _ => Wi.non) (yi_l (y_var rfl hv18)) (fun x35 m35 v35 H35 s35 h35 => bd1 ⟨rfl, yt_yes, fun e35 => (y_catT3 (a := x35.1) (b := x35.2) (c := "a") (y_var rfl h35) (y_tup (ya_cons y_str ya_nil))).mono fun _ _ h => nw_tup h (by simp)⟩))).mono fun _ _ h => bnon h)
      yl_nil)))))))) (by rw [sizeLine_eq]; simp; omega))) fun vb3 H19 s19 hb19 => ?_)
    have ul3 : (us ++ [(), (), (), (), (), ()]).length ≤ 36 + 9 * i := by rw [List.length_append]; simp; omega
    generalize us ++ [(), (), (), (), (), ()] = us3 at hb19 ul3
    have hv19 := up_ s19 hv18
    have rv : ∀ v H, lP (lP pP) (if decide ((1 : Int) < (y.length : Nat)) then [y.reverse] else []) v H → lP (btP K (normB d.1)) (if decide ((1 : Int) < (y.length : Nat)) then [()] else []) v H := fun v H h => by
      rcases yf with ⟨q, e⟩ | ⟨a, b, e⟩
      · rw [e] at h ⊢
        exact h
      · have ab : ltP a b = true := by
          have := gy.a
          rw [e] at this
          exact (List.pairwise_cons.mp this).1 b (List.mem_singleton.mpr rfl)
        rw [e] at h ⊢ okl
        obtain ⟨x, vs, e1, hl, al, z⟩ := h
        obtain ⟨w1, rfl, h1⟩ := al1 al
        refine ⟨x, _, e1, hl, ⟨bt_prs3 h1 (fun q hq => okl q (List.mem_reverse.mp hq)) (by simp) ?_, trivial⟩, z⟩
        exact ascB_no (l := []) (m := []) (ltP_asym ab)
    have kn : (keys (y.map fun q => (q, (0 : Int)))).Nodup := by
      rw [keys_mk, List.map_id']
      exact nodup_asc gy.a
    refine nx_ (ys_set (P := lP (btP K (normB d.1)) ((us3 ++ (if decide ((1 : Int) < (y.length : Nat)) then [()] else [])) ++ [()])) (y_fzl (yn_catl (y_fzl (yn_catl (y_var rfl hb19) ((y_fzl (yn_rep2 (r := lP pP) (yn_lsts (r := lP pP) (xs := [y.reverse]) (yl_cons (y_fzl (yn_rev (y_var rfl hv19))) yl_nil)) (y_cb b_intB (y_op r_gt (y_lenL (y_var rfl hv19)) y_int)))).mono rv) (by rw [sizeLine_eq]; split <;> simp <;> omega))) (y_fzl (yn_lsts (r := btP K (normB d.1)) (xs := [()]) (yl_cons ((y_fzQ (yn_cb (b_dictT kn) (y_fzl (yn_lc0 (r' := iqP iP) (fun q => (q, (0 : Int))) (yi_l (y_var rfl hv19)) (fun x37 m37 v37 H37 s37 h37 => bd1 ⟨rfl, yt_yes, fun e37 => (y_iq (ya_cons (y_var rfl h37) (ya_cons y_int ya_nil)))⟩))))).mono fun _ _ h => bt_nl (nl_dictq h)) yl_nil))) (by rw [List.length_append, sizeLine_eq]; split <;> simp <;> omega))) fun vb4 H20 s20 hb20 => ?_)
    exact ⟨_, _, _, _, _, _, _, _, _, _, _, _, rfl, sH.trans ((s18.trans s19).trans s20), hb20, by rw [List.length_append, List.length_append]; split <;> simp <;> omega⟩
  rintro σ' H18 ⟨a9, a10, a11, a12, a14, a15, a16, a17, a18, a19, vb, us, rfl, sH, hb, ul⟩
  have s1218 := s1214.trans (s1416.trans (s17.trans sH))
  have s918 := s912.trans s1218
  have hdk18 := up_ s918 hdk9
  have hw18 := up_ s918 hw9
  have hws18 := up_ s918 hws9
  have pu18 := pu9.same s918
  have anyf : ((us.map fun _ => false).any id) = false := by
    rw [List.any_eq_false]
    intro x hx
    obtain ⟨_, _, rfl⟩ := List.mem_map.mp hx
    simp
  refine nx_ (ys_seq (show tIfS _ _ _ _ _ _ from ?_))
  refine (yt_b (Y.eqB (y_cb b_any (y_fzl (yn_lc0 (r' := bP) (fun _ => false) (yi_l (y_var rfl hb)) (fun x39 m39 v39 H39 s39 h39 => bd1 ⟨rfl, yt_yes, fun e39 => Y.eqB (y_op (r_notB (x := false) (y := false)) ((y_call2E (p2 := lvP K) (φ := NotL (normB d.1)) (y_var rfl (up_ s39 hdk18)) ((y_var rfl h39).mono fun v H ⟨x, h1, h2⟩ => ⟨x, fl_lv h1, h2⟩) (fun x hx => ⟨sp_norm hd.b, nst, hx.1⟩)).mono fun v H ⟨x, h1, h2⟩ => not_spare h2 h1) y_bl) rfl⟩)))) anyf)) H18 (Same.refl _) _ fun H19 s19 => ⟨_, rfl, _, rfl, _, rfl, _, rfl, p, v1, v3, v2, d, ws, k, rfl, up_ s19 hw18, up_ s19 hdk18, up_ s19 hws18, hd, wsp, wl, (pu18.same s19).le (by omega), fun H20 mx20 pu20 => ⟨true, rfl, ?_⟩⟩
  have up920 : Up H18 H20 := (up_same s19).trans ((pu18.same s19).up mx20)
  refine nx_ (ys_ret (P := bP true) (y_eqDesk (K := K) (d := (normB d.1, d.2)) (y_var rfl (Sty.up up920 hdk18)) (y_call1 (a := d) (y_var rfl (Sty.up up920 hw18)) hd) nwf) fun v H21 s21 h => ?_)
  rw [show v = .bl true from h]
  exact hq H21 (mx_drop nf0 mx03 ((mx39.trans (Mx.of (s918.trans s19))).trans ((mx_l mx20).trans (Mx.of s21)))) (pu20.same s21)
end En
set_option maxHeartbeats 4000000
/-! The law. -/
namespace En
open PySem PySem.Spec PyProof.Rows L2
variable {P : Program} {w : World} {K : PySem.W.Frag} {mg : Str → Option Value} {base : Heap}
theorem turn_kind {k : Str} (h : KindOk k) : KindOk (look turnK k) ∧ (look turnK k = "done" ↔ k = "done") := by
  have hk : k ∈ (["says", "hears", "done"] : List Str) := h
  unfold KindOk
  rcases List.mem_cons.mp hk with e | hk
  · subst e; decide
  · rcases List.mem_cons.mp hk with e | hk
    · subst e; decide
    · have e := List.mem_singleton.mp hk
      subst e; decide
theorem turn_sps {d : World'} (h : SpS d) : SpS (turnB d.1, d.2) := by
  have wf := h.w.b.wf
  have ks : keys (turnB d.1) = keys d.1 := by
    unfold turnB
    rw [keys_mk, List.map_id']
  have len : (turnB d.1).length = d.1.length := by rw [← keys_length, ks, keys_length]
  have row : ∀ r ∈ turnB d.1, r.1 ∈ keys d.1 ∧ r.2.1 = look turnK (look d.1 r.1).1 ∧ r.2.2 = (look d.1 r.1).2 := fun r hr => by
    obtain ⟨s, hs, rfl⟩ := List.mem_map.mp hr
    exact ⟨hs, rfl, rfl⟩
  refine ⟨⟨⟨⟨by rw [ks]; exact wf.nd, by rw [len]; exact wf.len, fun r hr => ?_⟩, fun s hs => h.w.b.st s (ks ▸ hs), fun r hr t ht => ?_⟩, by show d.2 ∈ keys (turnB d.1); rw [ks]; exact h.w.s⟩, by show (turnB d.1).length ≤ 6; rw [len]; exact h.n, fun r hr => ?_⟩
  · obtain ⟨h1, h2, h3⟩ := row r hr
    have w0 := wf.at h1
    obtain ⟨k1, k2⟩ := turn_kind w0.kind
    refine ⟨by rw [h2]; exact k1, w0.ok, by rw [h3]; exact w0.nd, by rw [h3]; exact w0.len, fun t ht => w0.words t (by rw [← h3]; exact ht), fun t ht => by rw [ks]; exact w0.goals t (by show t ∈ (look d.1 r.1).2; rw [← h3]; exact ht), ?_⟩
    rw [h2, h3]
    exact k2.trans w0.fin
  · obtain ⟨h1, h2, h3⟩ := row r hr
    exact h.w.b.wd _ (look_mem h1) t (by show t ∈ (look d.1 r.1).2; rw [← h3]; exact ht)
  · obtain ⟨h1, h2, h3⟩ := row r hr
    rw [h3]
    exact h.m _ (look_mem h1)
section
variable {σ : L2.St} {H : Hp} {D : Ends} {ta tb tn te : TE} {g : TG} {bd : TS} {p : Addr} {k : Nat} {Q : VK}
theorem lw_for (h : ta σ H fun v H1 => tFor (iList K (tC v)) g bd D σ H1) : tFor (iList K ta) g bd D σ H := h
theorem cp_pick (e : σ[1]? = some (some (.ref p))) (hp : Pu p (k + 2001) H) (q : ∀ v d ws H1, rwP (d, ws) v H1 → SpS d → ws.length ≤ 6 → (∀ x ∈ ws, spT x = true) → Mx [p] H H1 → Pu p k H1 → Q v H1) :
    tIf (tTest (tOp rEq (tCall sp_l_draw [] E0 (tCons (tVar 1) (tCons (tC (.int 4)) tNil))) (tC (.int 0)))) (tCall sp_l_chatty [] E0 (tCons (tVar 1) tNil)) (tCall sp_l_row_of [] E0 (tCons (tVar 1) (tCons (tC (.int 6)) tNil))) σ H Q :=
  (show tIf _ _ _ _ _ _ from cp_eq (n := 4) (k := k + 2000) e (by decide) (by decide) hp fun b H1 mx1 pu1 => by
    cases b with
    | true => exact (show tCall sp_l_chatty [] E0 (tCons (tVar 1) tNil) σ H1 Q from ⟨_, e, p, k, rfl, pu1, fun v d ws H2 a b c f mx pu => q v d ws H2 a b c f (mx1.trans mx) pu⟩)
    | false => exact (show tCall sp_l_row_of [] E0 (tCons (tVar 1) (tCons (tC (.int 6)) tNil)) σ H1 Q from ⟨_, e, p, k, rfl, pu1, fun v d ws H2 a b c f mx pu => q v d ws H2 a b c f (mx1.trans mx) pu⟩))
theorem un2 {P1 P2 : Pr} {i j : Nat} {v : V} {Q : L2.St → Hp → Prop} (h : LP [P1, P2] v H) (q : ∀ w1 w2, P1 w1 H → P2 w2 H → Q ((σ.set i (some w1)).set j (some w2)) H) : gUnl K 2 (gCons (gName i) (gCons (gName j) gNil)) v σ H Q := by
  obtain ⟨a, vs, e, hl, al, z⟩ := h
  obtain ⟨w1, w2, rfl, h1, h2⟩ := al2 al
  exact ⟨a, _, e, hl.sq, rfl, _, _, rfl, _, _, rfl, rfl, q w1 w2 h1 h2⟩
end
theorem Pu.other {q : Addr} {ps : List Addr} {k : Nat} {H H' : Hp} (h : Pu q k H) (m : Mx ps H H') (n : q ∉ ps) : Pu q k H' := by
  obtain ⟨u, h6, h7⟩ := h
  exact ⟨u, m _ _ n h6, h7⟩
def sp_law (K : PySem.W.Frag) : Sp := fun vs H Q _ => ∃ (v : V) (ns : List Int), vs = [v] ∧ scP K ns v H ∧ ∀ H', Q (.bl true) H'
abbrev N_law : List Str := ["_law_script", "_law_purse_here", "_law_turn", "_law_world_here", "_law_words_here"]
theorem nd_law : N_law.Nodup := by decide
theorem b_law (T : Tf w K mg) (f : Addr) (cdv : Value) (A : Around) (outer : List Env) (s : Shared) (H : Hp) (vs : List V) (Q : VK) (E : XK) (hr : Room 11 (A.deeper (envOfC d_law.qual d_law.scope s.heap.objs.size f cdv))) (hsp : sp_law K vs H Q E) :
    ∃ t, PSs (cxOf C8.CX0 P w K mg base N_law d_law.qual d_law.scope f cdv A outer s H E).nox d_law.body t ∧ t { nx := fun _ H' => Q .non H', rt := Q } (start N_law vs) H := by
  obtain ⟨v0, ns, rfl, h_script, hq⟩ := hsp
  refine ⟨_, (pss_cons (ps_for PassesOwn.never rfl (k_list (K := K) rfl (C8.pe_c (c_l_purses T) hr (by decide) rfl (pa_cons (pv 0) (pa_cons pe_int pa_nil)))) (pg_name (i := 1) nd_law rfl (Or.inl rfl))
    (pss_one (ps_for PassesOwn.never rfl (pi_range1 rfl T.n_range (pa_cons pe_int pa_nil)) (pg_name (i := 2) nd_law rfl (Or.inl rfl))
    (pss_cons (ps_asg (pe_ifExp (pt_cmpR op_eq (C8.pe_c (c_l_draw T) hr (by decide) rfl (pa_cons (pv 1) (pa_cons pe_int pa_nil))) pe_int (nomark _)) (C8.pe_c (c_l_chatty T) hr (by decide) rfl (pa_cons (pv 1) pa_nil)) (C8.pe_c (c_l_row_of T) hr (by decide) rfl (pa_cons (pv 1) (pa_cons pe_int pa_nil)))) (k_pg_unl (K := K) (n := 2) rfl rfl (pgs_cons (pg_name (i := 3) nd_law rfl (Or.inl rfl)) (pgs_cons (pg_name (i := 4) nd_law rfl (Or.inl rfl)) pgs_nil))))
    (pss_cons (ps_set (i := 3) nd_law rfl (Or.inl rfl) (C8.pe_c (c_l_ended T) hr (by decide) rfl (pa_cons (pv 1) (pa_cons (pv 3) pa_nil))))
    (pss_cons (ps_if (pt_cmpR op_lt (pe_callB (k_lenA (K := K) rfl) (by rfl) T.n_len (by decide +kernel) (pa_cons (C8.pe_c (c_l_items T) hr (by decide) rfl (pa_cons (pv 3) (pa_cons pe_str pa_nil))) pa_nil)) pe_int (nomark _)) (pss_one (ps_set (i := 3) nd_law rfl (Or.inl rfl) (C8.pe_c (c_l_turned T) hr (by decide) rfl (pa_cons (pv 3) pa_nil))))
    pss_nil)
    (pss_one (ps_if (pt_not (pt_val (C8.pe_c (c_l_world_right T) hr (by decide) rfl (pa_cons (pv 1) (pa_cons (pv 3) (pa_cons (pv 4) pa_nil)))))) (pss_one (ps_ret pe_bl))
    pss_nil))))))))
    (pss_one (ps_ret pe_bl))), ?_⟩
  refine ys_seq (lw_for ⟨_, rfl, v0, ns, rfl, h_script, fun u H1 ps s1 hps plen pnd pus => ?_⟩)
  refine ys_for (xs := ps) (r := adP) (yi_l (y_cs hps)) fun H2 s2 => ⟨fun i σ' H' => ∃ (a b c e : Option V), σ' = [some v0, a, b, c, e] ∧ Mx ps H2 H' ∧ ∀ q ∈ ps.drop i, Pu q PK H', ⟨_, _, _, _, rfl, Mx.rfl, fun q hq => ((pus q (by rwa [List.drop_zero] at hq)).2).same s2⟩, ?_, ?_, ?_⟩
  · rintro i σ' H' ⟨a, b, c, e, rfl, mx, _⟩
    exact mx.up fun q hq => ((pus q hq).2.same s2).ni q (List.mem_singleton.mpr rfl)
  · rintro i p σ' H' hx ⟨a, b, c, e, rfl, mx, pus'⟩ v H3 s3 hv
    have hv3 : v = .ref p := hv
    subst hv3
    have hlt : i < ps.length := (List.getElem?_eq_some_iff.mp hx).1
    have hdr : ps.drop i = p :: ps.drop (i + 1) := by
      rw [List.drop_eq_getElem_cons hlt]
      congr 1
      exact (List.getElem?_eq_some_iff.mp hx).2
    have pp : p ∈ ps := List.mem_of_getElem? hx
    have pn : p ∉ ps.drop (i + 1) := by
      have := pnd.sublist (List.drop_sublist i ps)
      rw [hdr] at this
      exact (List.nodup_cons.mp this).1
    have pu3 : Pu p 100000 H3 := ((pus' p (by rw [hdr]; exact List.mem_cons_self ..)).same s3).le (by unfold PK; decide)
    have back : ∀ H9, Mx [p] H3 H9 → ∀ (a b c e : Option V), ∃ (a' b' c' e' : Option V), [some v0, a, b, c, e] = [some v0, a', b', c', e'] ∧ Mx ps H2 H9 ∧ ∀ q ∈ ps.drop (i + 1), Pu q PK H9 := fun H9 m a b c e => ⟨_, _, _, _, rfl, (mx.trans (Mx.of s3)).trans (mx_p m fun q hq => by rw [List.mem_singleton.mp hq]; exact pp), fun q hq => ((pus' q (by rw [hdr]; exact List.mem_cons_of_mem _ hq)).same s3).other m fun z => pn (by rw [List.mem_singleton.mp z] at hq; exact hq)⟩
    refine (show tFor _ _ _ _ _ _ from ys_for (xs := List.range 2) (r := fun i : Nat => iP (i : Int)) (yi_range1 (n := 2) y_int (by decide)) fun H4 s4 => ⟨fun j σ' H' => ∃ (b c e : Option V), σ' = [some v0, some (.ref p), b, c, e] ∧ Mx [p] H4 H' ∧ Pu p (20000 * (2 - j)) H', ⟨_, _, _, rfl, Mx.rfl, (pu3.same s4).le (by omega)⟩, ?_, ?_, ?_⟩)
    · rintro j σ' H' ⟨b, c, e, rfl, mx, _⟩
      exact (pu3.same s4).up mx
    · rintro j x σ' H' hj ⟨b, c, e, rfl, mx2, pu⟩ vj H5 s5 hvj
      have hj2 : j < 2 := by
        have := (List.getElem?_eq_some_iff.mp hj).1
        rwa [List.length_range] at this
      have ec : 20000 * (2 - j) = (20000 * (2 - (j + 1)) + 17999) + 2001 := by omega
      rw [ec] at pu
      have fin : ∀ (v3 v4 : V) (d : World') (ws : List Str) (b : Option V) (H9 : Hp), wP d v3 H9 → lP sP ws v4 H9 → SpS d → ws.length ≤ 6 → (∀ x ∈ ws, spT x = true) → Mx [p] H5 H9 → Pu p (20000 * (2 - (j + 1)) + 17000) H9 → ∀ (D : Ends), (∀ H', Mx [p] H5 H' → Pu p (20000 * (2 - (j + 1))) H' → D.nx [some v0, some (.ref p), b, some v3, some v4] H') → tIfS (tNot (tB (tCall (sp_l_world_right K) [] E0 (tCons (tVar 1) (tCons (tVar 3) (tCons (tVar 4) tNil)))))) (tRet (tC (.bl false))) tNext D [some v0, some (.ref p), b, some v3, some v4] H9 := by
        intro v3 v4 d ws b H9 h3 h4 hs wl wsp mx9 pu9 D q
        exact ⟨_, rfl, _, rfl, _, rfl, p, v3, v4, d, ws, 20000 * (2 - (j + 1)), rfl, h3, h4, hs, wsp, wl, pu9.le (by omega), fun H10 mx10 pu10 => ⟨true, rfl, q H10 (mx9.trans mx10) pu10⟩⟩
      refine ys_seq (show tAsg _ _ _ _ _ from cp_pick (k := 20000 * (2 - (j + 1)) + 17999) rfl (pu.same s5) fun v d ws H6 hr hs wl wsp mx6 pu6 => un2 hr fun w1 w2 h1 h2 => ?_)
      refine nx_ (ys_seq (show tAsg _ _ _ _ _ from ⟨_, rfl, _, rfl, p, w1, d, 20000 * (2 - (j + 1)) + 17997, rfl, h1, hs, pu6, fun v7 d7 H7 h7 hs7 mx7 pu7 => ?_⟩))
      have h27 : lP sP ws w2 H7 := Sty.up (pu6.up mx7) h2
      refine nx_ (ys_seq (ys_if (yt_test (y_op r_lt (y_lenL (y_call2 (y_var rfl h7) y_str hs7.w.b.wf)) y_int)) (fun b6 H8 s8 => ?_) (fun b6 H8 s8 => ?_)))
      · refine ys_set (y_call1 (y_var rfl (up_ s8 h7)) hs7.w.b.wf) fun v9 H9 s9 h9 => ?_
        refine nx_ (fin v9 w2 (turnB d7.1, d7.2) ws _ H9 h9 (up_ (s8.trans s9) h27) (turn_sps hs7) wl wsp ((mx6.trans mx7).trans (Mx.of (s8.trans s9))) ((pu7.same (s8.trans s9)).le (by omega)) _ fun H10 mx10 pu10 => ?_)
        exact ⟨_, _, _, rfl, (mx2.trans (Mx.of s5)).trans mx10, pu10⟩
      · refine nx_ (fin v7 w2 d7 ws _ H8 (up_ s8 h7) (up_ s8 h27) hs7 wl wsp ((mx6.trans mx7).trans (Mx.of s8)) ((pu7.same s8).le (by omega)) _ fun H10 mx10 pu10 => ?_)
        exact ⟨_, _, _, rfl, (mx2.trans (Mx.of s5)).trans mx10, pu10⟩
    · rintro σ' H' ⟨b, c, e, rfl, mx2, pu⟩
      exact back H' ((Mx.of s4).trans mx2) _ _ _ _
  · rintro σ' H' ⟨a, b, c, e, rfl, mx, _⟩
    exact nx_ (hq H')
end En
set_option maxHeartbeats 0
namespace En
open PySem PySem.Spec PyProof.Rows L2
theorem runF (w : World) : HandSHeadRun.RunEq R (PySem.W.view R.prog [91]) hk ob 6000 loose (w.withFollow "special-get-raises" false) := by
  intro os
  kernel_rfl
theorem runT (w : World) : HandSHeadRun.RunEq R (PySem.W.view R.prog [91]) hk ob 6000 loose (w.withFollow "special-get-raises" true) := by
  intro os
  kernel_rfl
theorem run (w : World) : HandSHeadRun.RunEq R (PySem.W.view R.prog [91]) hk ob 6000 loose w :=
  PySem.W.byRow2 "special-get-raises" (P := fun w => HandSHeadRun.RunEq R (PySem.W.view R.prog [91]) hk ob 6000 loose w) runF runT w
end En
set_option maxHeartbeats 0
/-! The claim. -/
namespace En
open PySem PySem.Spec PyProof.Rows L2
theorem facts {P : Program} {w : World} {K : PySem.W.Frag} {h : Heap} {mg : Str → Option Value} {f : Addr} (X : K.In h) (G : h.Ns mainGlobals mg) (hfa : mg ("law" : Str) = some (.ref f)) (c : He.SaysT fa fn ts w K) (ex : exB K = true) :
    ∃ fd : FuncData, (∀ (s : Shared) (v : Value), BindsTo s fd ⟨[v], []⟩ [("_law_script", v)]) ∧ ∀ base : Heap, K.In base → base.Ns mainGlobals mg → FnOk P w K mg base C8.CX0 12 f fd ["_law_script"] (sp_law K) := by
  have T : Tf w K mg := ⟨c, ex, h, X, G⟩
  obtain ⟨fd, F⟩ := T.c.d.def_ 75 (d := d_law) rfl
  have e1 : d_law.dvs K = [] := rfl
  rw [e1] at F
  have e3 : He.fAd K d_law.at_ = He.ga K "law" := rfl
  rw [e3] at F
  have e := hfa.symm.trans (T.glo (x := "law") (by simp [fa, fa0, fa1, fa2, fa3]))
  cases e
  have b := FunD.bindsA (ps := ["_law_script"]) F fun _ _ _ _ _ _ us hl => match us, hl with | [_], _ => rfl
  refine ⟨fd, fun s v => b s [v] rfl, fun base _ _ => F.ok (N := N_law) (C8.fnScope_by (by decide +kernel)) (fun vs H Q E h => by obtain ⟨_, _, rfl, _⟩ := h; rfl) (fun cdv A outer s H vs Q E hr h => ?_)⟩
  obtain ⟨t, h1, h2⟩ := b_law T _ cdv A outer s H vs Q E hr h
  exact ⟨t, h1.nox, h2⟩
end En
open PySem PySem.W PySem.Calls PyProof.Rows
theorem PySem.Challenge.cw_endswell_k60_whole_spare_heard_words_holds : PySem.Challenge.rw_endswell_k60_whole_spare_heard_words.Holds := by
  w_on; o_law
  refine HandSHeadRun.head_any (r := OpenLaw.row PySem.Challenge.rw_endswell_k60_whole_spare_heard_words) (q := view (OpenLaw.row PySem.Challenge.rw_endswell_k60_whole_spare_heard_words).prog [91]) (H := En.hk) (ob := En.ob) (M := 6000) (loose := En.loose) (d := HandSHeadRun.topDef (OpenLaw.row PySem.Challenge.rw_endswell_k60_whole_spare_heard_words).prog 91) (kwd := []) En.ob_eq
    (by kernel_rfl) (fun s => by kernel_rfl) En.run (by kernel_rfl) (by kernel_rfl) (by kernel_rfl) (by rfl) (by first | assumption | decide +kernel) (by decide +kernel) ⟨rfl, rfl, rfl, rfl, rfl, by decide +kernel⟩ ?hw ?hc
  case hw => w_witness2
  case hc =>
    refine L2.walk_ofE (l := PySem.Challenge.rw_endswell_k60_whole_spare_heard_words) (n := 63) (k := 12) (x := "_law_script") (CX := C8.CX0) rfl (by decide) (by kernel_rfl) ⟨rfl, by decide, by decide⟩ ?F (fun _ _ _ _ z => z)
    intro w mg fa h Y G hmg0
    obtain ⟨K, KX, c, ex⟩ := Y
    have hmg : mg ("law" : PySem.Str) = some (.ref fa) := by
      have e : (HandSHeadRun.topDef (OpenLaw.row PySem.Challenge.rw_endswell_k60_whole_spare_heard_words).prog 91).name = ("law" : PySem.Str) := by kernel_rfl
      rw [← e]
      exact hmg0
    obtain ⟨fd, hb, hF⟩ := En.facts (P := (PySem.Challenge.rw_endswell_k60_whole_spare_heard_words).prog) (w := w) KX G hmg c ex
    exact ⟨K, fd, En.sp_law K, KX, hb, fun H a ns hl _ hS => ⟨.ref a, ns, rfl, ⟨a, rfl, hS, by omega⟩, fun _ => rfl⟩, hF⟩
