import PyProof.Rows.All
import Wide.All
import OpenK.AllK
import Wide.FinOn
import HandS.Head0
import HandS.Head1
import HandS.Head2
import HandS.HeadEnd
import HandS.HeadHook1
import HandS.HeadHook2
import HandS.HeadHook3
import HandS.HeadHook4
import HandS.HeadWalk
import HandS.ExcInit
import HandS.ExcField
import PySem.Challenge.RW_dutyproof_k99_whole_answers_come_to_by_t
import HandS.ForMost
import HandS.HotCalls
import HandS.Defaults
import KE.KMinKey
import HandS.SortKw
import HandS.Replace
import HandS.ReplaceLit
import HandS.ReplaceDef
import HandS.ExcCtx
import HandS.Nested
import HandS.Evl
import HandS.IsInst
import HandS.NoneIn
import HandS.Style
import HandS.SetFor
import HandS.StrMore
import HandS.Wide
import HandS.WideBits
import HandS.SortRule
import HandS.Conv
import HandS.IterVal
set_option Elab.async false
set_option linter.all false
set_option maxRecDepth 100000
set_option maxHeartbeats 0
namespace Dty
open PySem PySem.Spec PyProof.Rows L2
/-! ### the text by places -/
def top (i : Nat) : Stmt := PySem.Challenge.pw_dutyproof_k99_whole_answers_come_to_by_t.main.body.getD i (.Pass ⟨0, 0, 0, 0⟩)
abbrev s_NotKept_init : Stmt := inClass (top 9) 0
abbrev s_is_whole : Stmt := top 14
abbrev s_rounds_up : Stmt := top 15
abbrev s_ready : Stmt := top 18
abbrev s_due_at : Stmt := top 19
abbrev s_in_range : Stmt := top 20
abbrev s_right_coming : Stmt := top 21
abbrev s_first_wrong : Stmt := top 22
abbrev s_checked : Stmt := top 23
abbrev s_put_on : Stmt := top 25
abbrev s_run : Stmt := top 26
abbrev s_ceiling : Stmt := top 30
abbrev s_holding : Stmt := top 31
abbrev s_rank : Stmt := top 32
abbrev s_hold_up : Stmt := top 33
abbrev s_comings_in : Stmt := top 35
abbrev s_load : Stmt := top 36
abbrev s_in_time : Stmt := top 37
abbrev s_answer : Stmt := top 38
abbrev s_blocker : Stmt := top 40
abbrev s_latest : Stmt := top 41
abbrev s_early : Stmt := top 42
abbrev s_hardest : Stmt := top 43
abbrev s_is_name : Stmt := top 49
abbrev s_from_on : Stmt := top 50
abbrev s_is_hold : Stmt := top 51
abbrev s_holds_fit : Stmt := top 54
abbrev s_Work_init : Stmt := inClass (top 55) 0
abbrev s_Work_held : Stmt := inClass (top 55) 1
abbrev s_Duty_init : Stmt := inClass (top 59) 0
abbrev s_Duty_size : Stmt := inClass (top 59) 1
abbrev s_Duty_work : Stmt := inClass (top 59) 2
abbrev s_Duty_number_of : Stmt := inClass (top 59) 3
abbrev s_Duty_crowd : Stmt := inClass (top 59) 4
abbrev s_Duty_reordered : Stmt := inClass (top 59) 5
abbrev s_Order_init : Stmt := inClass (top 64) 0
abbrev s_Order_pick : Stmt := inClass (top 64) 4
abbrev s_ByRank_rank_of : Stmt := inClass (top 65) 0
abbrev s_ByRank_holds : Stmt := inClass (top 65) 1
abbrev s_ByRank_steady : Stmt := inClass (top 65) 2
abbrev s_paper : Stmt := top 73
abbrev s_is_number : Stmt := top 81
abbrev s_number_in : Stmt := top 82
abbrev s_words_of : Stmt := top 83
abbrev s_read_hold : Stmt := top 85
abbrev s_read_work : Stmt := top 87
abbrev s_show_coming : Stmt := top 88
abbrev s_read_coming : Stmt := top 89
abbrev s_show_row : Stmt := top 90
abbrev s_read_row : Stmt := top 91
abbrev s_Verdict_kept : Stmt := inClass (top 100) 0
abbrev s_Kept_init : Stmt := inClass (top 101) 0
abbrev s_Kept_kept : Stmt := inClass (top 101) 1
abbrev s_Kept_told : Stmt := inClass (top 101) 2
abbrev s_Broken_init : Stmt := inClass (top 102) 0
abbrev s_Broken_told : Stmt := inClass (top 102) 1
abbrev s_broken_by : Stmt := top 103
abbrev s_judge_ranks : Stmt := top 104
abbrev s_works_of : Stmt := top 107
abbrev s_with_work : Stmt := top 108
abbrev s_without_work : Stmt := top 109
abbrev s_in_order : Stmt := top 110
abbrev s_order_of : Stmt := top 111
abbrev s_show_stretch : Stmt := top 112
abbrev s_said_of_run : Stmt := top 113
abbrev s_judged : Stmt := top 115
abbrev s_said_of_name : Stmt := top 116
abbrev s_said : Stmt := top 117
abbrev s_Desk_init : Stmt := inClass (top 118) 0
abbrev s_Desk_say : Stmt := inClass (top 118) 1
abbrev s_l_cell_at : Stmt := top 120
abbrev s_l_stream : Stmt := top 121
abbrev s_l_names : Stmt := top 122
abbrev s_l_parts : Stmt := top 123
abbrev s_l_text : Stmt := top 124
abbrev s_l_figure : Stmt := top 125
abbrev s_l_row_read : Stmt := top 126
abbrev s_l_legal : Stmt := top 127
abbrev s_l_ends : Stmt := top 128
abbrev s_l_hardest : Stmt := top 129
abbrev s_l_come_to : Stmt := top 130
abbrev s_l_turned : Stmt := top 131
abbrev s_law : Stmt := top 132
def d_NotKept_init : He.DefD := ⟨("NotKept", some "__init__"), "__init__", "NotKept.__init__", defArgs s_NotKept_init, defBody s_NotKept_init, defScope s_NotKept_init, [], []⟩
def d_is_whole : He.DefD := ⟨("is_whole", none), "is_whole", "is_whole", defArgs s_is_whole, defBody s_is_whole, defScope s_is_whole, [], []⟩
def d_rounds_up : He.DefD := ⟨("rounds_up", none), "rounds_up", "rounds_up", defArgs s_rounds_up, defBody s_rounds_up, defScope s_rounds_up, [], []⟩
def d_ready : He.DefD := ⟨("ready", none), "ready", "ready", defArgs s_ready, defBody s_ready, defScope s_ready, [], []⟩
def d_due_at : He.DefD := ⟨("due_at", none), "due_at", "due_at", defArgs s_due_at, defBody s_due_at, defScope s_due_at, [], []⟩
def d_in_range : He.DefD := ⟨("in_range", none), "in_range", "in_range", defArgs s_in_range, defBody s_in_range, defScope s_in_range, [], []⟩
def d_right_coming : He.DefD := ⟨("right_coming", none), "right_coming", "right_coming", defArgs s_right_coming, defBody s_right_coming, defScope s_right_coming, [], []⟩
def d_first_wrong : He.DefD := ⟨("first_wrong", none), "first_wrong", "first_wrong", defArgs s_first_wrong, defBody s_first_wrong, defScope s_first_wrong, [], []⟩
def d_checked : He.DefD := ⟨("checked", none), "checked", "checked", defArgs s_checked, defBody s_checked, defScope s_checked, [], []⟩
def d_put_on : He.DefD := ⟨("put_on", none), "put_on", "put_on", defArgs s_put_on, defBody s_put_on, defScope s_put_on, [], []⟩
def d_run : He.DefD := ⟨("run", none), "run", "run", defArgs s_run, defBody s_run, defScope s_run, [], []⟩
def d_ceiling : He.DefD := ⟨("ceiling", none), "ceiling", "ceiling", defArgs s_ceiling, defBody s_ceiling, defScope s_ceiling, [], []⟩
def d_holding : He.DefD := ⟨("holding", none), "holding", "holding", defArgs s_holding, defBody s_holding, defScope s_holding, [], []⟩
def d_rank : He.DefD := ⟨("rank", none), "rank", "rank", defArgs s_rank, defBody s_rank, defScope s_rank, [], []⟩
def d_hold_up : He.DefD := ⟨("hold_up", none), "hold_up", "hold_up", defArgs s_hold_up, defBody s_hold_up, defScope s_hold_up, [], []⟩
def d_comings_in : He.DefD := ⟨("comings_in", none), "comings_in", "comings_in", defArgs s_comings_in, defBody s_comings_in, defScope s_comings_in, [], []⟩
def d_load : He.DefD := ⟨("load", none), "load", "load", defArgs s_load, defBody s_load, defScope s_load, [], []⟩
def d_in_time : He.DefD := ⟨("in_time", none), "in_time", "in_time", defArgs s_in_time, defBody s_in_time, defScope s_in_time, [], []⟩
def d_answer : He.DefD := ⟨("answer", none), "answer", "answer", defArgs s_answer, defBody s_answer, defScope s_answer, [], []⟩
def d_blocker : He.DefD := ⟨("blocker", none), "blocker", "blocker", defArgs s_blocker, defBody s_blocker, defScope s_blocker, [], []⟩
def d_latest : He.DefD := ⟨("latest", none), "latest", "latest", defArgs s_latest, defBody s_latest, defScope s_latest, [], []⟩
def d_early : He.DefD := ⟨("early", none), "early", "early", defArgs s_early, defBody s_early, defScope s_early, [], []⟩
def d_hardest : He.DefD := ⟨("hardest", none), "hardest", "hardest", defArgs s_hardest, defBody s_hardest, defScope s_hardest, [], []⟩
def d_is_name : He.DefD := ⟨("is_name", none), "is_name", "is_name", defArgs s_is_name, defBody s_is_name, defScope s_is_name, [], []⟩
def d_from_on : He.DefD := ⟨("from_on", none), "from_on", "from_on", defArgs s_from_on, defBody s_from_on, defScope s_from_on, [], []⟩
def d_is_hold : He.DefD := ⟨("is_hold", none), "is_hold", "is_hold", defArgs s_is_hold, defBody s_is_hold, defScope s_is_hold, [], []⟩
def d_holds_fit : He.DefD := ⟨("holds_fit", none), "holds_fit", "holds_fit", defArgs s_holds_fit, defBody s_holds_fit, defScope s_holds_fit, [], []⟩
def d_Work_init : He.DefD := ⟨("Work", some "__init__"), "__init__", "Work.__init__", defArgs s_Work_init, defBody s_Work_init, defScope s_Work_init, [.non, .int 0, .non], []⟩
def d_Work_held : He.DefD := ⟨("Work", some "held"), "held", "Work.held", defArgs s_Work_held, defBody s_Work_held, defScope s_Work_held, [], []⟩
def d_Duty_init : He.DefD := ⟨("Duty", some "__init__"), "__init__", "Duty.__init__", defArgs s_Duty_init, defBody s_Duty_init, defScope s_Duty_init, [], []⟩
def d_Duty_size : He.DefD := ⟨("Duty", some "size"), "size", "Duty.size", defArgs s_Duty_size, defBody s_Duty_size, defScope s_Duty_size, [], []⟩
def d_Duty_work : He.DefD := ⟨("Duty", some "work"), "work", "Duty.work", defArgs s_Duty_work, defBody s_Duty_work, defScope s_Duty_work, [], []⟩
def d_Duty_number_of : He.DefD := ⟨("Duty", some "number_of"), "number_of", "Duty.number_of", defArgs s_Duty_number_of, defBody s_Duty_number_of, defScope s_Duty_number_of, [], []⟩
def d_Duty_crowd : He.DefD := ⟨("Duty", some "crowd"), "crowd", "Duty.crowd", defArgs s_Duty_crowd, defBody s_Duty_crowd, defScope s_Duty_crowd, [], []⟩
def d_Duty_reordered : He.DefD := ⟨("Duty", some "reordered"), "reordered", "Duty.reordered", defArgs s_Duty_reordered, defBody s_Duty_reordered, defScope s_Duty_reordered, [], []⟩
def d_Order_init : He.DefD := ⟨("ByRank", some "__init__"), "__init__", "Order.__init__", defArgs s_Order_init, defBody s_Order_init, defScope s_Order_init, [], []⟩
def d_Order_pick : He.DefD := ⟨("ByRank", some "pick"), "pick", "Order.pick", defArgs s_Order_pick, defBody s_Order_pick, defScope s_Order_pick, [], []⟩
def d_ByRank_rank_of : He.DefD := ⟨("ByRank", some "rank_of"), "rank_of", "ByRank.rank_of", defArgs s_ByRank_rank_of, defBody s_ByRank_rank_of, defScope s_ByRank_rank_of, [], []⟩
def d_ByRank_holds : He.DefD := ⟨("ByRank", some "holds"), "holds", "ByRank.holds", defArgs s_ByRank_holds, defBody s_ByRank_holds, defScope s_ByRank_holds, [], []⟩
def d_ByRank_steady : He.DefD := ⟨("ByRank", some "steady"), "steady", "ByRank.steady", defArgs s_ByRank_steady, defBody s_ByRank_steady, defScope s_ByRank_steady, [], []⟩
def d_paper : He.DefD := ⟨("paper", none), "paper", "paper", defArgs s_paper, defBody s_paper, defScope s_paper, [], []⟩
def d_is_number : He.DefD := ⟨("is_number", none), "is_number", "is_number", defArgs s_is_number, defBody s_is_number, defScope s_is_number, [], []⟩
def d_number_in : He.DefD := ⟨("number_in", none), "number_in", "number_in", defArgs s_number_in, defBody s_number_in, defScope s_number_in, [], []⟩
def d_words_of : He.DefD := ⟨("words_of", none), "words_of", "words_of", defArgs s_words_of, defBody s_words_of, defScope s_words_of, [], []⟩
def d_read_hold : He.DefD := ⟨("read_hold", none), "read_hold", "read_hold", defArgs s_read_hold, defBody s_read_hold, defScope s_read_hold, [], []⟩
def d_read_work : He.DefD := ⟨("read_work", none), "read_work", "read_work", defArgs s_read_work, defBody s_read_work, defScope s_read_work, [], []⟩
def d_show_coming : He.DefD := ⟨("show_coming", none), "show_coming", "show_coming", defArgs s_show_coming, defBody s_show_coming, defScope s_show_coming, [], []⟩
def d_read_coming : He.DefD := ⟨("read_coming", none), "read_coming", "read_coming", defArgs s_read_coming, defBody s_read_coming, defScope s_read_coming, [], []⟩
def d_show_row : He.DefD := ⟨("show_row", none), "show_row", "show_row", defArgs s_show_row, defBody s_show_row, defScope s_show_row, [], []⟩
def d_read_row : He.DefD := ⟨("read_row", none), "read_row", "read_row", defArgs s_read_row, defBody s_read_row, defScope s_read_row, [], []⟩
def d_Verdict_kept : He.DefD := ⟨("Broken", some "kept"), "kept", "Verdict.kept", defArgs s_Verdict_kept, defBody s_Verdict_kept, defScope s_Verdict_kept, [], []⟩
def d_Kept_init : He.DefD := ⟨("Kept", some "__init__"), "__init__", "Kept.__init__", defArgs s_Kept_init, defBody s_Kept_init, defScope s_Kept_init, [], []⟩
def d_Kept_kept : He.DefD := ⟨("Kept", some "kept"), "kept", "Kept.kept", defArgs s_Kept_kept, defBody s_Kept_kept, defScope s_Kept_kept, [], []⟩
def d_Kept_told : He.DefD := ⟨("Kept", some "told"), "told", "Kept.told", defArgs s_Kept_told, defBody s_Kept_told, defScope s_Kept_told, [], []⟩
def d_Broken_init : He.DefD := ⟨("Broken", some "__init__"), "__init__", "Broken.__init__", defArgs s_Broken_init, defBody s_Broken_init, defScope s_Broken_init, [], []⟩
def d_Broken_told : He.DefD := ⟨("Broken", some "told"), "told", "Broken.told", defArgs s_Broken_told, defBody s_Broken_told, defScope s_Broken_told, [], []⟩
def d_broken_by : He.DefD := ⟨("broken_by", none), "broken_by", "broken_by", defArgs s_broken_by, defBody s_broken_by, defScope s_broken_by, [], []⟩
def d_judge_ranks : He.DefD := ⟨("judge_ranks", none), "judge_ranks", "judge_ranks", defArgs s_judge_ranks, defBody s_judge_ranks, defScope s_judge_ranks, [], []⟩
def d_works_of : He.DefD := ⟨("works_of", none), "works_of", "works_of", defArgs s_works_of, defBody s_works_of, defScope s_works_of, [], []⟩
def d_with_work : He.DefD := ⟨("with_work", none), "with_work", "with_work", defArgs s_with_work, defBody s_with_work, defScope s_with_work, [], []⟩
def d_without_work : He.DefD := ⟨("without_work", none), "without_work", "without_work", defArgs s_without_work, defBody s_without_work, defScope s_without_work, [], []⟩
def d_in_order : He.DefD := ⟨("in_order", none), "in_order", "in_order", defArgs s_in_order, defBody s_in_order, defScope s_in_order, [], []⟩
def d_order_of : He.DefD := ⟨("order_of", none), "order_of", "order_of", defArgs s_order_of, defBody s_order_of, defScope s_order_of, [], []⟩
def d_show_stretch : He.DefD := ⟨("show_stretch", none), "show_stretch", "show_stretch", defArgs s_show_stretch, defBody s_show_stretch, defScope s_show_stretch, [], []⟩
def d_said_of_run : He.DefD := ⟨("said_of_run", none), "said_of_run", "said_of_run", defArgs s_said_of_run, defBody s_said_of_run, defScope s_said_of_run, [], []⟩
def d_judged : He.DefD := ⟨("judged", none), "judged", "judged", defArgs s_judged, defBody s_judged, defScope s_judged, [], []⟩
def d_said_of_name : He.DefD := ⟨("said_of_name", none), "said_of_name", "said_of_name", defArgs s_said_of_name, defBody s_said_of_name, defScope s_said_of_name, [], []⟩
def d_said : He.DefD := ⟨("said", none), "said", "said", defArgs s_said, defBody s_said, defScope s_said, [], []⟩
def d_Desk_init : He.DefD := ⟨("Desk", some "__init__"), "__init__", "Desk.__init__", defArgs s_Desk_init, defBody s_Desk_init, defScope s_Desk_init, [], []⟩
def d_Desk_say : He.DefD := ⟨("Desk", some "say"), "say", "Desk.say", defArgs s_Desk_say, defBody s_Desk_say, defScope s_Desk_say, [], []⟩
def d_l_cell_at : He.DefD := ⟨("_law_cell_at", none), "_law_cell_at", "_law_cell_at", defArgs s_l_cell_at, defBody s_l_cell_at, defScope s_l_cell_at, [], []⟩
def d_l_stream : He.DefD := ⟨("_law_stream", none), "_law_stream", "_law_stream", defArgs s_l_stream, defBody s_l_stream, defScope s_l_stream, [], []⟩
def d_l_names : He.DefD := ⟨("_law_names", none), "_law_names", "_law_names", defArgs s_l_names, defBody s_l_names, defScope s_l_names, [], []⟩
def d_l_parts : He.DefD := ⟨("_law_parts", none), "_law_parts", "_law_parts", defArgs s_l_parts, defBody s_l_parts, defScope s_l_parts, [], []⟩
def d_l_text : He.DefD := ⟨("_law_text", none), "_law_text", "_law_text", defArgs s_l_text, defBody s_l_text, defScope s_l_text, [], []⟩
def d_l_figure : He.DefD := ⟨("_law_figure", none), "_law_figure", "_law_figure", defArgs s_l_figure, defBody s_l_figure, defScope s_l_figure, [], []⟩
def d_l_row_read : He.DefD := ⟨("_law_row_read", none), "_law_row_read", "_law_row_read", defArgs s_l_row_read, defBody s_l_row_read, defScope s_l_row_read, [], []⟩
def d_l_legal : He.DefD := ⟨("_law_legal", none), "_law_legal", "_law_legal", defArgs s_l_legal, defBody s_l_legal, defScope s_l_legal, [], []⟩
def d_l_ends : He.DefD := ⟨("_law_ends", none), "_law_ends", "_law_ends", defArgs s_l_ends, defBody s_l_ends, defScope s_l_ends, [], []⟩
def d_l_hardest : He.DefD := ⟨("_law_hardest", none), "_law_hardest", "_law_hardest", defArgs s_l_hardest, defBody s_l_hardest, defScope s_l_hardest, [], []⟩
def d_l_come_to : He.DefD := ⟨("_law_come_to", none), "_law_come_to", "_law_come_to", defArgs s_l_come_to, defBody s_l_come_to, defScope s_l_come_to, [], []⟩
def d_l_turned : He.DefD := ⟨("_law_turned", none), "_law_turned", "_law_turned", defArgs s_l_turned, defBody s_l_turned, defScope s_l_turned, [], []⟩
def d_law : He.DefD := ⟨("law", none), "law", "law", defArgs s_law, defBody s_law, defScope s_law, [], []⟩
def fn0 : List He.DefD := [d_NotKept_init, d_is_whole, d_rounds_up, d_ready, d_due_at, d_in_range, d_right_coming, d_first_wrong, d_checked, d_put_on, d_run, d_ceiling, d_holding, d_rank, d_hold_up, d_comings_in, d_load, d_in_time, d_answer, d_blocker, d_latest, d_early, d_hardest, d_is_name, d_from_on, d_is_hold, d_holds_fit, d_Work_init, d_Work_held, d_Duty_init]
def fn1 : List He.DefD := [d_Duty_size, d_Duty_work, d_Duty_number_of, d_Duty_crowd, d_Duty_reordered, d_Order_init, d_Order_pick, d_ByRank_rank_of, d_ByRank_holds, d_ByRank_steady, d_paper, d_is_number, d_number_in, d_words_of, d_read_hold, d_read_work, d_show_coming, d_read_coming, d_show_row, d_read_row, d_Verdict_kept, d_Kept_init, d_Kept_kept, d_Kept_told, d_Broken_init, d_Broken_told, d_broken_by, d_judge_ranks, d_works_of, d_with_work]
def fn2 : List He.DefD := [d_without_work, d_in_order, d_order_of, d_show_stretch, d_said_of_run, d_judged, d_said_of_name, d_said, d_Desk_init, d_Desk_say, d_l_cell_at, d_l_stream, d_l_names, d_l_parts, d_l_text, d_l_figure, d_l_row_read, d_l_legal, d_l_ends, d_l_hardest, d_l_come_to, d_l_turned, d_law]
def fn : List He.DefD := fn0 ++ fn1 ++ fn2
def fa0 : List He.Fa := [.glo "BadDuty", .glo "BadRow", .glo "BadWork", .glo "Broken", .glo "ByComing", .glo "ByDue", .glo "ByRank", .glo "Desk", .glo "Duty", .str "FIGURES" "0123456789", .glo "Kept", .str "LETTERS" "abcdefghijklmnopqrstuvwxyz", .int "MOST_COMINGS" 200, .int "MOST_CROWD" 80, .int "MOST_FIGURES" 60, .int "MOST_HOLDS" 6, .int "MOST_SIGNS" 8, .int "MOST_WORKS" 12, .glo "NoName", .glo "NoRow", .glo "NoText", .glo "NotKept", .glo "Order", .glo "TooMany", .glo "Verdict", .glo "Work", .glo "_law_cell_at", .glo "_law_come_to", .glo "_law_ends", .glo "_law_figure"]
def fa1 : List He.Fa := [.glo "_law_hardest", .glo "_law_legal", .glo "_law_names", .glo "_law_parts", .glo "_law_row_read", .glo "_law_stream", .glo "_law_text", .glo "_law_turned", .glo "answer", .glo "blocker", .glo "broken_by", .glo "ceiling", .glo "checked", .glo "comings_in", .glo "due_at", .glo "early", .glo "first_wrong", .glo "from_on", .glo "hardest", .glo "hold_up", .glo "holding", .glo "holds_fit", .glo "in_order", .glo "in_range", .glo "in_time", .glo "is_hold", .glo "is_name", .glo "is_number", .glo "is_whole", .glo "judge_due"]
def fa2 : List He.Fa := [.glo "judge_ranks", .glo "judged", .glo "latest", .glo "law", .glo "load", .glo "missed", .glo "number_in", .glo "order_of", .glo "paper", .glo "put_on", .glo "rank", .glo "ranked", .glo "read_coming", .glo "read_hold", .glo "read_row", .glo "read_work", .glo "ready", .glo "right_coming", .glo "rounds_up", .glo "run", .glo "said", .glo "said_of_name", .glo "said_of_row", .glo "said_of_run", .glo "show_coming", .glo "show_row", .glo "show_stretch", .glo "show_work", .glo "slack", .glo "together"]
def fa3 : List He.Fa := [.glo "with_work", .glo "without_work", .glo "words_of", .glo "works_of", .free "all", .free "bool", .free "divmod", .free "int", .free "isinstance", .free "len", .free "list", .free "max", .free "min", .free "range", .free "sorted", .free "str", .free "tuple", .cls "Work", .cls "Duty", .cls "ByRank", .cls "Kept", .cls "Broken", .cls "Desk", .cls "Order", .cls "Verdict", .noat "Work" "name", .noat "Work" "gap", .noat "Work" "length", .noat "Work" "due", .noat "Work" "late"]
def fa4 : List He.Fa := [.noat "Work" "sections", .meth "Work" "held", .mkr "Work", .noat "Duty" "works", .noat "Duty" "numbers", .meth "Duty" "size", .meth "Duty" "work", .meth "Duty" "number_of", .meth "Duty" "crowd", .meth "Duty" "reordered", .mkr "Duty", .noat "ByRank" "duty", .meth "ByRank" "pick", .meth "ByRank" "rank_of", .meth "ByRank" "holds", .meth "ByRank" "steady", .mkr "ByRank", .noat "Kept" "lines", .meth "Kept" "kept", .meth "Kept" "told", .mkr "Kept", .noat "Broken" "row", .noat "Broken" "place", .noat "Broken" "turn", .meth "Broken" "kept", .meth "Broken" "told", .mkr "Broken", .noat "Desk" "duty", .meth "Desk" "say", .mkr "Desk"]
def fa5 : List He.Fa := [.noat "NotKept" "at", .exm "NotKept" "NotKept" true]
def fa : List He.Fa := fa0 ++ fa1 ++ fa2 ++ fa3 ++ fa4 ++ fa5
def nm0 : List PySem.Str := ["_wall", "DutyError", "BadWork", "BadDuty", "TooMany", "BadRow", "HoldsThings", "NoName", "NotKept", "NoRanks", "NoText", "NoRow", "is_whole", "rounds_up", "MOST_COMINGS", "ready", "due_at", "in_range", "right_coming", "first_wrong", "checked", "put_on", "run", "ends", "missed", "ceiling", "holding", "rank", "hold_up", "comings_in"]
def nm1 : List PySem.Str := ["load", "in_time", "answer", "blocker", "latest", "early", "hardest", "packed", "LETTERS", "MOST_SIGNS", "MOST_HOLDS", "is_name", "from_on", "is_hold", "within", "together", "holds_fit", "Work", "MOST_WORKS", "MOST_CROWD", "Duty", "too_full", "refuse_holds", "Order", "ByRank", "ByDue", "ByComing", "fits_weakest", "weakest", "ranked"]
def nm2 : List PySem.Str := ["paper", "lines_of", "room", "slack", "FIGURES", "MOST_FIGURES", "is_number", "number_in", "words_of", "show_hold", "read_hold", "show_work", "read_work", "show_coming", "read_coming", "show_row", "read_row", "CROWDED", "demand", "asked", "crowded", "bends", "spans", "Verdict", "Kept", "Broken", "broken_by", "judge_ranks", "judge_due", "works_of"]
def nm3 : List PySem.Str := ["with_work", "without_work", "in_order", "order_of", "show_stretch", "said_of_run", "said_of_row", "judged", "said_of_name", "said", "Desk", "_law_cell_at", "_law_stream", "_law_names", "_law_parts", "_law_text", "_law_figure", "_law_row_read", "_law_legal", "_law_ends", "_law_hardest", "_law_come_to", "_law_turned"]
def loose : List PySem.Str := nm0 ++ nm1 ++ nm2 ++ nm3
abbrev Row : PySem.W.OpenRow := PySem.W.OpenLaw.row PySem.Challenge.rw_dutyproof_k99_whole_answers_come_to_by_t
def tf : List He.Defn := [("ByRank", some "pick")]
/-! ### what more is asked: the own exception with a field -/
def oexB (K : PySem.W.Frag) (C : Addr) : Bool := match K.lookup C with
  | some ⟨.type c, _, .cls cd, sl⟩ => decide (c = "type") && (match cd.mro, sl.toList with
    | .ref C' :: bm, [_, _, _, _, some (.builtin n), _] => decide (C' = C) && (decide (n = "ValueError.__new__") && (PySem.HandSPX.refsVE bm && (cd.hasDict && !cd.hasDel)))
    | _, _ => false)
  | _ => false
theorem oexB_ok {K : PySem.W.Frag} {C : Addr} (h : oexB K C = true) : ∃ nm q N bs bm sn sub ab col dd k0 k1 k2 k3 k5, K.lookup C = some (excClassObj nm q C N bs bm true sn sub ab col dd k0 k1 k2 k3 k5 "ValueError.__new__") ∧ PySem.HandSPX.refsVE bm = true := by
  unfold oexB at h
  split at h
  · rename_i c dd cd sl ho
    rw [Bool.and_eq_true] at h
    obtain ⟨hc, h⟩ := h
    split at h
    · rename_i C' bm k0 k1 k2 k3 n k5 hm hs
      simp only [Bool.and_eq_true, decide_eq_true_eq, Bool.not_eq_true'] at h hc
      obtain ⟨h1, h2, h3, h4, h5⟩ := h
      subst hc h1 h2
      obtain ⟨nm, bs, mro, N, q, hd, sn, sub, ab, col, del⟩ := cd
      obtain ⟨l⟩ := sl
      simp only at hm hs h4 h5
      subst hm hs h4 h5
      exact ⟨nm, q, N, bs, bm, sn, sub, ab, col, dd, k0, k1, k2, k3, k5, ho, h3⟩
    · cases h
  · cases h
/-- isinstance(.., Work) -/
def wkB (K : PySem.W.Frag) : Bool := decide (PySem.W.findIn K (.ref (He.ga K "Work")) "__class__" = some (some (.builtin "object.__class__"))) && (decide (PySem.W.specialIn K (.builtin "object.__class__") "__get__" = some (some (.builtin "getset_descriptor.__get__"))) &&
  (decide (PySem.W.takesIn K (.builtin "object.__class__") = some true) && decide (PySem.W.mroIn K (He.ga K "Work") (.type "object") = some true)))
def ex (K : PySem.W.Frag) : Bool := oexB K (He.ga K "NotKept") && (decide (PySem.W.findIn K (.ref (He.ga K "NotKept")) "__setattr__" = some (some (.builtin "object.__setattr__"))) &&
  (decide (PySem.W.subIn K (.ref (He.ga K "NotKept")) (.type "BaseException") = some true) && (decide (PySem.W.typeIn K (.ref (He.ga K "NotKept")) = some (.type "type")) && (PySem.W.keepIn K (.ref (He.ga K "NotKept")) &&
  (xfB K (He.ga K "NotKept") && (decide (PySem.W.findIn K (.ref (He.ga K "NotKept")) "__init__" = some (some (.ref (He.ma K (He.ga K "NotKept") "__init__")))) && (decide (PySem.W.typeIn K (.ref (He.ma K (He.ga K "NotKept") "__init__")) = some (.type "function")) && wkB K)))))))
end Dty
set_option Elab.async false
set_option linter.all false
set_option maxRecDepth 100000
set_option maxHeartbeats 0
namespace Dty
open PySem PySem.W PySem.Calls PySem.Spec PyProof.Rows L2
/-! ### what of the heap is looked at: the module's names, their parts, the classes' dicts, the methods, their code -/
def kids (g : Addr → Option Obj) (l : List Addr) : List Addr := l.flatMap fun x => match g x with
  | none => []
  | some q => He.refsD q
def isNsD (g : Addr → Option Obj) (x : Addr) : Bool := match g x with
  | some ⟨_, _, .dict _ _, _⟩ => !(x == builtinsNs)
  | _ => false
def seen (g : Addr → Option Obj) : List Addr :=
  let u := kids g [mainGlobals]
  let v := kids g u
  let m := kids g (v.filter (isNsD g))
  mainGlobals :: (u ++ (v ++ (m ++ kids g m)))
abbrev partK (g : Addr → Option Obj) : PySem.W.Frag := He.frT g (seen g)
def obP (g : Addr → Option Obj) : He.AlX := (He.obsT fa fn [] (partK g), ex (partK g) && He.tabsB g tf (partK g))
theorem says_ok {w : World} {h : Heap} (q : obP h.get? = He.valX fn [] w) : He.SaysX fa fn [] tf ex w h (partK h.get?) := by
  have left : He.obsT fa fn [] (partK h.get?) = He.valT fn [] w := congrArg Prod.fst q
  have right2 : (ex (partK h.get?) && He.tabsB h.get? tf (partK h.get?)) = true := congrArg Prod.snd q
  rw [Bool.and_eq_true] at right2
  obtain ⟨more, right⟩ := right2
  have each : ∀ d ∈ tf, PySem.W.codeHdIn (partK h.get?) (He.cT (partK h.get?) d).1 (He.cT (partK h.get?) d).2 = true ∧
      ∃ t, h.get? (He.cT (partK h.get?) d).2 = some t ∧ He.emptyTab t = true := by
    intro d hd
    have both := List.all_eq_true.mp right d hd
    rw [Bool.and_eq_true] at both
    obtain ⟨b1, b2⟩ := both
    refine ⟨b1, ?_⟩
    generalize h.get? (He.cT (partK h.get?) d).2 = z at b2 ⊢
    match z, b2 with
    | some t, b2 => exact ⟨t, rfl, b2⟩
  refine ⟨left, more, fun d hd => (each d hd).1, fun d hd => ?_, fun d hd => ?_⟩
  · obtain ⟨_, t, ht, he⟩ := each d hd
    exact He.frT_none ht he
  · obtain ⟨_, t, ht, he⟩ := each d hd
    exact ht.trans (congrArg some (He.emptyTab_eq he))
def hk : PySem.W.Hook where
  α := He.AlX
  obs := fun s => obP s.heap.get?
  val := fun w => He.valX fn [] w
  says := fun w h => ∃ K : PySem.W.Frag, K.In h ∧ He.SaysX fa fn [] tf ex w h K
  of := fun _ _ q => ⟨_, He.frT_in, says_ok q⟩
  keeps := fun _ _ _ ⟨K, hin, c⟩ kp => ⟨K, hin.keeps kp, { t := c.t, more := c.more, hd := c.hd, out := c.out, empty := fun d hd => kp _ _ (c.empty d hd) }⟩
def ob (s : PySem.W.SharedT) : He.AlX := obP (HandSHeadRun.getT s)
theorem ob_eq (s : PySem.W.SharedT) : ob s = hk.obs s.abs := congrArg obP (funext fun a => HandSHeadRun.getT_eq s a)
noncomputable abbrev endAt (w : World) (os : OsState) : Option PySem.W.SharedT := HandSHeadRun.endF (HandSHeadRun.stepQ (HandSHeadRun.denQ HandSHeadRun.tabQ) (Row).prog w) 20000 (Row).prog w os
theorem run_rest (w : World) (os : OsState) : (endAt w os).map (fun s => (HandSHeadRun.looksF (Row).prog (boot_heap w.params) s.abs, HandSHeadRun.seenQ (PySem.W.view (Row).prog [132]) loose (importedModules (Row).prog.main.body) (fun s => PySem.W.xlAt (PySem.W.view (Row).prog [132]) [] s && PySem.W.recOk (Row).toRowW.records s) s.abs, ex (partK (HandSHeadRun.getT s)) && He.tabsB (HandSHeadRun.getT s) tf (partK (HandSHeadRun.getT s)))) = some (true, PySem.W.openGood (PySem.W.view (Row).prog [132]) loose, true) := by
  kernel_rfl
theorem run_obs (w : World) (os : OsState) : (endAt w os).map (fun s => He.obsT fa fn [] (partK (HandSHeadRun.getT s))) = some (He.valT fn [] w) := by
  kernel_rfl
theorem join4 {a b c d e : Type _} {o : Option a} {f : a → b} {g : a → c} {h : a → d} {i : a → e} {x : b} {y : c} {z : d} {u : e} (p : o.map (fun s => (f s, g s, i s)) = some (x, y, u)) (q : o.map h = some z) : o.map (fun s => (f s, g s, h s, i s)) = some (x, y, z, u) := by
  cases o with
  | none => cases p
  | some s =>
    have p1 : (f s, g s, i s) = (x, y, u) := Option.some.inj p
    have q1 : h s = z := Option.some.inj q
    cases p1
    cases q1
    rfl
theorem run (w : World) : HandSHeadRun.RunEq Row (PySem.W.view (Row).prog [132]) hk ob 20000 loose w := fun os =>
  join4 (run_rest w os) (run_obs w os)
end Dty
set_option Elab.async false
set_option linter.all false
set_option maxRecDepth 100000
set_option maxHeartbeats 4000000
namespace Dq
open PySem PySem.Spec PyProof.Rows L2 HotX
/-- nothing is handled, or an exception whose context is None and that does not stand at b -/
def Still (A : Around) (h : Heap) (b : Addr) : Prop := A.handled = none ∨ ∃ z, z ≠ b ∧ HotAt A z h
section
variable {prog : Program} {w : World} {A : Around} {E : Value → Shared → Prop} {s : Shared}
theorem hot_keep {z : Addr} {h h' : Heap} (q : HotAt A z h) (kp : ∀ o, h.get? z = some o → h'.get? z = some o) : HotAt A z h' := by
  obtain ⟨q1, o, vs, q2, q3, q4⟩ := q
  exact ⟨q1, o, vs, kp o q2, q3, q4⟩
theorem still_keep {b : Addr} {h h' : Heap} (c : Still A h b) (kp : ∀ x o, x ≠ b → h.get? x = some o → h'.get? x = some o) : Still A h' b := by
  rcases c with c | ⟨z, hz, q⟩
  · exact .inl c
  · exact .inr ⟨z, hz, hot_keep q fun o e => kp z o hz e⟩
/-- the end of an iterator: StopIteration is made and raised -/
theorem stop_still {α : Type} {b : Addr} {Q : α → Shared → Prop} (c : Still A s.heap b)
    (k : ∀ a h', (∀ x o, s.heap.get? x = some o → h'.get? x = some o) → (∃ o, h'.get? a = some o ∧ o.cls = .type "StopIteration") → E (.ref a) { s with heap := h' }) :
    wpAny (model prog w) A (newExc (.type "StopIteration") [] >>= fun e => (raiseNew e : Sem α)) Q E s := by
  refine wpAny_bind ?_
  simp only [newExc, newTuple]
  refine wpAny_bind (wpAny_newObj_type ?_ (by size_fits))
  refine wpAny_bind (m := firstArgMember _ _) (wpAny_of_eq (a := Value.none) (by first | rfl | (simp only [firstArgMember]; rfl)) ?_)
  refine wpAny_newObj_type ?_ (by size_fits)
  rcases c with c | ⟨z, hz, q⟩
  · simp only [raiseNew]
    refine wpAny_bind (wpAny_handled ?_)
    rw [c]
    refine wpAny_bind (wpAny_pure (wpAny_throw (k _ _ (fun x o e => ?_) ⟨_, Heap.get?_push_size _ rfl, rfl⟩)))
    exact Heap.get?_push_of_some _ (Heap.get?_push_of_some _ e)
  · obtain ⟨q1, o1, vs1, q2, q3, q4⟩ := q
    have up2 : ∀ {x o}, s.heap.get? x = some o → _ := fun {x o} e => Heap.get?_push_of_some { cls := Value.type "StopIteration", data := Data.fields #[Value.ref s.heap.objs.size, .none, .none, .none, .bool false, .none] } (Heap.get?_push_of_some { cls := Value.type "tuple", data := Data.seq #[] } e)
    refine raiseNew_hot (x1 := z) ⟨q1, o1, vs1, Heap.get?_push_of_some _ (Heap.get?_push_of_some _ q2), q3, q4⟩ (Nat.ne_of_lt (Heap.lt_size (Heap.get?_push_of_some _ q2))) (Heap.get?_push_size _ rfl) rfl (by first | (simp; done) | (simp; omega)) ?_
    refine k _ _ (fun x o e => ?_) ⟨_, Heap.get?_update_self _ (Heap.get?_push_size _ rfl) rfl, rfl⟩
    have lt := Heap.lt_size (Heap.get?_push_of_some { cls := .type "tuple", data := .seq (#[] : Array Value) } e)
    rw [Heap.get?_update_other _ _ (Nat.ne_of_gt lt)]
    exact Heap.get?_push_of_some _ (Heap.get?_push_of_some _ e)
/-- a list's iterator at its end -/
theorem list_over {it l : Addr} {i : Nat} {items : Array Value} {Q : Option Value → Shared → Prop} (c : Still A s.heap it) (hi : s.heap.IsListIter it l i) (hl : s.heap.IsList l items) (hx : items[i]? = none)
    (fin : ∀ h', Heap.ExtBut it s.heap h' → Q none { s with heap := h' }) : wpAny (model prog w) A (pyNext (.ref it)) Q E s := by
  obtain ⟨oi, gi, ci, di⟩ := id hi
  obtain ⟨ol, gl, _, nl, dl⟩ := hl
  unfold pyNext
  refine wpAny_bind (wpAny_attempt (wpAny_callSpecial?_slot (name := Str.ofString "__next__") hi.typeIs slot_listiter_next (wpAny_call_entry slot_listiter_next hi.typeIs entry_listiter_next ?_ (args_listiter_next _))))
  show wpAny (model prog w) A.in1 (field (.ref it) 0 >>= _) _ _ s
  refine wpAny_bind (wpAny_field gi di (x := Value.ref l) rfl ?_)
  show wpAny (model prog w) A.in1 (if (Value.ref l == Value.none) = true then _ else _) _ _ s
  rw [if_neg (show ¬((Value.ref l == Value.none) = true) from fun z => nomatch z)]
  show wpAny (model prog w) A.in1 (field (.ref it) 1 >>= _) _ _ s
  refine wpAny_bind (wpAny_field gi di (x := Value.int i 0) rfl ?_)
  show wpAny (model prog w) A.in1 (seqItems? (.ref l) >>= _) _ _ s
  refine wpAny_bind (wpAny_seqItems gl dl ?_)
  simp only [Int.toNat_natCast, hx]
  refine wpAny_bind (wpAny_rule (wpAny_bind (wpAny_setField gi di (by simp) ?_)))
  have sb := Heap.SameBut.update s.heap it (Obj.mapFields (·.setIfInBounds 0 Value.none))
  refine stop_still (b := it) (still_keep (A := A.in1) c fun x o hx e => (sb.2 x hx).trans e) fun a h' kp ho => ?_
  obtain ⟨oa, ga, ca⟩ := ho
  refine wpAny_bind (wpAny_isInstance (T := "StopIteration") (b := true) ⟨oa, ga, ca⟩ isSubtype_stop ?_)
  exact wpAny_pure (fin _ fun b o hb e => kp b o ((sb.2 b hb).trans e))
/-- a tuple's iterator at its end -/
theorem tup_over {it l : Addr} {i : Nat} {items : Array Value} {Q : Option Value → Shared → Prop} (c : Still A s.heap it) (hi : IsTupIter s.heap it l i) (hl : IsTup s.heap l items) (hx : items[i]? = none)
    (fin : ∀ h', Heap.ExtBut it s.heap h' → Q none { s with heap := h' }) : wpAny (model prog w) A (pyNext (.ref it)) Q E s := by
  obtain ⟨oi, gi, ci, di⟩ := id hi
  obtain ⟨ol, gl, _, nl, dl⟩ := hl
  unfold pyNext
  refine wpAny_bind (wpAny_attempt (wpAny_callSpecial?_slot (name := Str.ofString "__next__") hi.typeIs slot_tupleiter_next (wpAny_call_entry slot_tupleiter_next hi.typeIs entry_tupleiter_next ?_ (args_tupleiter_next _))))
  show wpAny (model prog w) A.in1 (field (.ref it) 0 >>= _) _ _ s
  refine wpAny_bind (wpAny_field gi di (x := Value.ref l) rfl ?_)
  show wpAny (model prog w) A.in1 (if (Value.ref l == Value.none) = true then _ else _) _ _ s
  rw [if_neg (show ¬((Value.ref l == Value.none) = true) from fun z => nomatch z)]
  show wpAny (model prog w) A.in1 (field (.ref it) 1 >>= _) _ _ s
  refine wpAny_bind (wpAny_field gi di (x := Value.int i 0) rfl ?_)
  show wpAny (model prog w) A.in1 (seqItems? (.ref l) >>= _) _ _ s
  refine wpAny_bind (wpAny_seqItems gl dl ?_)
  simp only [Int.toNat_natCast, hx]
  refine wpAny_bind (wpAny_rule (wpAny_bind (wpAny_setField gi di (by simp) ?_)))
  have sb := Heap.SameBut.update s.heap it (Obj.mapFields (·.setIfInBounds 0 Value.none))
  refine stop_still (b := it) (still_keep (A := A.in1) c fun x o hx e => (sb.2 x hx).trans e) fun a h' kp ho => ?_
  obtain ⟨oa, ga, ca⟩ := ho
  refine wpAny_bind (wpAny_isInstance (T := "StopIteration") (b := true) ⟨oa, ga, ca⟩ isSubtype_stop ?_)
  exact wpAny_pure (fin _ fun b o hb e => kp b o ((sb.2 b hb).trans e))
/-- a range's iterator at its end -/
theorem range_over {it : Addr} {x left step : Int} {Q : Option Value → Shared → Prop} (c : Still A s.heap it) (hi : IsRangeIter s.heap it x left step) (hl : left ≤ 0)
    (fin : ∀ h', Heap.ExtBut it s.heap h' → Q none { s with heap := h' }) : wpAny (model prog w) A (pyNext (.ref it)) Q E s := by
  rcases c with c | ⟨z, _, q⟩
  · exact wpAny_pyNext_range_end c hi hl fin
  · exact pyNext_range_end_hot q hi hl fun h' e => fin h' fun b o _ g => e b o g
/-- a tuple taken apart -/
theorem unpack_still {env : Env} {es : List Expr} {k : Nat} {pos : Pos} {t : Addr} {items : Array Value} {Q : Unit → Shared → Prop} (c : Still A s.heap s.heap.objs.size) (ht : IsTup s.heap t items)
    (hn : (assignEach es env).length = items.size) (hs : (assignEach es env).findIdx? (·.1) = none)
    (fin : ∀ h', Heap.ExtBut s.heap.objs.size s.heap h' → wpAny (model prog w) A (assignInOrder ((assignEach es env).map (·.2)) items.toList) Q E { s with heap := h' }) :
    wpAny (model prog w) A (assign (.Tuple es k pos) env (.ref t)) Q E s := by
  have ne : t ≠ s.heap.objs.size := by
    obtain ⟨o, ho, _⟩ := ht
    exact Nat.ne_of_lt (Heap.lt_size ho)
  rw [assign_Tuple]
  refine wpAny_bind (wpAny_standAt ?_)
  unfold unpack
  rw [hn, hs]
  refine wpAny_bind (wpAny_holding ?_)
  unfold unpackItems
  refine wpAny_bind ?_
  unfold notIterableAtAll
  refine wpAny_bind (wpAny_specialOf ht.typeIs slot_tuple_iter.lookup ?_)
  refine wpAny_pure ?_
  simp only [Bool.false_eq_true, if_false]
  refine wpAny_bind (wpAny_holding (iter_tuple ht ?_))
  refine wpAny_bind (wpAny_holding (draw_tuple ne items.size 0 _ _ ⟨_, Heap.get?_push_size _ rfl, rfl, rfl⟩ (ht.push _) (by omega) fun h1 hit1 sb1 => ?_))
  have whole : (items.toList.drop 0).take items.size = items.toList := List.take_of_length_le (by simp)
  rw [whole, if_neg (by simp)]
  have t1 : IsTup h1 t items := (ht.push _).extBut sb1.extBut ne
  have c1 : Still A h1 s.heap.objs.size := still_keep c fun x o hx e => (sb1.2 x hx).trans (Heap.get?_push_of_some _ e)
  refine wpAny_bind (wpAny_holding (tup_over c1 hit1 t1 (by simp) fun h2 e2 => ?_))
  simp only [Option.isSome_none, Bool.false_eq_true, if_false]
  exact wpAny_pure (fin h2 fun b o hb e => e2 b o hb ((sb1.2 b hb).trans (Heap.get?_push_of_some _ e)))
end
/-! ### the layer: turns, loops, targets that hold in both worlds -/
/-- calm, or bearing the handled exception -/
def Qx (X : Cx) : Prop := X.calm = true ∨ L2H.HotC X
theorem Qx.at {X : Cx} {pz : List (Addr × Obj)} {σ : L2.St} {H : Hp} {s : Shared} (c : Qx X) (I : Inv X pz σ H s) {b : Addr} (hb : ∀ p ∈ X.pn ++ pz, p.1 ≠ b) : Still X.A s.heap b := by
  rcases c with c | ⟨p, ⟨h1, vs, h2, h3⟩, hp⟩
  · exact .inl (I.ok.hd c)
  · have hp2 := List.mem_append_left pz hp
    exact .inr ⟨p.1, hb p hp2, h1, p.2, vs, (I.pin p hp2).1, h2, h3⟩
theorem Qx.new {X : Cx} {pz : List (Addr × Obj)} {σ : L2.St} {H : Hp} {s : Shared} (c : Qx X) (I : Inv X pz σ H s) : Still X.A s.heap s.heap.objs.size :=
  c.at I fun p hp => Nat.ne_of_lt (Heap.lt_size (I.pin p hp).1)
open L2H in
theorem turnH_list {P : Program} {w : World} {K : PySem.W.Frag} {tg : Expr} (a it : Addr) : TurnH P w K tg (Itl K a) [it] it (fun i h => h.IsListIter it a i) where
  mem := List.mem_cons_self
  obj := fun i h st b hb => by
    obtain rfl : b = it := List.mem_singleton.mp hb
    obtain ⟨o, e, c, d⟩ := st
    exact ⟨o, e, fun v z => by rw [d] at z; cases z⟩
  keep := fun i h h' st k => st.at fun o e => k it List.mem_cons_self o e
  item := by
    intro X hP hw hK hq i pins s σ H E I hf st hg
    subst hP hw hK
    obtain ⟨ys, x, hy, hx⟩ := hg
    obtain ⟨its, rv, pl, hz⟩ := I.list hy
    obtain ⟨u, hu, ru⟩ := rv.get hx
    obtain ⟨f0, f1, f2, f3, f4, f5⟩ := hf it List.mem_cons_self
    refine wpAny_pyNext_list_item st pl.isList (x := u) (by simpa using hu) fun h1 st1 sb => ?_
    obtain ⟨o, e, c, d⟩ := id st1
    have J : Inv X pins σ H { s with heap := h1 } := I.turned (t' := s.toks) (fun b o hb e => (sb.2 b hb).trans e) f0 f1 f3 f4 f5
    refine ⟨u, rfl, go_of (s := { s with heap := h1 }) e c d (by decide) ⟨x, H, J, ru, ⟨rfl, fun zs hz => ?_⟩, st1, fun b hb => (hf b hb).1⟩⟩
    rw [I.list_inj hz hy]
    exact hx
  done := by
    intro X hP hw hK hq i pins s σ H E I hf st hg
    subst hP hw hK
    obtain ⟨ys, hy, hx⟩ := hg
    obtain ⟨its, rv, pl, hz⟩ := I.list hy
    obtain ⟨f0, f1, f2, f3, f4, f5⟩ := hf it List.mem_cons_self
    have len := rv.length
    refine list_over (Qx.at (.inr hq) I f5) st pl.isList (by simp; omega) fun h1 eb => ⟨rfl, ?_⟩
    exact I.turned (t' := s.toks) (fun b o hb e => eb b o hb e) f0 f1 f3 f4 f5
  self := fun _ _ _ _ _ st h => wpAny_pyIter_listiter st h
theorem pi_listH {X : Cx} {tg l : Expr} {tl : TE} (hl : PE X l tl) : L2H.PIH X tg l (iList X.K tl) := by
  refine ⟨fun pins s σ H R I h => thn (hl.run pins s σ H _ I h) fun v s1 got => ?_⟩
  obtain ⟨x, H1, J, rx, a, rfl, ⟨ys, hy⟩, q⟩ := got
  cases rx
  obtain ⟨its, rv, pl, hz⟩ := J.list hy
  refine wpAny_pyIter_list pl.isList ⟨s1.heap.objs.size, [s1.heap.objs.size], _, _, H1, rfl, ?_, turnH_list a _, ⟨_, Heap.get?_push_size _ rfl, rfl, rfl⟩, fun b hb => ?_, q⟩
  · exact J.kept (t' := s1.toks) fun b o e => Heap.get?_push_of_some _ e
  · obtain rfl : b = s1.heap.objs.size := List.mem_singleton.mp hb
    exact J.fpOk (Nat.le_refl _) (J.hok.fresh (Nat.le_refl _))
/-- what a for walks, in both worlds -/
structure PIQ (X : Cx) (tg iter : Expr) (wi : TI) : Prop where
  calm : X.calm = true → PI X tg iter wi
  hot : L2H.HotC X → L2H.PIH X tg iter wi
section
variable {X : Cx} {tg : Expr}
theorem piq_list {l : Expr} {tl : TE} (hl : PE X l tl) : PIQ X tg l (iList X.K tl) := ⟨fun _ => pi_list hl, fun _ => pi_listH hl⟩
theorem piq_range1 {a : Expr} {ta : TA} {p pos : Pos} (hg : Gl X "range") (hm : X.mg "range" = none) (ha : PA X [a] ta) (hs : starEach [a] X.env = [(false, eval a X.env)] := by rfl) : PIQ X tg (.Call (.Name "range" p) [a] [] pos) (iRng1 ta) :=
  ⟨fun _ => pi_range1 hg hm ha hs, fun _ => L2H.pi_range1H hg hm ha hs⟩
theorem rangeH2 {a b : Expr} {ta : TA} {p pos : Pos} (hg : Gl X "range") (hm : X.mg "range" = none) (ha : PA X [a, b] ta) (hs : starEach [a, b] X.env = [(false, eval a X.env), (false, eval b X.env)]) (hs2 : starEach [b] X.env = [(false, eval b X.env)]) :
    L2H.PIH X tg (.Call (.Name "range" p) [a, b] [] pos) (iRng2 ta) := by
  refine ⟨fun pins s σ H R I h => Call_ (ld_blt I hg hm boot_range (PyProof.Rows.callWith_type1 (thn (ha.run pos pins s σ H _ I h) fun us s1 got => ?_) (by rw [hs, hs2]) (by rw [hs2]; rfl)))⟩
  obtain ⟨vs, H1, J, rv, i, j, rfl, ⟨q1, q2, q3, q4⟩, q⟩ := got
  obtain ⟨u, v, rfl, ⟨t, rfl⟩, ⟨t', rfl⟩⟩ := vals2 rv
  exact call_range_2 (L2H.range_itH J q1 q2 q3 q4 q)
theorem piq_range2 {a b : Expr} {ta : TA} {p pos : Pos} (hg : Gl X "range") (hm : X.mg "range" = none) (ha : PA X [a, b] ta) (hs : starEach [a, b] X.env = [(false, eval a X.env), (false, eval b X.env)] := by rfl) (hs2 : starEach [b] X.env = [(false, eval b X.env)] := by rfl) :
    PIQ X tg (.Call (.Name "range" p) [a, b] [] pos) (iRng2 ta) :=
  ⟨fun _ => pi_range2 hg hm ha hs hs2, fun _ => rangeH2 hg hm ha hs hs2⟩
theorem ps_forQ {iter : Expr} {body : List Stmt} {wi : TI} {g : TG} {tb : TS} {pos : Pos} (hp : PassesOwn (model X.prog X.w) X.A X.env X.xe) (hq : Qx X) (hi : PIQ X tg iter wi) (hg : PG X tg g) (hb : PSs X body tb)
    (hs : ∀ x, foldedSetIterable iter X.env x = pure x := by intro _; rfl) : PS X (.For tg iter body [] pos) (tFor wi g tb) := by
  rcases hq with c | c
  · exact ps_for hp c (hi.calm c) hg hb hs
  · exact L2H.ps_forH hp c (hi.hot c) hg hb hs
/-- (a, b, ..) = a tuple of that length -/
theorem pg_tupQ {es : List Expr} {k : Nat} {t : TGs} {n : Nat} {pos : Pos} (hq : Qx X) (h : PGs X es t) (hn : (assignEach es X.env).length = n := by rfl) (hst : (assignEach es X.env).findIdx? (·.1) = none := by rfl) : PG X (.Tuple es k pos) (gTup X.K n t) := by
  refine ⟨fun pins s σ H v u Q I r want => ?_⟩
  obtain ⟨a, xs, rfl, hx, hl, want⟩ := want
  cases r
  obtain ⟨its, rv, ht, hz⟩ := I.tuple hx
  refine unpack_still (hq.new I) ht (by simp [hn, ← hl, rv.length]) hst fun h1 e1 => ?_
  have J : Inv X pins σ H { s with heap := h1 } := I.kept (t' := s.toks) fun b o e => e1 b o (Nat.ne_of_lt (Heap.lt_size e)) e
  exact h.run pins _ σ H xs _ Q J (by simpa using rv) want
end
end Dq
set_option Elab.async false
set_option linter.all false
set_option maxRecDepth 100000
set_option maxHeartbeats 4000000
namespace Dq
open PySem PySem.Spec PyProof.Rows L2 HotX
/-! ### a tuple's walk while an exception is handled -/
theorem walks_tupH {prog : Program} {w : World} {A : Around} {z : Addr} (I ax : Addr) (ne : ax ≠ I) (nz : z ≠ I) (items : Array Value) :
    Walks prog w A I [I, ax, z] [I] items.size (fun i v => items[i]? = some v) (fun i h => h.IsTupleIter I ax i ∧ h.IsTuple ax items ∧ HotAt A z h) where
  sub := fun b hb => by
    rw [List.mem_singleton.mp hb]
    exact List.mem_cons_self
  frame := fun i h h' st kp => ⟨st.1.at fun o e => kp I (by simp) o e, st.2.1.at fun o e => kp ax (by simp) o e, hot_keep st.2.2 fun o e => kp z (by simp) o e⟩
  item := fun i s Q E hi st fin => by
    obtain ⟨s1, s2, s3⟩ := st
    refine wpAny_pyNext_tuple_item s1 s2 (x := items[i]) (by simp [hi]) fun h1 it1 sb => ?_
    exact fin _ h1 s.toks (by simp [hi]) ⟨it1, s2.extBut sb.extBut ne, hot_keep s3 fun o e => (sb.2 z nz).trans e⟩ fun b o hb e => (sb.2 b (fun q => hb (by simp [q]))).trans e
  done := fun s Q E st fin => by
    obtain ⟨s1, s2, s3⟩ := st
    exact tup_over (.inr ⟨z, nz, s3⟩) s1 s2 (by simp) fun h1 e1 => fin h1 s.toks fun b o hb e => e1 b o (fun q => hb (by simp [q])) e
  self := fun _ _ _ _ st fin => wpAny_pyIter_tupleiter st.1 fin
theorem max_two_hot {prog : Program} {w : World} {A : Around} {E : Value → Shared → Prop} {s : Shared} {z : Addr} {a b : Int} {t u : Tok} {Q : Value → Shared → Prop} (hot : HotAt A z s.heap)
    (fin : ∀ h' tk, (∀ c o, s.heap.get? c = some o → h'.get? c = some o) → Q (if b > a then .int b u else .int a t) { s with heap := h', toks := tk }) :
    wpAny (model prog w) A (call (.builtin "max") [.int a t, .int b u]) Q E s := by
  have zlt : z < s.heap.objs.size := by
    obtain ⟨_, o, _, e, _⟩ := hot
    exact Heap.lt_size e
  have tup : (s.heap.push { cls := .type "tuple", data := .seq #[.int a t, .int b u] }).IsTuple s.heap.objs.size (intItems #[(a, t), (b, u)]) := ⟨_, Heap.get?_push_size _ rfl, rfl, 0, by simp [intItems]⟩
  have size1 : (s.heap.push { cls := .type "tuple", data := .seq #[.int a t, .int b u] }).objs.size = s.heap.objs.size + 1 := Heap.size_push ..
  refine call_max_two (wpAny_pyIter_tuple tup ?_)
  have hot2 : HotAt A.in1 z ((s.heap.push { cls := .type "tuple", data := .seq #[.int a t, .int b u] }).push { cls := .type "tuple_iterator", data := .fields #[.ref s.heap.objs.size, .int 0 0] }) :=
    hot_keep (A := A.in1) hot fun o e => Heap.get?_push_of_some _ (Heap.get?_push_of_some _ e)
  refine ⟨_, _, [_], _, _, _, _, rfl, walks_tupH (A := A.in1) (z := z) _ s.heap.objs.size (by rw [size1]; exact Nat.ne_of_lt (Nat.lt_succ_self _)) (by rw [size1]; exact Nat.ne_of_lt (Nat.lt_succ_of_lt zlt)) (intItems #[(a, t), (b, u)]),
    ⟨⟨_, Heap.get?_push_size _ rfl, rfl, rfl⟩, tup.push _, hot2⟩, fun c hc => ?_, by simp [intItems], CmpOf.ints_gt (numAt #[(a, t), (b, u)]) (fun _ _ => intItems_at), fun v h' tk hP hk => ?_⟩
  · show c < ((s.heap.push _).push _).objs.size
    rw [Heap.size_push, size1]
    rcases List.mem_cons.mp hc with rfl | hc
    · rw [size1]
      exact Nat.lt_succ_self _
    · rcases List.mem_cons.mp hc with rfl | hc
      · exact Nat.lt_succ_of_lt (Nat.lt_succ_self _)
      · rw [List.mem_singleton.mp hc]
        exact Nat.lt_succ_of_lt (Nat.lt_succ_of_lt zlt)
  · have old : ∀ c o, s.heap.get? c = some o → h'.get? c = some o := fun c o e => by
      refine hk c o (fun q => ?_) (Heap.get?_push_of_some _ (Heap.get?_push_of_some _ e))
      have q2 := List.mem_singleton.mp q
      have lt := Heap.lt_size e
      rw [q2, size1] at lt
      exact absurd lt (Nat.not_lt_of_le (Nat.le_succ _))
    have two : (intItems #[(a, t), (b, u)]).size - 1 = 1 := by simp [intItems]
    rw [two] at hP
    have hv : v = if b > a then Value.int b u else Value.int a t := by
      by_cases hba : b > a
      · have e : argBest (fun i j => decide (numAt #[(a, t), (b, u)] i > numAt #[(a, t), (b, u)] j)) 1 = 1 := by simp [argBest, numAt, hba]
        rw [e] at hP
        simpa [intItems, hba] using hP.symm
      · have e : argBest (fun i j => decide (numAt #[(a, t), (b, u)] i > numAt #[(a, t), (b, u)] j)) 1 = 0 := by simp [argBest, numAt, hba]
        rw [e] at hP
        simpa [intItems, hba] using hP.symm
    rw [hv]
    exact fin h' tk old
theorem call_max2Q {X : Cx} (hq : Qx X) : CallR X (.builtin "max") (fun xs H Q => ∃ i j, xs = [.int i, .int j] ∧ Q (.int (if j > i then j else i)) H) := by
  rcases hq with c | ⟨p, ⟨h1, vs, h2, h3⟩, hp⟩
  · exact call_max2 c
  · intro pins s σ H xs us Q I r want
    obtain ⟨i, j, rfl, q⟩ := want
    obtain ⟨u, v, rfl, ⟨t, rfl⟩, ⟨t', rfl⟩⟩ := vals2 r
    have g := (I.pin p (List.mem_append_left pins hp)).1
    refine max_two_hot (z := p.1) ⟨h1, p.2, vs, g, h2, h3⟩ fun h' tk kp => ⟨_, H, I.kept kp, ?_, q⟩
    by_cases hj : j > i
    · rw [if_pos hj, if_pos hj]
      exact ⟨_, rfl⟩
    · rw [if_neg hj, if_neg hj]
      exact ⟨_, rfl⟩
end Dq
set_option Elab.async false
set_option linter.all false
set_option maxRecDepth 100000
set_option maxHeartbeats 4000000
namespace Dq
open PySem PySem.Spec PyProof.Rows L2 HotX
/-! ### list comprehensions in both worlds -/
theorem ok_pn {X : Cx} (pl : List (Addr × Obj)) (q : X.Ok) : ({ X with pn := pl } : Cx).Ok where
  mod := q.mod
  kind := q.kind
  glob := q.glob
  blt := q.blt
  above := q.above
  inj := q.inj
  has := q.has
  cab := q.cab
  hd := q.hd
  frames := q.frames
  stk := q.stk
  exf := q.exf
  bs := q.bs
  bsz := q.bsz
  noex := q.noex
  exfs := q.exfs
  funs := q.funs
  frf := q.frf
theorem inv_pn {X : Cx} {pl pz pins : List (Addr × Obj)} {σ : L2.St} {H : Hp} {s : Shared} (I : Inv X pins σ H s) (sub : ∀ p ∈ pl ++ pz, p ∈ X.pn ++ pins) : Inv ({ X with pn := pl } : Cx) pz σ H s where
  ok := ok_pn pl I.ok
  os := I.os
  bare := I.bare
  base := I.base
  loc := I.loc
  cell := I.cell
  free := I.free
  freeC := I.freeC
  pin := fun p hp => I.pin p (sub p hp)
  hok := I.hok
  len := I.len
/-- a comprehension's block that bears the pins pl -/
abbrev blkP (X : Cx) (s : Shared) (H : Hp) (scope : Scope) (ce : Env) (as : List Addr) (pl : List (Addr × Obj)) : Cx := { X.blk s H scope ce as with pn := pl }
section
variable {X : Cx}
theorem lc_hot {pins : List (Addr × Obj)} {s : Shared} {σ : L2.St} {H : Hp} {Q : VK} {elt tg iter : Expr} {ifs : List Expr} {scope : Scope} {own : List (Str × Nat)} {pos pos' : Pos} {wi : TI} {g : TG} {tt : TT} {te : TE} {use : Option (Value → Sem Unit)} {Qf : Value → Shared → Prop}
    (hc : L2H.HotC X) (hN : X.N.Nodup) (I : Inv X pins σ H s) (hi : L2H.PIH X tg iter wi) (ok : BlkOk X.N X.env.scope scope own)
    (hg : ∀ (s : Shared) (H : Hp) (C : Addr) (cl : List (Str × Addr)) (fp : List Addr), PG (blkP X s H scope (compEnvC scope cl C X.env) fp X.pn) tg g)
    (ht : ∀ (s : Shared) (H : Hp) (C : Addr) (cl : List (Str × Addr)) (fp : List Addr), PTs (blkP X s H scope (compEnvC scope cl C X.env) fp X.pn) ifs tt)
    (he : ∀ (s : Shared) (H : Hp) (C : Addr) (cl : List (Str × Addr)) (fp : List Addr), PE (blkP X s H scope (compEnvC scope cl C X.env) fp X.pn) elt te) (hs : ∀ x, foldedSetIterable iter X.env x = pure x)
    (h : tLc wi g tt te (own.map (·.2)) σ H Q)
    (back : ∀ D C s' m H', Inv X pins σ H' s' → Q (.ref D) H' → s'.heap.Ns C m → FpOk X pins H' C → compPost (model X.prog X.w) X.A X.xe use Qf (.ref D) C (.ok .next) s') :
    wpAny (model X.prog X.w) X.A (comprehension (.ListComp elt [⟨tg, iter, ifs, 0⟩] scope pos) scope X.env pos' (newList []) false (eval iter X.env) use) Qf X.xe s := by
  have cells : ∀ y ∈ scope.names, y.2 = .free → ∃ c, X.env.cells.lookup y.1 = some c := by
    intro y hy e
    rcases ok.free y hy e with k | k
    · exact I.ok.has _ (.inl k)
    · exact I.ok.has _ (.inr k)
  refine wpAny_comprehension_free (use := use) rfl hs (closure_ok cells) ok.kind (fun y hy e => by rw [ok.uniq y hy, e]) (thn (hi.run pins s σ H _ I h) fun xv s1 got => thn got fun itv s2 come => ?_)
  obtain ⟨it, fp, tn, J, H2, rfl, I2, T, st2, f2, q⟩ := come
  refine wpAny_newObj_type (newEnv_comp ?_) (by show 0 ≤ sizeLine; decide)
  generalize eD : s2.heap.objs.size = D
  have freeD : H2 D = none := I2.hok.fresh (Nat.le_of_eq eD)
  obtain ⟨W, ⟨m0, w0⟩, turn⟩ := q D freeD
  generalize e3 : ({ s2 with heap := s2.heap.push { cls := .type "list", data := .seq ([] : List Value).toArray } } : Shared) = s3
  have h3 : s3.heap = s2.heap.push { cls := .type "list", data := .seq ([] : List Value).toArray } := by rw [← e3]
  have I3 : Inv X pins σ (upd H2 D (.lst [])) s3 := by
    rw [← e3]
    refine I2.laid (t' := s2.toks) (fun b o e => Heap.get?_push_of_some _ e) (Nat.le_of_eq eD) ⟨Nat.zero_le _, [], 0, .nil, ?_⟩
    rw [← eD]
    exact Heap.get?_push_size _ rfl
  have young : ∀ b ∈ fp, b < s2.heap.objs.size := by
    intro b hb
    obtain ⟨o, e, _⟩ := T.obj _ _ st2 b hb
    exact Heap.lt_size e
  have f3 : ∀ b ∈ fp, FpOk X pins (upd H2 D (.lst [])) b ∧ b < s3.heap.objs.size := by
    intro b hb
    have lt := young b hb
    refine ⟨⟨?_, (f2 b hb).2⟩, by rw [h3, Heap.size_push]; exact Nat.lt_succ_of_lt lt⟩
    rw [upd_ne (by rw [← eD]; exact Nat.ne_of_lt lt)]
    exact (f2 b hb).1
  have st3 : tn 0 s3.heap := T.keep _ _ _ st2 fun b _ o e => by rw [h3]; exact Heap.get?_push_of_some _ e
  have I4' := block_start I3 ok hN f3
  have pg := hg s3 (upd H2 D (.lst [])) s3.heap.objs.size (cellsFrom (s3.heap.objs.size + 1) scope.names (cloFrom X.env.cells scope.names [])) fp
  have pt := ht s3 (upd H2 D (.lst [])) s3.heap.objs.size (cellsFrom (s3.heap.objs.size + 1) scope.names (cloFrom X.env.cells scope.names [])) fp
  have pe := he s3 (upd H2 D (.lst [])) s3.heap.objs.size (cellsFrom (s3.heap.objs.size + 1) scope.names (cloFrom X.env.cells scope.names [])) fp
  show codeAny _ _ (.compStart (.ListComp elt [⟨tg, iter, ifs, 0⟩] scope pos) 0 (.ref it) (.ref D) (compEnvC scope (cellsFrom (s3.heap.objs.size + 1) scope.names (cloFrom X.env.cells scope.names [])) s3.heap.objs.size X.env)) (compPost (model X.prog X.w) X.A X.xe use Qf (.ref D) s3.heap.objs.size) { s3 with heap := pushCells (s3.heap.push { cls := .type "dict", data := .dict #[] }) scope.names }
  have nfp : ∀ b ∈ fp, (upd H2 D (.lst [])) b = none := fun b hb => (f3 b hb).1.1
  generalize ece : compEnvC scope (cellsFrom (s3.heap.objs.size + 1) scope.names (cloFrom X.env.cells scope.names [])) s3.heap.objs.size X.env = ce at I4' pg pt pe ⊢
  have cL : ce.locals = s3.heap.objs.size := by rw [← ece]; rfl
  generalize eH3 : upd H2 D (.lst []) = H3 at I3 I4' pg pt pe w0 nfp f3
  generalize e4 : ({ s3 with heap := pushCells (s3.heap.push { cls := .type "dict", data := .dict #[] }) scope.names } : Shared) = s4 at I4' ⊢
  have up34 : ∀ {b o}, s3.heap.get? b = some o → s4.heap.get? b = some o := fun {b o} e => by rw [← e4]; exact pushCells_keeps _ _ _ _ (Heap.get?_push_of_some _ e)
  have st4 : tn 0 s4.heap := T.keep _ _ _ st3 fun b _ o e => up34 e
  -- the block bears the pins of the def
  have I4 : Inv (blkP X s3 H3 scope ce fp X.pn) [] (wipe σ (own.map (·.2))) H3 s4 := by
    refine inv_pn (pins := X.pn) (I4'.pins_of fun p hp => ?_) fun p hp => ?_
    · obtain ⟨p1, p2, p3, p4, p5⟩ := I3.pin p (List.mem_append_left _ hp)
      refine ⟨up34 p1, p2, fun z => ?_, fun z => ?_, p5⟩
      · have z' : p.1 = s3.heap.objs.size := z.trans cL
        exact absurd (Heap.lt_size p1) (by rw [z']; exact Nat.lt_irrefl _)
      · rcases List.mem_cons.mp (I3.stkSub p.1 z) with z | z
        · exact p3 z
        · exact p4 z
    · rw [List.append_nil] at hp
      exact List.mem_append_right _ hp
  have hotB : L2H.HotC (blkP X s3 H3 scope ce fp X.pn) := hc
  have stat : ∀ {σ' : L2.St} {H' : Hp} {s' : Shared}, Inv (blkP X s3 H3 scope ce fp X.pn) [] σ' H' s' → (∀ b ∈ fp, H' b = none) → ∀ b ∈ fp, FpOk (blkP X s3 H3 scope ce fp X.pn) [] H' b := by
    intro σ' H' s' I' hn b hb
    refine ⟨hn b hb, (I'.ok.exf b hb).1, I'.ok.exfs b hb, .inl hb, fun x c e => (I'.ok.exf b hb).2 x c e, fun p hp => ?_⟩
    rw [List.append_nil] at hp
    exact (f3 b hb).1.2.2.2.2.2 p (List.mem_append_left _ hp)
  have loop : codeAny (model X.prog X.w) X.A (.compLoop (.ListComp elt [⟨tg, iter, ifs, 0⟩] scope pos) 0 (.ref it) (.ref D) ce) (compPost (model X.prog X.w) X.A X.xe use Qf (.ref D) s3.heap.objs.size) s4 := by
    refine compLoop_any (fun n s' => ∃ i H', Inv (blkP X s3 H3 scope ce fp X.pn) [] (wipe σ (own.map (·.2))) H' s' ∧ tn i s'.heap ∧ (∀ b ∈ fp, H' b = none) ∧ W i n H') ?_ m0 ⟨0, H3, I4, st4, nfp, w0⟩
    rintro n s5 ⟨i, H5, I5, st5, n5, w5⟩
    rcases turn i n H5 w5 with ⟨stop, qq⟩ | ⟨go, Nx, hNx, step⟩
    · refine thnF (T.done (blkP X s3 H3 scope ce fp X.pn) rfl rfl rfl hotB i [] s5 _ H5 (fun _ _ => False) I5 (stat I5 n5) st5 stop) fun r s6 got => ?_
      obtain ⟨rfl, I6⟩ := got
      have I7 : Inv X pins σ H5 s6 := I3.call' (ch := fp) I6.os I6.base I6.hok I6.bare fun b hb => by
        obtain ⟨x1, x2, x3, x4, x5, x6⟩ := (f3 b hb).1
        exact ⟨x4, x2, x5, x6⟩
      have nC : H5 s3.heap.objs.size = none := by
        have z : H5 ce.locals = none := I6.free
        rw [cL] at z
        exact z
      obtain ⟨m, hn, _⟩ := I6.loc
      have hn : s6.heap.Ns ce.locals m := hn
      rw [cL] at hn
      exact back D s3.heap.objs.size s6 m H5 I7 qq hn (I3.fpOk (Nat.le_refl _) nC)
    · refine thnF (T.item (blkP X s3 H3 scope ce fp X.pn) rfl rfl rfl hotB i [] s5 _ H5 (fun _ _ => False) I5 (stat I5 n5) st5 go) fun r s6 got => ?_
      obtain ⟨u, rfl, h6⟩ := got
      refine thnF h6 fun _ s7 got => ?_
      obtain ⟨x, H7, I7, r7, y7, st7, n7⟩ := got
      refine thnF (pg.run _ s7 _ H7 x u _ (I7.pinned (stat I7 n7) (T.obj _ _ st7)) r7 (step x H7 y7)) fun _ s8 got => ?_
      obtain ⟨σ8, H8, I8, hw8, q8⟩ := got
      refine thnF (pt.run _ s8 σ8 H8 _ I8 q8) fun b s9 got => ?_
      obtain ⟨H9, I9, q9⟩ := got
      have fin : ∀ {s' : Shared} {H' : Hp}, Inv (blkP X s3 H3 scope ce fp X.pn) ([] ++ pinsAt fp s7.heap) σ8 H' s' → Nx H' →
          ∃ m, m < n ∧ ∃ i H', Inv (blkP X s3 H3 scope ce fp X.pn) [] (wipe σ (own.map (·.2))) H' s' ∧ tn i s'.heap ∧ (∀ b ∈ fp, H' b = none) ∧ W i m H' := by
        intro s' H' I' nx
        obtain ⟨m1, hm, w1⟩ := hNx H' nx
        have kept : ∀ b ∈ fp, ∀ o, s7.heap.get? b = some o → s'.heap.get? b = some o ∧ H' b = none := by
          intro b hb o e
          obtain ⟨z1, z2, _⟩ := I'.pin (b, o) (List.mem_append_right _ (List.mem_append_right _ (mem_pinsAt hb e)))
          exact ⟨z1, z2⟩
        have len : (wipe σ (own.map (·.2))).length = σ8.length := by rw [← hw8, wipe_length]
        refine ⟨m1, hm, i + 1, H', (I'.unpinned (pins := [])).weak len (fun j v e => ?_), T.keep _ _ _ st7 fun b hb o e => (kept b hb o e).1, fun b hb => ?_, w1⟩
        · rw [← hw8] at e
          exact (wipe_some e).1
        · obtain ⟨o, e, _⟩ := T.obj _ _ st7 b hb
          exact (kept b hb o e).2
      cases b with
      | false =>
        simp only [Bool.false_eq_true, if_false] at q9 ⊢
        exact fin I9 q9
      | true =>
        simp only [if_true] at q9 ⊢
        refine thnF (pe.run _ s9 σ8 H9 _ I9 q9) fun y s10 got => ?_
        obtain ⟨yv, H10, I10, r10, acc, hD10, hz10, nx⟩ := got
        exact app_ok (X := (blkP X s3 H3 scope ce fp X.pn)) I10 hD10 hz10 r10 fun s11 I11 => fin I11 nx
  exact codeAny_compStart_list loop (T.self X.A 0 _ _ _ st4 loop)
/-- [e for x in ..] in both worlds -/
theorem pe_lcQ {elt tg iter : Expr} {ifs : List Expr} {scope : Scope} {own : List (Str × Nat)} {pos : Pos} {wi : TI} {g : TG} {tt : TT} {te : TE} (hq : Qx X) (hN : X.N.Nodup) (hi : PIQ X tg iter wi) (ok : BlkOk X.N X.env.scope scope own)
    (hg : ∀ (s : Shared) (H : Hp) (C : Addr) (cl : List (Str × Addr)) (fp : List Addr) (pl : List (Addr × Obj)), PG (blkP X s H scope (compEnvC scope cl C X.env) fp pl) tg g)
    (ht : ∀ (s : Shared) (H : Hp) (C : Addr) (cl : List (Str × Addr)) (fp : List Addr) (pl : List (Addr × Obj)), PTs (blkP X s H scope (compEnvC scope cl C X.env) fp pl) ifs tt)
    (he : ∀ (s : Shared) (H : Hp) (C : Addr) (cl : List (Str × Addr)) (fp : List Addr) (pl : List (Addr × Obj)), (X.calm = true ∨ (L2H.HotC X ∧ pl = X.pn)) → PE (blkP X s H scope (compEnvC scope cl C X.env) fp pl) elt te)
    (hs : ∀ x, foldedSetIterable iter X.env x = pure x := by intro _; rfl) : PE X (.ListComp elt [⟨tg, iter, ifs, 0⟩] scope pos) (tLc wi g tt te (own.map (·.2))) := by
  rcases hq with c | c
  · exact pe_lc c hN (hi.calm c) ok (fun s H C cl fp => hg s H C cl fp []) (fun s H C cl fp => ht s H C cl fp []) (fun s H C cl fp => he s H C cl fp [] (.inl c)) hs
  · refine ⟨fun pins s σ H Q I h => ?_⟩
    rw [eval_ListComp]
    refine lc_hot c hN I (hi.hot c) ok (fun s H C cl fp => hg s H C cl fp X.pn) (fun s H C cl fp => ht s H C cl fp X.pn) (fun s H C cl fp => he s H C cl fp X.pn (.inr ⟨c, rfl⟩)) hs h fun D C s' m H' I' q hn f => ⟨m, hn, fun h2 sb => ?_⟩
    obtain ⟨f0, f1, f2, f3, f4, f5⟩ := f
    exact ⟨.ref D, H', I'.turned (t' := s'.toks) (fun b o hb e => (sb.2 b hb).trans e) f0 f1 f3 f4 f5, rfl, q⟩
end
end Dq
set_option Elab.async false
set_option linter.all false
set_option maxRecDepth 100000
set_option maxHeartbeats 4000000
namespace Dq
open PySem PySem.Spec PyProof.Rows L2 HotX
/-! ### defs that keep their promise in both worlds -/
structure FnB (P : Program) (w : World) (K : PySem.W.Frag) (mg : Str → Option Value) (base : Heap) (k : Nat) (f : Addr) (fd : FuncData) (ps : List Str) (sp : Sp) : Prop where
  ok : FnOk P w K mg base CX0 k f fd ps sp
  hot : L2H.FnH P w K mg base CX0 k f fd ps sp
theorem FnH_mono {P : Program} {w : World} {K : PySem.W.Frag} {mg : Str → Option Value} {base : Heap} {j k : Nat} {f : Addr} {fd : FuncData} {ps : List Str} {sp : Sp} (F : L2H.FnH P w K mg base CX0 j f fd ps sp) (h : j ≤ k) : L2H.FnH P w K mg base CX0 k f fd ps sp :=
  ⟨F.len, fun A outer s H args us vs Q E p hr => F.run A outer s H args us vs Q E p (hr.mono h)⟩
/-- room for k calls, and which world it is -/
def Qy (k : Nat) (X : Cx) : Prop := (X.calm = true ∧ Room k X.A) ∨ (L2H.HotC X ∧ L2H.RoomH k X.A)
theorem Qy.x {k : Nat} {X : Cx} (q : Qy k X) : Qx X := q.elim (fun q => .inl q.1) fun q => .inr q.1
theorem Qy.mono {j k : Nat} {X : Cx} (q : Qy k X) (h : j ≤ k) : Qy j X := q.elim (fun q => .inl ⟨q.1, q.2.mono h⟩) fun q => .inr ⟨q.1, q.2.mono h⟩
/-- .. of a comprehension's block -/
theorem Qy.blk {k : Nat} {X : Cx} (q : Qy k X) {s : Shared} {H : Hp} {scope : Scope} {ce : Env} {as : List Addr} {pl : List (Addr × Obj)} (h : X.calm = true ∨ (L2H.HotC X ∧ pl = X.pn)) (hd : X.calm = true → Room k X.A) : Qy k (blkP X s H scope ce as pl) := by
  rcases h with h | ⟨h, rfl⟩
  · exact .inl ⟨h, hd h⟩
  · refine .inr ⟨h, ?_⟩
    rcases q with q | q
    · exact L2H.roomH_of q.2
    · exact q.2
/-- the context of a def's body in both worlds -/
abbrev cxB (P : Program) (w : World) (K : PySem.W.Frag) (mg : Str → Option Value) (base : Heap) (N : List Str) (qual : Str) (scope : Scope) (f : Addr) (cd : Value) (A : Around) (outer : List Env) (s : Shared) (H : Hp) (E : XK) (calm : Bool) (pn : List (Addr × Obj)) : Cx :=
  { cxOf CX0 P w K mg base N qual scope f cd A outer s H E with calm := calm, pn := pn }
section
variable {P : Program} {w : World} {K : PySem.W.Frag} {mg : Str → Option Value} {base : Heap} {x qual : Str} {params : Arguments} {body : List Stmt} {scope : Scope} {dvs : List V} {kws : List (Str × V)} {f : Addr} {fd : FuncData}
theorem both_ok {N ps : List Str} {k : Nat} {sp : Sp} (F : FunD K x qual params body scope dvs kws f fd) (S : FnScope N ps scope) (len : ∀ vs H Q E, sp vs H Q E → vs.length = ps.length)
    (hbody : ∀ (cdv : Value) (A : Around) (outer : List Env) (s : Shared) (H : Hp) (vs : List V) (Q : VK) (E : XK) (calm : Bool) (pn : List (Addr × Obj)), Qy k (cxB P w K mg base N qual scope f cdv A outer s H E calm pn).nox → (calm = true → Room k (A.deeper (envOfC qual scope s.heap.objs.size f cdv))) → sp vs H Q E →
      ∃ t, PSs (cxB P w K mg base N qual scope f cdv A outer s H E calm pn).nox body t ∧ t { nx := fun _ H' => Q .non H', rt := Q } (L2.start N vs) H) : FnB P w K mg base (k + 1) f fd ps sp := by
  refine ⟨F.ok S len fun cdv A outer s H vs Q E hr hsp => ?_, ?_⟩
  · obtain ⟨t, ht, hq⟩ := hbody cdv A outer s H vs Q E true [] (.inl ⟨rfl, hr⟩) (fun _ => hr) hsp
    exact ⟨t, PSs.nox ht, hq⟩
  · obtain ⟨oc, od, dV, kV, doc, pm, an, cdv, ct, osl, rfl, lk, hcd, _, _⟩ := F.ex
    refine L2H.fn_ofH lk hcd S len fun A outer s H vs Q E p hot hr hsp => ?_
    obtain ⟨t, ht, hq⟩ := hbody cdv A outer s H vs Q E false [p] (.inr ⟨⟨p, hot, List.mem_cons_self⟩, hr⟩) (fun z => nomatch z) hsp
    exact ⟨t, PSs.nox ht, hq⟩
end
/-! ### calls in both worlds -/
def tCallB (sp : Sp) (t : TA) : TE := fun σ H Q => t σ H fun vs H1 => sp vs H1 Q E0
def tMethB (C : Addr) (m : Str) (sp : Sp) (ta : TE) (t : TA) : TE := fun σ H Q => ta σ H fun x H1 => ∃ a dx fs, x = .ref a ∧ H1 a = some (.ins C dx fs) ∧ fs.lookup m = none ∧ t σ H1 fun vs H2 => sp (x :: vs) H2 Q E0
section
variable {X : Cx} {k : Nat} {f C : Addr} {fd : FuncData} {ps : List Str} {sp : Sp} {x m : Str} {p pos apos : Pos} {e o : Expr} {es : List Expr} {ta : TE} {t : TA}
theorem runB {pins : List (Addr × Obj)} {σ : L2.St} {H : Hp} {s : Shared} {Q : VK} {us : List Value} {vs : List V} (F : FnB X.prog X.w X.K X.mg X.base k f fd ps sp) (hq : Qy k X) (hb : Binds X.K fd ps []) (I : Inv X pins σ H s) (r : Vals vs us) (h : sp vs H Q E0) :
    wpAny (model X.prog X.w) X.A (call (.ref f) us) (EP X pins σ Q) X.xe s := by
  rcases hq with ⟨_, hr⟩ | ⟨hc, hr⟩
  · refine run_fn (dvs := []) (E := E0) F.ok hr hb .nil pass0 I r ?_
    rw [List.append_nil]
    exact h
  · exact L2H.run_fnH (E := fun _ => E0) F.hot hr hc hb (fun _ _ _ _ _ _ z => z.elim) I r h
theorem pe_callQ (F : FnB X.prog X.w X.K X.mg X.base k f fd ps sp) (hq : Qy k X) (hg : Gl X x) (hm : X.mg x = some (.ref f)) (hk : PySem.W.keepIn X.K (.ref f) = true) (hb : Binds X.K fd ps []) (ha : PA X (e :: es) t)
    (hdb : (x == ("__debug__" : Str)) = false := by decide) (he : starEach (e :: es) X.env = (false, eval e X.env) :: starEach es X.env := by rfl) (hpl : (backTo pos (starEach es X.env)).any (·.1) = false := by rfl) :
    PE X (.Call (.Name x p) (e :: es) [] pos) (tCallB sp t) := by
  refine ⟨fun pins s σ H Q I h => wpAny_Call_Name_kw (ld_glob I hg hm ?_ hdb)⟩
  refine PySem.W.callWith_K (h₀ := X.base) I.ok.mod.kin hk (thn (ha.run pos pins s σ H _ I h) fun us s1 got => ?_) he hpl
  obtain ⟨vs, H1, I1, r, q⟩ := got
  exact ⟨I1.kIn, runB F hq hb I1 r q⟩
theorem pe_methQ {pl : Sem Bool} (he : PE X o ta) (c : Cls X.K C) (hm : Meth X.K C m f) (F : FnB X.prog X.w X.K X.mg X.base k f fd ps sp) (hq : Qy k X) (hb : Binds X.K fd ps []) (ha : PA X (e :: es) t)
    (hst : starEach (e :: es) X.env = (false, eval e X.env) :: starEach es X.env := by rfl) (hpl : (backTo pos (starEach es X.env)).any (·.1) = false := by rfl)
    (ht : eval (.Call (.Attribute o m apos) (e :: es) [] pos) X.env = (do
      let ov ← eval o X.env
      standAt apos.atName
      let (f, first) ← holding [ov] (getMethod ov m pl)
      callWith pos f first (backTo pos (starEach (e :: es) X.env)) (backToKw pos (keywordEach [] X.env))) := by rfl) :
    PE X (.Call (.Attribute o m apos) (e :: es) [] pos) (tMethB C m sp ta t) := by
  rcases hq with ⟨_, hr⟩ | ⟨hc, hr⟩
  · have z := pe_meth (pos := pos) (apos := apos) (pl := pl) (dvs := []) (E := E0) he c hm F.ok hr hb .nil pass0 ha hst hpl ht
    refine ⟨fun pins s σ H Q I h => z.run pins s σ H Q I ?_⟩
    have e : tMeth C m sp [] E0 ta t = tMethB C m sp ta t := by
      unfold tMeth tMethB
      simp only [List.append_nil]
    rw [e]
    exact h
  · exact L2H.pe_methH (E := fun _ => E0) he c hm F.hot hr hc hb (fun _ _ _ _ _ _ _ z => z.elim) ha hst hpl ht
theorem pe_meth0Q {pl : Sem Bool} (he : PE X o ta) (c : Cls X.K C) (hm : Meth X.K C m f) (F : FnB X.prog X.w X.K X.mg X.base k f fd ps sp) (hq : Qy k X) (hb : Binds X.K fd ps [])
    (ht : eval (.Call (.Attribute o m apos) [] [] pos) X.env = (do
      let ov ← eval o X.env
      standAt apos.atName
      let (f, first) ← holding [ov] (getMethod ov m pl)
      callWith pos f first (backTo pos (starEach [] X.env)) (backToKw pos (keywordEach [] X.env))) := by rfl) :
    PE X (.Call (.Attribute o m apos) [] [] pos) (tMethB C m sp ta tNil) := by
  refine ⟨fun pins s σ H Q I h => ?_⟩
  refine PySem.W.methodCall_KW (pl := pl) (thn (he.run pins s σ H _ I h) fun u s1 got => ?_) ht
  obtain ⟨y, H1, J, rx, a, dx, fs, rfl, ha, hl, q⟩ := got
  obtain rfl : u = Value.ref a := rx
  exact getmeth_ok J ha c hm hl (PySem.W.callWith_K0 (first := [.ref a]) J.kIn hm.kp (runB (us := [.ref a]) (vs := [.ref a]) F hq hb J (.cons rfl .nil) q))
end
end Dq
set_option Elab.async false
set_option linter.all false
set_option maxRecDepth 100000
set_option maxHeartbeats 4000000
namespace Dq
open PySem PySem.Spec PyProof.Rows L2 HotX
/-! ### max(xs, default=d) -/
section
variable {prog : Program} {w : World} {A : Around} {E : Value → Shared → Prop} {R : Result → Shared → Prop}
theorem maxD_go {I : Addr} {fp wr : List Addr} {n : Nat} {Pv : Nat → Value → Prop} {St : Nat → Heap → Prop} {kw : List (Str × Value)} (W : Walks prog w A.in1 I fp wr n Pv St) (bt : Nat → Nat → Bool) (hcmp : CmpOf prog w A.in1 .Gt Pv bt) (S : Addr) (hSf : S ∉ fp) :
    ∀ (k j : Nat) (s : Shared) (vb : Value) (c : Nat), n - (j + 1) = k → j < n → St (j + 1) s.heap → Pv (argBest bt j) vb → s.heap.get? S = some { cls := .type "list", dict := none, data := .seq #[vb, vb] c, slots := #[] } →
      (∀ v h' tk, Pv (argBest bt (n - 1)) v → (∀ b o, b ∉ wr → b ≠ S → s.heap.get? b = some o → h'.get? b = some o) → R (.ok (.ret v)) { s with heap := h', toks := tk }) →
      codeAny (model prog w) A (.builtin "max.loop" ⟨[.ref I, .none, .ref S], kw⟩) R s := by
  have nin : S ∉ wr := fun q => hSf (W.sub _ q)
  have nm : (toString "max" ++ toString ".loop" : String) = "max.loop" := by decide
  intro k
  induction k with
  | zero =>
    intro j s vb c hk hj st best hS fin
    have last : j + 1 = n := by omega
    refine codeAny_builtin PySem.F.entry_max_loop ?_
    rw [Around.under_plainId PySem.F.plain_max_loop _]
    show wpAny (model prog w) A.in1 (seqItems? (.ref S) >>= _) _ _ s
    refine wpAny_bind (wpAny_seqItems hS rfl ?_)
    show wpAny (model prog w) A.in1 (tryCatch (pyNext (.ref I)) _ >>= _) _ _ s
    rw [last] at st
    refine wpAny_bind (wpAny_tryCatch (W.done s _ _ st fun h1 tk keep1 => ?_))
    have hS1 := keep1 S _ nin hS
    show wpAny (model prog w) A.in1 (updateSeq S (fun _ => #[]) >>= _) _ _ _
    refine wpAny_bind (wpAny_updateSeq hS1 rfl (wpAny_bind (wpAny_letGo (wpAny_pure ?_))))
    refine fin vb _ tk ?_ fun b o hb hbS e => (Heap.get?_update_other _ _ (Ne.symm hbS)).trans (keep1 b o hb e)
    rw [← last]
    exact best
  | succ k ih =>
    intro j s vb c hk hj st best hS fin
    have more : j + 1 < n := by omega
    refine codeAny_builtin PySem.F.entry_max_loop ?_
    rw [Around.under_plainId PySem.F.plain_max_loop _]
    show wpAny (model prog w) A.in1 (seqItems? (.ref S) >>= _) _ _ s
    refine wpAny_bind (wpAny_seqItems hS rfl ?_)
    show wpAny (model prog w) A.in1 (tryCatch (pyNext (.ref I)) _ >>= _) _ _ s
    refine wpAny_bind (wpAny_tryCatch (W.item (j + 1) s _ _ more st fun v h1 tk pv st1 keep1 => ?_))
    have hS1 := keep1 S _ nin hS
    show wpAny (model prog w) A.in1 (tryCatch (holding [v, v] (richCompare .Gt v vb >>= _)) _ >>= _) _ _ _
    refine wpAny_bind (wpAny_tryCatch (wpAny_holding (wpAny_bind (hcmp (j + 1) (argBest bt j) v vb _ _ _ pv best ?_))))
    refine wpAny_bind (wpAny_holding (wpAny_truthy_bool (wpAny_bind (wpAny_letGo (wpAny_pure ?_)))))
    cases hb : bt (j + 1) (argBest bt j) with
    | true =>
      simp only [if_true]
      refine wpAny_bind (wpAny_updateSeq hS1 rfl (wpAny_bind (wpAny_letGo ?_)))
      rw [nm]
      have best2 : Pv (argBest bt (j + 1)) v := by simp only [argBest, hb, if_true]; exact pv
      refine wpAny_pure ⟨plainId_quiet PySem.F.plain_max_loop _, ih (j + 1) _ v _ (by omega) more (W.frame _ _ _ st1 fun b hbf o e => ?_) best2 (Heap.get?_update_self _ hS1 rfl) fun v2 h2 tk2 pv2 keep2 => ?_⟩
      · exact (Heap.get?_update_other _ _ (fun q : S = b => hSf (by rw [q]; exact hbf))).trans e
      · exact fin v2 h2 tk2 pv2 fun b o hb hbS e => keep2 b o hb hbS ((Heap.get?_update_other _ _ (Ne.symm hbS)).trans (keep1 b o hb e))
    | false =>
      simp only [Bool.false_eq_true, if_false]
      refine wpAny_bind (wpAny_letGo ?_)
      rw [nm]
      have best2 : Pv (argBest bt (j + 1)) vb := by simp only [argBest, hb, Bool.false_eq_true, if_false]; exact best
      refine wpAny_pure ⟨plainId_quiet PySem.F.plain_max_loop _, ih (j + 1) _ vb c (by omega) more st1 best2 hS1 fun v2 h2 tk2 pv2 keep2 => ?_⟩
      exact fin v2 h2 tk2 pv2 fun b o hb hbS e => keep2 b o hb hbS (keep1 b o hb e)
theorem maxD_args (a v : Value) : argsOk "max" ⟨[a], [(Str.ofString "default", v)]⟩ := by unfold argsOk; kernel_rfl
/-- a list's walk in both worlds -/
theorem walks_listQ {h : Heap} {l I : Addr} {items : Array Value} (c : Still A h I) (hl : h.IsList l items) (hi : h.IsListIter I l 0) (ne : l ≠ I) :
    ∃ (fp : List Addr) (St : Nat → Heap → Prop), Walks prog w A I fp [I] items.size (fun i v => items[i]? = some v) St ∧ St 0 h ∧ ∀ b ∈ fp, b < h.objs.size := by
  have ltI : I < h.objs.size := by
    obtain ⟨o, e, _⟩ := hi
    exact Heap.lt_size e
  have ltl : l < h.objs.size := by
    obtain ⟨o, e, _⟩ := hl
    exact Heap.lt_size e
  rcases c with c | ⟨z, nz, hot⟩
  · refine ⟨_, _, Walks.list c I l ne items, ⟨hi, hl⟩, fun b hb => ?_⟩
    rcases List.mem_cons.mp hb with rfl | hb
    · exact ltI
    · rw [List.mem_singleton.mp hb]
      exact ltl
  · have ltz : z < h.objs.size := by
      obtain ⟨_, o, _, e, _⟩ := hot
      exact Heap.lt_size e
    refine ⟨[I, l, z], fun i g => g.IsListIter I l i ∧ g.IsList l items ∧ HotAt A z g, ?_, ⟨hi, hl, hot⟩, fun b hb => ?_⟩
    · exact {
        sub := fun b hb => by
          rw [List.mem_singleton.mp hb]
          exact List.mem_cons_self
        frame := fun i g g' st kp => ⟨st.1.at fun o e => kp I (by simp) o e, st.2.1.at fun o e => kp l (by simp) o e, hot_keep st.2.2 fun o e => kp z (by simp) o e⟩
        item := fun i s Q E hi st fin => by
          obtain ⟨s1, s2, s3⟩ := st
          refine wpAny_pyNext_list_item s1 s2 (x := items[i]) (by simp [hi]) fun h1 it1 sb => ?_
          exact fin _ h1 s.toks (by simp [hi]) ⟨it1, s2.extBut sb.extBut ne, hot_keep s3 fun o e => (sb.2 z nz).trans e⟩ fun b o hb e => (sb.2 b (fun q => hb (by simp [q]))).trans e
        done := fun s Q E st fin => by
          obtain ⟨s1, s2, s3⟩ := st
          exact list_over (.inr ⟨z, nz, s3⟩) s1 s2 (by simp) fun h1 e1 => fin h1 s.toks fun b o hb e => e1 b o (fun q => hb (by simp [q])) e
        self := fun _ _ _ _ st fin => wpAny_pyIter_listiter st.1 fin }
    · rcases List.mem_cons.mp hb with rfl | hb
      · exact ltI
      · rcases List.mem_cons.mp hb with rfl | hb
        · exact ltl
        · rw [List.mem_singleton.mp hb]
          exact ltz
theorem max_dflt {s : Shared} {l : Addr} {its : List Value} {ns : List Int} {d : Value} {Q : Value → Shared → Prop} (c : Still A s.heap s.heap.objs.size) (hl : s.heap.IsList l its.toArray) (hi : IntsAre its ns)
    (none_ : ns = [] → ∀ h' tk, (∀ b o, s.heap.get? b = some o → h'.get? b = some o) → Q d { s with heap := h', toks := tk })
    (some_ : ns ≠ [] → ∀ h' tk M t', (∀ b o, s.heap.get? b = some o → h'.get? b = some o) → M ∈ ns → (∀ a, a ∈ ns → a ≤ M) → Q (.int M t') { s with heap := h', toks := tk }) :
    wpAny (model prog w) A (call (.builtin "max") [.ref l] [(Str.ofString "default", d)]) Q E s := by
  have nm : (toString "max" ++ toString ".loop" : String) = "max.loop" := by decide
  have ltl : l < s.heap.objs.size := by
    obtain ⟨o, e, _⟩ := id hl
    exact Heap.lt_size e
  refine kmk_tree PySem.F.kind_max PySem.F.plain_max PySem.F.entry_max (maxD_args _ _) ?_
  show wpAny (model prog w) A.in1 (Builtin.Builtins.bindParams "max" ["key", "default"] 0 ⟨[], [(Str.ofString "default", d)]⟩ >>= _) _ _ s
  refine wpAny_bind (wpAny_of_eq (show Builtin.Builtins.bindParams "max" ["key", "default"] 0 ⟨[], [(Str.ofString "default", d)]⟩ = pure [none, some d] from rfl) ?_)
  refine wpAny_bind (wpAny_pure (wpAny_bind (wpAny_pyIter_list hl ?_)))
  refine wpAny_bind (wpAny_newObj_type ?_)
  rw [nm]
  generalize e2 : s.heap.push { cls := .type "list_iterator", data := .fields #[.ref l, .int 0 0] } = h2
  have up2 : ∀ {b o}, s.heap.get? b = some o → h2.get? b = some o := fun {b o} e => by rw [← e2]; exact Heap.get?_push_of_some _ e
  have size2 : h2.objs.size = s.heap.objs.size + 1 := by rw [← e2]; exact Heap.size_push ..
  have it2 : h2.IsListIter s.heap.objs.size l 0 := by rw [← e2]; exact ⟨_, Heap.get?_push_size _ rfl, rfl, rfl⟩
  have l2 : h2.IsList l its.toArray := hl.at fun o e => up2 e
  have c2 : Still A.in1 h2 s.heap.objs.size := by
    refine still_keep (A := A.in1) c fun x o _ e => up2 e
  obtain ⟨fp, St, W, st0, small⟩ := walks_listQ (prog := prog) (w := w) c2 l2 it2 (Nat.ne_of_lt ltl)
  have nS : h2.objs.size ∉ fp := fun q => Nat.lt_irrefl _ (small _ q)
  have st1 : St 0 (h2.push { cls := .type "list", data := .seq #[] }) := W.frame _ _ _ st0 fun b _ o e => Heap.get?_push_of_some _ e
  have atS : (h2.push { cls := .type "list", data := .seq #[] }).get? h2.objs.size = some { cls := .type "list", dict := none, data := .seq #[] 0, slots := #[] } := Heap.get?_push_size _ rfl
  have nI : h2.objs.size ∉ [s.heap.objs.size] := by
    intro q
    rw [List.mem_singleton.mp q] at size2
    omega
  have old : ∀ {h' : Heap}, (∀ b o, b ∉ [s.heap.objs.size] → b ≠ h2.objs.size → (h2.push { cls := .type "list", data := .seq #[] }).get? b = some o → h'.get? b = some o) → ∀ b o, s.heap.get? b = some o → h'.get? b = some o := by
    intro h' kp b o e
    have lt := Heap.lt_size e
    refine kp b o (fun q => ?_) (fun q => ?_) (Heap.get?_push_of_some _ (up2 e))
    rotate_left
    · rw [q, size2] at lt
      exact absurd lt (Nat.not_lt_of_le (Nat.le_succ _))
    rw [List.mem_singleton.mp q] at lt
    exact absurd lt (Nat.lt_irrefl _)
  refine wpAny_pure ⟨plainId_quiet PySem.F.plain_max_loop _, ?_⟩
  refine codeAny_builtin PySem.F.entry_max_loop ?_
  rw [Around.under_plainId PySem.F.plain_max_loop _]
  show wpAny (model prog w) A.in1 (seqItems? (.ref h2.objs.size) >>= _) _ _ _
  refine wpAny_bind (wpAny_seqItems atS rfl ?_)
  show wpAny (model prog w) A.in1 (tryCatch (pyNext (.ref s.heap.objs.size)) _ >>= _) _ _ _
  cases hn : ns with
  | nil =>
    subst hn
    have e0 : its = [] := List.eq_nil_of_length_eq_zero (by have := hi.length; simpa using this)
    subst e0
    refine wpAny_bind (wpAny_tryCatch (W.done _ _ _ st1 fun h3 tk keep3 => ?_))
    refine wpAny_bind (wpAny_rule (wpAny_pure ?_))
    exact none_ rfl h3 tk (old fun b o hb _ e => keep3 b o hb e)
  | cons n0 nr =>
    have pos : 0 < its.toArray.size := by
      have e := hi.length
      rw [hn] at e
      simp at e ⊢
      omega
    refine wpAny_bind (wpAny_tryCatch (W.item 0 _ _ _ pos st1 fun v h3 tk pv st3 keep3 => ?_))
    have hS3 := keep3 _ _ nI atS
    show wpAny (model prog w) A.in1 (updateSeq h2.objs.size (fun _ => #[v, v]) >>= _) _ _ _
    refine wpAny_bind (wpAny_updateSeq hS3 rfl ?_)
    rw [nm]
    obtain ⟨xs, ex⟩ := hi.allInts.items
    have num : numsOf (intItems xs).toList = ns := by rw [← ex]; exact hi.numsOf
    rw [nums_intItems] at num
    have cmp : CmpOf prog w A.in1 .Gt (fun i v => its.toArray[i]? = some v) fun i j => decide (numAt xs i > numAt xs j) := by
      rw [ex]
      exact CmpOf.ints_gt (numAt xs) fun _ _ => intItems_at
    refine wpAny_pure ⟨plainId_quiet PySem.F.plain_max_loop _, maxD_go W _ cmp h2.objs.size nS _ 0 _ v _ rfl pos (W.frame _ _ _ st3 fun b hbf o e => ?_) pv (Heap.get?_update_self _ hS3 rfl) fun v2 h4 tk4 pv2 keep4 => ?_⟩
    · exact (Heap.get?_update_other _ _ (fun q : h2.objs.size = b => nS (by rw [q]; exact hbf))).trans e
    · have kept : ∀ b o, s.heap.get? b = some o → h4.get? b = some o := old fun b o hb hbS e => keep4 b o hb hbS ((Heap.get?_update_other _ _ (Ne.symm hbS)).trans (keep3 b o hb e))
      rw [ex] at pv2
      obtain ⟨t, rfl⟩ := intItems_at pv2
      obtain ⟨g1, g2⟩ := argBest_gt (numAt xs) ((intItems xs).size - 1)
      have szx : (intItems xs).size = xs.size := by simp [intItems]
      rw [ex, szx] at pos
      rw [szx] at g1 g2
      have some2 := some_ (by rw [hn]; exact List.cons_ne_nil _ _) h4 tk4 (numAt xs (argBest (fun i j => decide (numAt xs i > numAt xs j)) (xs.size - 1))) t kept
      rw [← num] at some2
      rw [szx]
      refine some2 ?_ fun a ha => ?_
      · rw [numAt_eq]
        exact PySem.getD_mem (by rw [List.length_map, Array.length_toList]; omega)
      · obtain ⟨j, hj, rfl⟩ := mem_getD ha
        rw [List.length_map, Array.length_toList] at hj
        rw [← numAt_eq]
        exact g2 j (by omega)
end
end Dq
set_option Elab.async false
set_option linter.all false
set_option maxRecDepth 100000
set_option maxHeartbeats 4000000
namespace Dq
open PySem PySem.Spec PyProof.Rows L2 HotX
section
variable {X : Cx} {a b c d e o i : Expr} {ta tb tc td te to ti : TE} {pos : Pos}
/-! ### max(xs, default=d), by the layer -/
def rMaxD (K : PySem.W.Frag) : List V → List V → Hp → VK → Prop := fun vs zs H Q => ∃ (p : Addr) (ns : List Int) (d : Int), vs = [V.ref p] ∧ zs = [V.int d] ∧ SqL K H p (ns.map V.int) ∧ (ns = [] → Q (.int d) H) ∧
  ∀ m, m ∈ ns → (∀ y, y ∈ ns → y ≤ m) → Q (.int m) H
theorem cr_maxD (hq : Qx X) : CallRK X (.builtin "max") [Str.ofString "default"] (rMaxD X.K) := by
  intro pins s σ H vs zs us ws Q I rv rz want
  obtain ⟨p, ns, d, rfl, rfl, hs, q0, q1⟩ := want
  obtain rfl := Vals.ref1 rv
  obtain ⟨w1, rfl, t, rfl⟩ := vals1 rz
  obtain ⟨its, r, pl, hz⟩ := I.list hs
  refine max_dflt (hq.new I) pl.isList r.ints (fun e h' tk kp => ⟨.int d, H, I.kept kp, ⟨t, rfl⟩, q0 e⟩) fun _ h' tk M t' kp hm hle => ⟨.int M, H, I.kept kp, ⟨t', rfl⟩, q1 M hm hle⟩
/-! ### a < b < c < d, as a value -/
def tChain3 (r r' r2 : R2) (ta tb tc td : TE) : TE := fun σ H Q => ta σ H fun x H1 => tb σ H1 fun y H2 => r x y H2 fun z H3 => ∃ k, z = .bl k ∧
  (if k = true then tc σ H3 fun y2 H4 => r' y y2 H4 fun z2 H5 => ∃ k2, z2 = .bl k2 ∧ (if k2 = true then td σ H5 fun y3 H6 => r2 y2 y3 H6 Q else Q (.bl false) H5) else Q (.bl false) H3)
theorem pe_chain3 {op op' op2 : CmpOp} {r r' r2 : R2} (ho : OpR X (compareOp op) r) (ho' : OpR X (compareOp op') r') (ho2 : OpR X (compareOp op2) r2) (ha : PE X a ta) (hb : PE X b tb) (hc : PE X c tc) (hd : PE X d td)
    (hm : lastMarks [op, op', op2] [b, c, d] = false := by with_unfolding_all rfl) : PE X (.Compare a [op, op', op2] [b, c, d] pos) (tChain3 r r' r2 ta tb tc td) := by
  refine ⟨fun pins s σ H Q I h => Compare_chain (thn (ha.run pins s σ H _ I h) fun v s1 got => chain_link ?_) hm⟩
  obtain ⟨x, H1, I1, rx, q1⟩ := got
  refine thn (hb.run pins s1 σ H1 _ I1 q1) fun u s2 got => ?_
  obtain ⟨y, H2, I2, ry, q2⟩ := got
  refine thn (ho pins s2 σ H2 x y v u _ I2 rx ry q2) fun f s3 got => ?_
  obtain ⟨z, H3, I3, rz, k, rfl, q3⟩ := got
  cases rz
  refine wpAny_truthy_bool ?_
  cases k with
  | false => exact ite_ff ⟨.bl false, H3, I3, rfl, q3⟩
  | true =>
    refine ite_tt (chain_link (thn (hc.run pins s3 σ H3 _ I3 q3) fun u2 s4 got => ?_))
    obtain ⟨y2, H4, I4, ry2, q4⟩ := got
    refine thn (ho' pins s4 σ H4 y y2 u u2 _ I4 ry ry2 q4) fun f2 s5 got => ?_
    obtain ⟨z2, H5, I5, rz2, k2, rfl, q5⟩ := got
    cases rz2
    refine wpAny_truthy_bool ?_
    cases k2 with
    | false => exact ite_ff ⟨.bl false, H5, I5, rfl, q5⟩
    | true =>
      refine ite_tt (chain_last (thn (hd.run pins s5 σ H5 _ I5 q5) fun u3 s6 got => ?_))
      obtain ⟨y3, H6, I6, ry3, q6⟩ := got
      exact ho2 pins s6 σ H6 y2 y3 u2 u3 Q I6 ry2 ry3 q6
/-! ### xs[i] read by values -/
def gGetL (K : PySem.W.Frag) : V → V → Hp → VK → Prop := fun o i H Q => ∃ (p : Addr) (xs : List V) (j : Nat) (v : V), o = .ref p ∧ i = .int (j : Nat) ∧ SqL K H p xs ∧ xs[j]? = some v ∧ Q v H
theorem get_listQ : PGet X (gGetL X.K) := by
  intro pins s σ H o i ov iv Q I ro ri want
  obtain ⟨p, xs, j, v, rfl, rfl, hs, hx, q⟩ := want
  cases ro
  obtain ⟨t, rfl⟩ := ri
  obtain ⟨its, rv, pl, hz⟩ := I.list hs
  obtain ⟨u, hu, ru⟩ := rv.get hx
  have lt : j < xs.length := (List.getElem?_eq_some_iff.mp hx).1
  have ln := line63
  exact wpAny_getItem_list pl.isList (Int.natCast_nonneg j) (by omega) (by simpa using hu) ⟨v, H, I, ru, q⟩
/-! ### text.replace(y, z) of written texts, a token out -/
theorem pet_m1 {id : String} {name : Str} {apos pos : Pos} {r : V → List V → Hp → VK → Prop} (slot : Slot "str" name id) (ty : typeOf (.builtin id) = pure (.type "method_descriptor")) (rule : MtR X id r) (ho : PET X o to) (he : PE X e te)
    (hs : starEach [e] X.env = [(false, eval e X.env)] := by rfl) (hbase : attributeBase o name X.env (eval o X.env) = eval o X.env := by rfl) (hline : (apos.endLine == pos.line) = true := by rfl) : PET X (.Call (.Attribute o name apos) [e] [] pos) (tM1 r to te) := by
  intro pins s σ H Q tk I h
  refine PySem.Call_method1 hbase hs hline (thn (ho pins s σ H _ tk I h) fun v s1 got => ?_)
  obtain ⟨x, H1, I1, rx, ⟨y, rfl⟩, q1⟩ := got
  obtain ⟨t, rfl⟩ := _root_.id rx
  refine ⟨"str", _, F.plainAttrs_str, slot, ty, typeIs_str _ _ _, (fun _ z => nomatch z), Calls.callWith_builtin rfl (Calls.evalArgs_plain (Calls.spliced_cons (thn (he.run pins s1 σ H1 _ I1 q1) fun u s2 got => ?_)))⟩
  · obtain ⟨z, H2, I2, rz, q2⟩ := got
    exact Calls.spliced_nil (rule pins s2 σ H2 _ [z] _ [u] Q I2 rx (.cons rz .nil) q2)
end
/-! ### statements while a token is out -/
theorem thnT {α : Type} {M : Model} {A : Around} {t : Sem α} {Q Q' : α → Shared → Prop} {E : Value → Shared → Prop} {s : Shared} {n : Nat} (hn : n ≤ s.toks) (h : wpAny M A t Q E s) (k : ∀ a s', n ≤ s'.toks → Q a s' → Q' a s') : wpAny M A t Q' E s :=
  wpAny_mono (wpAny_toks_of hn h) (fun a s' q => k a s' q.1 q.2) fun _ _ q => q.2
section
variable {X : Cx} {e : Expr} {te : TE} {pos : Pos}
theorem pst_set {i : Nat} {x : Str} {pos' : Pos} (hN : X.N.Nodup) (hi : X.N[i]? = some x) (hx : Loc X.env.scope x) (he : PET X e te) (hs : swapsWith e (some (.Name x pos')) pos.line X.env = pure false := by rfl)
    (hf : X.fn x = true ∨ X.env.scope.names.lookup x = some .local := by first | exact .inl rfl | exact .inr rfl | assumption) : PST X (.Assign [.Name x pos'] e pos) (tAsg te (gName i)) := by
  intro pins s σ H D tk I h
  refine wpAny_Assign_Name (thn (he pins s σ H _ tk I h) fun v s1 got => ?_) hs
  obtain ⟨y, H1, I1, ry, q⟩ := got
  exact store_ok I1 hN hi hx ry (fun s2 I2 => ⟨_, H1, I2, q⟩) hf
theorem pst_forT {tg iter : Expr} {body : List Stmt} {wi : TI} {g : TG} {tb : TS} (hp : PassesOwn (model X.prog X.w) X.A X.env X.xe) (hc : X.calm = true) (hi : PI X tg iter wi) (hg : PG X tg g) (hb : PSsT X body tb)
    (hs : ∀ x, foldedSetIterable iter X.env x = pure x := by intro _; rfl) : PST X (.For tg iter body [] pos) (tFor wi g tb) := by
  intro pins s σ H D tk I h
  refine wpAny_For (thnT tk (hi.run pins s σ H _ I h) fun v s1 tk1 come => thnT tk1 come fun itv s2 tk2 got => ?_) hs
  obtain ⟨it, fp, tn, J, H2, rfl, I2, T, st2, f2, W, ⟨m0, w0⟩, turn⟩ := got
  have own : ∀ {H' : Hp}, (∀ b ∈ fp, H' b = none) → ∀ b ∈ fp, FpOk X pins H' b := fun hn b hb => ⟨hn b hb, (f2 b hb).2⟩
  refine codeAny_forLoop_any (fun n s' => 1 ≤ s'.toks ∧ ∃ i σ' H', Inv X pins σ' H' s' ∧ tn i s'.heap ∧ (∀ b ∈ fp, H' b = none) ∧ W i n σ' H') ?_ m0 ⟨tk2, 0, σ, H2, I2, st2, fun b hb => (f2 b hb).1, w0⟩
  rintro n s3 ⟨tk3, i, σ3, H3, I3, st3, fr3, w3⟩
  rcases turn i n σ3 H3 w3 with ⟨stop, qn⟩ | ⟨go, N, hN, step⟩
  · refine wpAny_passesOwn hp (thn (T.done X rfl rfl rfl hc i pins s3 σ3 H3 X.xe I3 (own fr3) st3 stop) fun r s4 got => ?_)
    obtain ⟨rfl, I4⟩ := got
    exact wpAny_execs_nil ⟨σ3, H3, I4, qn⟩
  · refine wpAny_passesOwn hp (thnT tk3 (T.item X rfl rfl rfl hc i pins s3 σ3 H3 X.xe I3 (own fr3) st3 go) fun r s4 tk4 got => ?_)
    obtain ⟨u, rfl, h4⟩ := got
    refine wpAny_passesOwn hp (thnT tk4 h4 fun _ s5 tk5 got => ?_)
    obtain ⟨x, H5, I5, r5, y5, st5, fr5⟩ := got
    refine wpAny_passesOwn hp (thnT tk5 (hg.run _ s5 σ3 H5 x u _ (I5.pinned (own fr5) (T.obj _ _ st5)) r5 (step x H5 y5)) fun _ s6 tk6 got => ?_)
    obtain ⟨σ6, H6, I6, q6⟩ := got
    refine wpAny_passesOwn hp (thnT tk6 (hb _ s6 σ6 H6 _ tk6 I6 q6) fun f s7 tk7 q7 => ?_)
    have again : ∀ {σ7 : L2.St} {H7 : Hp}, Inv X (pins ++ pinsAt fp s5.heap) σ7 H7 s7 → N σ7 H7 → ∃ m, m < n ∧ 1 ≤ s7.toks ∧ ∃ i σ' H', Inv X pins σ' H' s7 ∧ tn i s7.heap ∧ (∀ b ∈ fp, H' b = none) ∧ W i m σ' H' := by
      intro σ7 H7 I7 n7
      obtain ⟨m', hm, w7⟩ := hN σ7 H7 n7
      have pinned : ∀ b ∈ fp, ∀ o, s5.heap.get? b = some o → s7.heap.get? b = some o ∧ H7 b = none := by
        intro b hb o e
        obtain ⟨z1, z2, _⟩ := I7.pin (b, o) (List.mem_append_right _ (List.mem_append_right _ (mem_pinsAt hb e)))
        exact ⟨z1, z2⟩
      refine ⟨m', hm, tk7, i + 1, σ7, H7, I7.unpinned, T.keep _ _ _ st5 fun b hb o e => (pinned b hb o e).1, fun b hb => ?_, w7⟩
      obtain ⟨o, e, _⟩ := T.obj _ _ st5 b hb
      exact (pinned b hb o e).2
    cases f with
    | next =>
      obtain ⟨σ7, H7, I7, n7⟩ := q7
      exact again I7 n7
    | cont =>
      obtain ⟨σ7, H7, I7, n7⟩ := q7
      exact again I7 n7
    | brk =>
      obtain ⟨σ7, H7, I7, q7⟩ := q7
      exact ⟨σ7, H7, I7.unpinned, q7⟩
    | ret v =>
      obtain ⟨x7, σ7, H7, I7, r7, q7⟩ := q7
      exact ⟨x7, σ7, H7, I7.unpinned, r7, q7⟩
end
end Dq
set_option Elab.async false
set_option linter.all false
set_option maxRecDepth 100000
set_option maxHeartbeats 4000000
namespace Dq
open PySem PySem.Spec PyProof.Rows L2 HotX
/-! ### try: body, except x as n: suite, else: more (the exception is always of the class; its context is None) -/
def wYes (K : PySem.W.Frag) (c : Value) (i : Nat) (ts : Addr → Value → Option Addr → TS) (D : Ends) : WX := fun cls d σ H => PySem.W.exmOne K cls c = some true ∧ ∀ a, H a = none →
  ts a cls d { nx := fun σ' H' => D.nx (σ'.set i none) H', rt := D.rt, bk := fun σ' H' => D.bk (σ'.set i none) H', ct := fun σ' H' => D.ct (σ'.set i none) H' } (σ.set i (some (.ref a))) H
section
variable {X : Cx} {x n : Str} {c : Value} {i : Nat} {body suite orelse : List Stmt} {b0 : Stmt} {np pos pos' : Pos} {tb : WX → TS} {ts : Addr → Value → Option Addr → TS} {u : TS}
theorem ps_try_asE (hs : X.stack = X.env :: X.outer) (hf : X.env.frame = some X.env.locals) (hN : X.N.Nodup) (hi : X.N[i]? = some n) (hln : X.env.kindOf n = some .local) (hc : Names X x c) (ho : PSs X orelse u)
    (hb : ∀ (W : WX) (pn : List (Addr × Obj)) (xe : Value → Shared → Prop), L2N.Takes (X.tr pn xe) W → PassesOwn (model X.prog X.w) X.A X.env xe → PSs (X.tr pn xe) body (tb W))
    (hsu : ∀ (a : Addr) (oe : Obj) (cls : Value) (d : Option Addr) (pn : List (Addr × Obj)), L2N.Zn cls d oe → (∃ vs, oe.data = .fields vs) → PSs (X.suite a ((a, oe) :: pn)) (b0 :: suite) (ts a cls d)) :
    PS X (.Try body [.ExceptHandler (some (.Name x np)) (some n) (b0 :: suite) pos'] orelse [] pos) (fun D σ H => tb (wYes X.K c i ts D) { D with nx := u D } σ H) := by
  refine ⟨fun pins s σ H D I want => ?_⟩
  have good := I.ok
  have fr : X.A.frames = some (X.env :: X.outer) := by rw [good.frames, hs]
  have loc : Loc X.env.scope n := .inl hln
  refine wpAny_Try_except ?_
  refine wpAny_mono ((hb (wYes X.K c i ts D) (X.pn ++ pins) (fun e s₁ => wpAny (model X.prog X.w) X.A (noteFrame e X.env) (fun _ s₂ => wpAny (model X.prog X.w) X.A (setFlight e none) (fun _ s₃ =>
    wpAny (model X.prog X.w) X.A (handleBy e X.env [.ExceptHandler (some (.Name x np)) (some n) (b0 :: suite) pos']) (SP X pins D) X.xe s₃) X.xe s₂) X.xe s₁) (fun ex s' caught => ?_) PassesOwn.looking).run [] s σ H { D with nx := u D } (I.toTry _) want) (fun f s1 got => ?_) (fun e s1 z => z)
  · obtain ⟨a, B, sI, pins', σ', H', cls, d, rfl, J', nb, up, sky, na, os, ag, yes, go⟩ := caught
    have J : Inv X pins σ' H' sI := J'.ofTry good
    rw [show (X.tr (X.pn ++ pins) _).stack = X.env :: X.outer from hs] at sky
    show wpAny (model X.prog X.w) X.A (noteFrame (.ref a) X.env) _ _ _
    refine L2N.Sky.land L2N.Zn.steady fr hf sky fun h3 fl3 up3 => ?_
    have J3 : Inv X pins σ' H' { s' with heap := h3 } := J.landed nb fl3.1 (up.trans up3) os ag
    obtain ⟨oe3, vs3, he3, hz3, hd3⟩ := fl3.there
    have nfr : a ∉ frs (X.env :: X.outer) := by
      intro hm
      obtain ⟨_, o', e', hnf⟩ := fl3.2.2.1.mem hm
      rw [he3] at e'
      cases e'
      exact hnf _ hd3
    have nL : a ≠ X.env.locals := fun z => nfr (List.mem_filterMap.mpr ⟨X.env, List.mem_cons_self, by rw [hf, z]⟩)
    have nF : a ∉ X.fs := by
      intro hm
      obtain ⟨e, he, q⟩ := List.mem_filterMap.mp hm
      exact nfr (List.mem_filterMap.mpr ⟨e, List.mem_cons_of_mem _ he, q⟩)
    have S3 := J3.suite he3 hd3 na nL nF
    refine wpAny_handleBy_cons (codeAny_handlers_test ?_) (fun q => nomatch q)
    have LT : PySem.W.Looks (model X.prog X.w) h3 (typeOf (.ref a)) cls := fun A Q E s k q => wpAny_typeOf_ref (k _ _ he3) (by rw [hz3.1]; exact q)
    have LM := PySem.W.exm_one (M := model X.prog X.w) J3.kIn LT yes
    have test : ∀ {Q : Value → Shared → Prop} {E : Value → Shared → Prop}, Q c { s' with heap := h3 } → wpAny (model X.prog X.w) (X.A.mark (some (.ref a))) (eval (.Name x np) X.env) Q E { s' with heap := h3 } := by
      intro Q E q
      obtain ⟨hg, hdbg, hm | ⟨hm, hv, hnn⟩⟩ := hc
      · exact ld_glob (X := X.suite a ((a, oe3) :: (X.pn ++ pins))) S3 hg hm q hdbg
      · exact ld_blt (X := X.suite a ((a, oe3) :: (X.pn ++ pins))) S3 hg hm hv q hnn hdbg
    refine test (LM.here (codeAny_handlers_suite_as ?_))
    refine HandSPX.lands_againZ fl3 fun h4 fl4 up4 => ?_
    have J4 : Inv X pins σ' H' { s' with heap := h4 } := J.landed nb fl4.1 ((up.trans up3).trans up4) os ag
    obtain ⟨oe4, vs4, he4, hz4, hd4⟩ := fl4.there
    have S4 := J4.suite he4 hd4 na nL nF
    refine store_ok (X := X.suite a ((a, oe4) :: (X.pn ++ pins))) (v := .ref a) S4 hN hi loc rfl (fun s5 S5 => ?_) (.inr hln)
    refine wpAny_mono ((hsu a oe4 cls d (X.pn ++ pins) hz4 ⟨_, hd4⟩).run [] s5 _ H' _ S5 (go a na)) (fun f s6 got => ?_) (fun _ _ z => False.elim z)
    have leave : ∀ {σ6 : L2.St} {H6 : Hp} {Q : Shared → Prop}, Inv (X.suite a ((a, oe4) :: (X.pn ++ pins))) [] σ6 H6 s6 → (∀ s7, Inv X pins (σ6.set i none) H6 s7 → Q s7) →
        wpAny (model X.prog X.w) X.A (do bindName X.env n .none; unbindBehindTheSuite X.env n pos') (fun _ s7 => Q s7) X.xe s6 := fun {σ6 H6 Q} S6 q => gone_ok (S6.unsuite good) hN hi hln q
    cases f with
    | next =>
      obtain ⟨σ6, H6, S6, q6⟩ := got
      exact leave S6 fun s7 J7 => ⟨_, _, J7, q6⟩
    | brk =>
      obtain ⟨σ6, H6, S6, q6⟩ := got
      exact leave S6 fun s7 J7 => ⟨_, _, J7, q6⟩
    | cont =>
      obtain ⟨σ6, H6, S6, q6⟩ := got
      exact leave S6 fun s7 J7 => ⟨_, _, J7, q6⟩
    | ret v =>
      obtain ⟨v6, σ6, H6, S6, r6, q6⟩ := got
      exact leave S6 fun s7 J7 => ⟨_, _, _, J7, r6, q6⟩
  · cases f with
    | next =>
      obtain ⟨σ', H', J', q⟩ := got
      exact ho.run pins s1 σ' H' D (J'.ofTry good) q
    | brk =>
      obtain ⟨σ', H', J', q⟩ := got
      exact ⟨σ', H', J'.ofTry good, q⟩
    | cont =>
      obtain ⟨σ', H', J', q⟩ := got
      exact ⟨σ', H', J'.ofTry good, q⟩
    | ret v =>
      obtain ⟨w, σ', H', J', r, q⟩ := got
      exact ⟨w, σ', H', J'.ofTry good, r, q⟩
end
end Dq
namespace Dq
open PySem PySem.Spec PyProof.Rows L2 HotX
/-- C(e, ..), C's own __init__ keeping sp: the exception's context is None -/
theorem pmk_oexN {X : Cx} {e : Expr} {es : List Expr} {ta : TA} {p pos : Pos} {CX : CXT} {x : Str} {C fI : Addr} {k : Nat} {fd : FuncData} {ps : List Str} {sp : Sp} (T : OexC X.K C) (iC : PySem.W.findIn X.K (.ref C) "__init__" = some (some (.ref fI))) (tI : PySem.W.typeIn X.K (.ref fI) = some (.type "function"))
    (F1 : FnOk X.prog X.w X.K X.mg X.base CX k fI fd ps sp) (hr : Room (k + 1) X.A) (hb : Binds X.K fd ps []) (hx : Passes CX X (fun _ _ _ => False)) (hg : Gl X x) (hm : X.mg x = some (.ref C)) (ha : PA X (e :: es) ta)
    (hdb : (x == ("__debug__" : Str)) = false := by decide) (he : starEach (e :: es) X.env = (false, eval e X.env) :: starEach es X.env := by rfl) (hpl : (backTo pos (starEach es X.env)).any (·.1) = false := by rfl) :
    L2N.PMk X (.Call (.Name x p) (e :: es) [] pos) (tMkO C sp [] ta) := by
  intro pins s σ H Q I h
  obtain ⟨nm, q, N, bs, bm, sn, sub, ab, col, dd, k0, k1, k2, k3, k5, hC, hbm⟩ := T.cls
  refine wpAny_Call_Name_kw (ld_glob I hg hm ?_ hdb)
  refine PySem.W.callWith_K (h₀ := X.base) I.ok.mod.kin T.kC (thn (ha.run pos pins s σ H _ I h) fun us s1 got => ?_) he hpl
  obtain ⟨vs, H1, I1, r1, hz, q1⟩ := got
  refine ⟨I1.kIn, ?_⟩
  show wpAny _ _ (call (.ref C) us) _ _ _
  obtain ⟨hp, g, dr, tk, os⟩ := s1
  have young : hp.objs.size ≤ hp.objs.size + 1 := Nat.le_succ _
  have want := q1 (hp.objs.size + 1) (I1.hok.fresh young)
  rw [List.append_nil] at want
  have up : ∀ b o, hp.get? b = some o → ((hp.push (PySem.W.kdv_tup us)).push (PySem.HandSPX.excO C hp.objs.size)).get? b = some o := fun b o e => Heap.get?_push_of_some _ (Heap.get?_push_of_some _ e)
  have made : ((hp.push (PySem.W.kdv_tup us)).push (PySem.HandSPX.excO C hp.objs.size)).get? (hp.objs.size + 1) = some (PySem.HandSPX.excO C hp.objs.size) := by heap_get
  have I2 : Inv X pins σ (upd H1 (hp.objs.size + 1) (exo (hp.objs.size + 1) C none)) ⟨(hp.push (PySem.W.kdv_tup us)).push (PySem.HandSPX.excO C hp.objs.size), g, dr, tk, os⟩ :=
    I1.laid (t' := tk) (a := hp.objs.size + 1) (h' := (hp.push (PySem.W.kdv_tup us)).push (PySem.HandSPX.excO C hp.objs.size)) up young (exo_ok made)
  have r2 : Vals (V.ref (hp.objs.size + 1) :: vs) (Value.ref (hp.objs.size + 1) :: us) := .cons rfl r1
  have len : (Value.ref (hp.objs.size + 1) :: us ++ []).length = ps.length := by
    have z := r2.length
    rw [F1.len _ _ _ _ want] at z
    rw [List.append_nil]
    exact z.symm
  have few : us.length ≤ sizeLine := by
    have z := Paired.length r1
    rw [← z, sizeLine_eq]
    omega
  have bnd := hb ⟨(hp.push (PySem.W.kdv_tup us)).push (PySem.HandSPX.excO C hp.objs.size), g, dr, tk, os⟩ (Value.ref (hp.objs.size + 1) :: us) I2.kIn len
  rw [List.append_nil] at bnd
  refine wpAny_call (PySem.HandSPX.call_own F.excBase_ValueError (fun Y => PySem.HandSPX.refsVE_contains Y bm hbm) (I1.kIn _ _ hC) (PySem.W.looks_findIn I1.kIn iC) (fun self => PySem.W.bind_fn I1.kIn self tI) few
    (codeAny_mono (F1.run _ X.stack _ _ ⟨Value.ref (hp.objs.size + 1) :: us, []⟩ _ _ _ (fun _ _ _ => False) (hr.make C us []) (I2.env0.make C us []) bnd r2 want) fun r s' got => ?_))
  match r, got with
  | .error er, got => exact hx pins σ _ _ er s' I2 got
  | .ok (.ret u), got =>
    obtain ⟨v, H2, os2, bare2, un2, hok2, rv, rfl, d, fs, ea, ed, hd1, q2⟩ := got
    obtain ⟨h2, g2, d2, t2, os'⟩ := s'
    obtain ⟨t0, G, JG, kG, gN, atA, hN⟩ := mk_end0 I1 young up un2 hok2 os2 bare2 ea ed hd1
    refine ⟨rv, hp.objs.size + 1, _, _, ⟨G, g2, d2, t2, os'⟩, _, .ref C, some d, rfl, JG, kG, gN, atA, ⟨rfl, rfl, fun vs hv => ?_⟩, rfl, rfl, hN, rfl, bare2, raises_own T.exC T.tyC, q2⟩
    cases hv
    rfl
end Dq
set_option Elab.async false
set_option linter.all false
set_option maxRecDepth 100000
set_option maxHeartbeats 4000000
namespace Dq
open PySem PySem.Spec PyProof.Rows L2 HotX NdefX LamX
/-! ### the order of tuples of ints -/
theorem lex_irrefl : ∀ a : List Int, HT.lexLt a a = false
  | [] => rfl
  | x :: xs => by rw [HT.lexLt_cons, if_pos rfl, lex_irrefl xs]
theorem lex_trans : ∀ a b c : List Int, HT.lexLt a b = true → HT.lexLt b c = true → HT.lexLt a c = true
  | [], [], _, h, _ => by rw [HT.lexLt_nil_nil] at h; cases h
  | [], _ :: _, [], _, h => by rw [HT.lexLt_cons_nil] at h; cases h
  | [], _ :: _, _ :: _, _, _ => HT.lexLt_nil_cons _ _
  | _ :: _, [], _, h, _ => by rw [HT.lexLt_cons_nil] at h; cases h
  | _ :: _, _ :: _, [], _, h => by rw [HT.lexLt_cons_nil] at h; cases h
  | x :: xs, y :: ys, z :: zs, h1, h2 => by
    rw [HT.lexLt_cons] at h1 h2 ⊢
    by_cases e1 : x = y
    · subst e1
      rw [if_pos rfl] at h1
      by_cases e2 : x = z
      · rw [if_pos e2] at h2 ⊢
        exact lex_trans xs ys zs h1 h2
      · rw [if_neg e2] at h2 ⊢
        exact h2
    · rw [if_neg e1] at h1
      have l1 : x < y := of_decide_eq_true h1
      by_cases e2 : y = z
      · subst e2
        rw [if_neg e1]
        exact h1
      · rw [if_neg e2] at h2
        have l2 : y < z := of_decide_eq_true h2
        rw [if_neg (by omega)]
        exact decide_eq_true (by omega)
/-! ### min(xs, key=f), f a nested def, the keys tuples of ints -/
/-- what is asked: a word W of the turn; each key call, from W k to W (k + 1), hands back a tuple of kf k; at the end the item of a least key -/
def rMinKey (K : PySem.W.Frag) (mk : Addr → NF) (ws : List (Option V)) (sp : Addr → Addr → List (Option V) → Sp) : List V → List V → Hp → VK → Prop := fun vs zs H Q => ∃ (l : Addr) (ns : List Int) (f c' : Addr) (kf : Nat → List Int) (W : Nat → Hp → Prop),
  vs = [.ref l] ∧ zs = [.ref f] ∧ 0 < ns.length ∧ W 0 H ∧
  (∀ k n H1, ns[k]? = some n → W k H1 → H1 f = some (FnO f (mk c')) ∧ H1 (mk c').c = some (CodeO (mk c').c (mk c').qual) ∧
    sp f c' ws [.int n] H1 (fun v H2 => ∃ t, v = .ref t ∧ H2 t = some (.tup ((kf k).map V.int)) ∧ W (k + 1) H2) E0) ∧
  (∀ k H1, k ≤ ns.length → W k H1 → SqL K H1 l (ns.map V.int)) ∧
  (∀ m n H1, ns[m]? = some n → (∀ k, k < ns.length → HT.lexLt (kf k) (kf m) = false) → W ns.length H1 → Q (.int n) H1)
theorem rich_lt {prog : Program} {w : World} {A : Around} {E : Value → Shared → Prop} {s : Shared} {l b : Addr} {items items2 : Array Value} {ns ms : List Int} {Q : Value → Shared → Prop} (hl : IsTup s.heap l items) (hb : IsTup s.heap b items2) (hi : IntsAre items.toList ns) (hj : IntsAre items2.toList ms)
    (hu : A.units < cLine) (h : Q (.bool (HT.lexLt ns ms)) s) : wpAny (model prog w) A (richCompare .Lt (.ref l) (.ref b)) Q E s := by
  obtain ⟨⟨c1, d1, da1, s1⟩, ho, hc, n, hd⟩ := id hl
  obtain ⟨⟨c2, d2, da2, s2⟩, ho2, hc2, n2, hd2⟩ := id hb
  simp only at hc hd hc2 hd2
  subst hc hd hc2 hd2
  exact richCompare_meets_room (op := .Lt) ⟨_, ho, rfl⟩ ⟨_, ho2, rfl⟩ PySem.F.slot_tuple_lt PySem.F.entry_tuple_lt (PySem.F.args_tuple_lt_2 _ _) (HT.tuple_lt_ints l b items items2 n n2 d1 d2 s1 s2 ns ms hi hj) ⟨ho, ho2, (fun z => nomatch z), h⟩ hu
section
variable {X : Cx} {mk : Addr → NF} {cl : List (Str × Addr)} {ps fr : List Str} {js : List Nat} {j k : Nat} {sp : Addr → Addr → List (Option V) → Sp}
/-- the state between two turns: the best so far is at m, t turns are over -/
def MinAt (X : Cx) (pins : List (Addr × Obj)) (σ : L2.St) (l it S : Addr) (ns : List Int) (kf : Nat → List Int) (W : Nat → Hp → Prop) (t m : Nat) (s : Shared) : Prop :=
  ∃ (H : Hp) (n : Int) (tn : Tok) (tb : Addr) (c : Nat), Inv X pins σ H s ∧ H it = none ∧ H S = none ∧ s.heap.IsListIter it l t ∧ s.heap.get? S = some (seqObj "list" #[.int n tn, .ref tb] c) ∧ ns[m]? = some n ∧ H tb = some (.tup ((kf m).map V.int)) ∧ W t H ∧
    t ≤ ns.length ∧ m < t ∧ ∀ i, i < t → HT.lexLt (kf i) (kf m) = false
theorem min_go (Fn : ∀ f c', NOk X.prog X.w X.K X.mg X.base CX0 k f (mk c') ps fr (sp f c')) (hcl : ∀ c', (mk c').cl = cl) (cp : X.Ok → Caps X cl fr js) (hr : Room j X.A) (hk : k + 1 ≤ j) {pins : List (Addr × Obj)} {σ : L2.St} {l it S f c' : Addr} {ns : List Int} {kf : Nat → List Int} {W : Nat → Hp → Prop} {Q : VK}
    (calls : ∀ k n H1, ns[k]? = some n → W k H1 → H1 f = some (FnO f (mk c')) ∧ H1 (mk c').c = some (CodeO (mk c').c (mk c').qual) ∧
      sp f c' (js.map (slotAt σ)) [.int n] H1 (fun v H2 => ∃ t, v = .ref t ∧ H2 t = some (.tup ((kf k).map V.int)) ∧ W (k + 1) H2) E0)
    (list : ∀ k H1, k ≤ ns.length → W k H1 → SqL X.K H1 l (ns.map V.int))
    (fin : ∀ m n H1, ns[m]? = some n → (∀ k, k < ns.length → HT.lexLt (kf k) (kf m) = false) → W ns.length H1 → Q (.int n) H1)
    (fI : ∀ H : Hp, H it = none → FpOk X pins H it) (fS : ∀ H : Hp, H S = none → FpOk X pins H S) (ne : S ≠ it) {R : Result → Shared → Prop} (hR : ∀ u s', EP X pins σ Q u s' → R (.ok (.ret u)) s') :
    ∀ (d t m : Nat) (s : Shared), ns.length - t = d → MinAt X pins σ l it S ns kf W t m s → codeAny (model X.prog X.w) X.A (.builtin "min.loop" ⟨[.ref it, .ref f, .ref S], []⟩) R s := by
  have nm : (toString "min" ++ toString ".loop" : String) = "min.loop" := by decide
  intro d
  induction d with
  | zero =>
    intro t m s hd st
    obtain ⟨H, n, tn, tb, c, I, hI, hS, iter, atS, hn, hb, hw, le, lt, best⟩ := st
    have e : t = ns.length := by omega
    subst e
    obtain ⟨its, rv, pl, hz⟩ := I.list (list _ H le hw)
    have over : its.toArray[ns.length]? = none := by
      have z := rv.length
      rw [List.length_map] at z
      simp [z]
    refine codeAny_builtin PySem.F.entry_min_loop ?_
    rw [Around.under_plainId PySem.F.plain_min_loop _]
    show wpAny (model X.prog X.w) X.A.in1 (seqItems? (.ref S) >>= _) _ _ s
    refine wpAny_bind (wpAny_seqItems atS rfl ?_)
    show wpAny (model X.prog X.w) X.A.in1 (tryCatch (pyNext (.ref it)) _ >>= _) _ _ s
    have calmA : X.A.in1.handled = none := hr.hd
    refine wpAny_bind (wpAny_tryCatch (wpAny_pyNext_list_end calmA iter pl.isList over fun h1 e1 => ?_))
    have atS1 := e1 S _ ne atS
    show wpAny (model X.prog X.w) X.A.in1 (updateSeq S (fun _ => #[]) >>= _) _ _ _
    refine wpAny_bind (wpAny_updateSeq atS1 rfl (wpAny_bind (wpAny_letGo (wpAny_pure ?_))))
    obtain ⟨i0, i1, i2, i3, i4, i5⟩ := fI H hI
    obtain ⟨s0, s1, s2, s3, s4, s5⟩ := fS H hS
    have I1 : Inv X pins σ H { s with heap := h1 } := I.turned (t' := s.toks) (fun b o hb e => e1 b o hb e) i0 i1 i3 i4 i5
    have I2 : Inv X pins σ H { s with heap := h1.update S (Obj.mapSeq fun _ => #[]) } := I1.turned (t' := s.toks) (fun b o hb e => (Heap.get?_update_other _ _ hb.symm).trans e) s0 s1 s3 s4 s5
    exact hR _ _ ⟨.int n, H, I2, ⟨tn, rfl⟩, fin m n H hn best hw⟩
  | succ d ih =>
    intro t m s hd st
    obtain ⟨H, n, tn, tb, c, I, hI, hS, iter, atS, hn, hb, hw, le, lt, best⟩ := st
    have more : t < ns.length := by omega
    obtain ⟨its, rv, pl, hz⟩ := I.list (list _ H le hw)
    have hx : (ns.map V.int)[t]? = some (.int (ns[t])) := by simp [more]
    obtain ⟨u, hu, tu, rfl⟩ := rv.get hx
    have hnt : ns[t]? = some ns[t] := by simp [more]
    obtain ⟨i0, i1, i2, i3, i4, i5⟩ := fI H hI
    obtain ⟨s0, s1, s2, s3, s4, s5⟩ := fS H hS
    refine codeAny_builtin PySem.F.entry_min_loop ?_
    rw [Around.under_plainId PySem.F.plain_min_loop _]
    show wpAny (model X.prog X.w) X.A.in1 (seqItems? (.ref S) >>= _) _ _ s
    refine wpAny_bind (wpAny_seqItems atS rfl ?_)
    show wpAny (model X.prog X.w) X.A.in1 (tryCatch (pyNext (.ref it)) _ >>= _) _ _ s
    refine wpAny_bind (wpAny_tryCatch (wpAny_pyNext_list_item iter pl.isList (x := .int (ns[t]) tu) (by simpa using hu) fun h1 iter1 sb1 => ?_))
    have I1 : Inv X pins σ H { s with heap := h1 } := I.turned (t' := s.toks) (fun b o hb e => (sb1.2 b hb).trans e) i0 i1 i3 i4 i5
    have atS1 : h1.get? S = some (seqObj "list" #[.int n tn, .ref tb] c) := (sb1.2 S ne).trans atS
    obtain ⟨oI, gI, cI, dI⟩ := id iter1
    -- the two records are pinned while the key is reckoned
    have I1p : Inv X (pins ++ [(it, oI), (S, seqObj "list" #[.int n tn, .ref tb] c)]) σ H { s with heap := h1 } := by
      refine I1.pins_of fun p hp => ?_
      rcases List.mem_append.mp hp with hp | hp
      · exact I1.pin p (List.mem_append_right _ hp)
      · rcases List.mem_cons.mp hp with rfl | hp
        · exact ⟨gI, hI, i1, i2, fun v z => by rw [show (it, oI).2.data = _ from dI] at z; cases z⟩
        · obtain rfl := List.mem_singleton.mp hp
          exact ⟨atS1, hS, s1, s2, fun v z => nomatch z⟩
    obtain ⟨f1, f2, f3⟩ := calls t ns[t] H hnt hw
    have C := cells_of I1p (cp I1p.ok)
    rw [← hcl c'] at C
    show wpAny (model X.prog X.w) X.A.in1 (tryCatch (holding [.int (ns[t]) tu] (call (.ref f) [.int (ns[t]) tu])) _ >>= _) _ _ _
    refine wpAny_bind (wpAny_tryCatch (wpAny_holding (wpAny_call (codeAny_mono ((Fn f c').run X.A.in1 X.stack _ H [.int (ns[t]) tu] [.int (ns[t])] _ _ E0 ((hr.mono hk).in1) I1p.env0.in1 f1 f2 C (.cons ⟨tu, rfl⟩ .nil) f3) fun r s2 got => ?_))))
    match r, got with
    | .error e, got => exact False.elim got
    | .ok (.ret v), got =>
      obtain ⟨x, H2, ho, bare, un, hok, rx, t2, rfl, ht2, hw2⟩ := got
      cases rx
      have I2 := I1p.call' (s' := s2) (ch := []) ho un hok bare fun b hb => nomatch hb
      have pI := I2.pin (it, oI) (List.mem_append_right _ (List.mem_append_right _ List.mem_cons_self))
      have pS := I2.pin (S, seqObj "list" #[.int n tn, .ref tb] c) (List.mem_append_right _ (List.mem_append_right _ (List.mem_cons_of_mem _ List.mem_cons_self)))
      have I3 : Inv X pins σ H2 s2 := I2.unpinned
      have hb2 : H2 tb = some (.tup ((kf m).map V.int)) := un.tups _ _ hb
      have iter2 : s2.heap.IsListIter it l (t + 1) := ⟨oI, pI.1, cI, dI⟩
      obtain ⟨itA, rA, tA, _⟩ := I3.tuple (SqT.of (K := X.K) ht2)
      obtain ⟨itB, rB, tB, _⟩ := I3.tuple (SqT.of (K := X.K) hb2)
      show wpAny (model X.prog X.w) X.A.in1 (tryCatch (holding [.int (ns[t]) tu, .ref t2] (richCompare .Lt (.ref t2) (.ref tb) >>= _)) _ >>= _) _ _ _
      refine wpAny_bind (wpAny_tryCatch (wpAny_holding (wpAny_bind (rich_lt tA tB (by simpa using rA.ints) (by simpa using rB.ints) ((hr.mono hk).in1).units0 ?_))))
      refine wpAny_bind (wpAny_holding (wpAny_truthy_bool (wpAny_bind (wpAny_letGo (wpAny_pure ?_)))))
      obtain ⟨j0, j1, j2, j3, j4, j5⟩ := fI H2 pI.2.1
      obtain ⟨u0, u1, u2, u3, u4, u5⟩ := fS H2 pS.2.1
      cases hl : HT.lexLt (kf t) (kf m) with
      | true =>
        simp only [if_true]
        refine wpAny_bind (wpAny_updateSeq pS.1 rfl (wpAny_bind (wpAny_letGo ?_)))
        rw [nm]
        obtain ⟨c2, atS2⟩ : ∃ c2, (s2.heap.update S (Obj.mapSeq fun _ => #[.int (ns[t]) tu, .ref t2])).get? S = some (seqObj "list" #[.int (ns[t]) tu, .ref t2] c2) := ⟨_, get?_update_seq pS.1 fun _ => #[.int (ns[t]) tu, .ref t2]⟩
        refine wpAny_pure ⟨plainId_quiet PySem.F.plain_min_loop _, ih (t + 1) t _ (by omega) ⟨H2, ns[t], tu, t2, c2, ?_, pI.2.1, pS.2.1, ?_, atS2, hnt, ht2, hw2, more, Nat.lt_succ_self _, fun i hi => ?_⟩⟩
        · exact I3.turned (t' := s2.toks) (fun b o hb e => (Heap.get?_update_other _ _ hb.symm).trans e) u0 u1 u3 u4 u5
        · exact ⟨oI, (Heap.get?_update_other _ _ ne).trans pI.1, cI, dI⟩
        · by_cases e : i = t
          · rw [e]
            exact lex_irrefl _
          · cases z : HT.lexLt (kf i) (kf t) with
            | false => rfl
            | true =>
              have z2 := lex_trans _ _ _ z hl
              rw [best i (by omega)] at z2
              cases z2
      | false =>
        simp only [Bool.false_eq_true, if_false]
        refine wpAny_bind (wpAny_letGo ?_)
        rw [nm]
        refine wpAny_pure ⟨plainId_quiet PySem.F.plain_min_loop _, ih (t + 1) m _ (by omega) ⟨H2, n, tn, tb, c, I3, pI.2.1, pS.2.1, iter2, pS.1, hn, hb2, hw2, more, Nat.lt_succ_of_lt lt, fun i hi => ?_⟩⟩
        by_cases e : i = t
        · rw [e]
          exact hl
        · exact best i (by omega)
    | .ok .next, got => exact False.elim got
    | .ok .brk, got => exact False.elim got
    | .ok .cont, got => exact False.elim got
theorem min_key_run (Fn : ∀ f c', NOk X.prog X.w X.K X.mg X.base CX0 k f (mk c') ps fr (sp f c')) (hcl : ∀ c', (mk c').cl = cl) (cp : X.Ok → Caps X cl fr js) (hr : Room j X.A) (hk : k + 1 ≤ j) {pins : List (Addr × Obj)} {σ : L2.St} {H : Hp} {s : Shared} {l f : Addr} {Q : VK} (I : Inv X pins σ H s)
    (want : rMinKey X.K mk (js.map (slotAt σ)) sp [.ref l] [.ref f] H Q) : wpAny (model X.prog X.w) X.A (call (.builtin "min") [.ref l] [(Str.ofString "key", .ref f)]) (EP X pins σ Q) X.xe s := by
  have nm : (toString "min" ++ toString ".loop" : String) = "min.loop" := by decide
  obtain ⟨l', ns, f', c', kf, W, e1, e2, pos, w0, calls, list, fin⟩ := want
  cases e1
  cases e2
  obtain ⟨its, rv, pl, hz⟩ := I.list (list 0 H (Nat.zero_le _) w0)
  refine kmk_tree PySem.F.kind_min PySem.F.plain_min PySem.F.entry_min (kmk_min_key _ _) ?_
  show wpAny (model X.prog X.w) X.A.in1 (Builtin.Builtins.bindParams "min" ["key", "default"] 0 ⟨[], [(Str.ofString "key", .ref f)]⟩ >>= _) _ _ s
  refine wpAny_bind (wpAny_of_eq (show Builtin.Builtins.bindParams "min" ["key", "default"] 0 ⟨[], [(Str.ofString "key", .ref f)]⟩ = pure [some (.ref f), none] from rfl) ?_)
  refine wpAny_bind (wpAny_pure (wpAny_bind (wpAny_pyIter_list pl.isList ?_)))
  refine wpAny_bind (wpAny_newList ?_ (Nat.zero_le _))
  rw [nm]
  have eS : (s.heap.push { cls := .type "list_iterator", data := .fields #[.ref l, .int 0 0] }).objs.size = s.heap.objs.size + 1 := size_push' ..
  have ne : (s.heap.push { cls := .type "list_iterator", data := .fields #[.ref l, .int 0 0] }).objs.size ≠ s.heap.objs.size := by
    rw [eS]
    exact Nat.ne_of_gt (Nat.lt_succ_self _)
  generalize eh : s.heap.push { cls := .type "list_iterator", data := .fields #[.ref l, .int 0 0] } = h1 at eS ne ⊢
  have up1 : ∀ {b o}, s.heap.get? b = some o → h1.get? b = some o := fun {b o} e => by rw [← eh]; exact Heap.get?_push_of_some _ e
  have gI1 : h1.get? s.heap.objs.size = some { cls := .type "list_iterator", data := .fields #[.ref l, .int 0 0] } := by rw [← eh]; exact Heap.get?_push_size _ rfl
  have gI : (h1.push (seqObj "list" #[] 0)).get? s.heap.objs.size = some { cls := .type "list_iterator", data := .fields #[.ref l, .int 0 0] } := Heap.get?_push_of_some _ gI1
  have gS : (h1.push (seqObj "list" #[] 0)).get? h1.objs.size = some (seqObj "list" #[] 0) := Heap.get?_push_size _ rfl
  have J : Inv X pins σ H { s with heap := h1.push (seqObj "list" #[] 0) } := I.kept (t' := s.toks) fun b o e => Heap.get?_push_of_some _ (up1 e)
  have nI : H s.heap.objs.size = none := I.hok.fresh (Nat.le_refl _)
  have nS : H h1.objs.size = none := I.hok.fresh (by rw [eS]; exact Nat.le_succ _)
  have oI := I.fpOk (Nat.le_refl _) nI
  have oS := I.fpOk (H' := H) (by rw [eS]; exact Nat.le_succ _) nS
  have fI : ∀ H' : Hp, H' s.heap.objs.size = none → FpOk X pins H' s.heap.objs.size := fun H' e => ⟨e, oI.2⟩
  have fS : ∀ H' : Hp, H' h1.objs.size = none → FpOk X pins H' h1.objs.size := fun H' e => ⟨e, oS.2⟩
  refine wpAny_pure ⟨plainId_quiet PySem.F.plain_min_loop _, ?_⟩
  -- the first turn
  have hx : (ns.map V.int)[0]? = some (.int (ns[0])) := by simp [pos]
  have hn0 : ns[0]? = some ns[0] := by simp [pos]
  obtain ⟨u, hu, tu, rfl⟩ := rv.get hx
  refine codeAny_builtin PySem.F.entry_min_loop ?_
  rw [Around.under_plainId PySem.F.plain_min_loop _]
  show wpAny (model X.prog X.w) X.A.in1 (seqItems? (.ref h1.objs.size) >>= _) _ _ _
  refine wpAny_bind (wpAny_seqItems gS rfl ?_)
  show wpAny (model X.prog X.w) X.A.in1 (tryCatch (pyNext (.ref s.heap.objs.size)) _ >>= _) _ _ _
  have iter0 : (h1.push (seqObj "list" #[] 0)).IsListIter s.heap.objs.size l 0 := ⟨_, gI, rfl, rfl⟩
  obtain ⟨its2, rv2, pl2, _⟩ := J.list (list 0 H (Nat.zero_le _) w0)
  obtain ⟨u2, hu2, tu2, rfl⟩ := rv2.get hx
  refine wpAny_bind (wpAny_tryCatch (wpAny_pyNext_list_item iter0 pl2.isList (x := .int (ns[0]) tu2) (by simpa using hu2) fun h2 iter1 sb1 => ?_))
  obtain ⟨i0, i1, i2, i3, i4, i5⟩ := oI
  obtain ⟨s0, s1, s2, s3, s4, s5⟩ := oS
  have I1 : Inv X pins σ H { s with heap := h2 } := J.turned (t' := s.toks) (fun b o hb e => (sb1.2 b hb).trans e) i0 i1 i3 i4 i5
  have atS1 : h2.get? h1.objs.size = some (seqObj "list" #[] 0) := (sb1.2 _ ne).trans gS
  obtain ⟨ob, gb, cb, db⟩ := id iter1
  have I1p : Inv X (pins ++ [(s.heap.objs.size, ob), (h1.objs.size, seqObj "list" #[] 0)]) σ H { s with heap := h2 } := by
    refine I1.pins_of fun p hp => ?_
    rcases List.mem_append.mp hp with hp | hp
    · exact I1.pin p (List.mem_append_right _ hp)
    · rcases List.mem_cons.mp hp with rfl | hp
      · exact ⟨gb, i0, i1, i2, fun v z => by rw [show (s.heap.objs.size, ob).2.data = _ from db] at z; cases z⟩
      · obtain rfl := List.mem_singleton.mp hp
        exact ⟨atS1, s0, s1, s2, fun v z => nomatch z⟩
  obtain ⟨f1, f2, f3⟩ := calls 0 ns[0] H hn0 w0
  have C := cells_of I1p (cp I1p.ok)
  rw [← hcl c'] at C
  show wpAny (model X.prog X.w) X.A.in1 (tryCatch (holding [.int (ns[0]) tu2] (call (.ref f) [.int (ns[0]) tu2])) _ >>= _) _ _ _
  refine wpAny_bind (wpAny_tryCatch (wpAny_holding (wpAny_call (codeAny_mono ((Fn f c').run X.A.in1 X.stack _ H [.int (ns[0]) tu2] [.int (ns[0])] _ _ E0 ((hr.mono hk).in1) I1p.env0.in1 f1 f2 C (.cons ⟨tu2, rfl⟩ .nil) f3) fun r s2 got => ?_))))
  match r, got with
  | .error e, got => exact False.elim got
  | .ok (.ret v), got =>
    obtain ⟨x, H2, ho, bare, un, hok, rx, t2, rfl, ht2, hw2⟩ := got
    cases rx
    have I2 := I1p.call' (s' := s2) (ch := []) ho un hok bare fun b hb => nomatch hb
    have pI := I2.pin (s.heap.objs.size, ob) (List.mem_append_right _ (List.mem_append_right _ List.mem_cons_self))
    have pS := I2.pin (h1.objs.size, seqObj "list" #[] 0) (List.mem_append_right _ (List.mem_append_right _ (List.mem_cons_of_mem _ List.mem_cons_self)))
    have I3 : Inv X pins σ H2 s2 := I2.unpinned
    show wpAny (model X.prog X.w) X.A.in1 (updateSeq h1.objs.size (fun _ => #[.int (ns[0]) tu2, .ref t2]) >>= _) _ _ _
    refine wpAny_bind (wpAny_updateSeq pS.1 rfl ?_)
    rw [nm]
    obtain ⟨c2, atS2⟩ : ∃ c2, (s2.heap.update h1.objs.size (Obj.mapSeq fun _ => #[.int (ns[0]) tu2, .ref t2])).get? h1.objs.size = some (seqObj "list" #[.int (ns[0]) tu2, .ref t2] c2) := ⟨_, get?_update_seq pS.1 fun _ => #[.int (ns[0]) tu2, .ref t2]⟩
    obtain ⟨u0, u1, u2, u3, u4, u5⟩ := fS H2 pS.2.1
    refine wpAny_pure ⟨plainId_quiet PySem.F.plain_min_loop _, min_go Fn hcl cp hr hk calls list fin fI fS ne (fun u s' q => ?_) _ 1 0 _ rfl ⟨H2, ns[0], tu2, t2, c2, ?_, pI.2.1, pS.2.1, ?_, atS2, hn0, ht2, hw2, pos, Nat.zero_lt_one, fun i hi => ?_⟩⟩
    · exact q
    · exact I3.turned (t' := s2.toks) (fun b o hb e => (Heap.get?_update_other _ _ hb.symm).trans e) u0 u1 u3 u4 u5
    · exact ⟨ob, (Heap.get?_update_other _ _ ne).trans pI.1, cb, db⟩
    · have e : i = 0 := by omega
      rw [e]
      exact lex_irrefl _
  | .ok .next, got => exact False.elim got
  | .ok .brk, got => exact False.elim got
  | .ok .cont, got => exact False.elim got
/-- min(e, key=f) -/
def tMinKey (K : PySem.W.Frag) (mk : Addr → NF) (js : List Nat) (sp : Addr → Addr → List (Option V) → Sp) (t tk : TA) : TE := fun σ H Q => t σ H fun vs H1 => tk σ H1 fun zs H2 => rMinKey K mk (js.map (slotAt σ)) sp vs zs H2 Q
theorem pe_minKey {e : Expr} {es : List Expr} {kws : List Keyword} {t tk : TA} {p pos : Pos} (Fn : ∀ f c', NOk X.prog X.w X.K X.mg X.base CX0 k f (mk c') ps fr (sp f c')) (hcl : ∀ c', (mk c').cl = cl) (cp : X.Ok → Caps X cl fr js) (hr : Room j X.A) (hk : k + 1 ≤ j)
    (hg : Gl X "min") (hm : X.mg "min" = none) (ha : PA X (e :: es) t) (hkw : PK X kws tk)
    (he : backTo pos (starEach (e :: es) X.env) = (false, eval e X.env) :: backTo pos (starEach es X.env) := by rfl) (hpl : (backTo pos (starEach (e :: es) X.env)).any (·.1) = false := by rfl)
    (hall : (backToKw pos (keywordEach kws X.env)).all (·.1.isSome) = true := by rfl) (hnone : (backToKw pos (keywordEach kws X.env)).any (·.1.isNone) = false := by rfl) (hks : (backToKw pos (keywordEach kws X.env)).filterMap (·.1) = [Str.ofString "key"] := by rfl) :
    PE X (.Call (.Name "min" p) (e :: es) kws pos) (tMinKey X.K mk js sp t tk) := by
  have hv : bootBuiltins "min" = some (.builtin "min") := by decide +kernel
  refine ⟨fun pins s σ H Q I h => wpAny_Call_Name_kw (ld_blt I hg hm hv ?_)⟩
  refine PyProof.Rows.callWith_kw (thn (ha.run pos pins s σ H _ I h) fun us s1 got => ?_) he hpl hall hnone
  obtain ⟨vs, H1, I1, r1, q1⟩ := got
  refine thn (hkw.run pos pins s1 σ H1 _ I1 q1) fun ws s2 got => ?_
  obtain ⟨zs, H2, I2, r2, q2⟩ := got
  rw [hks]
  have shape : ∃ l f, vs = [V.ref l] ∧ zs = [V.ref f] := by
    obtain ⟨l, _, f, _, _, _, e1, e2, _⟩ := q2
    exact ⟨l, f, e1, e2⟩
  obtain ⟨l, f, rfl, rfl⟩ := shape
  obtain rfl := Vals.ref1 r1
  obtain rfl := Vals.ref1 r2
  exact min_key_run Fn hcl cp hr hk I2 q2
end
end Dq
set_option Elab.async false
set_option linter.all false
set_option maxRecDepth 100000
set_option maxHeartbeats 4000000
namespace Dty
open PySem PySem.Spec PyProof.Rows L2
/-! ### data of the program -/
structure Wk where
  name : Str
  gap : Int
  len : Int
  due : Int
  late : Int
  holds : List (Str × Int × Int)
structure Cm where
  who : Int
  come : Int
  late : Int
  len : Int
abbrev Ex := Evl.Ex
/-- from (B0, H0) to (B, H): what stood stands; B is the part that never changes, what B0 did not tell of H0 it does not tell -/
structure Gr (B0 H0 B H : Hp) : Prop where
  eH : Ex H0 H
  eB : Ex B0 B
  e : Ex B H
  hid : ∀ q, B0 q = none → H0 q ≠ none → B q = none
  nt : ∀ q ps, B q = some (.tbl ps) → B0 q = some (.tbl ps)
section
variable {B0 H0 B H B1 H1 : Hp} {p : Addr} {o u : HO}
theorem tbl_upd (k : ∀ q ps, B q = some (.tbl ps) → B0 q = some (.tbl ps)) (hn : ∀ ps, o ≠ .tbl ps) {q : Addr} {ps : Array Value} (h : upd B p o q = some (.tbl ps)) : B0 q = some (.tbl ps) := by
  by_cases c : q = p
  · rw [c, upd_same] at h
    exact absurd (Option.some.inj h) (hn ps)
  · rw [upd_ne c] at h
    exact k q ps h
theorem ex_none (e : Ex B H) (h : H p = none) : B p = none := Evl.fresh_back e h
theorem Gr.refl (e : Ex B H) : Gr B H B H := ⟨Evl.Ex.refl _, Evl.Ex.refl _, e, fun q h _ => h, fun _ _ h => h⟩
theorem Gr.trans (g : Gr B0 H0 B H) (k : Gr B H B1 H1) : Gr B0 H0 B1 H1 := by
  refine ⟨g.eH.trans k.eH, g.eB.trans k.eB, k.e, fun q h1 h2 => k.hid q (g.hid q h1 h2) fun z => ?_, fun q ps h => g.nt q ps (k.nt q ps h)⟩
  cases c : H0 q with
  | none => exact h2 c
  | some o =>
    rw [g.eH q o c] at z
    cases z
/-- the heap grew -/
theorem Gr.heap (g : Gr B0 H0 B H) (e : Ex H H1) : Gr B0 H0 B H1 := ⟨g.eH.trans e, g.eB, g.e.trans e, g.hid, g.nt⟩
/-- a new object that never changes -/
theorem Gr.new (g : Gr B0 H0 B H) (h : H p = none) (hn : ∀ ps, o ≠ .tbl ps := by intro _ z; cases z) : Gr B0 H0 (upd B p o) (upd H p o) := by
  refine ⟨g.eH.trans (Evl.Ex.new h), g.eB.trans (Evl.Ex.new (ex_none g.e h)), fun a w ha => ?_, fun q h1 h2 => ?_, fun q ps hq => tbl_upd g.nt hn hq⟩
  · by_cases c : a = p
    · subst c
      rw [upd_same] at ha ⊢
      exact ha
    · rw [upd_ne c] at ha ⊢
      exact g.e a w ha
  · have c : q ≠ p := fun z => h2 (by rw [z]; exact Evl.fresh_back g.eH h)
    rw [upd_ne c]
    exact g.hid q h1 h2
/-- an object of one's own is written -/
theorem Gr.write (g : Gr B0 H0 B H) (h : H0 p = none) (hb : B p = none) : Gr B0 H0 B (upd H p o) := ⟨g.eH.mut h, g.eB, g.e.mut hb, g.hid, g.nt⟩
/-- .. and changes no more -/
theorem Gr.freeze (g : Gr B0 H0 B H) (h0 : H0 p = none) (hb : B p = none) (h : H p = some o) (hn : ∀ ps, o ≠ .tbl ps := by intro _ z; cases z) : Gr B0 H0 (upd B p o) H := by
  refine ⟨g.eH, g.eB.trans (Evl.Ex.new hb), fun a w ha => ?_, fun q h1 h2 => ?_, fun q ps hq => tbl_upd g.nt hn hq⟩
  · by_cases c : a = p
    · subst c
      rw [upd_same] at ha
      rw [h]
      exact ha
    · rw [upd_ne c] at ha
      exact g.e a w ha
  · have c : q ≠ p := fun z => h2 (by rw [z]; exact h0)
    rw [upd_ne c]
    exact g.hid q h1 h2
/-- a changing object stays out of what never changes -/
theorem Gr.out (g : Gr B H B1 H1) (hb : B p = none) (h : H p = some o) : B1 p = none := g.hid p hb (by rw [h]; exact fun z => nomatch z)
end
/-! ### what stands for the data -/
def HoldV (B : Hp) (v : V) (h : Str × Int × Int) : Prop := ∃ a, v = .ref a ∧ B a = some (.tup [.str h.1, .int h.2.1, .int h.2.2])
def CmV (B : Hp) (v : V) (c : Cm) : Prop := ∃ a, v = .ref a ∧ B a = some (.tup [.int c.who, .int c.come, .int c.late, .int c.len])
def LsV {α : Type} (R : Hp → V → α → Prop) (B : Hp) (v : V) (xs : List α) : Prop := ∃ a vs, v = .ref a ∧ B a = some (.lst vs) ∧ Paired (R B) vs xs
abbrev RowV := LsV CmV
abbrev HoldsV := LsV HoldV
def IntsV (B : Hp) (v : V) (ns : List Int) : Prop := ∃ a, v = .ref a ∧ B a = some (.lst (ns.map V.int))
def StrsV (B : Hp) (v : V) (xs : List Str) : Prop := ∃ a, v = .ref a ∧ B a = some (.lst (xs.map V.str))
def wkFs (w : Wk) (l : Addr) : List (Str × V) := [("name", .str w.name), ("gap", .int w.gap), ("length", .int w.len), ("due", .int w.due), ("late", .int w.late), ("sections", .ref l)]
def WkV (K : PySem.W.Frag) (B : Hp) (v : V) (w : Wk) : Prop := ∃ a dx l vs, v = .ref a ∧ B a = some (.ins (He.ga K "Work") dx (wkFs w l)) ∧ B l = some (.lst vs) ∧ Paired (HoldV B) vs w.holds
def dtFs (wl nd : Addr) : List (Str × V) := [("works", .ref wl), ("numbers", .ref nd)]
def numsAt : Nat → List Wk → List (Key × V)
  | _, [] => []
  | i, w :: r => (Sum.inr w.name, V.int (i : Nat)) :: numsAt (i + 1) r
def DtV (K : PySem.W.Frag) (B : Hp) (v : V) (ws : List Wk) : Prop := ∃ a dx wl nd vs, v = .ref a ∧ B a = some (.ins (He.ga K "Duty") dx (dtFs wl nd)) ∧ B wl = some (.lst vs) ∧ Paired (WkV K B) vs ws ∧ B nd = some (.dK (numsAt 0 ws))
section
variable {K : PySem.W.Frag} {B B' : Hp} {v : V}
theorem HoldV.mono (e : Ex B B') {h : Str × Int × Int} (x : HoldV B v h) : HoldV B' v h := by
  obtain ⟨a, rfl, z⟩ := x
  exact ⟨a, rfl, e _ _ z⟩
theorem CmV.mono (e : Ex B B') {c : Cm} (x : CmV B v c) : CmV B' v c := by
  obtain ⟨a, rfl, z⟩ := x
  exact ⟨a, rfl, e _ _ z⟩
theorem LsV.mono {α : Type} {R : Hp → V → α → Prop} (hR : ∀ {v x}, R B v x → R B' v x) (e : Ex B B') {xs : List α} (x : LsV R B v xs) : LsV R B' v xs := by
  obtain ⟨a, vs, rfl, z, p⟩ := x
  exact ⟨a, vs, rfl, e _ _ z, L2.Paired.mapP p fun _ _ q => hR q⟩
theorem RowV.mono (e : Ex B B') {xs : List Cm} (x : RowV B v xs) : RowV B' v xs := LsV.mono (fun q => q.mono e) e x
theorem HoldsV.mono (e : Ex B B') {xs : List (Str × Int × Int)} (x : HoldsV B v xs) : HoldsV B' v xs := LsV.mono (fun q => q.mono e) e x
theorem IntsV.mono (e : Ex B B') {ns : List Int} (x : IntsV B v ns) : IntsV B' v ns := by
  obtain ⟨a, rfl, z⟩ := x
  exact ⟨a, rfl, e _ _ z⟩
theorem StrsV.mono (e : Ex B B') {ns : List Str} (x : StrsV B v ns) : StrsV B' v ns := by
  obtain ⟨a, rfl, z⟩ := x
  exact ⟨a, rfl, e _ _ z⟩
theorem WkV.mono (e : Ex B B') {w : Wk} (x : WkV K B v w) : WkV K B' v w := by
  obtain ⟨a, dx, l, vs, rfl, z, y, p⟩ := x
  exact ⟨a, dx, l, vs, rfl, e _ _ z, e _ _ y, L2.Paired.mapP p fun _ _ q => q.mono e⟩
theorem DtV.mono (e : Ex B B') {ws : List Wk} (x : DtV K B v ws) : DtV K B' v ws := by
  obtain ⟨a, dx, wl, nd, vs, rfl, z, y, p, n⟩ := x
  exact ⟨a, dx, wl, nd, vs, rfl, e _ _ z, e _ _ y, L2.Paired.mapP p fun _ _ q => q.mono e, e _ _ n⟩
end
/-! ### lists side by side -/
theorem paired_len {α β : Type} {R : α → β → Prop} : ∀ {xs : List α} {ys : List β}, Paired R xs ys → xs.length = ys.length
  | _, _, .nil => rfl
  | _, _, .cons _ t => congrArg (· + 1) (paired_len t)
theorem paired_at {α β : Type} {R : α → β → Prop} : ∀ {xs : List α} {ys : List β} {i : Nat} {y : β}, Paired R xs ys → ys[i]? = some y → ∃ x, xs[i]? = some x ∧ R x y
  | [], [], _, _, _, h => by cases h
  | _ :: _, _ :: _, 0, _, .cons r _, h => ⟨_, rfl, by cases h; exact r⟩
  | _ :: xs, _ :: ys, i + 1, y, .cons _ t, h => paired_at (xs := xs) (ys := ys) (i := i) t h
theorem paired_snoc {α β : Type} {R : α → β → Prop} : ∀ {xs : List α} {ys : List β} {x : α} {y : β}, Paired R xs ys → R x y → Paired R (xs ++ [x]) (ys ++ [y])
  | _, _, _, _, .nil, h => .cons h .nil
  | _, _, _, _, .cons r t, h => .cons r (paired_snoc t h)
theorem paired_app {α β : Type} {R : α → β → Prop} : ∀ {xs xs' : List α} {ys ys' : List β}, Paired R xs ys → Paired R xs' ys' → Paired R (xs ++ xs') (ys ++ ys')
  | _, _, _, _, .nil, h => h
  | _, _, _, _, .cons r t, h => .cons r (paired_app t h)
theorem paired_back {α β : Type} {R : α → β → Prop} : ∀ {xs : List α} {ys : List β} {i : Nat} {x : α}, Paired R xs ys → xs[i]? = some x → ∃ y, ys[i]? = some y ∧ R x y
  | [], [], _, _, _, h => by cases h
  | _ :: _, _ :: _, 0, _, .cons r _, h => ⟨_, rfl, by cases h; exact r⟩
  | _ :: xs, _ :: ys, i + 1, x, .cons _ t, h => paired_back (xs := xs) (ys := ys) (i := i) t h
/-! ### fields -/
section
variable {w : Wk} {l : Addr} {wl nd : Addr}
theorem wk_name : (wkFs w l).lookup ("name" : Str) = some (.str w.name) := by rfl
theorem wk_gap : (wkFs w l).lookup ("gap" : Str) = some (.int w.gap) := by rfl
theorem wk_len : (wkFs w l).lookup ("length" : Str) = some (.int w.len) := by rfl
theorem wk_due : (wkFs w l).lookup ("due" : Str) = some (.int w.due) := by rfl
theorem wk_late : (wkFs w l).lookup ("late" : Str) = some (.int w.late) := by rfl
theorem wk_sec : (wkFs w l).lookup ("sections" : Str) = some (.ref l) := by rfl
theorem wk_held : (wkFs w l).lookup ("held" : Str) = none := by rfl
theorem dt_works : (dtFs wl nd).lookup ("works" : Str) = some (.ref wl) := by rfl
theorem dt_numbers : (dtFs wl nd).lookup ("numbers" : Str) = some (.ref nd) := by rfl
theorem dt_none {m : Str} (h1 : ¬ m = "works") (h2 : ¬ m = "numbers") : (dtFs wl nd).lookup m = none := by
  have b1 : (m == ("works" : Str)) = false := by simpa using h1
  have b2 : (m == ("numbers" : Str)) = false := by simpa using h2
  simp [dtFs, List.lookup, b1, b2]
end
end Dty
set_option Elab.async false
set_option linter.all false
set_option maxRecDepth 100000
set_option maxHeartbeats 4000000
namespace Dty
open PySem PySem.Spec PyProof.Rows L2
/-- what the top has left -/
structure Says (K : PySem.W.Frag) (mg : Str → Option Value) : Prop where
  c : He.SaysD fa fn K
  more : ex K = true
  at_ : ∃ h : Heap, K.In h ∧ h.Ns mainGlobals mg
noncomputable def fdOf (K : PySem.W.Frag) (p : Str × Option Str) : FuncData := match K.lookup (He.fAd K p) with
  | some ⟨_, _, .func fd, _⟩ => fd
  | _ => Classical.choice ⟨⟨"", "", ⟨[], [], none, [], [], none, []⟩, .stmts [], ⟨.function, [], false, false, []⟩, 0, [], .none, .none, .none, .none, none, .none, .none, 0⟩⟩
theorem fdOf_eq {K : PySem.W.Frag} {p : Str × Option Str} {x q : Str} {a : Arguments} {b : List Stmt} {sc : Scope} {dv : List V} {kw : List (Str × V)} {fd : FuncData} (F : FunD K x q a b sc dv kw (He.fAd K p) fd) : FunD K x q a b sc dv kw (He.fAd K p) (fdOf K p) := by
  obtain ⟨oc, od, dV, kV, doc, pm, an, cdv, ct, osl, e, lk, _⟩ := F.ex
  have z : fdOf K p = fd := by
    unfold fdOf
    rw [lk]
  rw [z]
  exact F
section
variable {K : PySem.W.Frag} {mg : Str → Option Value} (T : Says K mg)
include T
theorem g_BadDuty : mg "BadDuty" = some (.ref (He.ga K "BadDuty")) := by obtain ⟨h, X, G⟩ := T.at_; exact He.glo_ok X G (T.c.fact 0 (f := .glo "BadDuty") rfl)
theorem g_BadRow : mg "BadRow" = some (.ref (He.ga K "BadRow")) := by obtain ⟨h, X, G⟩ := T.at_; exact He.glo_ok X G (T.c.fact 1 (f := .glo "BadRow") rfl)
theorem g_BadWork : mg "BadWork" = some (.ref (He.ga K "BadWork")) := by obtain ⟨h, X, G⟩ := T.at_; exact He.glo_ok X G (T.c.fact 2 (f := .glo "BadWork") rfl)
theorem g_Broken : mg "Broken" = some (.ref (He.ga K "Broken")) := by obtain ⟨h, X, G⟩ := T.at_; exact He.glo_ok X G (T.c.fact 3 (f := .glo "Broken") rfl)
theorem g_ByComing : mg "ByComing" = some (.ref (He.ga K "ByComing")) := by obtain ⟨h, X, G⟩ := T.at_; exact He.glo_ok X G (T.c.fact 4 (f := .glo "ByComing") rfl)
theorem g_ByDue : mg "ByDue" = some (.ref (He.ga K "ByDue")) := by obtain ⟨h, X, G⟩ := T.at_; exact He.glo_ok X G (T.c.fact 5 (f := .glo "ByDue") rfl)
theorem g_ByRank : mg "ByRank" = some (.ref (He.ga K "ByRank")) := by obtain ⟨h, X, G⟩ := T.at_; exact He.glo_ok X G (T.c.fact 6 (f := .glo "ByRank") rfl)
theorem g_Desk : mg "Desk" = some (.ref (He.ga K "Desk")) := by obtain ⟨h, X, G⟩ := T.at_; exact He.glo_ok X G (T.c.fact 7 (f := .glo "Desk") rfl)
theorem g_Duty : mg "Duty" = some (.ref (He.ga K "Duty")) := by obtain ⟨h, X, G⟩ := T.at_; exact He.glo_ok X G (T.c.fact 8 (f := .glo "Duty") rfl)
theorem i_FIGURES : ∃ t, mg "FIGURES" = some (.str "0123456789" t) := by obtain ⟨h, X, G⟩ := T.at_; exact He.str_ok X G (T.c.fact 9 (f := .str "FIGURES" "0123456789") rfl)
theorem g_Kept : mg "Kept" = some (.ref (He.ga K "Kept")) := by obtain ⟨h, X, G⟩ := T.at_; exact He.glo_ok X G (T.c.fact 10 (f := .glo "Kept") rfl)
theorem i_LETTERS : ∃ t, mg "LETTERS" = some (.str "abcdefghijklmnopqrstuvwxyz" t) := by obtain ⟨h, X, G⟩ := T.at_; exact He.str_ok X G (T.c.fact 11 (f := .str "LETTERS" "abcdefghijklmnopqrstuvwxyz") rfl)
theorem i_MOST_COMINGS : ∃ t, mg "MOST_COMINGS" = some (.int 200 t) := by obtain ⟨h, X, G⟩ := T.at_; exact He.int_ok X G (T.c.fact 12 (f := .int "MOST_COMINGS" 200) rfl)
theorem i_MOST_CROWD : ∃ t, mg "MOST_CROWD" = some (.int 80 t) := by obtain ⟨h, X, G⟩ := T.at_; exact He.int_ok X G (T.c.fact 13 (f := .int "MOST_CROWD" 80) rfl)
theorem i_MOST_FIGURES : ∃ t, mg "MOST_FIGURES" = some (.int 60 t) := by obtain ⟨h, X, G⟩ := T.at_; exact He.int_ok X G (T.c.fact 14 (f := .int "MOST_FIGURES" 60) rfl)
theorem i_MOST_HOLDS : ∃ t, mg "MOST_HOLDS" = some (.int 6 t) := by obtain ⟨h, X, G⟩ := T.at_; exact He.int_ok X G (T.c.fact 15 (f := .int "MOST_HOLDS" 6) rfl)
theorem i_MOST_SIGNS : ∃ t, mg "MOST_SIGNS" = some (.int 8 t) := by obtain ⟨h, X, G⟩ := T.at_; exact He.int_ok X G (T.c.fact 16 (f := .int "MOST_SIGNS" 8) rfl)
theorem i_MOST_WORKS : ∃ t, mg "MOST_WORKS" = some (.int 12 t) := by obtain ⟨h, X, G⟩ := T.at_; exact He.int_ok X G (T.c.fact 17 (f := .int "MOST_WORKS" 12) rfl)
theorem g_NoName : mg "NoName" = some (.ref (He.ga K "NoName")) := by obtain ⟨h, X, G⟩ := T.at_; exact He.glo_ok X G (T.c.fact 18 (f := .glo "NoName") rfl)
theorem g_NoRow : mg "NoRow" = some (.ref (He.ga K "NoRow")) := by obtain ⟨h, X, G⟩ := T.at_; exact He.glo_ok X G (T.c.fact 19 (f := .glo "NoRow") rfl)
theorem g_NoText : mg "NoText" = some (.ref (He.ga K "NoText")) := by obtain ⟨h, X, G⟩ := T.at_; exact He.glo_ok X G (T.c.fact 20 (f := .glo "NoText") rfl)
theorem g_NotKept : mg "NotKept" = some (.ref (He.ga K "NotKept")) := by obtain ⟨h, X, G⟩ := T.at_; exact He.glo_ok X G (T.c.fact 21 (f := .glo "NotKept") rfl)
theorem g_Order : mg "Order" = some (.ref (He.ga K "Order")) := by obtain ⟨h, X, G⟩ := T.at_; exact He.glo_ok X G (T.c.fact 22 (f := .glo "Order") rfl)
theorem g_TooMany : mg "TooMany" = some (.ref (He.ga K "TooMany")) := by obtain ⟨h, X, G⟩ := T.at_; exact He.glo_ok X G (T.c.fact 23 (f := .glo "TooMany") rfl)
theorem g_Verdict : mg "Verdict" = some (.ref (He.ga K "Verdict")) := by obtain ⟨h, X, G⟩ := T.at_; exact He.glo_ok X G (T.c.fact 24 (f := .glo "Verdict") rfl)
theorem g_Work : mg "Work" = some (.ref (He.ga K "Work")) := by obtain ⟨h, X, G⟩ := T.at_; exact He.glo_ok X G (T.c.fact 25 (f := .glo "Work") rfl)
theorem g__law_cell_at : mg "_law_cell_at" = some (.ref (He.ga K "_law_cell_at")) := by obtain ⟨h, X, G⟩ := T.at_; exact He.glo_ok X G (T.c.fact 26 (f := .glo "_law_cell_at") rfl)
theorem g__law_come_to : mg "_law_come_to" = some (.ref (He.ga K "_law_come_to")) := by obtain ⟨h, X, G⟩ := T.at_; exact He.glo_ok X G (T.c.fact 27 (f := .glo "_law_come_to") rfl)
theorem g__law_ends : mg "_law_ends" = some (.ref (He.ga K "_law_ends")) := by obtain ⟨h, X, G⟩ := T.at_; exact He.glo_ok X G (T.c.fact 28 (f := .glo "_law_ends") rfl)
theorem g__law_figure : mg "_law_figure" = some (.ref (He.ga K "_law_figure")) := by obtain ⟨h, X, G⟩ := T.at_; exact He.glo_ok X G (T.c.fact 29 (f := .glo "_law_figure") rfl)
theorem g__law_hardest : mg "_law_hardest" = some (.ref (He.ga K "_law_hardest")) := by obtain ⟨h, X, G⟩ := T.at_; exact He.glo_ok X G (T.c.fact 30 (f := .glo "_law_hardest") rfl)
theorem g__law_legal : mg "_law_legal" = some (.ref (He.ga K "_law_legal")) := by obtain ⟨h, X, G⟩ := T.at_; exact He.glo_ok X G (T.c.fact 31 (f := .glo "_law_legal") rfl)
theorem g__law_names : mg "_law_names" = some (.ref (He.ga K "_law_names")) := by obtain ⟨h, X, G⟩ := T.at_; exact He.glo_ok X G (T.c.fact 32 (f := .glo "_law_names") rfl)
theorem g__law_parts : mg "_law_parts" = some (.ref (He.ga K "_law_parts")) := by obtain ⟨h, X, G⟩ := T.at_; exact He.glo_ok X G (T.c.fact 33 (f := .glo "_law_parts") rfl)
theorem g__law_row_read : mg "_law_row_read" = some (.ref (He.ga K "_law_row_read")) := by obtain ⟨h, X, G⟩ := T.at_; exact He.glo_ok X G (T.c.fact 34 (f := .glo "_law_row_read") rfl)
theorem g__law_stream : mg "_law_stream" = some (.ref (He.ga K "_law_stream")) := by obtain ⟨h, X, G⟩ := T.at_; exact He.glo_ok X G (T.c.fact 35 (f := .glo "_law_stream") rfl)
theorem g__law_text : mg "_law_text" = some (.ref (He.ga K "_law_text")) := by obtain ⟨h, X, G⟩ := T.at_; exact He.glo_ok X G (T.c.fact 36 (f := .glo "_law_text") rfl)
theorem g__law_turned : mg "_law_turned" = some (.ref (He.ga K "_law_turned")) := by obtain ⟨h, X, G⟩ := T.at_; exact He.glo_ok X G (T.c.fact 37 (f := .glo "_law_turned") rfl)
theorem g_answer : mg "answer" = some (.ref (He.ga K "answer")) := by obtain ⟨h, X, G⟩ := T.at_; exact He.glo_ok X G (T.c.fact 38 (f := .glo "answer") rfl)
theorem g_blocker : mg "blocker" = some (.ref (He.ga K "blocker")) := by obtain ⟨h, X, G⟩ := T.at_; exact He.glo_ok X G (T.c.fact 39 (f := .glo "blocker") rfl)
theorem g_broken_by : mg "broken_by" = some (.ref (He.ga K "broken_by")) := by obtain ⟨h, X, G⟩ := T.at_; exact He.glo_ok X G (T.c.fact 40 (f := .glo "broken_by") rfl)
theorem g_ceiling : mg "ceiling" = some (.ref (He.ga K "ceiling")) := by obtain ⟨h, X, G⟩ := T.at_; exact He.glo_ok X G (T.c.fact 41 (f := .glo "ceiling") rfl)
theorem g_checked : mg "checked" = some (.ref (He.ga K "checked")) := by obtain ⟨h, X, G⟩ := T.at_; exact He.glo_ok X G (T.c.fact 42 (f := .glo "checked") rfl)
theorem g_comings_in : mg "comings_in" = some (.ref (He.ga K "comings_in")) := by obtain ⟨h, X, G⟩ := T.at_; exact He.glo_ok X G (T.c.fact 43 (f := .glo "comings_in") rfl)
theorem g_due_at : mg "due_at" = some (.ref (He.ga K "due_at")) := by obtain ⟨h, X, G⟩ := T.at_; exact He.glo_ok X G (T.c.fact 44 (f := .glo "due_at") rfl)
theorem g_early : mg "early" = some (.ref (He.ga K "early")) := by obtain ⟨h, X, G⟩ := T.at_; exact He.glo_ok X G (T.c.fact 45 (f := .glo "early") rfl)
theorem g_first_wrong : mg "first_wrong" = some (.ref (He.ga K "first_wrong")) := by obtain ⟨h, X, G⟩ := T.at_; exact He.glo_ok X G (T.c.fact 46 (f := .glo "first_wrong") rfl)
theorem g_from_on : mg "from_on" = some (.ref (He.ga K "from_on")) := by obtain ⟨h, X, G⟩ := T.at_; exact He.glo_ok X G (T.c.fact 47 (f := .glo "from_on") rfl)
theorem g_hardest : mg "hardest" = some (.ref (He.ga K "hardest")) := by obtain ⟨h, X, G⟩ := T.at_; exact He.glo_ok X G (T.c.fact 48 (f := .glo "hardest") rfl)
theorem g_hold_up : mg "hold_up" = some (.ref (He.ga K "hold_up")) := by obtain ⟨h, X, G⟩ := T.at_; exact He.glo_ok X G (T.c.fact 49 (f := .glo "hold_up") rfl)
theorem g_holding : mg "holding" = some (.ref (He.ga K "holding")) := by obtain ⟨h, X, G⟩ := T.at_; exact He.glo_ok X G (T.c.fact 50 (f := .glo "holding") rfl)
theorem g_holds_fit : mg "holds_fit" = some (.ref (He.ga K "holds_fit")) := by obtain ⟨h, X, G⟩ := T.at_; exact He.glo_ok X G (T.c.fact 51 (f := .glo "holds_fit") rfl)
theorem g_in_order : mg "in_order" = some (.ref (He.ga K "in_order")) := by obtain ⟨h, X, G⟩ := T.at_; exact He.glo_ok X G (T.c.fact 52 (f := .glo "in_order") rfl)
theorem g_in_range : mg "in_range" = some (.ref (He.ga K "in_range")) := by obtain ⟨h, X, G⟩ := T.at_; exact He.glo_ok X G (T.c.fact 53 (f := .glo "in_range") rfl)
theorem g_in_time : mg "in_time" = some (.ref (He.ga K "in_time")) := by obtain ⟨h, X, G⟩ := T.at_; exact He.glo_ok X G (T.c.fact 54 (f := .glo "in_time") rfl)
theorem g_is_hold : mg "is_hold" = some (.ref (He.ga K "is_hold")) := by obtain ⟨h, X, G⟩ := T.at_; exact He.glo_ok X G (T.c.fact 55 (f := .glo "is_hold") rfl)
theorem g_is_name : mg "is_name" = some (.ref (He.ga K "is_name")) := by obtain ⟨h, X, G⟩ := T.at_; exact He.glo_ok X G (T.c.fact 56 (f := .glo "is_name") rfl)
theorem g_is_number : mg "is_number" = some (.ref (He.ga K "is_number")) := by obtain ⟨h, X, G⟩ := T.at_; exact He.glo_ok X G (T.c.fact 57 (f := .glo "is_number") rfl)
theorem g_is_whole : mg "is_whole" = some (.ref (He.ga K "is_whole")) := by obtain ⟨h, X, G⟩ := T.at_; exact He.glo_ok X G (T.c.fact 58 (f := .glo "is_whole") rfl)
theorem g_judge_due : mg "judge_due" = some (.ref (He.ga K "judge_due")) := by obtain ⟨h, X, G⟩ := T.at_; exact He.glo_ok X G (T.c.fact 59 (f := .glo "judge_due") rfl)
theorem g_judge_ranks : mg "judge_ranks" = some (.ref (He.ga K "judge_ranks")) := by obtain ⟨h, X, G⟩ := T.at_; exact He.glo_ok X G (T.c.fact 60 (f := .glo "judge_ranks") rfl)
theorem g_judged : mg "judged" = some (.ref (He.ga K "judged")) := by obtain ⟨h, X, G⟩ := T.at_; exact He.glo_ok X G (T.c.fact 61 (f := .glo "judged") rfl)
theorem g_latest : mg "latest" = some (.ref (He.ga K "latest")) := by obtain ⟨h, X, G⟩ := T.at_; exact He.glo_ok X G (T.c.fact 62 (f := .glo "latest") rfl)
theorem g_law : mg "law" = some (.ref (He.ga K "law")) := by obtain ⟨h, X, G⟩ := T.at_; exact He.glo_ok X G (T.c.fact 63 (f := .glo "law") rfl)
theorem g_load : mg "load" = some (.ref (He.ga K "load")) := by obtain ⟨h, X, G⟩ := T.at_; exact He.glo_ok X G (T.c.fact 64 (f := .glo "load") rfl)
theorem g_missed : mg "missed" = some (.ref (He.ga K "missed")) := by obtain ⟨h, X, G⟩ := T.at_; exact He.glo_ok X G (T.c.fact 65 (f := .glo "missed") rfl)
theorem g_number_in : mg "number_in" = some (.ref (He.ga K "number_in")) := by obtain ⟨h, X, G⟩ := T.at_; exact He.glo_ok X G (T.c.fact 66 (f := .glo "number_in") rfl)
theorem g_order_of : mg "order_of" = some (.ref (He.ga K "order_of")) := by obtain ⟨h, X, G⟩ := T.at_; exact He.glo_ok X G (T.c.fact 67 (f := .glo "order_of") rfl)
theorem g_paper : mg "paper" = some (.ref (He.ga K "paper")) := by obtain ⟨h, X, G⟩ := T.at_; exact He.glo_ok X G (T.c.fact 68 (f := .glo "paper") rfl)
theorem g_put_on : mg "put_on" = some (.ref (He.ga K "put_on")) := by obtain ⟨h, X, G⟩ := T.at_; exact He.glo_ok X G (T.c.fact 69 (f := .glo "put_on") rfl)
theorem g_rank : mg "rank" = some (.ref (He.ga K "rank")) := by obtain ⟨h, X, G⟩ := T.at_; exact He.glo_ok X G (T.c.fact 70 (f := .glo "rank") rfl)
theorem g_ranked : mg "ranked" = some (.ref (He.ga K "ranked")) := by obtain ⟨h, X, G⟩ := T.at_; exact He.glo_ok X G (T.c.fact 71 (f := .glo "ranked") rfl)
theorem g_read_coming : mg "read_coming" = some (.ref (He.ga K "read_coming")) := by obtain ⟨h, X, G⟩ := T.at_; exact He.glo_ok X G (T.c.fact 72 (f := .glo "read_coming") rfl)
theorem g_read_hold : mg "read_hold" = some (.ref (He.ga K "read_hold")) := by obtain ⟨h, X, G⟩ := T.at_; exact He.glo_ok X G (T.c.fact 73 (f := .glo "read_hold") rfl)
theorem g_read_row : mg "read_row" = some (.ref (He.ga K "read_row")) := by obtain ⟨h, X, G⟩ := T.at_; exact He.glo_ok X G (T.c.fact 74 (f := .glo "read_row") rfl)
theorem g_read_work : mg "read_work" = some (.ref (He.ga K "read_work")) := by obtain ⟨h, X, G⟩ := T.at_; exact He.glo_ok X G (T.c.fact 75 (f := .glo "read_work") rfl)
theorem g_ready : mg "ready" = some (.ref (He.ga K "ready")) := by obtain ⟨h, X, G⟩ := T.at_; exact He.glo_ok X G (T.c.fact 76 (f := .glo "ready") rfl)
theorem g_right_coming : mg "right_coming" = some (.ref (He.ga K "right_coming")) := by obtain ⟨h, X, G⟩ := T.at_; exact He.glo_ok X G (T.c.fact 77 (f := .glo "right_coming") rfl)
theorem g_rounds_up : mg "rounds_up" = some (.ref (He.ga K "rounds_up")) := by obtain ⟨h, X, G⟩ := T.at_; exact He.glo_ok X G (T.c.fact 78 (f := .glo "rounds_up") rfl)
theorem g_run : mg "run" = some (.ref (He.ga K "run")) := by obtain ⟨h, X, G⟩ := T.at_; exact He.glo_ok X G (T.c.fact 79 (f := .glo "run") rfl)
theorem g_said : mg "said" = some (.ref (He.ga K "said")) := by obtain ⟨h, X, G⟩ := T.at_; exact He.glo_ok X G (T.c.fact 80 (f := .glo "said") rfl)
theorem g_said_of_name : mg "said_of_name" = some (.ref (He.ga K "said_of_name")) := by obtain ⟨h, X, G⟩ := T.at_; exact He.glo_ok X G (T.c.fact 81 (f := .glo "said_of_name") rfl)
theorem g_said_of_row : mg "said_of_row" = some (.ref (He.ga K "said_of_row")) := by obtain ⟨h, X, G⟩ := T.at_; exact He.glo_ok X G (T.c.fact 82 (f := .glo "said_of_row") rfl)
theorem g_said_of_run : mg "said_of_run" = some (.ref (He.ga K "said_of_run")) := by obtain ⟨h, X, G⟩ := T.at_; exact He.glo_ok X G (T.c.fact 83 (f := .glo "said_of_run") rfl)
theorem g_show_coming : mg "show_coming" = some (.ref (He.ga K "show_coming")) := by obtain ⟨h, X, G⟩ := T.at_; exact He.glo_ok X G (T.c.fact 84 (f := .glo "show_coming") rfl)
theorem g_show_row : mg "show_row" = some (.ref (He.ga K "show_row")) := by obtain ⟨h, X, G⟩ := T.at_; exact He.glo_ok X G (T.c.fact 85 (f := .glo "show_row") rfl)
theorem g_show_stretch : mg "show_stretch" = some (.ref (He.ga K "show_stretch")) := by obtain ⟨h, X, G⟩ := T.at_; exact He.glo_ok X G (T.c.fact 86 (f := .glo "show_stretch") rfl)
theorem g_show_work : mg "show_work" = some (.ref (He.ga K "show_work")) := by obtain ⟨h, X, G⟩ := T.at_; exact He.glo_ok X G (T.c.fact 87 (f := .glo "show_work") rfl)
theorem g_slack : mg "slack" = some (.ref (He.ga K "slack")) := by obtain ⟨h, X, G⟩ := T.at_; exact He.glo_ok X G (T.c.fact 88 (f := .glo "slack") rfl)
theorem g_together : mg "together" = some (.ref (He.ga K "together")) := by obtain ⟨h, X, G⟩ := T.at_; exact He.glo_ok X G (T.c.fact 89 (f := .glo "together") rfl)
theorem g_with_work : mg "with_work" = some (.ref (He.ga K "with_work")) := by obtain ⟨h, X, G⟩ := T.at_; exact He.glo_ok X G (T.c.fact 90 (f := .glo "with_work") rfl)
theorem g_without_work : mg "without_work" = some (.ref (He.ga K "without_work")) := by obtain ⟨h, X, G⟩ := T.at_; exact He.glo_ok X G (T.c.fact 91 (f := .glo "without_work") rfl)
theorem g_words_of : mg "words_of" = some (.ref (He.ga K "words_of")) := by obtain ⟨h, X, G⟩ := T.at_; exact He.glo_ok X G (T.c.fact 92 (f := .glo "words_of") rfl)
theorem g_works_of : mg "works_of" = some (.ref (He.ga K "works_of")) := by obtain ⟨h, X, G⟩ := T.at_; exact He.glo_ok X G (T.c.fact 93 (f := .glo "works_of") rfl)
theorem f_all : mg "all" = none := by obtain ⟨h, X, G⟩ := T.at_; exact He.free_ok X G (T.c.fact 94 (f := .free "all") rfl)
theorem f_bool : mg "bool" = none := by obtain ⟨h, X, G⟩ := T.at_; exact He.free_ok X G (T.c.fact 95 (f := .free "bool") rfl)
theorem f_divmod : mg "divmod" = none := by obtain ⟨h, X, G⟩ := T.at_; exact He.free_ok X G (T.c.fact 96 (f := .free "divmod") rfl)
theorem f_int : mg "int" = none := by obtain ⟨h, X, G⟩ := T.at_; exact He.free_ok X G (T.c.fact 97 (f := .free "int") rfl)
theorem f_isinstance : mg "isinstance" = none := by obtain ⟨h, X, G⟩ := T.at_; exact He.free_ok X G (T.c.fact 98 (f := .free "isinstance") rfl)
theorem f_len : mg "len" = none := by obtain ⟨h, X, G⟩ := T.at_; exact He.free_ok X G (T.c.fact 99 (f := .free "len") rfl)
theorem f_list : mg "list" = none := by obtain ⟨h, X, G⟩ := T.at_; exact He.free_ok X G (T.c.fact 100 (f := .free "list") rfl)
theorem f_max : mg "max" = none := by obtain ⟨h, X, G⟩ := T.at_; exact He.free_ok X G (T.c.fact 101 (f := .free "max") rfl)
theorem f_min : mg "min" = none := by obtain ⟨h, X, G⟩ := T.at_; exact He.free_ok X G (T.c.fact 102 (f := .free "min") rfl)
theorem f_range : mg "range" = none := by obtain ⟨h, X, G⟩ := T.at_; exact He.free_ok X G (T.c.fact 103 (f := .free "range") rfl)
theorem f_sorted : mg "sorted" = none := by obtain ⟨h, X, G⟩ := T.at_; exact He.free_ok X G (T.c.fact 104 (f := .free "sorted") rfl)
theorem f_str : mg "str" = none := by obtain ⟨h, X, G⟩ := T.at_; exact He.free_ok X G (T.c.fact 105 (f := .free "str") rfl)
theorem f_tuple : mg "tuple" = none := by obtain ⟨h, X, G⟩ := T.at_; exact He.free_ok X G (T.c.fact 106 (f := .free "tuple") rfl)
theorem c_Work : Cls K (He.ga K "Work") := He.cls_ok (T.c.fact 107 (f := .cls "Work") rfl)
theorem c_Duty : Cls K (He.ga K "Duty") := He.cls_ok (T.c.fact 108 (f := .cls "Duty") rfl)
theorem c_ByRank : Cls K (He.ga K "ByRank") := He.cls_ok (T.c.fact 109 (f := .cls "ByRank") rfl)
theorem c_Kept : Cls K (He.ga K "Kept") := He.cls_ok (T.c.fact 110 (f := .cls "Kept") rfl)
theorem c_Broken : Cls K (He.ga K "Broken") := He.cls_ok (T.c.fact 111 (f := .cls "Broken") rfl)
theorem c_Desk : Cls K (He.ga K "Desk") := He.cls_ok (T.c.fact 112 (f := .cls "Desk") rfl)
theorem c_Order : Cls K (He.ga K "Order") := He.cls_ok (T.c.fact 113 (f := .cls "Order") rfl)
theorem c_Verdict : Cls K (He.ga K "Verdict") := He.cls_ok (T.c.fact 114 (f := .cls "Verdict") rfl)
theorem n_Work_name : NoAttr K (He.ga K "Work") "name" := He.noat_ok (T.c.fact 115 (f := .noat "Work" "name") rfl)
theorem n_Work_gap : NoAttr K (He.ga K "Work") "gap" := He.noat_ok (T.c.fact 116 (f := .noat "Work" "gap") rfl)
theorem n_Work_length : NoAttr K (He.ga K "Work") "length" := He.noat_ok (T.c.fact 117 (f := .noat "Work" "length") rfl)
theorem n_Work_due : NoAttr K (He.ga K "Work") "due" := He.noat_ok (T.c.fact 118 (f := .noat "Work" "due") rfl)
theorem n_Work_late : NoAttr K (He.ga K "Work") "late" := He.noat_ok (T.c.fact 119 (f := .noat "Work" "late") rfl)
theorem n_Work_sections : NoAttr K (He.ga K "Work") "sections" := He.noat_ok (T.c.fact 120 (f := .noat "Work" "sections") rfl)
theorem m_Work_held : Meth K (He.ga K "Work") "held" (He.ma K (He.ga K "Work") "held") := He.meth_ok (T.c.fact 121 (f := .meth "Work" "held") rfl)
theorem k_Work : Mk K (He.ga K "Work") (He.ma K (He.ga K "Work") "__init__") := He.mkr_ok (T.c.fact 122 (f := .mkr "Work") rfl)
theorem n_Duty_works : NoAttr K (He.ga K "Duty") "works" := He.noat_ok (T.c.fact 123 (f := .noat "Duty" "works") rfl)
theorem n_Duty_numbers : NoAttr K (He.ga K "Duty") "numbers" := He.noat_ok (T.c.fact 124 (f := .noat "Duty" "numbers") rfl)
theorem m_Duty_size : Meth K (He.ga K "Duty") "size" (He.ma K (He.ga K "Duty") "size") := He.meth_ok (T.c.fact 125 (f := .meth "Duty" "size") rfl)
theorem m_Duty_work : Meth K (He.ga K "Duty") "work" (He.ma K (He.ga K "Duty") "work") := He.meth_ok (T.c.fact 126 (f := .meth "Duty" "work") rfl)
theorem m_Duty_number_of : Meth K (He.ga K "Duty") "number_of" (He.ma K (He.ga K "Duty") "number_of") := He.meth_ok (T.c.fact 127 (f := .meth "Duty" "number_of") rfl)
theorem m_Duty_crowd : Meth K (He.ga K "Duty") "crowd" (He.ma K (He.ga K "Duty") "crowd") := He.meth_ok (T.c.fact 128 (f := .meth "Duty" "crowd") rfl)
theorem m_Duty_reordered : Meth K (He.ga K "Duty") "reordered" (He.ma K (He.ga K "Duty") "reordered") := He.meth_ok (T.c.fact 129 (f := .meth "Duty" "reordered") rfl)
theorem k_Duty : Mk K (He.ga K "Duty") (He.ma K (He.ga K "Duty") "__init__") := He.mkr_ok (T.c.fact 130 (f := .mkr "Duty") rfl)
theorem n_ByRank_duty : NoAttr K (He.ga K "ByRank") "duty" := He.noat_ok (T.c.fact 131 (f := .noat "ByRank" "duty") rfl)
theorem m_ByRank_pick : Meth K (He.ga K "ByRank") "pick" (He.ma K (He.ga K "ByRank") "pick") := He.meth_ok (T.c.fact 132 (f := .meth "ByRank" "pick") rfl)
theorem m_ByRank_rank_of : Meth K (He.ga K "ByRank") "rank_of" (He.ma K (He.ga K "ByRank") "rank_of") := He.meth_ok (T.c.fact 133 (f := .meth "ByRank" "rank_of") rfl)
theorem m_ByRank_holds : Meth K (He.ga K "ByRank") "holds" (He.ma K (He.ga K "ByRank") "holds") := He.meth_ok (T.c.fact 134 (f := .meth "ByRank" "holds") rfl)
theorem m_ByRank_steady : Meth K (He.ga K "ByRank") "steady" (He.ma K (He.ga K "ByRank") "steady") := He.meth_ok (T.c.fact 135 (f := .meth "ByRank" "steady") rfl)
theorem k_ByRank : Mk K (He.ga K "ByRank") (He.ma K (He.ga K "ByRank") "__init__") := He.mkr_ok (T.c.fact 136 (f := .mkr "ByRank") rfl)
theorem n_Kept_lines : NoAttr K (He.ga K "Kept") "lines" := He.noat_ok (T.c.fact 137 (f := .noat "Kept" "lines") rfl)
theorem m_Kept_kept : Meth K (He.ga K "Kept") "kept" (He.ma K (He.ga K "Kept") "kept") := He.meth_ok (T.c.fact 138 (f := .meth "Kept" "kept") rfl)
theorem m_Kept_told : Meth K (He.ga K "Kept") "told" (He.ma K (He.ga K "Kept") "told") := He.meth_ok (T.c.fact 139 (f := .meth "Kept" "told") rfl)
theorem k_Kept : Mk K (He.ga K "Kept") (He.ma K (He.ga K "Kept") "__init__") := He.mkr_ok (T.c.fact 140 (f := .mkr "Kept") rfl)
theorem n_Broken_row : NoAttr K (He.ga K "Broken") "row" := He.noat_ok (T.c.fact 141 (f := .noat "Broken" "row") rfl)
theorem n_Broken_place : NoAttr K (He.ga K "Broken") "place" := He.noat_ok (T.c.fact 142 (f := .noat "Broken" "place") rfl)
theorem n_Broken_turn : NoAttr K (He.ga K "Broken") "turn" := He.noat_ok (T.c.fact 143 (f := .noat "Broken" "turn") rfl)
theorem m_Broken_kept : Meth K (He.ga K "Broken") "kept" (He.ma K (He.ga K "Broken") "kept") := He.meth_ok (T.c.fact 144 (f := .meth "Broken" "kept") rfl)
theorem m_Broken_told : Meth K (He.ga K "Broken") "told" (He.ma K (He.ga K "Broken") "told") := He.meth_ok (T.c.fact 145 (f := .meth "Broken" "told") rfl)
theorem k_Broken : Mk K (He.ga K "Broken") (He.ma K (He.ga K "Broken") "__init__") := He.mkr_ok (T.c.fact 146 (f := .mkr "Broken") rfl)
theorem n_Desk_duty : NoAttr K (He.ga K "Desk") "duty" := He.noat_ok (T.c.fact 147 (f := .noat "Desk" "duty") rfl)
theorem m_Desk_say : Meth K (He.ga K "Desk") "say" (He.ma K (He.ga K "Desk") "say") := He.meth_ok (T.c.fact 148 (f := .meth "Desk" "say") rfl)
theorem k_Desk : Mk K (He.ga K "Desk") (He.ma K (He.ga K "Desk") "__init__") := He.mkr_ok (T.c.fact 149 (f := .mkr "Desk") rfl)
theorem n_NotKept_at : NoAttr K (He.ga K "NotKept") "at" := He.noat_ok (T.c.fact 150 (f := .noat "NotKept" "at") rfl)
theorem x_NotKept : PySem.W.exmOne K (.ref (He.ga K "NotKept")) (.ref (He.ga K "NotKept")) = some true := He.exm_ok (T.c.fact 151 (f := .exm "NotKept" "NotKept" true) rfl)
theorem F_NotKept_init : FunD K "__init__" "NotKept.__init__" (defArgs s_NotKept_init) (defBody s_NotKept_init) (defScope s_NotKept_init) (d_NotKept_init.dvs K) [] (He.fAd K d_NotKept_init.at_) (fdOf K d_NotKept_init.at_) := by obtain ⟨fd, F⟩ := T.c.def_ 0 (d := d_NotKept_init) rfl; exact fdOf_eq F
theorem b_NotKept_init : Binds K (fdOf K d_NotKept_init.at_) ["self", "at"] [] := (F_NotKept_init T).bindsN fun _ _ _ _ _ _ us hl => match us, hl with | [_, _], _ => rfl
theorem F_is_whole : FunD K "is_whole" "is_whole" (defArgs s_is_whole) (defBody s_is_whole) (defScope s_is_whole) (d_is_whole.dvs K) [] (He.fAd K d_is_whole.at_) (fdOf K d_is_whole.at_) := by obtain ⟨fd, F⟩ := T.c.def_ 1 (d := d_is_whole) rfl; exact fdOf_eq F
theorem b_is_whole : Binds K (fdOf K d_is_whole.at_) ["thing"] [] := (F_is_whole T).bindsN fun _ _ _ _ _ _ us hl => match us, hl with | [_], _ => rfl
theorem F_rounds_up : FunD K "rounds_up" "rounds_up" (defArgs s_rounds_up) (defBody s_rounds_up) (defScope s_rounds_up) (d_rounds_up.dvs K) [] (He.fAd K d_rounds_up.at_) (fdOf K d_rounds_up.at_) := by obtain ⟨fd, F⟩ := T.c.def_ 2 (d := d_rounds_up) rfl; exact fdOf_eq F
theorem b_rounds_up : Binds K (fdOf K d_rounds_up.at_) ["top", "bottom"] [] := (F_rounds_up T).bindsN fun _ _ _ _ _ _ us hl => match us, hl with | [_, _], _ => rfl
theorem F_ready : FunD K "ready" "ready" (defArgs s_ready) (defBody s_ready) (defScope s_ready) (d_ready.dvs K) [] (He.fAd K d_ready.at_) (fdOf K d_ready.at_) := by obtain ⟨fd, F⟩ := T.c.def_ 3 (d := d_ready) rfl; exact fdOf_eq F
theorem b_ready : Binds K (fdOf K d_ready.at_) ["coming"] [] := (F_ready T).bindsN fun _ _ _ _ _ _ us hl => match us, hl with | [_], _ => rfl
theorem F_due_at : FunD K "due_at" "due_at" (defArgs s_due_at) (defBody s_due_at) (defScope s_due_at) (d_due_at.dvs K) [] (He.fAd K d_due_at.at_) (fdOf K d_due_at.at_) := by obtain ⟨fd, F⟩ := T.c.def_ 4 (d := d_due_at) rfl; exact fdOf_eq F
theorem b_due_at : Binds K (fdOf K d_due_at.at_) ["duty", "coming"] [] := (F_due_at T).bindsN fun _ _ _ _ _ _ us hl => match us, hl with | [_, _], _ => rfl
theorem F_in_range : FunD K "in_range" "in_range" (defArgs s_in_range) (defBody s_in_range) (defScope s_in_range) (d_in_range.dvs K) [] (He.fAd K d_in_range.at_) (fdOf K d_in_range.at_) := by obtain ⟨fd, F⟩ := T.c.def_ 5 (d := d_in_range) rfl; exact fdOf_eq F
theorem b_in_range : Binds K (fdOf K d_in_range.at_) ["thing", "low", "high"] [] := (F_in_range T).bindsN fun _ _ _ _ _ _ us hl => match us, hl with | [_, _, _], _ => rfl
theorem F_right_coming : FunD K "right_coming" "right_coming" (defArgs s_right_coming) (defBody s_right_coming) (defScope s_right_coming) (d_right_coming.dvs K) [] (He.fAd K d_right_coming.at_) (fdOf K d_right_coming.at_) := by obtain ⟨fd, F⟩ := T.c.def_ 6 (d := d_right_coming) rfl; exact fdOf_eq F
theorem b_right_coming : Binds K (fdOf K d_right_coming.at_) ["duty", "coming"] [] := (F_right_coming T).bindsN fun _ _ _ _ _ _ us hl => match us, hl with | [_, _], _ => rfl
theorem F_first_wrong : FunD K "first_wrong" "first_wrong" (defArgs s_first_wrong) (defBody s_first_wrong) (defScope s_first_wrong) (d_first_wrong.dvs K) [] (He.fAd K d_first_wrong.at_) (fdOf K d_first_wrong.at_) := by obtain ⟨fd, F⟩ := T.c.def_ 7 (d := d_first_wrong) rfl; exact fdOf_eq F
theorem b_first_wrong : Binds K (fdOf K d_first_wrong.at_) ["duty", "row"] [] := (F_first_wrong T).bindsN fun _ _ _ _ _ _ us hl => match us, hl with | [_, _], _ => rfl
theorem F_checked : FunD K "checked" "checked" (defArgs s_checked) (defBody s_checked) (defScope s_checked) (d_checked.dvs K) [] (He.fAd K d_checked.at_) (fdOf K d_checked.at_) := by obtain ⟨fd, F⟩ := T.c.def_ 8 (d := d_checked) rfl; exact fdOf_eq F
theorem b_checked : Binds K (fdOf K d_checked.at_) ["duty", "row"] [] := (F_checked T).bindsN fun _ _ _ _ _ _ us hl => match us, hl with | [_, _], _ => rfl
theorem F_put_on : FunD K "put_on" "put_on" (defArgs s_put_on) (defBody s_put_on) (defScope s_put_on) (d_put_on.dvs K) [] (He.fAd K d_put_on.at_) (fdOf K d_put_on.at_) := by obtain ⟨fd, F⟩ := T.c.def_ 9 (d := d_put_on) rfl; exact fdOf_eq F
theorem b_put_on : Binds K (fdOf K d_put_on.at_) ["told", "place", "now", "until"] [] := (F_put_on T).bindsN fun _ _ _ _ _ _ us hl => match us, hl with | [_, _, _, _], _ => rfl
theorem F_run : FunD K "run" "run" (defArgs s_run) (defBody s_run) (defScope s_run) (d_run.dvs K) [] (He.fAd K d_run.at_) (fdOf K d_run.at_) := by obtain ⟨fd, F⟩ := T.c.def_ 10 (d := d_run) rfl; exact fdOf_eq F
theorem b_run : Binds K (fdOf K d_run.at_) ["order", "row"] [] := (F_run T).bindsN fun _ _ _ _ _ _ us hl => match us, hl with | [_, _], _ => rfl
theorem F_ceiling : FunD K "ceiling" "ceiling" (defArgs s_ceiling) (defBody s_ceiling) (defScope s_ceiling) (d_ceiling.dvs K) [] (He.fAd K d_ceiling.at_) (fdOf K d_ceiling.at_) := by obtain ⟨fd, F⟩ := T.c.def_ 11 (d := d_ceiling) rfl; exact fdOf_eq F
theorem b_ceiling : Binds K (fdOf K d_ceiling.at_) ["duty", "thing"] [] := (F_ceiling T).bindsN fun _ _ _ _ _ _ us hl => match us, hl with | [_, _], _ => rfl
theorem F_holding : FunD K "holding" "holding" (defArgs s_holding) (defBody s_holding) (defScope s_holding) (d_holding.dvs K) [] (He.fAd K d_holding.at_) (fdOf K d_holding.at_) := by obtain ⟨fd, F⟩ := T.c.def_ 12 (d := d_holding) rfl; exact fdOf_eq F
theorem b_holding : Binds K (fdOf K d_holding.at_) ["duty", "at", "done"] [] := (F_holding T).bindsN fun _ _ _ _ _ _ us hl => match us, hl with | [_, _, _], _ => rfl
theorem F_rank : FunD K "rank" "rank" (defArgs s_rank) (defBody s_rank) (defScope s_rank) (d_rank.dvs K) [] (He.fAd K d_rank.at_) (fdOf K d_rank.at_) := by obtain ⟨fd, F⟩ := T.c.def_ 13 (d := d_rank) rfl; exact fdOf_eq F
theorem b_rank : Binds K (fdOf K d_rank.at_) ["duty", "at", "done"] [] := (F_rank T).bindsN fun _ _ _ _ _ _ us hl => match us, hl with | [_, _, _], _ => rfl
theorem F_hold_up : FunD K "hold_up" "hold_up" (defArgs s_hold_up) (defBody s_hold_up) (defScope s_hold_up) (d_hold_up.dvs K) [] (He.fAd K d_hold_up.at_) (fdOf K d_hold_up.at_) := by obtain ⟨fd, F⟩ := T.c.def_ 14 (d := d_hold_up) rfl; exact fdOf_eq F
theorem b_hold_up : Binds K (fdOf K d_hold_up.at_) ["duty", "at"] [] := (F_hold_up T).bindsN fun _ _ _ _ _ _ us hl => match us, hl with | [_, _], _ => rfl
theorem F_comings_in : FunD K "comings_in" "comings_in" (defArgs s_comings_in) (defBody s_comings_in) (defScope s_comings_in) (d_comings_in.dvs K) [] (He.fAd K d_comings_in.at_) (fdOf K d_comings_in.at_) := by obtain ⟨fd, F⟩ := T.c.def_ 15 (d := d_comings_in) rfl; exact fdOf_eq F
theorem b_comings_in : Binds K (fdOf K d_comings_in.at_) ["work", "span"] [] := (F_comings_in T).bindsN fun _ _ _ _ _ _ us hl => match us, hl with | [_, _], _ => rfl
theorem F_load : FunD K "load" "load" (defArgs s_load) (defBody s_load) (defScope s_load) (d_load.dvs K) [] (He.fAd K d_load.at_) (fdOf K d_load.at_) := by obtain ⟨fd, F⟩ := T.c.def_ 16 (d := d_load) rfl; exact fdOf_eq F
theorem b_load : Binds K (fdOf K d_load.at_) ["duty", "at", "span"] [] := (F_load T).bindsN fun _ _ _ _ _ _ us hl => match us, hl with | [_, _, _], _ => rfl
theorem F_in_time : FunD K "in_time" "in_time" (defArgs s_in_time) (defBody s_in_time) (defScope s_in_time) (d_in_time.dvs K) [] (He.fAd K d_in_time.at_) (fdOf K d_in_time.at_) := by obtain ⟨fd, F⟩ := T.c.def_ 17 (d := d_in_time) rfl; exact fdOf_eq F
theorem b_in_time : Binds K (fdOf K d_in_time.at_) ["duty", "at", "line"] [] := (F_in_time T).bindsN fun _ _ _ _ _ _ us hl => match us, hl with | [_, _, _], _ => rfl
theorem F_answer : FunD K "answer" "answer" (defArgs s_answer) (defBody s_answer) (defScope s_answer) (d_answer.dvs K) [] (He.fAd K d_answer.at_) (fdOf K d_answer.at_) := by obtain ⟨fd, F⟩ := T.c.def_ 18 (d := d_answer) rfl; exact fdOf_eq F
theorem b_answer : Binds K (fdOf K d_answer.at_) ["duty", "at"] [] := (F_answer T).bindsN fun _ _ _ _ _ _ us hl => match us, hl with | [_, _], _ => rfl
theorem F_blocker : FunD K "blocker" "blocker" (defArgs s_blocker) (defBody s_blocker) (defScope s_blocker) (d_blocker.dvs K) [] (He.fAd K d_blocker.at_) (fdOf K d_blocker.at_) := by obtain ⟨fd, F⟩ := T.c.def_ 19 (d := d_blocker) rfl; exact fdOf_eq F
theorem b_blocker : Binds K (fdOf K d_blocker.at_) ["duty", "at"] [] := (F_blocker T).bindsN fun _ _ _ _ _ _ us hl => match us, hl with | [_, _], _ => rfl
theorem F_latest : FunD K "latest" "latest" (defArgs s_latest) (defBody s_latest) (defScope s_latest) (d_latest.dvs K) [] (He.fAd K d_latest.at_) (fdOf K d_latest.at_) := by obtain ⟨fd, F⟩ := T.c.def_ 20 (d := d_latest) rfl; exact fdOf_eq F
theorem b_latest : Binds K (fdOf K d_latest.at_) ["works"] [] := (F_latest T).bindsN fun _ _ _ _ _ _ us hl => match us, hl with | [_], _ => rfl
theorem F_early : FunD K "early" "early" (defArgs s_early) (defBody s_early) (defScope s_early) (d_early.dvs K) [] (He.fAd K d_early.at_) (fdOf K d_early.at_) := by obtain ⟨fd, F⟩ := T.c.def_ 21 (d := d_early) rfl; exact fdOf_eq F
theorem b_early : Binds K (fdOf K d_early.at_) ["duty", "number", "start", "until"] [] := (F_early T).bindsN fun _ _ _ _ _ _ us hl => match us, hl with | [_, _, _, _], _ => rfl
theorem F_hardest : FunD K "hardest" "hardest" (defArgs s_hardest) (defBody s_hardest) (defScope s_hardest) (d_hardest.dvs K) [] (He.fAd K d_hardest.at_) (fdOf K d_hardest.at_) := by obtain ⟨fd, F⟩ := T.c.def_ 22 (d := d_hardest) rfl; exact fdOf_eq F
theorem b_hardest : Binds K (fdOf K d_hardest.at_) ["duty", "at"] [] := (F_hardest T).bindsN fun _ _ _ _ _ _ us hl => match us, hl with | [_, _], _ => rfl
theorem F_is_name : FunD K "is_name" "is_name" (defArgs s_is_name) (defBody s_is_name) (defScope s_is_name) (d_is_name.dvs K) [] (He.fAd K d_is_name.at_) (fdOf K d_is_name.at_) := by obtain ⟨fd, F⟩ := T.c.def_ 23 (d := d_is_name) rfl; exact fdOf_eq F
theorem b_is_name : Binds K (fdOf K d_is_name.at_) ["thing"] [] := (F_is_name T).bindsN fun _ _ _ _ _ _ us hl => match us, hl with | [_], _ => rfl
theorem F_from_on : FunD K "from_on" "from_on" (defArgs s_from_on) (defBody s_from_on) (defScope s_from_on) (d_from_on.dvs K) [] (He.fAd K d_from_on.at_) (fdOf K d_from_on.at_) := by obtain ⟨fd, F⟩ := T.c.def_ 24 (d := d_from_on) rfl; exact fdOf_eq F
theorem b_from_on : Binds K (fdOf K d_from_on.at_) ["thing", "low"] [] := (F_from_on T).bindsN fun _ _ _ _ _ _ us hl => match us, hl with | [_, _], _ => rfl
theorem F_is_hold : FunD K "is_hold" "is_hold" (defArgs s_is_hold) (defBody s_is_hold) (defScope s_is_hold) (d_is_hold.dvs K) [] (He.fAd K d_is_hold.at_) (fdOf K d_is_hold.at_) := by obtain ⟨fd, F⟩ := T.c.def_ 25 (d := d_is_hold) rfl; exact fdOf_eq F
theorem b_is_hold : Binds K (fdOf K d_is_hold.at_) ["thing", "length"] [] := (F_is_hold T).bindsN fun _ _ _ _ _ _ us hl => match us, hl with | [_, _], _ => rfl
theorem F_holds_fit : FunD K "holds_fit" "holds_fit" (defArgs s_holds_fit) (defBody s_holds_fit) (defScope s_holds_fit) (d_holds_fit.dvs K) [] (He.fAd K d_holds_fit.at_) (fdOf K d_holds_fit.at_) := by obtain ⟨fd, F⟩ := T.c.def_ 26 (d := d_holds_fit) rfl; exact fdOf_eq F
theorem b_holds_fit : Binds K (fdOf K d_holds_fit.at_) ["holds", "length"] [] := (F_holds_fit T).bindsN fun _ _ _ _ _ _ us hl => match us, hl with | [_, _], _ => rfl
theorem F_Work_init : FunD K "__init__" "Work.__init__" (defArgs s_Work_init) (defBody s_Work_init) (defScope s_Work_init) (d_Work_init.dvs K) [] (He.fAd K d_Work_init.at_) (fdOf K d_Work_init.at_) := by obtain ⟨fd, F⟩ := T.c.def_ 27 (d := d_Work_init) rfl; exact fdOf_eq F
theorem F_Work_held : FunD K "held" "Work.held" (defArgs s_Work_held) (defBody s_Work_held) (defScope s_Work_held) (d_Work_held.dvs K) [] (He.fAd K d_Work_held.at_) (fdOf K d_Work_held.at_) := by obtain ⟨fd, F⟩ := T.c.def_ 28 (d := d_Work_held) rfl; exact fdOf_eq F
theorem b_Work_held : Binds K (fdOf K d_Work_held.at_) ["self"] [] := (F_Work_held T).bindsN fun _ _ _ _ _ _ us hl => match us, hl with | [_], _ => rfl
theorem F_Duty_init : FunD K "__init__" "Duty.__init__" (defArgs s_Duty_init) (defBody s_Duty_init) (defScope s_Duty_init) (d_Duty_init.dvs K) [] (He.fAd K d_Duty_init.at_) (fdOf K d_Duty_init.at_) := by obtain ⟨fd, F⟩ := T.c.def_ 29 (d := d_Duty_init) rfl; exact fdOf_eq F
theorem b_Duty_init : Binds K (fdOf K d_Duty_init.at_) ["self", "works"] [] := (F_Duty_init T).bindsN fun _ _ _ _ _ _ us hl => match us, hl with | [_, _], _ => rfl
theorem F_Duty_size : FunD K "size" "Duty.size" (defArgs s_Duty_size) (defBody s_Duty_size) (defScope s_Duty_size) (d_Duty_size.dvs K) [] (He.fAd K d_Duty_size.at_) (fdOf K d_Duty_size.at_) := by obtain ⟨fd, F⟩ := T.c.def_ 30 (d := d_Duty_size) rfl; exact fdOf_eq F
theorem b_Duty_size : Binds K (fdOf K d_Duty_size.at_) ["self"] [] := (F_Duty_size T).bindsN fun _ _ _ _ _ _ us hl => match us, hl with | [_], _ => rfl
theorem F_Duty_work : FunD K "work" "Duty.work" (defArgs s_Duty_work) (defBody s_Duty_work) (defScope s_Duty_work) (d_Duty_work.dvs K) [] (He.fAd K d_Duty_work.at_) (fdOf K d_Duty_work.at_) := by obtain ⟨fd, F⟩ := T.c.def_ 31 (d := d_Duty_work) rfl; exact fdOf_eq F
theorem b_Duty_work : Binds K (fdOf K d_Duty_work.at_) ["self", "at"] [] := (F_Duty_work T).bindsN fun _ _ _ _ _ _ us hl => match us, hl with | [_, _], _ => rfl
theorem F_Duty_number_of : FunD K "number_of" "Duty.number_of" (defArgs s_Duty_number_of) (defBody s_Duty_number_of) (defScope s_Duty_number_of) (d_Duty_number_of.dvs K) [] (He.fAd K d_Duty_number_of.at_) (fdOf K d_Duty_number_of.at_) := by obtain ⟨fd, F⟩ := T.c.def_ 32 (d := d_Duty_number_of) rfl; exact fdOf_eq F
theorem b_Duty_number_of : Binds K (fdOf K d_Duty_number_of.at_) ["self", "name"] [] := (F_Duty_number_of T).bindsN fun _ _ _ _ _ _ us hl => match us, hl with | [_, _], _ => rfl
theorem F_Duty_crowd : FunD K "crowd" "Duty.crowd" (defArgs s_Duty_crowd) (defBody s_Duty_crowd) (defScope s_Duty_crowd) (d_Duty_crowd.dvs K) [] (He.fAd K d_Duty_crowd.at_) (fdOf K d_Duty_crowd.at_) := by obtain ⟨fd, F⟩ := T.c.def_ 33 (d := d_Duty_crowd) rfl; exact fdOf_eq F
theorem b_Duty_crowd : Binds K (fdOf K d_Duty_crowd.at_) ["self"] [] := (F_Duty_crowd T).bindsN fun _ _ _ _ _ _ us hl => match us, hl with | [_], _ => rfl
theorem F_Duty_reordered : FunD K "reordered" "Duty.reordered" (defArgs s_Duty_reordered) (defBody s_Duty_reordered) (defScope s_Duty_reordered) (d_Duty_reordered.dvs K) [] (He.fAd K d_Duty_reordered.at_) (fdOf K d_Duty_reordered.at_) := by obtain ⟨fd, F⟩ := T.c.def_ 34 (d := d_Duty_reordered) rfl; exact fdOf_eq F
theorem b_Duty_reordered : Binds K (fdOf K d_Duty_reordered.at_) ["self", "places"] [] := (F_Duty_reordered T).bindsN fun _ _ _ _ _ _ us hl => match us, hl with | [_, _], _ => rfl
theorem F_Order_init : FunD K "__init__" "Order.__init__" (defArgs s_Order_init) (defBody s_Order_init) (defScope s_Order_init) (d_Order_init.dvs K) [] (He.fAd K d_Order_init.at_) (fdOf K d_Order_init.at_) := by obtain ⟨fd, F⟩ := T.c.def_ 35 (d := d_Order_init) rfl; exact fdOf_eq F
theorem b_Order_init : Binds K (fdOf K d_Order_init.at_) ["self", "duty"] [] := (F_Order_init T).bindsN fun _ _ _ _ _ _ us hl => match us, hl with | [_, _], _ => rfl
theorem F_Order_pick : FunD K "pick" "Order.pick" (defArgs s_Order_pick) (defBody s_Order_pick) (defScope s_Order_pick) (d_Order_pick.dvs K) [] (He.fAd K d_Order_pick.at_) (fdOf K d_Order_pick.at_) := by obtain ⟨fd, F⟩ := T.c.def_ 36 (d := d_Order_pick) rfl; exact fdOf_eq F
theorem b_Order_pick : Binds K (fdOf K d_Order_pick.at_) ["self", "row", "waiting", "dones"] [] := (F_Order_pick T).bindsN fun _ _ _ _ _ _ us hl => match us, hl with | [_, _, _, _], _ => rfl
theorem F_ByRank_rank_of : FunD K "rank_of" "ByRank.rank_of" (defArgs s_ByRank_rank_of) (defBody s_ByRank_rank_of) (defScope s_ByRank_rank_of) (d_ByRank_rank_of.dvs K) [] (He.fAd K d_ByRank_rank_of.at_) (fdOf K d_ByRank_rank_of.at_) := by obtain ⟨fd, F⟩ := T.c.def_ 37 (d := d_ByRank_rank_of) rfl; exact fdOf_eq F
theorem b_ByRank_rank_of : Binds K (fdOf K d_ByRank_rank_of.at_) ["self", "coming", "done"] [] := (F_ByRank_rank_of T).bindsN fun _ _ _ _ _ _ us hl => match us, hl with | [_, _, _], _ => rfl
theorem F_ByRank_holds : FunD K "holds" "ByRank.holds" (defArgs s_ByRank_holds) (defBody s_ByRank_holds) (defScope s_ByRank_holds) (d_ByRank_holds.dvs K) [] (He.fAd K d_ByRank_holds.at_) (fdOf K d_ByRank_holds.at_) := by obtain ⟨fd, F⟩ := T.c.def_ 38 (d := d_ByRank_holds) rfl; exact fdOf_eq F
theorem b_ByRank_holds : Binds K (fdOf K d_ByRank_holds.at_) ["self", "coming", "done"] [] := (F_ByRank_holds T).bindsN fun _ _ _ _ _ _ us hl => match us, hl with | [_, _, _], _ => rfl
theorem F_ByRank_steady : FunD K "steady" "ByRank.steady" (defArgs s_ByRank_steady) (defBody s_ByRank_steady) (defScope s_ByRank_steady) (d_ByRank_steady.dvs K) [] (He.fAd K d_ByRank_steady.at_) (fdOf K d_ByRank_steady.at_) := by obtain ⟨fd, F⟩ := T.c.def_ 39 (d := d_ByRank_steady) rfl; exact fdOf_eq F
theorem b_ByRank_steady : Binds K (fdOf K d_ByRank_steady.at_) ["self", "coming", "done"] [] := (F_ByRank_steady T).bindsN fun _ _ _ _ _ _ us hl => match us, hl with | [_, _, _], _ => rfl
theorem F_paper : FunD K "paper" "paper" (defArgs s_paper) (defBody s_paper) (defScope s_paper) (d_paper.dvs K) [] (He.fAd K d_paper.at_) (fdOf K d_paper.at_) := by obtain ⟨fd, F⟩ := T.c.def_ 40 (d := d_paper) rfl; exact fdOf_eq F
theorem b_paper : Binds K (fdOf K d_paper.at_) ["duty"] [] := (F_paper T).bindsN fun _ _ _ _ _ _ us hl => match us, hl with | [_], _ => rfl
theorem F_is_number : FunD K "is_number" "is_number" (defArgs s_is_number) (defBody s_is_number) (defScope s_is_number) (d_is_number.dvs K) [] (He.fAd K d_is_number.at_) (fdOf K d_is_number.at_) := by obtain ⟨fd, F⟩ := T.c.def_ 41 (d := d_is_number) rfl; exact fdOf_eq F
theorem b_is_number : Binds K (fdOf K d_is_number.at_) ["word"] [] := (F_is_number T).bindsN fun _ _ _ _ _ _ us hl => match us, hl with | [_], _ => rfl
theorem F_number_in : FunD K "number_in" "number_in" (defArgs s_number_in) (defBody s_number_in) (defScope s_number_in) (d_number_in.dvs K) [] (He.fAd K d_number_in.at_) (fdOf K d_number_in.at_) := by obtain ⟨fd, F⟩ := T.c.def_ 42 (d := d_number_in) rfl; exact fdOf_eq F
theorem b_number_in : Binds K (fdOf K d_number_in.at_) ["word"] [] := (F_number_in T).bindsN fun _ _ _ _ _ _ us hl => match us, hl with | [_], _ => rfl
theorem F_words_of : FunD K "words_of" "words_of" (defArgs s_words_of) (defBody s_words_of) (defScope s_words_of) (d_words_of.dvs K) [] (He.fAd K d_words_of.at_) (fdOf K d_words_of.at_) := by obtain ⟨fd, F⟩ := T.c.def_ 43 (d := d_words_of) rfl; exact fdOf_eq F
theorem b_words_of : Binds K (fdOf K d_words_of.at_) ["text"] [] := (F_words_of T).bindsN fun _ _ _ _ _ _ us hl => match us, hl with | [_], _ => rfl
theorem F_read_hold : FunD K "read_hold" "read_hold" (defArgs s_read_hold) (defBody s_read_hold) (defScope s_read_hold) (d_read_hold.dvs K) [] (He.fAd K d_read_hold.at_) (fdOf K d_read_hold.at_) := by obtain ⟨fd, F⟩ := T.c.def_ 44 (d := d_read_hold) rfl; exact fdOf_eq F
theorem b_read_hold : Binds K (fdOf K d_read_hold.at_) ["word"] [] := (F_read_hold T).bindsN fun _ _ _ _ _ _ us hl => match us, hl with | [_], _ => rfl
theorem F_read_work : FunD K "read_work" "read_work" (defArgs s_read_work) (defBody s_read_work) (defScope s_read_work) (d_read_work.dvs K) [] (He.fAd K d_read_work.at_) (fdOf K d_read_work.at_) := by obtain ⟨fd, F⟩ := T.c.def_ 45 (d := d_read_work) rfl; exact fdOf_eq F
theorem b_read_work : Binds K (fdOf K d_read_work.at_) ["text"] [] := (F_read_work T).bindsN fun _ _ _ _ _ _ us hl => match us, hl with | [_], _ => rfl
theorem F_show_coming : FunD K "show_coming" "show_coming" (defArgs s_show_coming) (defBody s_show_coming) (defScope s_show_coming) (d_show_coming.dvs K) [] (He.fAd K d_show_coming.at_) (fdOf K d_show_coming.at_) := by obtain ⟨fd, F⟩ := T.c.def_ 46 (d := d_show_coming) rfl; exact fdOf_eq F
theorem b_show_coming : Binds K (fdOf K d_show_coming.at_) ["duty", "coming"] [] := (F_show_coming T).bindsN fun _ _ _ _ _ _ us hl => match us, hl with | [_, _], _ => rfl
theorem F_read_coming : FunD K "read_coming" "read_coming" (defArgs s_read_coming) (defBody s_read_coming) (defScope s_read_coming) (d_read_coming.dvs K) [] (He.fAd K d_read_coming.at_) (fdOf K d_read_coming.at_) := by obtain ⟨fd, F⟩ := T.c.def_ 47 (d := d_read_coming) rfl; exact fdOf_eq F
theorem b_read_coming : Binds K (fdOf K d_read_coming.at_) ["text"] [] := (F_read_coming T).bindsN fun _ _ _ _ _ _ us hl => match us, hl with | [_], _ => rfl
theorem F_show_row : FunD K "show_row" "show_row" (defArgs s_show_row) (defBody s_show_row) (defScope s_show_row) (d_show_row.dvs K) [] (He.fAd K d_show_row.at_) (fdOf K d_show_row.at_) := by obtain ⟨fd, F⟩ := T.c.def_ 48 (d := d_show_row) rfl; exact fdOf_eq F
theorem b_show_row : Binds K (fdOf K d_show_row.at_) ["duty", "row"] [] := (F_show_row T).bindsN fun _ _ _ _ _ _ us hl => match us, hl with | [_, _], _ => rfl
theorem F_read_row : FunD K "read_row" "read_row" (defArgs s_read_row) (defBody s_read_row) (defScope s_read_row) (d_read_row.dvs K) [] (He.fAd K d_read_row.at_) (fdOf K d_read_row.at_) := by obtain ⟨fd, F⟩ := T.c.def_ 49 (d := d_read_row) rfl; exact fdOf_eq F
theorem b_read_row : Binds K (fdOf K d_read_row.at_) ["duty", "text"] [] := (F_read_row T).bindsN fun _ _ _ _ _ _ us hl => match us, hl with | [_, _], _ => rfl
theorem F_Verdict_kept : FunD K "kept" "Verdict.kept" (defArgs s_Verdict_kept) (defBody s_Verdict_kept) (defScope s_Verdict_kept) (d_Verdict_kept.dvs K) [] (He.fAd K d_Verdict_kept.at_) (fdOf K d_Verdict_kept.at_) := by obtain ⟨fd, F⟩ := T.c.def_ 50 (d := d_Verdict_kept) rfl; exact fdOf_eq F
theorem b_Verdict_kept : Binds K (fdOf K d_Verdict_kept.at_) ["self"] [] := (F_Verdict_kept T).bindsN fun _ _ _ _ _ _ us hl => match us, hl with | [_], _ => rfl
theorem F_Kept_init : FunD K "__init__" "Kept.__init__" (defArgs s_Kept_init) (defBody s_Kept_init) (defScope s_Kept_init) (d_Kept_init.dvs K) [] (He.fAd K d_Kept_init.at_) (fdOf K d_Kept_init.at_) := by obtain ⟨fd, F⟩ := T.c.def_ 51 (d := d_Kept_init) rfl; exact fdOf_eq F
theorem b_Kept_init : Binds K (fdOf K d_Kept_init.at_) ["self", "lines"] [] := (F_Kept_init T).bindsN fun _ _ _ _ _ _ us hl => match us, hl with | [_, _], _ => rfl
theorem F_Kept_kept : FunD K "kept" "Kept.kept" (defArgs s_Kept_kept) (defBody s_Kept_kept) (defScope s_Kept_kept) (d_Kept_kept.dvs K) [] (He.fAd K d_Kept_kept.at_) (fdOf K d_Kept_kept.at_) := by obtain ⟨fd, F⟩ := T.c.def_ 52 (d := d_Kept_kept) rfl; exact fdOf_eq F
theorem b_Kept_kept : Binds K (fdOf K d_Kept_kept.at_) ["self"] [] := (F_Kept_kept T).bindsN fun _ _ _ _ _ _ us hl => match us, hl with | [_], _ => rfl
theorem F_Kept_told : FunD K "told" "Kept.told" (defArgs s_Kept_told) (defBody s_Kept_told) (defScope s_Kept_told) (d_Kept_told.dvs K) [] (He.fAd K d_Kept_told.at_) (fdOf K d_Kept_told.at_) := by obtain ⟨fd, F⟩ := T.c.def_ 53 (d := d_Kept_told) rfl; exact fdOf_eq F
theorem b_Kept_told : Binds K (fdOf K d_Kept_told.at_) ["self"] [] := (F_Kept_told T).bindsN fun _ _ _ _ _ _ us hl => match us, hl with | [_], _ => rfl
theorem F_Broken_init : FunD K "__init__" "Broken.__init__" (defArgs s_Broken_init) (defBody s_Broken_init) (defScope s_Broken_init) (d_Broken_init.dvs K) [] (He.fAd K d_Broken_init.at_) (fdOf K d_Broken_init.at_) := by obtain ⟨fd, F⟩ := T.c.def_ 54 (d := d_Broken_init) rfl; exact fdOf_eq F
theorem b_Broken_init : Binds K (fdOf K d_Broken_init.at_) ["self", "row", "place", "turn"] [] := (F_Broken_init T).bindsN fun _ _ _ _ _ _ us hl => match us, hl with | [_, _, _, _], _ => rfl
theorem F_Broken_told : FunD K "told" "Broken.told" (defArgs s_Broken_told) (defBody s_Broken_told) (defScope s_Broken_told) (d_Broken_told.dvs K) [] (He.fAd K d_Broken_told.at_) (fdOf K d_Broken_told.at_) := by obtain ⟨fd, F⟩ := T.c.def_ 55 (d := d_Broken_told) rfl; exact fdOf_eq F
theorem b_Broken_told : Binds K (fdOf K d_Broken_told.at_) ["self"] [] := (F_Broken_told T).bindsN fun _ _ _ _ _ _ us hl => match us, hl with | [_], _ => rfl
theorem F_broken_by : FunD K "broken_by" "broken_by" (defArgs s_broken_by) (defBody s_broken_by) (defScope s_broken_by) (d_broken_by.dvs K) [] (He.fAd K d_broken_by.at_) (fdOf K d_broken_by.at_) := by obtain ⟨fd, F⟩ := T.c.def_ 56 (d := d_broken_by) rfl; exact fdOf_eq F
theorem b_broken_by : Binds K (fdOf K d_broken_by.at_) ["duty", "row", "place"] [] := (F_broken_by T).bindsN fun _ _ _ _ _ _ us hl => match us, hl with | [_, _, _], _ => rfl
theorem F_judge_ranks : FunD K "judge_ranks" "judge_ranks" (defArgs s_judge_ranks) (defBody s_judge_ranks) (defScope s_judge_ranks) (d_judge_ranks.dvs K) [] (He.fAd K d_judge_ranks.at_) (fdOf K d_judge_ranks.at_) := by obtain ⟨fd, F⟩ := T.c.def_ 57 (d := d_judge_ranks) rfl; exact fdOf_eq F
theorem b_judge_ranks : Binds K (fdOf K d_judge_ranks.at_) ["duty"] [] := (F_judge_ranks T).bindsN fun _ _ _ _ _ _ us hl => match us, hl with | [_], _ => rfl
theorem F_works_of : FunD K "works_of" "works_of" (defArgs s_works_of) (defBody s_works_of) (defScope s_works_of) (d_works_of.dvs K) [] (He.fAd K d_works_of.at_) (fdOf K d_works_of.at_) := by obtain ⟨fd, F⟩ := T.c.def_ 58 (d := d_works_of) rfl; exact fdOf_eq F
theorem b_works_of : Binds K (fdOf K d_works_of.at_) ["duty"] [] := (F_works_of T).bindsN fun _ _ _ _ _ _ us hl => match us, hl with | [_], _ => rfl
theorem F_with_work : FunD K "with_work" "with_work" (defArgs s_with_work) (defBody s_with_work) (defScope s_with_work) (d_with_work.dvs K) [] (He.fAd K d_with_work.at_) (fdOf K d_with_work.at_) := by obtain ⟨fd, F⟩ := T.c.def_ 59 (d := d_with_work) rfl; exact fdOf_eq F
theorem b_with_work : Binds K (fdOf K d_with_work.at_) ["duty", "text"] [] := (F_with_work T).bindsN fun _ _ _ _ _ _ us hl => match us, hl with | [_, _], _ => rfl
theorem F_without_work : FunD K "without_work" "without_work" (defArgs s_without_work) (defBody s_without_work) (defScope s_without_work) (d_without_work.dvs K) [] (He.fAd K d_without_work.at_) (fdOf K d_without_work.at_) := by obtain ⟨fd, F⟩ := T.c.def_ 60 (d := d_without_work) rfl; exact fdOf_eq F
theorem b_without_work : Binds K (fdOf K d_without_work.at_) ["duty", "name"] [] := (F_without_work T).bindsN fun _ _ _ _ _ _ us hl => match us, hl with | [_, _], _ => rfl
theorem F_in_order : FunD K "in_order" "in_order" (defArgs s_in_order) (defBody s_in_order) (defScope s_in_order) (d_in_order.dvs K) [] (He.fAd K d_in_order.at_) (fdOf K d_in_order.at_) := by obtain ⟨fd, F⟩ := T.c.def_ 61 (d := d_in_order) rfl; exact fdOf_eq F
theorem b_in_order : Binds K (fdOf K d_in_order.at_) ["duty", "names"] [] := (F_in_order T).bindsN fun _ _ _ _ _ _ us hl => match us, hl with | [_, _], _ => rfl
theorem F_order_of : FunD K "order_of" "order_of" (defArgs s_order_of) (defBody s_order_of) (defScope s_order_of) (d_order_of.dvs K) [] (He.fAd K d_order_of.at_) (fdOf K d_order_of.at_) := by obtain ⟨fd, F⟩ := T.c.def_ 62 (d := d_order_of) rfl; exact fdOf_eq F
theorem b_order_of : Binds K (fdOf K d_order_of.at_) ["duty", "word"] [] := (F_order_of T).bindsN fun _ _ _ _ _ _ us hl => match us, hl with | [_, _], _ => rfl
theorem F_show_stretch : FunD K "show_stretch" "show_stretch" (defArgs s_show_stretch) (defBody s_show_stretch) (defScope s_show_stretch) (d_show_stretch.dvs K) [] (He.fAd K d_show_stretch.at_) (fdOf K d_show_stretch.at_) := by obtain ⟨fd, F⟩ := T.c.def_ 63 (d := d_show_stretch) rfl; exact fdOf_eq F
theorem b_show_stretch : Binds K (fdOf K d_show_stretch.at_) ["stretch"] [] := (F_show_stretch T).bindsN fun _ _ _ _ _ _ us hl => match us, hl with | [_], _ => rfl
theorem F_said_of_run : FunD K "said_of_run" "said_of_run" (defArgs s_said_of_run) (defBody s_said_of_run) (defScope s_said_of_run) (d_said_of_run.dvs K) [] (He.fAd K d_said_of_run.at_) (fdOf K d_said_of_run.at_) := by obtain ⟨fd, F⟩ := T.c.def_ 64 (d := d_said_of_run) rfl; exact fdOf_eq F
theorem b_said_of_run : Binds K (fdOf K d_said_of_run.at_) ["duty", "word", "rest"] [] := (F_said_of_run T).bindsN fun _ _ _ _ _ _ us hl => match us, hl with | [_, _, _], _ => rfl
theorem F_judged : FunD K "judged" "judged" (defArgs s_judged) (defBody s_judged) (defScope s_judged) (d_judged.dvs K) [] (He.fAd K d_judged.at_) (fdOf K d_judged.at_) := by obtain ⟨fd, F⟩ := T.c.def_ 65 (d := d_judged) rfl; exact fdOf_eq F
theorem b_judged : Binds K (fdOf K d_judged.at_) ["duty", "kind"] [] := (F_judged T).bindsN fun _ _ _ _ _ _ us hl => match us, hl with | [_, _], _ => rfl
theorem F_said_of_name : FunD K "said_of_name" "said_of_name" (defArgs s_said_of_name) (defBody s_said_of_name) (defScope s_said_of_name) (d_said_of_name.dvs K) [] (He.fAd K d_said_of_name.at_) (fdOf K d_said_of_name.at_) := by obtain ⟨fd, F⟩ := T.c.def_ 66 (d := d_said_of_name) rfl; exact fdOf_eq F
theorem b_said_of_name : Binds K (fdOf K d_said_of_name.at_) ["duty", "word", "name"] [] := (F_said_of_name T).bindsN fun _ _ _ _ _ _ us hl => match us, hl with | [_, _, _], _ => rfl
theorem F_said : FunD K "said" "said" (defArgs s_said) (defBody s_said) (defScope s_said) (d_said.dvs K) [] (He.fAd K d_said.at_) (fdOf K d_said.at_) := by obtain ⟨fd, F⟩ := T.c.def_ 67 (d := d_said) rfl; exact fdOf_eq F
theorem b_said : Binds K (fdOf K d_said.at_) ["duty", "word", "blank", "rest"] [] := (F_said T).bindsN fun _ _ _ _ _ _ us hl => match us, hl with | [_, _, _, _], _ => rfl
theorem F_Desk_init : FunD K "__init__" "Desk.__init__" (defArgs s_Desk_init) (defBody s_Desk_init) (defScope s_Desk_init) (d_Desk_init.dvs K) [] (He.fAd K d_Desk_init.at_) (fdOf K d_Desk_init.at_) := by obtain ⟨fd, F⟩ := T.c.def_ 68 (d := d_Desk_init) rfl; exact fdOf_eq F
theorem b_Desk_init : Binds K (fdOf K d_Desk_init.at_) ["self"] [] := (F_Desk_init T).bindsN fun _ _ _ _ _ _ us hl => match us, hl with | [_], _ => rfl
theorem F_Desk_say : FunD K "say" "Desk.say" (defArgs s_Desk_say) (defBody s_Desk_say) (defScope s_Desk_say) (d_Desk_say.dvs K) [] (He.fAd K d_Desk_say.at_) (fdOf K d_Desk_say.at_) := by obtain ⟨fd, F⟩ := T.c.def_ 69 (d := d_Desk_say) rfl; exact fdOf_eq F
theorem b_Desk_say : Binds K (fdOf K d_Desk_say.at_) ["self", "line"] [] := (F_Desk_say T).bindsN fun _ _ _ _ _ _ us hl => match us, hl with | [_, _], _ => rfl
theorem F_l_cell_at : FunD K "_law_cell_at" "_law_cell_at" (defArgs s_l_cell_at) (defBody s_l_cell_at) (defScope s_l_cell_at) (d_l_cell_at.dvs K) [] (He.fAd K d_l_cell_at.at_) (fdOf K d_l_cell_at.at_) := by obtain ⟨fd, F⟩ := T.c.def_ 70 (d := d_l_cell_at) rfl; exact fdOf_eq F
theorem b_l_cell_at : Binds K (fdOf K d_l_cell_at.at_) ["_law_script", "_law_k"] [] := (F_l_cell_at T).bindsN fun _ _ _ _ _ _ us hl => match us, hl with | [_, _], _ => rfl
theorem F_l_stream : FunD K "_law_stream" "_law_stream" (defArgs s_l_stream) (defBody s_l_stream) (defScope s_l_stream) (d_l_stream.dvs K) [] (He.fAd K d_l_stream.at_) (fdOf K d_l_stream.at_) := by obtain ⟨fd, F⟩ := T.c.def_ 71 (d := d_l_stream) rfl; exact fdOf_eq F
theorem b_l_stream : Binds K (fdOf K d_l_stream.at_) ["_law_cell", "_law_many"] [] := (F_l_stream T).bindsN fun _ _ _ _ _ _ us hl => match us, hl with | [_, _], _ => rfl
theorem F_l_names : FunD K "_law_names" "_law_names" (defArgs s_l_names) (defBody s_l_names) (defScope s_l_names) (d_l_names.dvs K) [] (He.fAd K d_l_names.at_) (fdOf K d_l_names.at_) := by obtain ⟨fd, F⟩ := T.c.def_ 72 (d := d_l_names) rfl; exact fdOf_eq F
theorem b_l_names : Binds K (fdOf K d_l_names.at_) ["_law_cell", "_law_many"] [] := (F_l_names T).bindsN fun _ _ _ _ _ _ us hl => match us, hl with | [_, _], _ => rfl
theorem F_l_parts : FunD K "_law_parts" "_law_parts" (defArgs s_l_parts) (defBody s_l_parts) (defScope s_l_parts) (d_l_parts.dvs K) [] (He.fAd K d_l_parts.at_) (fdOf K d_l_parts.at_) := by obtain ⟨fd, F⟩ := T.c.def_ 73 (d := d_l_parts) rfl; exact fdOf_eq F
theorem b_l_parts : Binds K (fdOf K d_l_parts.at_) ["_law_cell", "_law_unit", "_law_many", "_law_name", "_law_thing"] [] := (F_l_parts T).bindsN fun _ _ _ _ _ _ us hl => match us, hl with | [_, _, _, _, _], _ => rfl
theorem F_l_text : FunD K "_law_text" "_law_text" (defArgs s_l_text) (defBody s_l_text) (defScope s_l_text) (d_l_text.dvs K) [] (He.fAd K d_l_text.at_) (fdOf K d_l_text.at_) := by obtain ⟨fd, F⟩ := T.c.def_ 74 (d := d_l_text) rfl; exact fdOf_eq F
theorem b_l_text : Binds K (fdOf K d_l_text.at_) ["_law_parts_here"] [] := (F_l_text T).bindsN fun _ _ _ _ _ _ us hl => match us, hl with | [_], _ => rfl
theorem F_l_figure : FunD K "_law_figure" "_law_figure" (defArgs s_l_figure) (defBody s_l_figure) (defScope s_l_figure) (d_l_figure.dvs K) [] (He.fAd K d_l_figure.at_) (fdOf K d_l_figure.at_) := by obtain ⟨fd, F⟩ := T.c.def_ 75 (d := d_l_figure) rfl; exact fdOf_eq F
theorem b_l_figure : Binds K (fdOf K d_l_figure.at_) ["_law_word"] [] := (F_l_figure T).bindsN fun _ _ _ _ _ _ us hl => match us, hl with | [_], _ => rfl
theorem F_l_row_read : FunD K "_law_row_read" "_law_row_read" (defArgs s_l_row_read) (defBody s_l_row_read) (defScope s_l_row_read) (d_l_row_read.dvs K) [] (He.fAd K d_l_row_read.at_) (fdOf K d_l_row_read.at_) := by obtain ⟨fd, F⟩ := T.c.def_ 76 (d := d_l_row_read) rfl; exact fdOf_eq F
theorem b_l_row_read : Binds K (fdOf K d_l_row_read.at_) ["_law_text_here", "_law_some"] [] := (F_l_row_read T).bindsN fun _ _ _ _ _ _ us hl => match us, hl with | [_, _], _ => rfl
theorem F_l_legal : FunD K "_law_legal" "_law_legal" (defArgs s_l_legal) (defBody s_l_legal) (defScope s_l_legal) (d_l_legal.dvs K) [] (He.fAd K d_l_legal.at_) (fdOf K d_l_legal.at_) := by obtain ⟨fd, F⟩ := T.c.def_ 77 (d := d_l_legal) rfl; exact fdOf_eq F
theorem b_l_legal : Binds K (fdOf K d_l_legal.at_) ["_law_row", "_law_some"] [] := (F_l_legal T).bindsN fun _ _ _ _ _ _ us hl => match us, hl with | [_, _], _ => rfl
theorem F_l_ends : FunD K "_law_ends" "_law_ends" (defArgs s_l_ends) (defBody s_l_ends) (defScope s_l_ends) (d_l_ends.dvs K) [] (He.fAd K d_l_ends.at_) (fdOf K d_l_ends.at_) := by obtain ⟨fd, F⟩ := T.c.def_ 78 (d := d_l_ends) rfl; exact fdOf_eq F
theorem b_l_ends : Binds K (fdOf K d_l_ends.at_) ["_law_text_here", "_law_row"] [] := (F_l_ends T).bindsN fun _ _ _ _ _ _ us hl => match us, hl with | [_, _], _ => rfl
theorem F_l_hardest : FunD K "_law_hardest" "_law_hardest" (defArgs s_l_hardest) (defBody s_l_hardest) (defScope s_l_hardest) (d_l_hardest.dvs K) [] (He.fAd K d_l_hardest.at_) (fdOf K d_l_hardest.at_) := by obtain ⟨fd, F⟩ := T.c.def_ 79 (d := d_l_hardest) rfl; exact fdOf_eq F
theorem b_l_hardest : Binds K (fdOf K d_l_hardest.at_) ["_law_desk", "_law_some", "_law_at"] [] := (F_l_hardest T).bindsN fun _ _ _ _ _ _ us hl => match us, hl with | [_, _, _], _ => rfl
theorem F_l_come_to : FunD K "_law_come_to" "_law_come_to" (defArgs s_l_come_to) (defBody s_l_come_to) (defScope s_l_come_to) (d_l_come_to.dvs K) [] (He.fAd K d_l_come_to.at_) (fdOf K d_l_come_to.at_) := by obtain ⟨fd, F⟩ := T.c.def_ 80 (d := d_l_come_to) rfl; exact fdOf_eq F
theorem b_l_come_to : Binds K (fdOf K d_l_come_to.at_) ["_law_desk", "_law_some"] [] := (F_l_come_to T).bindsN fun _ _ _ _ _ _ us hl => match us, hl with | [_, _], _ => rfl
theorem F_l_turned : FunD K "_law_turned" "_law_turned" (defArgs s_l_turned) (defBody s_l_turned) (defScope s_l_turned) (d_l_turned.dvs K) [] (He.fAd K d_l_turned.at_) (fdOf K d_l_turned.at_) := by obtain ⟨fd, F⟩ := T.c.def_ 81 (d := d_l_turned) rfl; exact fdOf_eq F
theorem b_l_turned : Binds K (fdOf K d_l_turned.at_) ["_law_desk", "_law_some", "_law_cell"] [] := (F_l_turned T).bindsN fun _ _ _ _ _ _ us hl => match us, hl with | [_, _, _], _ => rfl
theorem F_law : FunD K "law" "law" (defArgs s_law) (defBody s_law) (defScope s_law) (d_law.dvs K) [] (He.fAd K d_law.at_) (fdOf K d_law.at_) := by obtain ⟨fd, F⟩ := T.c.def_ 82 (d := d_law) rfl; exact fdOf_eq F
theorem b_law : Binds K (fdOf K d_law.at_) ["_law_script"] [] := (F_law T).bindsN fun _ _ _ _ _ _ us hl => match us, hl with | [_], _ => rfl
theorem oex : OexC K (He.ga K "NotKept") := by
  have m := T.more
  unfold ex at m
  simp only [Bool.and_eq_true, decide_eq_true_eq] at m
  obtain ⟨m1, m2, m3, m4, m5, _⟩ := m
  exact ⟨oexB_ok m1, m2, m3, m4, m5⟩
theorem xfc : XfC K (He.ga K "NotKept") := by
  have m := T.more
  unfold ex at m
  simp only [Bool.and_eq_true, decide_eq_true_eq] at m
  obtain ⟨m1, m2, m3, m4, m5, m6, _⟩ := m
  exact xfB_ok m6
theorem exi : PySem.W.findIn K (.ref (He.ga K "NotKept")) "__init__" = some (some (.ref (He.fAd K d_NotKept_init.at_))) ∧ PySem.W.typeIn K (.ref (He.fAd K d_NotKept_init.at_)) = some (.type "function") := by
  have m := T.more
  unfold ex at m
  simp only [Bool.and_eq_true, decide_eq_true_eq] at m
  obtain ⟨m1, m2, m3, m4, m5, m6, m7, m8, _⟩ := m
  exact ⟨m7, m8⟩
theorem isW {H : Hp} {a dx : Addr} {fs : List (Str × V)} (e : H a = some (.ins (He.ga K "Work") dx fs)) : TyOf K H (.ref a) (.ref (He.ga K "Work")) := by
  have m := T.more
  unfold ex wkB at m
  simp only [Bool.and_eq_true, decide_eq_true_eq] at m
  obtain ⟨m1, m2, m3, m4, m5, m6, m7, m8, n1, n2, n3, n4⟩ := m
  exact .ins e (c_Work T) n1 n2 n3 n4
end
end Dty
set_option Elab.async false
set_option linter.all false
set_option maxRecDepth 100000
set_option maxHeartbeats 4000000
namespace Dty
open PySem PySem.Spec PyProof.Rows L2 Dq
/-! ### small words -/
theorem itT {A B : Prop} {c : Bool} (e : c = true) (h : A) : if c = true then A else B := by rw [if_pos e]; exact h
theorem itF {A B : Prop} {c : Bool} (e : c = false) (h : B) : if c = true then A else B := by rw [e]; exact h
theorem itc {A B : Prop} {c : Bool} (h1 : c = true → A) (h2 : c = false → B) : if c = true then A else B := by
  cases c with
  | true => exact h1 rfl
  | false => exact h2 rfl
section
variable {X : Cx} {x : Str} {pos : Pos} {n : Int} {z : Str}
theorem pe_gint (hg : Gl X x) (hm : ∃ t, X.mg x = some (.int n t)) (hd : (x == ("__debug__" : Str)) = false := by decide) : PE X (.Name x pos) (tC (.int n)) := by
  obtain ⟨t, e⟩ := hm
  exact pe_glob hg e ⟨t, rfl⟩ hd
theorem pe_gstr (hg : Gl X x) (hm : ∃ t, X.mg x = some (.str z t)) (hd : (x == ("__debug__" : Str)) = false := by decide) : PE X (.Name x pos) (tC (.str z)) := by
  obtain ⟨t, e⟩ := hm
  exact pe_glob hg e ⟨t, rfl⟩ hd
end
theorem for_signs {x : Str} {g : TG} {tb : TS} {D : Ends} {σ : L2.St} {H : Hp} (Pv : Nat → L2.St → Hp → Prop) (start : Pv 0 σ H)
    (turn : ∀ i c σ H, x.cps[i]? = some c → Pv i σ H → g (.str ⟨#[c]⟩) σ H fun σ2 H2 => tb { D with nx := Pv (i + 1), ct := Pv (i + 1), bk := D.nx } σ2 H2) (done : ∀ σ H, Pv x.cps.size σ H → D.nx σ H) :
    ∃ W : Nat → Nat → L2.St → Hp → Prop, (∃ m, W 0 m σ H) ∧ ∀ i m σ H, W i m σ H → ((Its x).stop i H ∧ D.nx σ H) ∨
      ((Its x).go i H ∧ ∃ N : L2.St → Hp → Prop, (∀ σ' H', N σ' H' → ∃ m', m' < m ∧ W (i + 1) m' σ' H') ∧ ∀ v H', (Its x).yld i H v H' → g v σ H' fun σ2 H2 => tb { D with nx := N, ct := N, bk := D.nx } σ2 H2) := by
  refine ⟨fun i m σ H => m + i = x.cps.size ∧ Pv i σ H, ⟨x.cps.size, rfl, start⟩, ?_⟩
  rintro i m σ H ⟨em, p⟩
  rcases Nat.lt_or_ge i x.cps.size with lt | ge
  · refine .inr ⟨lt, Pv (i + 1), fun σ' H' q => ⟨m - 1, by omega, by omega, q⟩, ?_⟩
    rintro v H' ⟨rfl, c, ec, rfl⟩
    exact turn i c σ _ ec p
  · have ei : i = x.cps.size := by omega
    subst ei
    exact .inl ⟨ge, done σ H p⟩
section
variable {P : Program} {w : World} {K : PySem.W.Frag} {mg : Str → Option Value} {base : Heap}
/-! ### is_whole, rounds_up, ready, in_range, from_on -/
abbrev N_is_whole : List Str := ["thing"]
theorem sc_is_whole : FnScope N_is_whole ["thing"] (defScope s_is_whole) := ⟨rfl, rfl, rfl, by decide +kernel, rfl, by decide +kernel, by decide +kernel⟩
abbrev N_rounds_up : List Str := ["top", "bottom", "whole", "rest"]
theorem sc_rounds_up : FnScope N_rounds_up ["top", "bottom"] (defScope s_rounds_up) := ⟨rfl, rfl, rfl, by decide +kernel, rfl, by decide +kernel, by decide +kernel⟩
abbrev N_ready : List Str := ["coming"]
theorem sc_ready : FnScope N_ready ["coming"] (defScope s_ready) := ⟨rfl, rfl, rfl, by decide +kernel, rfl, by decide +kernel, by decide +kernel⟩
abbrev N_in_range : List Str := ["thing", "low", "high"]
theorem sc_in_range : FnScope N_in_range ["thing", "low", "high"] (defScope s_in_range) := ⟨rfl, rfl, rfl, by decide +kernel, rfl, by decide +kernel, by decide +kernel⟩
abbrev N_from_on : List Str := ["thing", "low"]
theorem sc_from_on : FnScope N_from_on ["thing", "low"] (defScope s_from_on) := ⟨rfl, rfl, rfl, by decide +kernel, rfl, by decide +kernel, by decide +kernel⟩
def sp_is_whole : Sp := fun vs H Q _ => ∃ i, vs = [.int i] ∧ Q (.bl true) H
theorem ok_is_whole (T : Says K mg) : FnOk P w K mg base CX0 1 (He.fAd K d_is_whole.at_) (fdOf K d_is_whole.at_) ["thing"] sp_is_whole := by
  refine (F_is_whole T).ok sc_is_whole (fun vs H Q E h => ?_) (fun cdv A outer s H vs Q E hr h => ?_)
  · obtain ⟨_, rfl, _⟩ := h
    rfl
  · refine ⟨_, PSs.nox (pss_one (ps_ret (pe_and (pe_callB call_isi (by rfl) (f_isinstance T) (by decide +kernel) (pa_cons (pv 0) (pa_cons (pe_bltn (v := .ty "int") rfl (f_int T) (by decide +kernel) rfl) pa_nil))) (pe_one (pe_not (pe_callB call_isi (by rfl) (f_isinstance T) (by decide +kernel) (pa_cons (pv 0) (pa_cons (pe_bltn (v := .ty "bool") rfl (f_bool T) (by decide +kernel) rfl) pa_nil)))))))), ?_⟩
    obtain ⟨i, rfl, k⟩ := h
    refine ⟨_, rfl, ?_⟩
    refine ⟨_, _, .type "int", .type "int", true, rfl, .ty _, .base (.int _), kit_ty (by decide +kernel), ?_⟩
    refine ⟨_, rfl, itT rfl ?_⟩
    refine ⟨_, rfl, ?_⟩
    exact ⟨_, _, .type "int", .type "bool", false, rfl, .ty _, .base (.int _), kit_ty (by decide +kernel), _, rfl, k⟩
def up (t b : Int) : Int := if t % b > 0 then t / b + 1 else t / b
def sp_rounds_up : Sp := fun vs H Q _ => ∃ t b, vs = [.int t, .int b] ∧ CDivP t b ∧ ∀ H', Ex H H' → Q (.int (up t b)) H'
theorem ok_rounds_up (T : Says K mg) : Dq.FnB P w K mg base 1 (He.fAd K d_rounds_up.at_) (fdOf K d_rounds_up.at_) ["top", "bottom"] sp_rounds_up := by
  refine Dq.both_ok (F_rounds_up T) sc_rounds_up (fun vs H Q E h => ?_) (fun cdv A outer s H vs Q E calm pn hq hcr h => ?_)
  · obtain ⟨_, _, rfl, _⟩ := h
    rfl
  · refine ⟨_, (pss_cons (ps_asg (pe_callB call_divmodW (by rfl) (f_divmod T) (by decide +kernel) (pa_cons (pv 0) (pa_cons (pv 1) pa_nil))) (pg_tupQ hq.x (pgs_cons (pg_name (i := 2) sc_rounds_up.nd rfl (Or.inl rfl)) (pgs_cons (pg_name (i := 3) sc_rounds_up.nd rfl (Or.inl rfl)) pgs_nil)))) (pss_cons (ps_if (pt_cmpR op_gt (pv 3) pe_int (nomark _)) (pss_one (ps_aug (i := 2) sc_rounds_up.nd rfl (Or.inl rfl) pe_int ip_add)) pss_nil) (pss_one (ps_ret (pv 2))))), ?_⟩
    obtain ⟨t, b, rfl, hd, k⟩ := h
    refine ⟨_, rfl, _, rfl, _, _, rfl, hd, fun p np => ?_⟩
    refine ⟨p, _, rfl, SqT.of upd_same, rfl, _, _, rfl, _, _, rfl, rfl, ?_⟩
    refine ⟨_, rfl, _, _, rfl, rfl, ⟨_, rfl, ?_⟩⟩
    refine itc (fun e => ?_) (fun e => ?_)
    · refine ⟨_, rfl, _, _, rfl, rfl, _, rfl, ?_⟩
      have e2 : up t b = t / b + 1 := if_pos (of_decide_eq_true e)
      rw [e2] at k
      exact k _ (Evl.Ex.new np)
    · refine ⟨_, rfl, ?_⟩
      have e2 : up t b = t / b := if_neg (of_decide_eq_false e)
      rw [e2] at k
      exact k _ (Evl.Ex.new np)
def sp_ready : Sp := fun vs H Q _ => ∃ (v : V) (c : Cm), vs = [v] ∧ CmV H v c ∧ Q (.int (c.come + c.late)) H
theorem ok_ready (T : Says K mg) : FnOk P w K mg base CX0 1 (He.fAd K d_ready.at_) (fdOf K d_ready.at_) ["coming"] sp_ready := by
  refine (F_ready T).ok sc_ready (fun vs H Q E h => ?_) (fun cdv A outer s H vs Q E hr h => ?_)
  · obtain ⟨_, _, rfl, _⟩ := h
    rfl
  · refine ⟨_, PSs.nox (pss_one (ps_ret (pe_op op_add (pe_ix ix_tup (pv 0) pe_int (fun _ _ => rfl)) (pe_ix ix_tup (pv 0) pe_int (fun _ _ => rfl))))), ?_⟩
    obtain ⟨_, c, rfl, ⟨a, rfl, e⟩, k⟩ := h
    refine ⟨_, rfl, _, _, _, _, rfl, rfl, SqT.of e, rfl, ?_⟩
    refine ⟨_, rfl, _, _, _, _, rfl, rfl, SqT.of e, rfl, ?_⟩
    exact ⟨_, _, rfl, rfl, k⟩
def sp_in_range : Sp := fun vs H Q _ => ∃ (i l u : Int), vs = [.int i, .int l, .int u] ∧ Q (.bl (decide (l ≤ i) && decide (i ≤ u))) H
theorem ok_in_range (T : Says K mg) : FnOk P w K mg base CX0 2 (He.fAd K d_in_range.at_) (fdOf K d_in_range.at_) ["thing", "low", "high"] sp_in_range := by
  refine (F_in_range T).ok sc_in_range (fun vs H Q E h => ?_) (fun cdv A outer s H vs Q E hr h => ?_)
  · obtain ⟨_, _, _, rfl, _⟩ := h
    rfl
  · refine ⟨_, PSs.nox (pss_one (ps_ret (pe_and (pe_call (ok_is_whole T) (hr.mono (by decide)) rfl (g_is_whole T) (F_is_whole T).kp (b_is_whole T) .nil pass0 (pa_cons (pv 0) pa_nil)) (pe_one (pe_chain op_le op_le (pv 1) (pv 0) (pv 2)))))), ?_⟩
    obtain ⟨i, l, u, rfl, k⟩ := h
    refine ⟨_, rfl, _, rfl, _, rfl, itT rfl ?_⟩
    refine ⟨_, rfl, _, rfl, ⟨_, _, rfl, rfl, _, rfl, ?_⟩⟩
    refine itc (fun e => ?_) (fun e => ?_)
    · rw [e, Bool.true_and] at k
      exact ⟨_, rfl, _, _, rfl, rfl, k⟩
    · rw [e, Bool.false_and] at k
      exact k
def sp_from_on : Sp := fun vs H Q _ => ∃ i l, vs = [.int i, .int l] ∧ Q (.bl (decide (i ≥ l))) H
theorem ok_from_on (T : Says K mg) : FnOk P w K mg base CX0 2 (He.fAd K d_from_on.at_) (fdOf K d_from_on.at_) ["thing", "low"] sp_from_on := by
  refine (F_from_on T).ok sc_from_on (fun vs H Q E h => ?_) (fun cdv A outer s H vs Q E hr h => ?_)
  · obtain ⟨_, _, rfl, _⟩ := h
    rfl
  · refine ⟨_, PSs.nox (pss_one (ps_ret (pe_and (pe_call (ok_is_whole T) (hr.mono (by decide)) rfl (g_is_whole T) (F_is_whole T).kp (b_is_whole T) .nil pass0 (pa_cons (pv 0) pa_nil)) (pe_one (pe_cmpR op_ge (pv 0) (pv 1) (nomark _)))))), ?_⟩
    obtain ⟨i, l, rfl, k⟩ := h
    refine ⟨_, rfl, _, rfl, _, rfl, itT rfl ?_⟩
    refine ⟨_, rfl, _, rfl, ⟨_, _, rfl, rfl, k⟩⟩
end
end Dty
set_option Elab.async false
set_option linter.all false
set_option maxRecDepth 100000
set_option maxHeartbeats 4000000
namespace Dty
open PySem PySem.Spec PyProof.Rows L2 Dq TL PySem.NumText
/-! ### texts -/
def Nm (x : Str) : Prop := 1 ≤ x.length ∧ x.length ≤ 8 ∧ ∀ c ∈ tl x, 97 ≤ c ∧ c ≤ 122
abbrev num (n : Nat) : Str := Str.ofString (toString ((n : Nat) : Int))
theorem ten60 {n : Nat} (h : n < 10 ^ 60) : (num n).length ≤ 60 := by
  rw [len_tl, tl_num]
  exact numL_len (by decide) h
theorem num_pos (n : Nat) : 1 ≤ (num n).length := by
  rw [len_tl, tl_num]
  exact List.length_pos_iff.mpr (numL_ne n)
theorem num_dig {n c : Nat} (h : c ∈ tl (num n)) : 48 ≤ c ∧ c ≤ 57 := by
  rw [tl_num] at h
  exact numL_digits n c h
theorem head48 (n : Nat) : ∀ r, numL n = 48 :: r → n = 0 := by
  induction n using Nat.strongRecOn with
  | _ n ih =>
    intro r e
    by_cases h : n < 10
    · rw [numL_lt h] at e
      have e1 := (List.cons.inj e).1
      omega
    · rw [numL_step (by omega)] at e
      have ne := numL_ne (n / 10)
      cases z : numL (n / 10) with
      | nil => exact absurd z ne
      | cons a b =>
        rw [z] at e
        have e1 := (List.cons.inj e).1
        subst e1
        have := ih (n / 10) (by omega) b z
        omega
theorem num0 : num 0 = "0" := by decide +kernel
theorem dig_in {c : Nat} (h : 48 ≤ c ∧ c ≤ 57) : c ∈ ("0123456789" : Str).cps.toList := by
  have e : ("0123456789" : Str).cps.toList = [48, 49, 50, 51, 52, 53, 54, 55, 56, 57] := by decide +kernel
  rw [e]
  simp only [List.mem_cons, List.mem_nil_iff, or_false]
  omega
theorem dig_out {c : Nat} (h : c ∈ ("0123456789" : Str).cps.toList) : 48 ≤ c ∧ c ≤ 57 := by
  have e : ("0123456789" : Str).cps.toList = [48, 49, 50, 51, 52, 53, 54, 55, 56, 57] := by decide +kernel
  rw [e] at h
  simp only [List.mem_cons, List.mem_nil_iff, or_false] at h
  omega
theorem let_in {c : Nat} (h : 97 ≤ c ∧ c ≤ 122) : c ∈ ("abcdefghijklmnopqrstuvwxyz" : Str).cps.toList := by
  have e : ("abcdefghijklmnopqrstuvwxyz" : Str).cps.toList = [97, 98, 99, 100, 101, 102, 103, 104, 105, 106, 107, 108, 109, 110, 111, 112, 113, 114, 115, 116, 117, 118, 119, 120, 121, 122] := by decide +kernel
  rw [e]
  simp only [List.mem_cons, List.mem_nil_iff, or_false]
  omega
theorem posP : (0 : Int) < 2147483647 := by decide
theorem cut_from (xs : List V) (k : Nat) : cutV xs (some (k : Int)) none = xs.drop k := by
  unfold cutV
  rw [HT.sIx_none, HT.sIx_nat]
  rcases Nat.le_total k xs.length with h | h
  · rw [Nat.min_eq_left h, List.take_of_length_le (by rw [List.length_drop]; exact Nat.le_refl _)]
  · rw [Nat.min_eq_right h, Nat.sub_self, List.take_zero, List.drop_eq_nil_of_le h]
theorem cut_upto (xs : List V) (k : Nat) : cutV xs none (some (k : Int)) = xs.take k := by
  unfold cutV
  rw [HT.sIx_none, HT.sIx_nat, List.drop_zero, Nat.sub_zero]
  rcases Nat.le_total k xs.length with h | h
  · rw [Nat.min_eq_left h]
  · rw [Nat.min_eq_right h, List.take_of_length_le (Nat.le_refl _), List.take_of_length_le h]
theorem cut_part (xs : List V) (j k : Nat) (h : k ≤ xs.length) (jk : j ≤ k) : cutV xs (some (j : Int)) (some (k : Int)) = (xs.drop j).take (k - j) := by
  unfold cutV
  rw [HT.sIx_nat, HT.sIx_nat, Nat.min_eq_left h, Nat.min_eq_left (by omega)]
theorem cps_mem {x : Str} {i c : Nat} (h : x.cps[i]? = some c) : c ∈ tl x := by
  rw [← Array.getElem?_toList] at h
  exact List.mem_of_getElem? h
theorem starts0 {n : Nat} (h : n ≠ 0) : Txt.startswith (num n) "0" = false := by
  unfold Txt.startswith
  rw [StrLaws.subAt_eq]
  have e : ((num n).cps.toList) = numL n := tl_num n
  rw [e]
  cases z : numL n with
  | nil => exact absurd z (numL_ne n)
  | cons a b =>
    have ha : a ≠ 48 := fun q => h (head48 n b (by rw [z, q]))
    have e2 : ("0" : Str).cps.toList = [48] := by decide +kernel
    have e3 : ("0" : Str).length = 1 := by decide +kernel
    rw [e2, e3]
    simp [ha]
section
variable {P : Program} {w : World} {K : PySem.W.Frag} {mg : Str → Option Value} {base : Heap}
abbrev N_is_name : List Str := ["thing", "sign"]
theorem sc_is_name : FnScope N_is_name ["thing"] (defScope s_is_name) := ⟨rfl, rfl, rfl, by decide +kernel, rfl, by decide +kernel, by decide +kernel⟩
abbrev N_is_number : List Str := ["word", "sign"]
theorem sc_is_number : FnScope N_is_number ["word"] (defScope s_is_number) := ⟨rfl, rfl, rfl, by decide +kernel, rfl, by decide +kernel, by decide +kernel⟩
abbrev N_number_in : List Str := ["word"]
theorem sc_number_in : FnScope N_number_in ["word"] (defScope s_number_in) := ⟨rfl, rfl, rfl, by decide +kernel, rfl, by decide +kernel, by decide +kernel⟩
abbrev N_words_of : List Str := ["text"]
theorem sc_words_of : FnScope N_words_of ["text"] (defScope s_words_of) := ⟨rfl, rfl, rfl, by decide +kernel, rfl, by decide +kernel, by decide +kernel⟩
abbrev N_l_cell_at : List Str := ["_law_script", "_law_k"]
theorem sc_l_cell_at : FnScope N_l_cell_at ["_law_script", "_law_k"] (defScope s_l_cell_at) := ⟨rfl, rfl, rfl, by decide +kernel, rfl, by decide +kernel, by decide +kernel⟩
abbrev N_l_stream : List Str := ["_law_cell", "_law_many", "_law_found", "_law_rest", "_law_k", "_law_number"]
theorem sc_l_stream : FnScope N_l_stream ["_law_cell", "_law_many"] (defScope s_l_stream) := ⟨rfl, rfl, rfl, by decide +kernel, rfl, by decide +kernel, by decide +kernel⟩
abbrev N_l_figure : List Str := ["_law_word", "_law_sign"]
theorem sc_l_figure : FnScope N_l_figure ["_law_word"] (defScope s_l_figure) := ⟨rfl, rfl, rfl, by decide +kernel, rfl, by decide +kernel, by decide +kernel⟩
def sp_is_name : Sp := fun vs H Q _ => ∃ x, vs = [.str x] ∧ Nm x ∧ Q (.bl true) H
theorem ok_is_name (T : Says K mg) : FnOk P w K mg base CX0 1 (He.fAd K d_is_name.at_) (fdOf K d_is_name.at_) ["thing"] sp_is_name := by
  refine (F_is_name T).ok sc_is_name (fun vs H Q E h => ?_) (fun cdv A outer s H vs Q E hr h => ?_)
  · obtain ⟨_, rfl, _⟩ := h
    rfl
  · refine ⟨_, PSs.nox (pss_cons (ps_if (PW.pt (pw_or (pt_not (pt_val (pe_callB call_isi (by rfl) (f_isinstance T) (by decide +kernel) (pa_cons (pv 0) (pa_cons (pe_bltn (v := .ty "str") rfl (f_str T) (by decide +kernel) rfl) pa_nil))))) (pw_or1 (pt_not (pt_chain op_le op_le pe_int (pe_callB call_len_str (by rfl) (f_len T) (by decide +kernel) (pa_cons (pv 0) pa_nil)) (pe_gint rfl (i_MOST_SIGNS T))))))) (pss_one (ps_ret pe_bl)) pss_nil) (pss_cons (ps_for PassesOwn.never rfl (pi_str (pv 0)) (pg_name (i := 1) sc_is_name.nd rfl (Or.inl rfl)) (pss_one (ps_if (pt_cmpR op_notIn_sign (pv 1) (pe_gstr rfl (i_LETTERS T)) (by rfl)) (pss_one (ps_ret pe_bl)) pss_nil))) (pss_one (ps_ret pe_bl)))), ?_⟩
    obtain ⟨x, rfl, ⟨l1, l8, lt⟩, k⟩ := h
    refine ⟨_, rfl, ⟨_, _, .type "str", .type "str", true, rfl, .ty _, .base (.str _), kit_ty (by decide +kernel), _, rfl, ?_⟩⟩
    refine itF rfl ?_
    refine ⟨_, rfl, _, rfl, Nat.le_trans l8 (by decide), ⟨_, _, rfl, rfl, _, rfl, ?_⟩⟩
    refine itT (decide_eq_true (by omega)) ?_
    refine ⟨_, _, rfl, rfl, _, rfl, ?_⟩
    have e8 : (!decide (((x.length : Nat) : Int) ≤ 8)) = false := by rw [decide_eq_true (by omega)]; rfl
    refine itF e8 ?_
    refine ⟨_, rfl, x, rfl, for_signs (fun i σ H' => H' = H ∧ ∃ v, σ = [some (.str x), v]) ⟨rfl, _, rfl⟩ ?_ ?_⟩
    · rintro i c σ H' hc ⟨rfl, v, rfl⟩
      refine ⟨_, rfl, c, _, rfl, rfl, _, rfl, ?_⟩
      rw [decide_eq_true (let_in (lt c (cps_mem hc)))]
      refine itF rfl ?_
      exact ⟨rfl, _, rfl⟩
    · rintro σ H' ⟨rfl, v, rfl⟩
      exact k
def sp_is_number : Sp := fun vs H Q _ => ∃ n : Nat, vs = [.str (num n)] ∧ n < 10 ^ 60 ∧ Q (.bl true) H
theorem ok_is_number (T : Says K mg) : FnOk P w K mg base CX0 1 (He.fAd K d_is_number.at_) (fdOf K d_is_number.at_) ["word"] sp_is_number := by
  refine (F_is_number T).ok sc_is_number (fun vs H Q E h => ?_) (fun cdv A outer s H vs Q E hr h => ?_)
  · obtain ⟨_, rfl, _⟩ := h
    rfl
  · refine ⟨_, PSs.nox (pss_cons (ps_if (pt_not (pt_chain op_le op_le pe_int (pe_callB call_len_str (by rfl) (f_len T) (by decide +kernel) (pa_cons (pv 0) pa_nil)) (pe_gint rfl (i_MOST_FIGURES T)))) (pss_one (ps_ret pe_bl)) pss_nil) (pss_cons (ps_for PassesOwn.never rfl (pi_str (pv 0)) (pg_name (i := 1) sc_is_number.nd rfl (Or.inl rfl)) (pss_one (ps_if (pt_cmpR op_notIn_sign (pv 1) (pe_gstr rfl (i_FIGURES T)) (by rfl)) (pss_one (ps_ret pe_bl)) pss_nil))) (pss_one (ps_ret (pe_or (pe_cmpR op_eq (pv 0) pe_str (nomark _)) (pe_one (pe_not (pe_m1 PySem.F.slot_str_startswith PySem.F.type_str_startswith mt_startswith (pv 0) pe_str)))))))), ?_⟩
    obtain ⟨n, rfl, hn, k⟩ := h
    have l60 := ten60 hn
    have l1 := num_pos n
    refine ⟨_, rfl, _, rfl, Nat.le_trans l60 (by decide), ⟨_, _, rfl, rfl, _, rfl, ?_⟩⟩
    refine itT (decide_eq_true (by omega)) ?_
    refine ⟨_, _, rfl, rfl, _, rfl, ?_⟩
    have e8 : (!decide ((((num n).length : Nat) : Int) ≤ 60)) = false := by rw [decide_eq_true (by omega)]; rfl
    refine itF e8 ?_
    refine ⟨_, rfl, _, rfl, for_signs (fun i σ H' => H' = H ∧ ∃ v, σ = [some (.str (num n)), v]) ⟨rfl, _, rfl⟩ ?_ ?_⟩
    · rintro i c σ H' hc ⟨rfl, v, rfl⟩
      refine ⟨_, rfl, c, _, rfl, rfl, _, rfl, ?_⟩
      rw [decide_eq_true (dig_in (num_dig (cps_mem hc)))]
      refine itF rfl ?_
      exact ⟨rfl, _, rfl⟩
    · rintro σ H' ⟨rfl, v, rfl⟩
      refine ⟨_, rfl, rfl, _, rfl, ?_⟩
      refine itc (fun _ => k) (fun e => ?_)
      refine ⟨_, rfl, ⟨_, rfl⟩, _, _, rfl, rfl, _, rfl, ?_⟩
      rw [starts0 (fun z => ?_)]
      · exact k
      · rw [z] at e
        exact absurd (congrArg V.str num0) (of_decide_eq_false e)
def sp_number_in : Sp := fun vs H Q _ => ∃ n : Nat, vs = [.str (num n)] ∧ n < 10 ^ 60 ∧ Q (.int (n : Nat)) H
theorem ok_number_in (T : Says K mg) : FnOk P w K mg base CX0 2 (He.fAd K d_number_in.at_) (fdOf K d_number_in.at_) ["word"] sp_number_in := by
  refine (F_number_in T).ok sc_number_in (fun vs H Q E h => ?_) (fun cdv A outer s H vs Q E hr h => ?_)
  · obtain ⟨_, rfl, _⟩ := h
    rfl
  · refine ⟨_, PSs.nox (pss_cons (ps_if (pt_not (pt_val (pe_call (ok_is_number T) (hr.mono (by decide)) rfl (g_is_number T) (F_is_number T).kp (b_is_number T) .nil pass0 (pa_cons (pv 0) pa_nil)))) (pss_one ps_never) pss_nil) (pss_one (ps_ret (pe_callTy call_int_str (by rfl) (f_int T) (by decide +kernel) (pa_cons (pv 0) pa_nil))))), ?_⟩
    obtain ⟨n, rfl, hn, k⟩ := h
    have l60 := ten60 hn
    refine ⟨_, rfl, n, rfl, hn, _, rfl, itF rfl ?_⟩
    refine ⟨_, rfl, _, _, rfl, int_num ?_, Nat.le_trans l60 (by decide), k⟩
    have z := l60
    rw [len_tl, tl_num] at z
    omega
abbrev blank : Str := " "
def sp_words_of : Sp := fun vs H Q _ => ∃ x, vs = [.str x] ∧ x.length + 2 ≤ sizeLine ∧ rNewStrs (Txt.split x blank) H Q
theorem ok_words_of (T : Says K mg) : FnOk P w K mg base CX0 1 (He.fAd K d_words_of.at_) (fdOf K d_words_of.at_) ["text"] sp_words_of := by
  refine (F_words_of T).ok sc_words_of (fun vs H Q E h => ?_) (fun cdv A outer s H vs Q E hr h => ?_)
  · obtain ⟨_, rfl, _⟩ := h
    rfl
  · refine ⟨_, PSs.nox (pss_cons (ps_if (pt_not (pt_val (pe_callB call_isi (by rfl) (f_isinstance T) (by decide +kernel) (pa_cons (pv 0) (pa_cons (pe_bltn (v := .ty "str") rfl (f_str T) (by decide +kernel) rfl) pa_nil))))) (pss_one ps_never) pss_nil) (pss_one (ps_ret (pe_split (pv 0) pe_str)))), ?_⟩
    obtain ⟨x, rfl, hx, k⟩ := h
    refine ⟨_, rfl, ⟨_, _, .type "str", .type "str", true, rfl, .ty _, .base (.str _), kit_ty (by decide +kernel), _, rfl, itF rfl ?_⟩⟩
    exact ⟨_, rfl, ⟨_, rfl⟩, _, _, rfl, rfl, by decide +kernel, hx, k⟩
def sp_cell_at (K : PySem.W.Frag) : Sp := fun vs H Q _ => ∃ (a : Addr) (ns : List Int) (k : Nat), vs = [.ref a, .int (k : Nat)] ∧ SqL K H a (ns.map V.int) ∧ Q (.int (ns.getD k 0)) H
theorem ok_l_cell_at (T : Says K mg) : FnOk P w K mg base CX0 1 (He.fAd K d_l_cell_at.at_) (fdOf K d_l_cell_at.at_) ["_law_script", "_law_k"] (sp_cell_at K) := by
  refine (F_l_cell_at T).ok sc_l_cell_at (fun vs H Q E h => ?_) (fun cdv A outer s H vs Q E hr h => ?_)
  · obtain ⟨_, _, _, rfl, _⟩ := h
    rfl
  · refine ⟨_, PSs.nox (pss_cons (ps_if (pt_cmpR op_lt (pv 1) (pe_callB call_len_seq (by rfl) (f_len T) (by decide +kernel) (pa_cons (pv 0) pa_nil)) (nomark _)) (pss_one (ps_ret (pe_ix ix_list (pv 0) (pv 1) (fun _ _ => rfl)))) pss_nil) (pss_one (ps_ret pe_int))), ?_⟩
    obtain ⟨a, ns, k, rfl, hs, q⟩ := h
    refine ⟨_, rfl, _, rfl, _, _, rfl, .inl hs, _, _, rfl, rfl, _, rfl, ?_⟩
    refine itc (fun e => ?_) (fun e => ?_)
    · have lt : k < ns.length := by
        have z := of_decide_eq_true e
        rw [List.length_map] at z
        omega
      refine ⟨_, rfl, _, rfl, _, _, _, _, rfl, rfl, hs, atI_nat (v := .int (ns.getD k 0)) ?_, ?_⟩
      · rw [List.getElem?_map, List.getD_eq_getElem?_getD]
        simp [lt]
      · exact q
    · have ge : ns.length ≤ k := by
        have z := of_decide_eq_false e
        rw [List.length_map] at z
        omega
      have e0 : ns.getD k 0 = 0 := by simp [List.getD_eq_getElem?_getD, ge]
      rw [e0] at q
      exact q
def sp_stream : Sp := fun vs H Q _ => ∃ (c : Int) (m : Nat), vs = [.int c, .int (m : Nat)] ∧ m ≤ 100 ∧ ∀ (p : Addr) (ns : List Int) (H' : Hp), H p = none → Ex H H' → H' p = some (.lst (ns.map V.int)) → ns.length = m → (∀ x ∈ ns, 0 ≤ x ∧ x < 2147483647) → Q (.ref p) H'
theorem ok_l_stream (T : Says K mg) : FnOk P w K mg base CX0 1 (He.fAd K d_l_stream.at_) (fdOf K d_l_stream.at_) ["_law_cell", "_law_many"] sp_stream := by
  refine (F_l_stream T).ok sc_l_stream (fun vs H Q E h => ?_) (fun cdv A outer s H vs Q E hr h => ?_)
  · obtain ⟨_, _, rfl, _⟩ := h
    rfl
  · refine ⟨_, PSs.nox (pss_cons (ps_set (i := 2) sc_l_stream.nd rfl (Or.inl rfl) (pe_lst pa_nil)) (pss_cons (ps_if (pt_cmpR op_ge (pv 0) (pe_op op_pow pe_int pe_int) (nomark _)) (pss_cons (ps_set (i := 3) sc_l_stream.nd rfl (Or.inl rfl) (pe_op op_sub (pv 0) (pe_op op_pow pe_int pe_int))) (pss_cons (ps_for PassesOwn.never rfl (pi_range1 (by rfl) (f_range T) (pa_cons (pv 1) pa_nil)) (pg_name (i := 4) sc_l_stream.nd rfl (Or.inl rfl)) (pss_cons (ps_expr (pe_bm PySem.F.plainAttrs_list PySem.F.slot_list_append PySem.F.type_list_append mt_append (pv 2) (pa_cons (pe_op op_mod (pv 3) pe_int) pa_nil))) (pss_one (ps_set (i := 3) sc_l_stream.nd rfl (Or.inl rfl) (pe_op op_fdivW (pv 3) pe_int))))) (pss_one (ps_ret (pv 2))))) pss_nil) (pss_cons (ps_set (i := 5) sc_l_stream.nd rfl (Or.inl rfl) (pe_op op_add (pe_op op_mod (pv 0) pe_int) pe_int)) (pss_cons (ps_for PassesOwn.never rfl (pi_range1 (by rfl) (f_range T) (pa_cons (pe_op op_add (pv 1) pe_int) pa_nil)) (pg_name (i := 4) sc_l_stream.nd rfl (Or.inl rfl)) (pss_cons (ps_set (i := 5) sc_l_stream.nd rfl (Or.inl rfl) (pe_op op_mod (pe_op op_add (pe_op op_add (pe_op op_mul (pv 5) (pv 5)) (pe_op op_mul pe_int (pv 5))) (pv 4)) pe_int)) (pss_one (ps_expr (pe_bm PySem.F.plainAttrs_list PySem.F.slot_list_append PySem.F.type_list_append mt_append (pv 2) (pa_cons (pv 5) pa_nil)))))) (pss_one (ps_ret (pe_slice sl_list (pv 2) (po_some pe_int) po_none))))))), ?_⟩
    obtain ⟨c, m, rfl, hm, k⟩ := h
    refine ⟨by decide, fun p np => ?_⟩
    have e0 : Ex H (upd H p (.lst [])) := Evl.Ex.new np
    refine ⟨_, rfl, _, _, rfl, rfl, ⟨by decide, by decide, by decide⟩, _, _, rfl, rfl, _, rfl, ?_⟩
    refine itc (fun _ => ?_) (fun _ => ?_)
    · refine ⟨_, rfl, _, _, rfl, rfl, ⟨by decide, by decide, by decide⟩, _, _, rfl, rfl, ?_⟩
      refine ⟨_, rfl, m, rfl, by omega, by omega, ?_⟩
      refine for_range (fun i σ H' => ∃ (r : Int) (v : Option V) (ns : List Int), σ = [some (.int c), some (.int (m : Nat)), some (.ref p), some (.int r), v, none] ∧ Ex H H' ∧ H' p = some (.lst (ns.map V.int)) ∧ ns.length = i ∧ ∀ x ∈ ns, 0 ≤ x ∧ x < 2147483647)
        ⟨_, _, [], rfl, e0, upd_same, rfl, by simp⟩ ?_ ?_
      · rintro i σ H' hi ⟨r, v, ns, rfl, e, hp, hl, hr⟩
        refine ⟨_, rfl, .inl ⟨rfl, _, SqL.of hp⟩, _, rfl, _, _, rfl, rfl, posP, p, _, _, rfl, rfl, hp, ?_, ?_⟩
        · rw [List.length_map]
          exact Nat.lt_of_lt_of_le (show ns.length < 1000 by omega) (by decide)
        refine ⟨_, rfl, _, _, rfl, rfl, wide_div (b := 31) (by decide) (by decide) (by decide) (by decide), ?_⟩
        refine ⟨_, _, ns ++ [r % 2147483647], rfl, e.mut np, by rw [upd_same, List.map_append]; rfl, by simp [hl], ?_⟩
        intro x hx
        rcases List.mem_append.mp hx with hx | hx
        · exact hr x hx
        · rw [List.mem_singleton.mp hx]
          exact ⟨Int.emod_nonneg _ (by decide), Int.emod_lt_of_pos _ (by decide)⟩
      · rintro σ H' ⟨r, v, ns, rfl, e, hp, hl, hr⟩
        exact ⟨_, rfl, k p ns H' np e hp hl hr⟩
    · refine ⟨_, rfl, _, _, rfl, rfl, posP, _, _, rfl, rfl, ?_⟩
      refine ⟨_, rfl, _, _, rfl, rfl, m + 2, by rfl, by omega, by omega, ?_⟩
      refine for_range (fun i σ H' => ∃ (r : Int) (v : Option V) (ns : List Int), σ = [some (.int c), some (.int (m : Nat)), some (.ref p), none, v, some (.int r)] ∧ Ex H H' ∧ H' p = some (.lst (ns.map V.int)) ∧ ns.length = i ∧ (∀ x ∈ ns, 0 ≤ x ∧ x < 2147483647) ∧ 0 ≤ r ∧ r < 2147531918)
        ⟨_, _, [], rfl, e0, upd_same, rfl, by simp, ?_, ?_⟩ ?_ ?_
      · have := Int.emod_nonneg c (show (2147483647 : Int) ≠ 0 by decide)
        omega
      · have := Int.emod_lt_of_pos c (show (0 : Int) < 2147483647 by decide)
        omega
      · rintro i σ H' hi ⟨r, v, ns, rfl, e, hp, hl, hr, r0, r1⟩
        refine ⟨_, rfl, _, rfl, _, _, rfl, rfl, .inl ⟨by omega, by omega⟩, _, rfl, _, _, rfl, rfl, .inl ⟨by decide, by decide⟩, _, _, rfl, rfl, _, rfl, _, _, rfl, rfl, _, _, rfl, rfl, posP, ?_⟩
        refine ⟨_, rfl, .inl ⟨rfl, _, SqL.of hp⟩, _, rfl, p, _, _, rfl, rfl, hp, ?_, ?_⟩
        · rw [List.length_map]
          exact Nat.lt_of_lt_of_le (show ns.length < 1000 by omega) (by decide)
        have b0 := Int.emod_nonneg (r * r + 48271 * r + (0 + (i : Int))) (show (2147483647 : Int) ≠ 0 by decide)
        have b1 := Int.emod_lt_of_pos (r * r + 48271 * r + (0 + (i : Int))) (show (0 : Int) < 2147483647 by decide)
        refine ⟨_, _, ns ++ [_], rfl, e.mut np, by rw [upd_same, List.map_append]; rfl, by simp [hl], ?_, b0, by omega⟩
        intro x hx
        rcases List.mem_append.mp hx with hx | hx
        · exact hr x hx
        · rw [List.mem_singleton.mp hx]
          exact ⟨b0, b1⟩
      · rintro σ H' ⟨r, v, ns, rfl, e, hp, hl, hr, _, _⟩
        refine ⟨_, rfl, 2, rfl, p, _, rfl, SqL.of hp, fun q nq => ?_⟩
        refine k q (ns.drop 2) _ (Evl.fresh_back e nq) (e.trans (Evl.Ex.new nq)) ?_ (by rw [List.length_drop, hl]; omega) fun x hx => hr x (List.mem_of_mem_drop hx)
        rw [upd_same, List.map_drop]
        exact congrArg (fun z => some (HO.lst z)) (cut_from _ 2)
def sp_figure : Sp := fun vs H Q _ => ∃ x : Str, vs = [.str x] ∧ x.length ≤ sizeLine ∧ ∀ i : Int, (∀ n : Nat, n < 10 ^ 60 → x = num n → i = n) → Q (.int i) H
theorem ok_l_figure (T : Says K mg) : FnOk P w K mg base CX0 1 (He.fAd K d_l_figure.at_) (fdOf K d_l_figure.at_) ["_law_word"] sp_figure := by
  refine (F_l_figure T).ok sc_l_figure (fun vs H Q E h => ?_) (fun cdv A outer s H vs Q E hr h => ?_)
  · obtain ⟨_, rfl, _⟩ := h
    rfl
  · refine ⟨_, PSs.nox (pss_cons (ps_if (PW.pt (pw_or (pt_cmpR op_eq (pv 0) pe_str (nomark _)) (pw_or (pt_cmpR op_gt (pe_callB call_len_str (by rfl) (f_len T) (by decide +kernel) (pa_cons (pv 0) pa_nil)) pe_int (nomark _)) (pw_or1 (PW.pt (pw_and (pt_cmpR op_eq (pe_ix ix_str (pv 0) pe_int (fun _ _ => rfl)) pe_str (nomark _)) (pw_and1 (pt_cmpR op_ne (pv 0) pe_str (nomark _))))))))) (pss_one (ps_ret (pe_op op_sub pe_int pe_int))) pss_nil) (pss_cons (ps_for PassesOwn.never rfl (pi_str (pv 0)) (pg_name (i := 1) sc_l_figure.nd rfl (Or.inl rfl)) (pss_one (ps_if (pt_cmpR op_notIn_sign (pv 1) pe_str (by rfl)) (pss_one (ps_ret (pe_op op_sub pe_int pe_int))) pss_nil))) (pss_one (ps_ret (pe_callTy call_int_str (by rfl) (f_int T) (by decide +kernel) (pa_cons (pv 0) pa_nil)))))), ?_⟩
    obtain ⟨x, rfl, hx, k⟩ := h
    refine ⟨_, rfl, rfl, _, rfl, ?_⟩
    refine itc (fun e => ?_) (fun ne => ?_)
    · refine itT rfl ⟨_, _, rfl, rfl, k _ fun n hn ex => ?_⟩
      have e1 : x = "" := V.str.inj (of_decide_eq_true e)
      have l1 := num_pos n
      rw [← ex, e1] at l1
      exact absurd l1 (by decide +kernel)
    refine ⟨_, rfl, _, rfl, hx, ⟨_, _, rfl, rfl, _, rfl, ?_⟩⟩
    refine itc (fun e => ?_) (fun nl => ?_)
    · refine itT rfl ⟨_, _, rfl, rfl, k _ fun n hn ex => ?_⟩
      have l1 := ten60 hn
      rw [← ex] at l1
      have := of_decide_eq_true e
      omega
    have x0 : x ≠ "" := fun z => absurd (congrArg V.str z) (of_decide_eq_false ne)
    obtain ⟨c, r, ec⟩ : ∃ c r, x.cps.toList = c :: r := by
      cases z : x.cps.toList with
      | nil => exact absurd (ext_tl (x := x) (y := "") (z.trans (by decide +kernel))) x0
      | cons c r => exact ⟨c, r, rfl⟩
    refine ⟨_, rfl, _, 0, c, rfl, rfl, hx, ?_, rfl, _, rfl, ?_⟩
    · rw [ec]
      show atI (c :: r) ((0 : Nat) : Int) = some c
      exact atI_nat rfl
    have eD : ("0123456789" : Str).cps.toList = [48, 49, 50, 51, 52, 53, 54, 55, 56, 57] := by decide +kernel
    refine itc (fun e1 => ⟨_, rfl, rfl, _, rfl, itc (fun e2 => ?_) (fun e2 => ?_)⟩) (fun e1 => itF rfl ?_)
    · refine ⟨_, _, rfl, rfl, k _ fun n hn ex => ?_⟩
      have c48 : c = 48 := by
        have z := V.str.inj (of_decide_eq_true e1)
        have z2 := congrArg tl z
        have z3 : tl ("0" : Str) = [48] := by decide +kernel
        rw [z3] at z2
        exact (List.cons.inj z2).1
      have en : numL n = 48 :: r := by rw [← tl_num, ← c48, ← ec, ex]
      have n0 := head48 n r en
      subst n0
      rw [ex, num0] at e2
      exact absurd e2 (by decide +kernel)
    all_goals
      refine ⟨_, rfl, x, rfl, for_signs (fun i σ H' => H' = H ∧ (∃ v, σ = [some (.str x), v]) ∧ ∀ d ∈ (tl x).take i, 48 ≤ d ∧ d ≤ 57) ⟨rfl, ⟨_, rfl⟩, by simp⟩ ?_ ?_⟩
      · rintro i d σ H' hd ⟨rfl, ⟨v, rfl⟩, ih⟩
        refine ⟨_, rfl, d, _, rfl, rfl, _, rfl, ?_⟩
        refine itc (fun e => ?_) (fun e => ?_)
        · refine ⟨_, _, rfl, rfl, k _ fun n hn ex => ?_⟩
          have q := num_dig (n := n) (c := d) (by rw [← ex]; exact cps_mem hd)
          rw [decide_eq_true (dig_in q)] at e
          cases e
        · refine ⟨rfl, ⟨_, rfl⟩, fun y hy => ?_⟩
          rw [List.take_succ, List.mem_append] at hy
          rcases hy with hy | hy
          · exact ih y hy
          · have e0 : (tl x)[i]? = some d := by rw [Array.getElem?_toList]; exact hd
            rw [e0] at hy
            rw [List.mem_singleton.mp hy]
            cases z : decide (d ∈ ("0123456789" : Str).cps.toList) with
            | false =>
              rw [z] at e
              cases e
            | true => exact dig_out (of_decide_eq_true z)
      · rintro σ H' ⟨rfl, ⟨v, rfl⟩, ih⟩
        have l70 : x.length ≤ 70 := by
          have := of_decide_eq_false nl
          omega
        have al : PySem.NumText.AllDigits x.cps.toList := fun y hy => ih y (by rw [List.take_of_length_le (by simp)]; exact hy)
        refine ⟨_, rfl, x, _, rfl, intText_digits al (by rw [ec]; simp) (by omega), by omega, k _ fun n hn ex => ?_⟩
        have e : tl x = numL n := by rw [ex]; exact tl_num n
        show ((PySem.NumText.digitsVal (tl x) : Nat) : Int) = n
        rw [e, numL_val]
end
end Dty
set_option Elab.async false
set_option linter.all false
set_option maxRecDepth 100000
set_option maxHeartbeats 4000000
namespace Dty
open PySem
/-! ### what the program computes -/
structure Rok (u : Int) (w : Wk) : Prop where
  nm : Nm w.name
  g1 : 3 * u ≤ w.gap
  g2 : w.gap < 8 * u
  l1 : 1 ≤ w.len
  l2 : w.len ≤ w.gap + 1
  d1 : 1 ≤ w.due
  d2 : w.due ≤ w.gap
  t1 : 0 ≤ w.late
  t2 : 8 * w.late ≤ 3 * w.gap
  h1 : w.holds.length ≤ 1
  h2 : ∀ h ∈ w.holds, Nm h.1 ∧ 0 ≤ h.2.1 ∧ h.2.1 < h.2.2 ∧ h.2.2 < w.len
structure Good (ws : List Wk) : Prop where
  ok : ∃ u : Int, 1 ≤ u ∧ u ≤ 1000000000000000 ∧ ∀ w ∈ ws, Rok u w
  nd : (ws.map (·.name)).Nodup
  few : ws.length ≤ 4
/-- the bounds of one work -/
structure Wb (w : Wk) : Prop where
  nm : Nm w.name
  g1 : 3 ≤ w.gap
  g2 : w.gap ≤ 8000000000000000
  l1 : 1 ≤ w.len
  l2 : w.len ≤ 8000000000000001
  d1 : 1 ≤ w.due
  d2 : w.due ≤ w.gap
  t1 : 0 ≤ w.late
  t2 : w.late ≤ w.gap
  h1 : w.holds.length ≤ 1
  h2 : ∀ h ∈ w.holds, Nm h.1 ∧ 0 ≤ h.2.1 ∧ h.2.1 < h.2.2 ∧ h.2.2 < w.len
theorem Good.wb {ws : List Wk} (g : Good ws) {w : Wk} (h : w ∈ ws) : Wb w := by
  obtain ⟨u, u1, u2, a⟩ := g.ok
  have r := a w h
  have := r.g1; have := r.g2; have := r.l2; have := r.t2; have := r.d2; have := r.d1; have := r.t1
  exact ⟨r.nm, by omega, by omega, r.l1, by omega, r.d1, r.d2, r.t1, by omega, r.h1, r.h2⟩
theorem Good.at {ws : List Wk} (g : Good ws) {i : Nat} {w : Wk} (h : ws[i]? = some w) : Wb w := g.wb (List.mem_of_getElem? h)
theorem holds_or {w : Wk} (b : Wb w) : w.holds = [] ∨ ∃ h, w.holds = [h] := by
  have l := b.h1
  match e : w.holds with
  | [] => exact .inl rfl
  | [h] => exact .inr ⟨h, rfl⟩
  | _ :: _ :: _ =>
    rw [e] at l
    simp at l
def hasT (t : Str) (w : Wk) : Bool := w.holds.any fun h => h.1 == t
def ceil (ws : List Wk) (t : Str) : Nat := ws.findIdx (hasT t)
theorem ceil_le {ws : List Wk} {i : Nat} {w : Wk} {t : Str} (h : ws[i]? = some w) (b : hasT t w = true) : ceil ws t ≤ i := by
  obtain ⟨lt, e⟩ := List.getElem?_eq_some_iff.mp h
  rcases Nat.lt_or_ge i (ceil ws t) with l | l
  · have z := List.not_of_lt_findIdx (p := hasT t) (xs := ws) (i := i) l
    rw [e] at z
    rw [b] at z
    cases z
  · exact l
def heldNow (w : Wk) (done : Int) : List Str := (w.holds.filter fun h => decide (h.2.1 < done) && decide (done < h.2.2)).map (·.1)
theorem heldNow_len {w : Wk} (b : Wb w) (done : Int) : (heldNow w done).length ≤ 1 := by
  unfold heldNow
  rw [List.length_map]
  exact Nat.le_trans (List.length_filter_le _ _) b.h1
theorem heldNow_has {w : Wk} {done : Int} {t : Str} (h : t ∈ heldNow w done) : hasT t w = true := by
  unfold heldNow at h
  obtain ⟨x, hx, rfl⟩ := List.mem_map.mp h
  unfold hasT
  rw [List.any_eq_true]
  exact ⟨x, (List.mem_filter.mp hx).1, by simp⟩
def rk (ws : List Wk) (i : Nat) (w : Wk) (done : Int) : Nat := (heldNow w done).foldl (fun m t => min m (ceil ws t)) i
/-- how long one weaker work may hold up work a -/
def hu (ws : List Wk) (a : Nat) (w : Wk) : Int := match w.holds with
  | (t, s, e) :: _ => if ceil ws t ≤ a then e - s - 1 else 0
  | [] => 0
def maxI (a b : Int) : Int := if b > a then b else a
def holdUp (ws : List Wk) (a : Nat) : Int := ((ws.drop (a + 1)).map (hu ws a)).foldl maxI 0
theorem hu_pos {ws : List Wk} {a : Nat} {w : Wk} (b : Wb w) : 0 ≤ hu ws a w := by
  unfold hu
  split
  · rename_i t s e r eq
    have z := b.h2 (t, s, e) (by rw [eq]; exact List.mem_cons_self)
    split
    · have := z.2.2.1
      simp only at this
      omega
    · exact Int.le_refl _
  · exact Int.le_refl _
theorem hu_le {ws : List Wk} {a : Nat} {w : Wk} (b : Wb w) : hu ws a w ≤ 8000000000000000 := by
  unfold hu
  have := b.l2
  split
  · rename_i t s e r eq
    have z := b.h2 (t, s, e) (by rw [eq]; exact List.mem_cons_self)
    simp only at z
    split
    · omega
    · decide
  · decide
theorem maxI_le {a b c : Int} (h1 : a ≤ c) (h2 : b ≤ c) : maxI a b ≤ c := by unfold maxI; split <;> omega
theorem le_maxI_l (a b : Int) : a ≤ maxI a b := by unfold maxI; split <;> omega
theorem le_maxI_r (a b : Int) : b ≤ maxI a b := by unfold maxI; split <;> omega
theorem fold_maxI_le {c : Int} : ∀ (l : List Int) (a : Int), a ≤ c → (∀ x ∈ l, x ≤ c) → l.foldl maxI a ≤ c
  | [], _, h, _ => h
  | x :: r, a, h, k => fold_maxI_le r _ (maxI_le h (k x List.mem_cons_self)) fun y hy => k y (List.mem_cons_of_mem _ hy)
theorem le_fold_maxI : ∀ (l : List Int) (a : Int), a ≤ l.foldl maxI a
  | [], _ => Int.le_refl _
  | x :: r, a => Int.le_trans (le_maxI_l a x) (le_fold_maxI r _)
theorem mem_fold_maxI : ∀ (l : List Int) (a x : Int), x ∈ l → x ≤ l.foldl maxI a
  | y :: r, a, x, h => by
    rcases List.mem_cons.mp h with rfl | h
    · exact Int.le_trans (le_maxI_r a x) (le_fold_maxI r _)
    · exact mem_fold_maxI r _ x h
theorem holdUp_pos {ws : List Wk} {a : Nat} : 0 ≤ holdUp ws a := le_fold_maxI _ _
theorem holdUp_le {ws : List Wk} (g : Good ws) {a : Nat} : holdUp ws a ≤ 8000000000000000 := by
  refine fold_maxI_le _ _ (by decide) fun x hx => ?_
  obtain ⟨w, hw, rfl⟩ := List.mem_map.mp hx
  exact hu_le (g.wb (List.mem_of_mem_drop hw))
def ci (w : Wk) (span : Int) : Int := if span < 1 then 0 else up (span + w.late) w.gap
theorem up_mono {a b g : Int} (hg : 0 < g) (h : a ≤ b) : up a g ≤ up b g := by
  unfold up
  have q1 := Int.emod_add_mul_ediv a g
  have q2 := Int.emod_add_mul_ediv b g
  have m1 := Int.emod_nonneg a (by omega : g ≠ 0)
  have m2 := Int.emod_nonneg b (by omega : g ≠ 0)
  have n1 := Int.emod_lt_of_pos a hg
  have n2 := Int.emod_lt_of_pos b hg
  have d := Int.ediv_le_ediv hg h
  split <;> split
  · omega
  · rcases Int.lt_or_le (a / g) (b / g) with l | l
    · omega
    · have e : a / g = b / g := by omega
      rw [e] at q1
      omega
  · omega
  · exact d
theorem up_pos {a g : Int} (hg : 0 < g) (h : 0 ≤ a) : 0 ≤ up a g := by
  unfold up
  have := Int.ediv_nonneg h (Int.le_of_lt hg)
  split <;> omega
theorem up_le {a g : Int} (hg : 1 ≤ g) (h : 0 ≤ a) : up a g ≤ a := by
  unfold up
  have q1 := Int.emod_add_mul_ediv a g
  have m1 := Int.emod_nonneg a (by omega : g ≠ 0)
  have d := Int.ediv_nonneg h (by omega : (0 : Int) ≤ g)
  have k : a / g ≤ g * (a / g) := by
    have z := Int.mul_le_mul_of_nonneg_right hg d
    omega
  split <;> omega
theorem ci_mono {w : Wk} (b : Wb w) {x y : Int} (h : x ≤ y) : ci w x ≤ ci w y := by
  unfold ci
  have := b.g1; have := b.t1
  split
  · split
    · exact Int.le_refl _
    · exact up_pos (by omega) (by omega)
  · rw [if_neg (by omega)]
    exact up_mono (by omega) (by omega)
theorem ci_pos {w : Wk} (b : Wb w) (x : Int) : 0 ≤ ci w x := by
  unfold ci
  have := b.g1; have := b.t1
  split
  · exact Int.le_refl _
  · exact up_pos (by omega) (by omega)
def loadL (l : List Wk) (span : Int) : Int := (l.map fun w => ci w span * w.len).sum
def load (ws : List Wk) (a : Nat) (w : Wk) (span : Int) : Int := holdUp ws a + w.len + loadL (ws.take a) span
theorem loadL_mono : ∀ {l : List Wk} (_ : ∀ w ∈ l, Wb w) {x y : Int} (_ : x ≤ y), loadL l x ≤ loadL l y
  | [], _, _, _, _ => Int.le_refl _
  | w :: r, hw, x, y, h => by
    have a := loadL_mono (l := r) (fun v hv => hw v (List.mem_cons_of_mem _ hv)) h
    have bw := hw w List.mem_cons_self
    have b := Int.mul_le_mul_of_nonneg_right (ci_mono bw h) (show (0 : Int) ≤ w.len by have := bw.l1; omega)
    show ci w x * w.len + loadL r x ≤ ci w y * w.len + loadL r y
    omega
theorem loadL_pos : ∀ {l : List Wk} (_ : ∀ w ∈ l, Wb w) (x : Int), 0 ≤ loadL l x
  | [], _, _ => Int.le_refl _
  | w :: r, hw, x => by
    have a := loadL_pos (l := r) (fun v hv => hw v (List.mem_cons_of_mem _ hv)) x
    have bw := hw w List.mem_cons_self
    have b := Int.mul_nonneg (ci_pos bw x) (show (0 : Int) ≤ w.len by have := bw.l1; omega)
    show 0 ≤ ci w x * w.len + loadL r x
    omega
theorem loadL_snoc (l : List Wk) (w : Wk) (x : Int) : loadL (l ++ [w]) x = loadL l x + ci w x * w.len := by
  unfold loadL
  rw [List.map_append, List.sum_append]
  simp
theorem load_mono {ws : List Wk} (g : Good ws) {a : Nat} {w : Wk} {x y : Int} (h : x ≤ y) : load ws a w x ≤ load ws a w y := by
  have z := loadL_mono (l := ws.take a) (fun v hv => g.wb (List.mem_of_mem_take hv)) h
  unfold load
  omega
theorem load_pos {ws : List Wk} (g : Good ws) {a : Nat} {w : Wk} (b : Wb w) (x : Int) : 1 ≤ load ws a w x := by
  have z := loadL_pos (l := ws.take a) (fun v hv => g.wb (List.mem_of_mem_take hv)) x
  have := b.l1
  have := holdUp_pos (ws := ws) (a := a)
  unfold load
  omega
/-- the answer: the least line that holds its own load, if it is in time -/
def Ans (ws : List Wk) (a : Nat) (w : Wk) : Option Int → Prop
  | none => ∀ L, 1 ≤ L → L + w.late ≤ w.due → L < load ws a w L
  | some L => 1 ≤ L ∧ L + w.late ≤ w.due ∧ load ws a w L ≤ L ∧ ∀ M, 1 ≤ M → load ws a w M ≤ M → L ≤ M
theorem ans_uniq {ws : List Wk} {a : Nat} {w : Wk} {x y : Option Int} (h : Ans ws a w x) (k : Ans ws a w y) : x = y := by
  cases x with
  | none => cases y with
    | none => rfl
    | some M =>
      have := h M k.1 k.2.1
      have := k.2.2.1
      omega
  | some L => cases y with
    | none =>
      have := k L h.1 h.2.1
      have := h.2.2.1
      omega
    | some M =>
      have := h.2.2.2 M k.1 k.2.2.1
      have := k.2.2.2 L h.1 h.2.2.1
      exact congrArg some (by omega)
/-- who blocks -/
def Blk (ws : List Wk) (a : Nat) : Option (Nat × Int) → Prop
  | none => holdUp ws a = 0
  | some (j, n) => a < j ∧ ∃ (v : Wk) (t : Str) (s e : Int), ws[j]? = some v ∧ v.holds = [(t, s, e)] ∧ ceil ws t ≤ a ∧ e - s - 1 = holdUp ws a ∧ 0 < holdUp ws a ∧ n = s + 1
end Dty
set_option Elab.async false
set_option linter.all false
set_option maxRecDepth 100000
set_option maxHeartbeats 4000000
namespace Dty
open PySem PySem.Spec PyProof.Rows L2 Dq
theorem ex_up {H : Hp} {p : Addr} {o : HO} (h : H p = none) : Ex H (upd H p o) := Evl.Ex.new h
def heldL (hs : List (Str × Int × Int)) (d : Int) : List Str := (hs.filter fun h => decide (h.2.1 < d) && decide (d < h.2.2)).map (·.1)
theorem heldL_snoc (hs : List (Str × Int × Int)) (h : Str × Int × Int) (d : Int) : heldL (hs ++ [h]) d = heldL hs d ++ (if (decide (h.2.1 < d) && decide (d < h.2.2)) = true then [h.1] else []) := by
  unfold heldL
  rw [List.filter_append, List.map_append]
  congr 1
  cases q : (decide (h.2.1 < d) && decide (d < h.2.2)) <;> simp [List.filter, q]
theorem heldL_le (hs : List (Str × Int × Int)) (d : Int) : (heldL hs d).length ≤ hs.length := by
  unfold heldL
  rw [List.length_map]
  exact List.length_filter_le _ _
theorem take_snoc {α : Type} {xs : List α} {j : Nat} {x : α} (h : xs[j]? = some x) : xs.take (j + 1) = xs.take j ++ [x] := by rw [List.take_succ, h]; rfl
section
variable {P : Program} {w : World} {K : PySem.W.Frag} {mg : Str → Option Value} {base : Heap}
abbrev N_Work_held : List Str := ["self"]
theorem sc_Work_held : FnScope N_Work_held ["self"] (defScope s_Work_held) := ⟨rfl, rfl, rfl, by decide +kernel, rfl, by decide +kernel, by decide +kernel⟩
abbrev N_Duty_size : List Str := ["self"]
theorem sc_Duty_size : FnScope N_Duty_size ["self"] (defScope s_Duty_size) := ⟨rfl, rfl, rfl, by decide +kernel, rfl, by decide +kernel, by decide +kernel⟩
abbrev N_Duty_work : List Str := ["self", "at"]
theorem sc_Duty_work : FnScope N_Duty_work ["self", "at"] (defScope s_Duty_work) := ⟨rfl, rfl, rfl, by decide +kernel, rfl, by decide +kernel, by decide +kernel⟩
abbrev N_due_at : List Str := ["duty", "coming"]
theorem sc_due_at : FnScope N_due_at ["duty", "coming"] (defScope s_due_at) := ⟨rfl, rfl, rfl, by decide +kernel, rfl, by decide +kernel, by decide +kernel⟩
abbrev N_ceiling : List Str := ["duty", "thing", "at", "hold"]
theorem sc_ceiling : FnScope N_ceiling ["duty", "thing"] (defScope s_ceiling) := ⟨rfl, rfl, rfl, by decide +kernel, rfl, by decide +kernel, by decide +kernel⟩
abbrev N_holding : List Str := ["duty", "at", "done", "found", "hold"]
theorem sc_holding : FnScope N_holding ["duty", "at", "done"] (defScope s_holding) := ⟨rfl, rfl, rfl, by decide +kernel, rfl, by decide +kernel, by decide +kernel⟩
abbrev N_rank : List Str := ["duty", "at", "done", "least", "thing"]
theorem sc_rank : FnScope N_rank ["duty", "at", "done"] (defScope s_rank) := ⟨rfl, rfl, rfl, by decide +kernel, rfl, by decide +kernel, by decide +kernel⟩
abbrev N_hold_up : List Str := ["duty", "at", "most", "weaker", "thing", "start", "end"]
theorem sc_hold_up : FnScope N_hold_up ["duty", "at"] (defScope s_hold_up) := ⟨rfl, rfl, rfl, by decide +kernel, rfl, by decide +kernel, by decide +kernel⟩
abbrev N_comings_in : List Str := ["work", "span"]
theorem sc_comings_in : FnScope N_comings_in ["work", "span"] (defScope s_comings_in) := ⟨rfl, rfl, rfl, by decide +kernel, rfl, by decide +kernel, by decide +kernel⟩
abbrev N_load : List Str := ["duty", "at", "span", "found", "stronger", "work"]
theorem sc_load : FnScope N_load ["duty", "at", "span"] (defScope s_load) := ⟨rfl, rfl, rfl, by decide +kernel, rfl, by decide +kernel, by decide +kernel⟩
abbrev N_in_time : List Str := ["duty", "at", "line", "work"]
theorem sc_in_time : FnScope N_in_time ["duty", "at", "line"] (defScope s_in_time) := ⟨rfl, rfl, rfl, by decide +kernel, rfl, by decide +kernel, by decide +kernel⟩
abbrev N_answer : List Str := ["duty", "at", "line", "found"]
theorem sc_answer : FnScope N_answer ["duty", "at"] (defScope s_answer) := ⟨rfl, rfl, rfl, by decide +kernel, rfl, by decide +kernel, by decide +kernel⟩
def sp_Work_held (K : PySem.W.Frag) : Sp := fun vs H Q _ => ∃ (v : V) (u : Wk), vs = [v] ∧ WkV K H v u ∧ ∀ p xs, H p = none → Paired (HoldV H) xs u.holds → Q (.ref p) (upd H p (.lst xs))
theorem ok_Work_held (T : Says K mg) : Dq.FnB P w K mg base 1 (He.fAd K d_Work_held.at_) (fdOf K d_Work_held.at_) ["self"] (sp_Work_held K) := by
  refine Dq.both_ok (F_Work_held T) sc_Work_held (fun vs H Q E h => ?_) (fun cdv A outer s H vs Q E calm pn hq hcr h => ?_)
  · obtain ⟨_, _, rfl, _⟩ := h
    rfl
  · refine ⟨_, (pss_one (ps_ret (pe_callTy call_list_of (by rfl) (f_list T) (by decide +kernel) (pa_cons (pe_fld (pv 0) rfl) pa_nil)))), ?_⟩
    obtain ⟨_, u, rfl, ⟨a, dx, l, xs, rfl, ha, hl, hp⟩, k⟩ := h
    exact ⟨_, rfl, a, _, dx, _, _, rfl, ha, c_Work T, n_Work_sections T, wk_sec, l, xs, rfl, .inl (SqL.of hl), fun p np => k p xs np hp⟩
def sp_Duty_size (K : PySem.W.Frag) : Sp := fun vs H Q _ => ∃ (v : V) (ws : List Wk), vs = [v] ∧ DtV K H v ws ∧ Q (.int (ws.length : Nat)) H
theorem ok_Duty_size (T : Says K mg) : Dq.FnB P w K mg base 1 (He.fAd K d_Duty_size.at_) (fdOf K d_Duty_size.at_) ["self"] (sp_Duty_size K) := by
  refine Dq.both_ok (F_Duty_size T) sc_Duty_size (fun vs H Q E h => ?_) (fun cdv A outer s H vs Q E calm pn hq hcr h => ?_)
  · obtain ⟨_, _, rfl, _⟩ := h
    rfl
  · refine ⟨_, (pss_one (ps_ret (pe_callB call_len_seq (by rfl) (f_len T) (by decide +kernel) (pa_cons (pe_fld (pv 0) rfl) pa_nil)))), ?_⟩
    obtain ⟨_, ws, rfl, ⟨a, dx, wl, nd, xs, rfl, ha, hl, hp, hn⟩, k⟩ := h
    rw [← paired_len hp] at k
    exact ⟨_, rfl, a, _, dx, _, _, rfl, ha, c_Duty T, n_Duty_works T, dt_works, wl, xs, rfl, .inl (SqL.of hl), k⟩
def sp_Duty_work (K : PySem.W.Frag) : Sp := fun vs H Q _ => ∃ (v : V) (ws : List Wk) (i : Nat) (u : Wk), vs = [v, .int (i : Nat)] ∧ ∃ B, Ex B H ∧ DtV K B v ws ∧ ws[i]? = some u ∧ ∀ x, WkV K B x u → Q x H
theorem ok_Duty_work (T : Says K mg) : Dq.FnB P w K mg base 1 (He.fAd K d_Duty_work.at_) (fdOf K d_Duty_work.at_) ["self", "at"] (sp_Duty_work K) := by
  refine Dq.both_ok (F_Duty_work T) sc_Duty_work (fun vs H Q E h => ?_) (fun cdv A outer s H vs Q E calm pn hq hcr h => ?_)
  · obtain ⟨_, _, _, _, rfl, _⟩ := h
    rfl
  · refine ⟨_, (pss_one (ps_ret (pe_ix ix_list (pe_fld (pv 0) rfl) (pv 1) (fun _ _ => rfl)))), ?_⟩
    obtain ⟨_, ws, i, u, rfl, B, eB, ⟨a, dx, wl, nd, xs, rfl, ha, hl, hp, hn⟩, hi, k⟩ := h
    obtain ⟨x, hx, r⟩ := paired_at hp hi
    exact ⟨_, rfl, a, _, dx, _, _, rfl, eB _ _ ha, c_Duty T, n_Duty_works T, dt_works, _, rfl, _, _, _, _, rfl, rfl, SqL.of (eB _ _ hl), atI_nat hx, k x r⟩
def sp_due_at (K : PySem.W.Frag) : Sp := fun vs H Q _ => ∃ (v cv : V) (ws : List Wk) (c : Cm) (i : Nat) (u : Wk), vs = [v, cv] ∧ DtV K H v ws ∧ CmV H cv c ∧ c.who = (i : Nat) ∧ ws[i]? = some u ∧ Q (.int (c.come + u.due)) H
theorem ok_due_at (T : Says K mg) : FnOk P w K mg base CX0 2 (He.fAd K d_due_at.at_) (fdOf K d_due_at.at_) ["duty", "coming"] (sp_due_at K) := by
  refine (F_due_at T).ok sc_due_at (fun vs H Q E h => ?_) (fun cdv A outer s H vs Q E hr h => ?_)
  · obtain ⟨_, _, _, _, _, _, rfl, _⟩ := h
    rfl
  · refine ⟨_, PSs.nox (pss_one (ps_ret (pe_op op_add (pe_ix ix_tup (pv 1) pe_int (fun _ _ => rfl)) (pe_fld (pe_meth (pv 0) (c_Duty T) (m_Duty_work T) (ok_Duty_work T).ok (hr.mono (by decide)) (b_Duty_work T) .nil pass0 (pa_cons (pe_ix ix_tup (pv 1) pe_int (fun _ _ => rfl)) pa_nil)) rfl)))), ?_⟩
    obtain ⟨_, _, ws, c, i, u, rfl, D, ⟨a, rfl, e⟩, ei, hi, k⟩ := h
    have D' := D
    obtain ⟨d, dx, wl, nd, xs, rfl, ha, hl, hp, hn⟩ := D'
    refine ⟨_, rfl, _, _, _, _, rfl, rfl, SqT.of e, rfl, _, rfl, d, dx, _, rfl, ha, rfl, _, rfl, _, _, _, _, rfl, rfl, SqT.of e, rfl, ?_⟩
    rw [ei]
    refine ⟨_, ws, i, u, rfl, _, Evl.Ex.refl _, D, hi, fun x hx => ?_⟩
    obtain ⟨b, bx, l, ys, rfl, hb, hl2, _⟩ := hx
    exact ⟨b, _, bx, _, _, rfl, hb, c_Work T, n_Work_due T, wk_due, _, _, rfl, rfl, k⟩
def sp_ceiling (K : PySem.W.Frag) : Sp := fun vs H Q _ => ∃ (v : V) (ws : List Wk) (t : Str), vs = [v, .str t] ∧ DtV K H v ws ∧ Good ws ∧ ceil ws t < ws.length ∧ ∀ H', Ex H H' → Q (.int (ceil ws t : Nat)) H'
theorem ok_ceiling (T : Says K mg) : Dq.FnB P w K mg base 2 (He.fAd K d_ceiling.at_) (fdOf K d_ceiling.at_) ["duty", "thing"] (sp_ceiling K) := by
  refine Dq.both_ok (F_ceiling T) sc_ceiling (fun vs H Q E h => ?_) (fun cdv A outer s H vs Q E calm pn hq hcr h => ?_)
  · obtain ⟨_, _, _, rfl, _⟩ := h
    rfl
  · refine ⟨_, (pss_cons (ps_forQ PassesOwn.never hq.x (piq_range1 (by rfl) (f_range T) (pa_cons (pe_meth0Q (pv 0) (c_Duty T) (m_Duty_size T) (ok_Duty_size T) (hq.mono (by decide)) (b_Duty_size T)) pa_nil)) (pg_name (i := 2) sc_ceiling.nd rfl (Or.inl rfl)) (pss_one (ps_forQ PassesOwn.never hq.x (piq_list (pe_meth0Q (pe_methQ (pv 0) (c_Duty T) (m_Duty_work T) (ok_Duty_work T) (hq.mono (by decide)) (b_Duty_work T) (pa_cons (pv 2) pa_nil)) (c_Work T) (m_Work_held T) (ok_Work_held T) (hq.mono (by decide)) (b_Work_held T))) (pg_name (i := 3) sc_ceiling.nd rfl (Or.inl rfl)) (pss_one (ps_if (pt_cmpR op_eq (pe_ix ix_tup (pv 3) pe_int (fun _ _ => rfl)) (pv 1) (nomark _)) (pss_one (ps_ret (pv 2))) pss_nil))))) (pss_one (ps_ret pe_non))), ?_⟩
    obtain ⟨_, ws, t, rfl, D, G, hc, k⟩ := h
    have few := G.few
    obtain ⟨a, dx, wl, nd, xs, rfl, ha, hl, hp, hn⟩ := id D
    refine ⟨_, rfl, a, dx, _, rfl, ha, rfl, _, ws, rfl, D, ?_⟩
    refine ⟨_, rfl, by omega, by omega, ?_⟩
    refine for_range (fun i σ H' => (∃ x y, σ = [some (.ref a), some (.str t), x, y]) ∧ Ex H H' ∧ i ≤ ceil ws t) ⟨⟨_, _, rfl⟩, Evl.Ex.refl _, Nat.zero_le _⟩ ?_ ?_
    · rintro i σ H1 hi ⟨⟨x, y, rfl⟩, e1, le⟩
      have hi' : i < ws.length := by omega
      obtain ⟨u, hu⟩ : ∃ u, ws[i]? = some u := ⟨_, List.getElem?_eq_getElem hi'⟩
      refine ⟨_, rfl, a, dx, _, rfl, e1 _ _ ha, rfl, _, rfl, _, ws, i, u, by rw [Int.zero_add], _, Evl.Ex.refl _, D.mono e1, hu, fun x hx => ?_⟩
      obtain ⟨b, bx, l, ys, rfl, hb, hl2, hh⟩ := id hx
      refine ⟨b, bx, _, rfl, hb, rfl, _, u, rfl, hx, fun p zs np hz => ?_⟩
      refine ⟨_, rfl, ⟨zs, SqL.of upd_same⟩, for_list (K := K) (a := p) (xs := zs) (fun j σ H' => (∃ y, σ = [some (.ref a), some (.str t), some (.int (0 + (i : Nat))), y]) ∧ Ex (upd H1 p (.lst zs)) H' ∧ ∀ h ∈ u.holds.take j, (h.1 == t) = false) ⟨⟨_, rfl⟩, Evl.Ex.refl _, by simp⟩ (fun j σ H' _ q => SqL.of (q.2.1 _ _ upd_same)) ?_ ?_⟩
      · rintro j z σ H2 hj ⟨⟨y, rfl⟩, e2, no⟩
        obtain ⟨hd, hd1, q, rfl, hq⟩ := paired_back hz hj
        have hq2 := e2 _ _ (ex_up np _ _ hq)
        refine ⟨_, rfl, _, _, _, _, rfl, rfl, SqT.of hq2, rfl, _, rfl, rfl, _, rfl, ?_⟩
        have ee : Ex H H2 := (e1.trans (ex_up np)).trans e2
        refine itc (fun e => ?_) (fun e => ?_)
        · have et : hd.1 = t := V.str.inj (of_decide_eq_true e)
          have ht : hasT t u = true := by
            unfold hasT
            rw [List.any_eq_true]
            exact ⟨hd, List.mem_of_getElem? hd1, by simp [et]⟩
          have eq : ceil ws t = i := Nat.le_antisymm (ceil_le hu ht) le
          refine ⟨_, rfl, ?_⟩
          have kk := k H2 ee
          rw [eq] at kk
          rw [Int.zero_add]
          exact kk
        · refine ⟨⟨_, rfl⟩, e2, fun h hh => ?_⟩
          rw [List.take_succ, List.mem_append] at hh
          rcases hh with hh | hh
          · exact no h hh
          · rw [hd1] at hh
            rw [List.mem_singleton.mp hh]
            have := of_decide_eq_false e
            cases z : (hd.1 == t) with
            | false => rfl
            | true => exact absurd (congrArg V.str (eq_of_beq z)) this
      · rintro σ H2 ⟨⟨y, rfl⟩, e2, no⟩
        refine ⟨⟨_, _, rfl⟩, (e1.trans (ex_up np)).trans e2, ?_⟩
        rw [paired_len hz, List.take_of_length_le (Nat.le_refl _)] at no
        rcases Nat.lt_or_ge i (ceil ws t) with q | q
        · exact q
        · have eq : ceil ws t = i := Nat.le_antisymm q le
          have bad := List.findIdx_getElem (p := hasT t) (xs := ws) (w := hc)
          obtain ⟨lt2, e3⟩ := List.getElem?_eq_some_iff.mp hu
          have e4 : ws[ws.findIdx (hasT t)]'hc = u := by
            rw [← e3]
            congr 1
          rw [e4] at bad
          unfold hasT at bad
          rw [List.any_eq_true] at bad
          obtain ⟨h, hm, he⟩ := bad
          rw [no h hm] at he
          cases he
    · rintro σ H1 ⟨_, _, le⟩
      omega
def sp_holding (K : PySem.W.Frag) : Sp := fun vs H Q _ => ∃ (v : V) (ws : List Wk) (i : Nat) (u : Wk) (d : Int), vs = [v, .int (i : Nat), .int d] ∧ DtV K H v ws ∧ Good ws ∧ ws[i]? = some u ∧ ∀ p H', H p = none → Ex H H' → H' p = some (.lst ((heldNow u d).map V.str)) → Q (.ref p) H'
theorem ok_holding (T : Says K mg) : FnOk P w K mg base CX0 2 (He.fAd K d_holding.at_) (fdOf K d_holding.at_) ["duty", "at", "done"] (sp_holding K) := by
  refine (F_holding T).ok sc_holding (fun vs H Q E h => ?_) (fun cdv A outer s H vs Q E hr h => ?_)
  · obtain ⟨_, _, _, _, _, rfl, _⟩ := h
    rfl
  · refine ⟨_, PSs.nox (pss_cons (ps_setLc (i := 3) (own := [("hold", 4)]) rfl sc_holding.nd rfl rfl (sw_true rfl rfl rfl (by decide +kernel)) (pi_list (pe_meth0 (pe_meth (pv 0) (c_Duty T) (m_Duty_work T) (ok_Duty_work T).ok (hr.mono (by decide)) (b_Duty_work T) .nil pass0 (pa_cons (pv 1) pa_nil)) (c_Work T) (m_Work_held T) (ok_Work_held T).ok (hr.mono (by decide)) (b_Work_held T) .nil pass0)) (blkOk_by (N := N_holding) (sc := defScope s_holding) (by decide +kernel)) (fun _ _ _ _ _ => (pg_name (i := 4) sc_holding.nd rfl (Or.inl rfl))) (fun _ _ _ _ _ => (pts_one (pt_chain op_lt op_lt (pe_ix (show IxR _ (rIxT K) from ix_tup) (pv 4) pe_int (fun _ _ => rfl)) (pv 2) (pe_ix (show IxR _ (rIxT K) from ix_tup) (pv 4) pe_int (fun _ _ => rfl))))) (fun _ _ _ _ _ => (pe_ix (show IxR _ (rIxT K) from ix_tup) (pv 4) pe_int (fun _ _ => rfl)))) (pss_one (ps_ret (pe_callB cr_sortedS (by rfl) (f_sorted T) (by decide +kernel) (pa_cons (pv 3) pa_nil))))), ?_⟩
    obtain ⟨_, ws, i, u, d, rfl, D, G, hi, k⟩ := h
    obtain ⟨a, dx, wl, nd, xs, rfl, ha, hl, hp, hn⟩ := id D
    refine ⟨_, rfl, a, dx, _, rfl, ha, rfl, _, rfl, _, ws, i, u, rfl, _, Evl.Ex.refl _, D, hi, fun x hx => ?_⟩
    obtain ⟨b, bx, l, ys, rfl, hb, hl2, hh⟩ := id hx
    refine ⟨b, bx, _, rfl, hb, rfl, _, u, rfl, hx, fun p zs np hz => ?_⟩
    refine ⟨_, rfl, ⟨zs, SqL.of upd_same⟩, ?_⟩
    intro F nF
    have nF0 : H F = none := Evl.fresh_back (ex_up np) nF
    refine lc_list (K := K) (a := p) (xs := zs) (fun j H' => Ex (upd H p (.lst zs)) H' ∧ H' F = some (.lst ((heldL (u.holds.take j) d).map V.str))) ⟨ex_up nF, by rw [upd_same]; rfl⟩ (fun j H' _ q => SqL.of (q.1 _ _ upd_same)) ?_ ?_
    · rintro j z H2 hj ⟨e2, hF⟩
      obtain ⟨hd, hd1, q, rfl, hq⟩ := paired_back hz hj
      have hq2 := e2 _ _ (ex_up np _ _ hq)
      refine ⟨rfl, _, rfl, _, _, _, _, rfl, rfl, SqT.of hq2, rfl, _, rfl, _, _, rfl, rfl, _, rfl, ?_⟩
      refine itc (fun e => ?_) (fun e => ?_)
      · refine ⟨_, rfl, _, _, _, _, rfl, rfl, SqT.of hq2, rfl, _, _, rfl, rfl, _, rfl, ?_⟩
        refine itc (fun e' => ?_) (fun e' => ?_)
        · refine ⟨_, rfl, _, _, _, _, rfl, rfl, SqT.of hq2, rfl, _, hF, ?_, e2.mut nF, ?_⟩
          · refine Evl.sz_lt ?_
            have l1 := heldL_le (u.holds.take j) d
            have l2 := (G.at hi).h1
            rw [List.length_map]
            rw [List.length_take] at l1
            omega
          · rw [upd_same, take_snoc hd1, heldL_snoc, e, e']
            simp
        · refine ⟨e2, ?_⟩
          rw [take_snoc hd1, heldL_snoc, e, e']
          simpa using hF
      · refine ⟨_, rfl, itF rfl ⟨e2, ?_⟩⟩
        rw [take_snoc hd1, heldL_snoc, e]
        simpa using hF
    · rintro H2 ⟨e2, hF⟩
      rw [paired_len hz, List.take_of_length_le (Nat.le_refl _)] at hF
      refine ⟨_, rfl, F, heldNow u d, rfl, SqL.of hF, ?_, fun ys g pm _ ng => ?_⟩
      · have := heldNow_len (G.at hi) d
        omega
      · have e : ys = heldNow u d := by
          have le1 := heldNow_len (G.at hi) d
          match eq : heldNow u d with
          | [] => rw [eq] at pm; exact List.perm_nil.mp pm
          | [x] => rw [eq] at pm; exact List.perm_singleton.mp pm
          | _ :: _ :: _ =>
            rw [eq] at le1
            simp at le1
        rw [e]
        have ee : Ex H H2 := (ex_up np).trans e2
        exact k g _ (Evl.fresh_back ee ng) (ee.trans (ex_up ng)) upd_same
def sp_rank (K : PySem.W.Frag) : Sp := fun vs H Q _ => ∃ (v : V) (ws : List Wk) (i : Nat) (u : Wk) (d : Int), vs = [v, .int (i : Nat), .int d] ∧ DtV K H v ws ∧ Good ws ∧ ws[i]? = some u ∧ ∀ H', Ex H H' → Q (.int (rk ws i u d : Nat)) H'
theorem ok_rank (T : Says K mg) : FnOk P w K mg base CX0 3 (He.fAd K d_rank.at_) (fdOf K d_rank.at_) ["duty", "at", "done"] (sp_rank K) := by
  refine (F_rank T).ok sc_rank (fun vs H Q E h => ?_) (fun cdv A outer s H vs Q E hr h => ?_)
  · obtain ⟨_, _, _, _, _, rfl, _⟩ := h
    rfl
  · refine ⟨_, PSs.nox (pss_cons (ps_set (i := 3) sc_rank.nd rfl (Or.inl rfl) (pv 1)) (pss_cons (ps_for PassesOwn.never rfl (pi_list (pe_call (ok_holding T) (hr.mono (by decide)) rfl (g_holding T) (F_holding T).kp (b_holding T) .nil pass0 (pa_cons (pv 0) (pa_cons (pv 1) (pa_cons (pv 2) pa_nil))))) (pg_name (i := 4) sc_rank.nd rfl (Or.inl rfl)) (pss_one (ps_set (i := 3) sc_rank.nd rfl (Or.inl rfl) (pe_callB (call_min2 rfl) (by rfl) (f_min T) (by decide +kernel) (pa_cons (pv 3) (pa_cons (pe_call (ok_ceiling T).ok (hr.mono (by decide)) rfl (g_ceiling T) (F_ceiling T).kp (b_ceiling T) .nil pass0 (pa_cons (pv 0) (pa_cons (pv 4) pa_nil))) pa_nil)))))) (pss_one (ps_ret (pv 3))))), ?_⟩
    obtain ⟨_, ws, i, u, d, rfl, D, G, hi, k⟩ := h
    obtain ⟨a, dx, wl, nd, xs, rfl, ha, hl, hp, hn⟩ := id D
    obtain ⟨il, _⟩ := List.getElem?_eq_some_iff.mp hi
    refine ⟨_, rfl, _, rfl, _, rfl, _, rfl, _, ws, i, u, d, rfl, D, G, hi, fun p H1 np e1 h1 => ?_⟩
    refine ⟨_, rfl, ⟨_, SqL.of h1⟩, for_list (K := K) (a := p) (xs := (heldNow u d).map V.str) (fun j σ H' => (∃ y, σ = [some (.ref a), some (.int (i : Nat)), some (.int d), some (.int ((((heldNow u d).take j).foldl (fun m t => min m (ceil ws t)) i : Nat) : Int)), y]) ∧ Ex H1 H') ⟨⟨_, rfl⟩, Evl.Ex.refl _⟩ (fun j σ H' _ q => SqL.of (q.2 _ _ h1)) ?_ ?_⟩
    · rintro j z σ H2 hj ⟨⟨y, rfl⟩, e2⟩
      rw [List.getElem?_map] at hj
      cases ht : (heldNow u d)[j]? with
      | none =>
        rw [ht] at hj
        cases hj
      | some t =>
        rw [ht] at hj
        cases hj
        have cl := ceil_le hi (heldNow_has (List.mem_of_getElem? ht))
        refine ⟨_, rfl, _, rfl, _, rfl, _, ws, t, rfl, D.mono (e1.trans e2), G, by omega, fun H3 e3 => ?_⟩
        refine ⟨_, _, rfl, ⟨some (V.str t), ?_⟩, e2.trans e3⟩
        rw [take_snoc ht, List.foldl_append]
        show _ = [some (V.ref a), some (V.int i), some (V.int d), some (V.int (((min (((heldNow u d).take j).foldl (fun m t => min m (ceil ws t)) i) (ceil ws t) : Nat)) : Int)), some (V.str t)]
        generalize ((heldNow u d).take j).foldl (fun m t => min m (ceil ws t)) i = m
        have e : (if ((ceil ws t : Nat) : Int) < (m : Nat) then ((ceil ws t : Nat) : Int) else (m : Nat)) = ((min m (ceil ws t) : Nat) : Int) := by
          split <;> omega
        rw [← e]
        rfl
    · rintro σ H2 ⟨⟨y, rfl⟩, e2⟩
      rw [List.length_map, List.take_of_length_le (Nat.le_refl _)]
      exact ⟨_, rfl, k H2 (e1.trans e2)⟩
def sp_hold_up (K : PySem.W.Frag) : Sp := fun vs H Q _ => ∃ (v : V) (ws : List Wk) (a : Nat), vs = [v, .int (a : Nat)] ∧ DtV K H v ws ∧ Good ws ∧ a < ws.length ∧ ∀ H', Ex H H' → Q (.int (holdUp ws a)) H'
theorem ok_hold_up (T : Says K mg) : Dq.FnB P w K mg base 3 (He.fAd K d_hold_up.at_) (fdOf K d_hold_up.at_) ["duty", "at"] (sp_hold_up K) := by
  refine Dq.both_ok (F_hold_up T) sc_hold_up (fun vs H Q E h => ?_) (fun cdv A outer s H vs Q E calm pn hq hcr h => ?_)
  · obtain ⟨_, _, _, rfl, _⟩ := h
    rfl
  · refine ⟨_, (pss_cons (ps_set (i := 2) sc_hold_up.nd rfl (Or.inl rfl) pe_int) (pss_cons (ps_forQ PassesOwn.never hq.x (piq_range2 (by rfl) (f_range T) (pa_cons (pe_op op_add (pv 1) pe_int) (pa_cons (pe_meth0Q (pv 0) (c_Duty T) (m_Duty_size T) (ok_Duty_size T) (hq.mono (by decide)) (b_Duty_size T)) pa_nil))) (pg_name (i := 3) sc_hold_up.nd rfl (Or.inl rfl)) (pss_one (ps_forQ PassesOwn.never hq.x (piq_list (pe_meth0Q (pe_methQ (pv 0) (c_Duty T) (m_Duty_work T) (ok_Duty_work T) (hq.mono (by decide)) (b_Duty_work T) (pa_cons (pv 3) pa_nil)) (c_Work T) (m_Work_held T) (ok_Work_held T) (hq.mono (by decide)) (b_Work_held T))) (pg_tupQ hq.x (pgs_cons (pg_name (i := 4) sc_hold_up.nd rfl (Or.inl rfl)) (pgs_cons (pg_name (i := 5) sc_hold_up.nd rfl (Or.inl rfl)) (pgs_cons (pg_name (i := 6) sc_hold_up.nd rfl (Or.inl rfl)) pgs_nil)))) (pss_one (ps_if (pt_cmpR op_le (pe_callQ (ok_ceiling T) (hq.mono (by decide)) rfl (g_ceiling T) (F_ceiling T).kp (b_ceiling T) (pa_cons (pv 0) (pa_cons (pv 4) pa_nil))) (pv 1) (nomark _)) (pss_one (ps_set (i := 2) sc_hold_up.nd rfl (Or.inl rfl) (pe_callB (call_max2Q hq.x) (by rfl) (f_max T) (by decide +kernel) (pa_cons (pv 2) (pa_cons (pe_op op_sub (pe_op op_sub (pv 6) (pv 5)) pe_int) pa_nil))))) pss_nil))))) (pss_one (ps_ret (pv 2))))), ?_⟩
    obtain ⟨_, ws, i, rfl, D, G, hi, k⟩ := h
    obtain ⟨a, dx, wl, nd, xs, rfl, ha, hl, hp, hn⟩ := id D
    have few := G.few
    refine ⟨_, rfl, _, _, rfl, rfl, _, rfl, a, dx, _, rfl, ha, rfl, _, ws, rfl, D, ?_⟩
    refine ⟨_, _, rfl, ⟨by omega, by omega, by omega, by omega⟩, ?_⟩
    refine for_range (fun j σ H' => (∃ x y z t, σ = [some (.ref a), some (.int (i : Nat)), some (.int ((((ws.drop (i + 1)).take j).map (hu ws i)).foldl maxI 0)), x, y, z, t]) ∧ Ex H H') ⟨⟨_, _, _, _, rfl⟩, Evl.Ex.refl _⟩ ?_ ?_
    · rintro j σ H1 hj ⟨⟨x, y, z, t, rfl⟩, e1⟩
      have hj' : i + 1 + j < ws.length := by omega
      obtain ⟨u, hu'⟩ : ∃ u, ws[i + 1 + j]? = some u := ⟨_, List.getElem?_eq_getElem hj'⟩
      have hd : (ws.drop (i + 1))[j]? = some u := by rw [List.getElem?_drop]; exact hu'
      have ej : ((i : Int) + 1 + (j : Int)) = ((i + 1 + j : Nat) : Int) := by omega
      have M0 : 0 ≤ (((ws.drop (i + 1)).take j).map (hu ws i)).foldl maxI 0 := le_fold_maxI _ _
      have step : (((ws.drop (i + 1)).take (j + 1)).map (hu ws i)).foldl maxI 0 = maxI ((((ws.drop (i + 1)).take j).map (hu ws i)).foldl maxI 0) (hu ws i u) := by
        rw [take_snoc hd, List.map_append, List.foldl_append]
        rfl
      rw [step]
      generalize (((ws.drop (i + 1)).take j).map (hu ws i)).foldl maxI 0 = M at M0 ⊢
      refine ⟨_, rfl, a, dx, _, rfl, e1 _ _ ha, rfl, _, rfl, _, ws, i + 1 + j, u, by rw [ej], _, Evl.Ex.refl _, D.mono e1, hu', fun x hx => ?_⟩
      obtain ⟨b, bx, l, ys, rfl, hb, hl2, hh⟩ := id hx
      refine ⟨b, bx, _, rfl, hb, rfl, _, u, rfl, hx, fun p zs np hz => ?_⟩
      refine ⟨_, rfl, ⟨zs, SqL.of upd_same⟩, for_list (K := K) (a := p) (xs := zs) (fun m σ H' => (∃ N x y z t, σ = [some (.ref a), some (.int (i : Nat)), some (.int N), x, y, z, t] ∧ N = if m = 0 then M else maxI M (hu ws i u)) ∧ Ex (upd H1 p (.lst zs)) H') ⟨⟨_, _, _, _, _, rfl, rfl⟩, Evl.Ex.refl _⟩ (fun m σ H' _ q => SqL.of (q.2 _ _ upd_same)) ?_ ?_⟩
      · rintro m z σ H2 hm ⟨⟨N, x, y, z', t, rfl, eN⟩, e2⟩
        obtain ⟨hd', hd1, q, rfl, hq⟩ := paired_back hz hm
        have hq2 := e2 _ _ (ex_up np _ _ hq)
        have ee : Ex H H2 := (e1.trans (ex_up np)).trans e2
        have m0 : m = 0 := by
          have l1 := (G.at hu').h1
          obtain ⟨l2, _⟩ := List.getElem?_eq_some_iff.mp hd1
          omega
        subst m0
        rw [if_pos rfl] at eN
        subst eN
        have hh1 : u.holds = [hd'] := by
          rcases holds_or (G.at hu') with e | ⟨g, e⟩
          · rw [e] at hd1
            cases hd1
          · rw [e] at hd1
            cases hd1
            exact e
        have hT : hasT hd'.1 u = true := by
          unfold hasT
          rw [hh1]
          simp
        have cl := ceil_le hu' hT
        have ehu : hu ws i u = if ceil ws hd'.1 ≤ i then hd'.2.2 - hd'.2.1 - 1 else 0 := by
          unfold hu
          rw [hh1]
        refine ⟨_, _, rfl, SqT.of hq2, rfl, _, _, rfl, _, _, rfl, _, _, rfl, rfl, ?_⟩
        refine ⟨_, rfl, _, rfl, _, ws, hd'.1, rfl, D.mono ee, G, by omega, fun H3 e3 => ?_⟩
        refine ⟨_, rfl, _, _, rfl, rfl, _, rfl, ?_⟩
        refine itc (fun e => ?_) (fun e => ?_)
        · refine ⟨_, rfl, _, rfl, _, rfl, _, _, rfl, rfl, _, _, rfl, rfl, _, _, rfl, ?_⟩
          refine ⟨⟨_, _, _, _, _, rfl, ?_⟩, e2.trans e3⟩
          have hc : ceil ws hd'.1 ≤ i := by have := of_decide_eq_true e; omega
          rw [ehu, if_pos hc]
          rfl
        · have e0 : maxI N 0 = N := by unfold maxI; split <;> omega
          refine ⟨⟨_, _, _, _, _, rfl, ?_⟩, e2.trans e3⟩
          have hc : ¬ ceil ws hd'.1 ≤ i := by have := of_decide_eq_false e; omega
          rw [ehu, if_neg hc, e0]
          rfl
      · rintro σ H2 ⟨⟨N, x, y, z', t, rfl, eN⟩, e2⟩
        have ev : (if zs.length = 0 then M else maxI M (hu ws i u)) = maxI M (hu ws i u) := by
          rw [paired_len hz]
          rcases holds_or (G.at hu') with e | ⟨g, e⟩
          · have e0 : hu ws i u = 0 := by unfold hu; rw [e]
            have e1 : maxI M 0 = M := by unfold maxI; split <;> omega
            rw [e0, e1, e]
            rfl
          · rw [e]
            rfl
        rw [ev] at eN
        subst eN
        exact ⟨⟨_, _, _, _, rfl⟩, (e1.trans (ex_up np)).trans e2⟩
    · rintro σ H1 ⟨⟨x, y, z, t, rfl⟩, e1⟩
      refine ⟨_, rfl, ?_⟩
      rw [List.take_of_length_le (by rw [List.length_drop]; omega)]
      exact k H1 e1
def sp_comings_in (K : PySem.W.Frag) : Sp := fun vs H Q _ => ∃ (v : V) (u : Wk) (x : Int), vs = [v, .int x] ∧ WkV K H v u ∧ Wb u ∧ x < 2 ^ 62 ∧ ∀ H', Ex H H' → Q (.int (ci u x)) H'
theorem ok_comings_in (T : Says K mg) : Dq.FnB P w K mg base 2 (He.fAd K d_comings_in.at_) (fdOf K d_comings_in.at_) ["work", "span"] (sp_comings_in K) := by
  refine Dq.both_ok (F_comings_in T) sc_comings_in (fun vs H Q E h => ?_) (fun cdv A outer s H vs Q E calm pn hq hcr h => ?_)
  · obtain ⟨_, _, _, rfl, _⟩ := h
    rfl
  · refine ⟨_, (pss_cons (ps_if (pt_cmpR op_lt (pv 1) pe_int (nomark _)) (pss_one (ps_ret pe_int)) pss_nil) (pss_one (ps_ret (pe_callQ (ok_rounds_up T) (hq.mono (by decide)) rfl (g_rounds_up T) (F_rounds_up T).kp (b_rounds_up T) (pa_cons (pe_op op_add (pv 1) (pe_fld (pv 0) rfl)) (pa_cons (pe_fld (pv 0) rfl) pa_nil)))))), ?_⟩
    obtain ⟨_, u, x, rfl, W, B, hx, k⟩ := h
    obtain ⟨a, dx, l, ys, rfl, ha, hl, hh⟩ := id W
    refine ⟨_, rfl, _, _, rfl, rfl, _, rfl, ?_⟩
    refine itc (fun e => ?_) (fun e => ?_)
    · have e0 : ci u x = 0 := if_pos (of_decide_eq_true e)
      rw [e0] at k
      exact k H (Evl.Ex.refl _)
    · have e0 : ci u x = up (x + u.late) u.gap := if_neg (of_decide_eq_false e)
      rw [e0] at k
      have := B.g1; have := B.g2; have := B.t1; have := B.t2
      have := of_decide_eq_false e
      refine ⟨_, rfl, _, rfl, a, _, dx, _, _, rfl, ha, c_Work T, n_Work_late T, wk_late, _, _, rfl, rfl, _, rfl, a, _, dx, _, _, rfl, ha, c_Work T, n_Work_gap T, wk_gap, _, _, rfl, divp_ok (by omega) ?_, k⟩
      have b := (intBits_le_iff (m := 63) (x := x + u.late)).mpr (by omega)
      omega
def sp_load (K : PySem.W.Frag) : Sp := fun vs H Q _ => ∃ (v : V) (ws : List Wk) (i : Nat) (u : Wk) (x : Int), vs = [v, .int (i : Nat), .int x] ∧ DtV K H v ws ∧ Good ws ∧ ws[i]? = some u ∧ x < 2 ^ 62 ∧ ∀ H', Ex H H' → Q (.int (load ws i u x)) H'
theorem ok_load (T : Says K mg) : Dq.FnB P w K mg base 4 (He.fAd K d_load.at_) (fdOf K d_load.at_) ["duty", "at", "span"] (sp_load K) := by
  refine Dq.both_ok (F_load T) sc_load (fun vs H Q E h => ?_) (fun cdv A outer s H vs Q E calm pn hq hcr h => ?_)
  · obtain ⟨_, _, _, _, _, rfl, _⟩ := h
    rfl
  · refine ⟨_, (pss_cons (ps_set (i := 3) sc_load.nd rfl (Or.inl rfl) (pe_op op_add (pe_callQ (ok_hold_up T) (hq.mono (by decide)) rfl (g_hold_up T) (F_hold_up T).kp (b_hold_up T) (pa_cons (pv 0) (pa_cons (pv 1) pa_nil))) (pe_fld (pe_methQ (pv 0) (c_Duty T) (m_Duty_work T) (ok_Duty_work T) (hq.mono (by decide)) (b_Duty_work T) (pa_cons (pv 1) pa_nil)) rfl))) (pss_cons (ps_forQ PassesOwn.never hq.x (piq_range1 (by rfl) (f_range T) (pa_cons (pv 1) pa_nil)) (pg_name (i := 4) sc_load.nd rfl (Or.inl rfl)) (pss_cons (ps_set (i := 5) sc_load.nd rfl (Or.inl rfl) (pe_methQ (pv 0) (c_Duty T) (m_Duty_work T) (ok_Duty_work T) (hq.mono (by decide)) (b_Duty_work T) (pa_cons (pv 4) pa_nil))) (pss_one (ps_aug (i := 3) sc_load.nd rfl (Or.inl rfl) (pe_op op_mul (pe_callQ (ok_comings_in T) (hq.mono (by decide)) rfl (g_comings_in T) (F_comings_in T).kp (b_comings_in T) (pa_cons (pv 5) (pa_cons (pv 2) pa_nil))) (pe_fld (pv 5) rfl)) ip_add)))) (pss_one (ps_ret (pv 3))))), ?_⟩
    obtain ⟨_, ws, i, u, x, rfl, D, G, hi, hx, k⟩ := h
    obtain ⟨a, dx, wl, nd, xs, rfl, ha, hl, hp, hn⟩ := id D
    obtain ⟨il, _⟩ := List.getElem?_eq_some_iff.mp hi
    have few := G.few
    refine ⟨_, rfl, _, rfl, _, ws, i, rfl, D, G, il, fun H1 e1 => ?_⟩
    refine ⟨_, rfl, a, dx, _, rfl, e1 _ _ ha, rfl, _, rfl, _, ws, i, u, rfl, _, Evl.Ex.refl _, D.mono e1, hi, fun y hy => ?_⟩
    obtain ⟨b, bx, l, ys, rfl, hb, hl2, hh⟩ := id hy
    refine ⟨b, _, bx, _, _, rfl, hb, c_Work T, n_Work_length T, wk_len, _, _, rfl, rfl, ?_⟩
    refine ⟨_, rfl, _, rfl, by omega, by omega, ?_⟩
    refine for_range (fun j σ H' => (∃ N y z, σ = [some (.ref a), some (.int (i : Nat)), some (.int x), some (.int N), y, z] ∧ N = holdUp ws i + u.len + loadL (ws.take j) x) ∧ Ex H H') ⟨⟨_, _, _, rfl, (Int.add_zero _).symm⟩, e1⟩ ?_ ?_
    · rintro j σ H2 hj ⟨⟨N, y, z, rfl, eN⟩, e2⟩
      have hj' : j < ws.length := by omega
      obtain ⟨u', hu'⟩ : ∃ u, ws[j]? = some u := ⟨_, List.getElem?_eq_getElem hj'⟩
      have ej : ((0 : Int) + (j : Int)) = ((j : Nat) : Int) := by omega
      refine ⟨_, rfl, a, dx, _, rfl, e2 _ _ ha, rfl, _, rfl, _, ws, j, u', by rw [ej], _, Evl.Ex.refl _, D.mono e2, hu', fun y hy => ?_⟩
      obtain ⟨b, bx, l, ys, rfl, hb, hl2, hh⟩ := id hy
      have B' := G.at hu'
      have := B'.l1; have := B'.l2
      refine ⟨_, rfl, _, rfl, _, rfl, _, u', x, rfl, hy, B', hx, fun H3 e3 => ?_⟩
      refine ⟨_, rfl, b, _, bx, _, _, rfl, e3 _ _ hb, c_Work T, n_Work_length T, wk_len, _, _, rfl, rfl, .inr ⟨by omega, by omega⟩, _, _, rfl, rfl, ?_⟩
      refine ⟨⟨_, _, _, rfl, ?_⟩, e2.trans e3⟩
      rw [take_snoc hu', loadL_snoc, eN]
      exact Int.add_assoc _ _ _
    · rintro σ H2 ⟨⟨N, y, z, rfl, eN⟩, e2⟩
      have ei : ((i : Nat) : Int).toNat = i := by omega
      subst eN
      rw [ei]
      exact ⟨_, rfl, k H2 e2⟩
def sp_in_time (K : PySem.W.Frag) : Sp := fun vs H Q _ => ∃ (v : V) (ws : List Wk) (i : Nat) (u : Wk) (x : Int), vs = [v, .int (i : Nat), .int x] ∧ DtV K H v ws ∧ ws[i]? = some u ∧ ∀ H', Ex H H' → Q (.bl (decide (x + u.late ≤ u.due))) H'
theorem ok_in_time (T : Says K mg) : Dq.FnB P w K mg base 2 (He.fAd K d_in_time.at_) (fdOf K d_in_time.at_) ["duty", "at", "line"] (sp_in_time K) := by
  refine Dq.both_ok (F_in_time T) sc_in_time (fun vs H Q E h => ?_) (fun cdv A outer s H vs Q E calm pn hq hcr h => ?_)
  · obtain ⟨_, _, _, _, _, rfl, _⟩ := h
    rfl
  · refine ⟨_, (pss_cons (ps_set (i := 3) sc_in_time.nd rfl (Or.inl rfl) (pe_methQ (pv 0) (c_Duty T) (m_Duty_work T) (ok_Duty_work T) (hq.mono (by decide)) (b_Duty_work T) (pa_cons (pv 1) pa_nil))) (pss_one (ps_ret (pe_cmpR op_le (pe_op op_add (pv 2) (pe_fld (pv 3) rfl)) (pe_fld (pv 3) rfl) (nomark _))))), ?_⟩
    obtain ⟨_, ws, i, u, x, rfl, D, hi, k⟩ := h
    obtain ⟨a, dx, wl, nd, xs, rfl, ha, hl, hp, hn⟩ := id D
    refine ⟨_, rfl, a, dx, _, rfl, ha, rfl, _, rfl, _, ws, i, u, rfl, _, Evl.Ex.refl _, D, hi, fun y hy => ?_⟩
    obtain ⟨b, bx, l, ys, rfl, hb, hl2, hh⟩ := id hy
    exact ⟨_, rfl, _, rfl, b, _, bx, _, _, rfl, hb, c_Work T, n_Work_late T, wk_late, _, _, rfl, rfl, _, rfl, b, _, bx, _, _, rfl, hb, c_Work T, n_Work_due T, wk_due, _, _, rfl, rfl, k H (Evl.Ex.refl _)⟩
/-- None or a number -/
def optV : Option Int → V
  | none => .non
  | some i => .int i
def sp_answer (K : PySem.W.Frag) : Sp := fun vs H Q _ => ∃ (v : V) (ws : List Wk) (i : Nat) (u : Wk), vs = [v, .int (i : Nat)] ∧ DtV K H v ws ∧ Good ws ∧ ws[i]? = some u ∧ ∀ r H', Ex H H' → Ans ws i u r → Q (optV r) H'
theorem ok_answer (T : Says K mg) : Dq.FnB P w K mg base 5 (He.fAd K d_answer.at_) (fdOf K d_answer.at_) ["duty", "at"] (sp_answer K) := by
  refine Dq.both_ok (F_answer T) sc_answer (fun vs H Q E h => ?_) (fun cdv A outer s H vs Q E calm pn hq hcr h => ?_)
  · obtain ⟨_, _, _, _, rfl, _⟩ := h
    rfl
  · refine ⟨_, (pss_cons (ps_set (i := 2) sc_answer.nd rfl (Or.inl rfl) (pe_callQ (ok_load T) (hq.mono (by decide)) rfl (g_load T) (F_load T).kp (b_load T) (pa_cons (pv 0) (pa_cons (pv 1) (pa_cons pe_int pa_nil))))) (pss_cons (ps_while PassesOwn.never (pt_val (pe_callQ (ok_in_time T) (hq.mono (by decide)) rfl (g_in_time T) (F_in_time T).kp (b_in_time T) (pa_cons (pv 0) (pa_cons (pv 1) (pa_cons (pv 2) pa_nil))))) (pss_cons (ps_set (i := 3) sc_answer.nd rfl (Or.inl rfl) (pe_callQ (ok_load T) (hq.mono (by decide)) rfl (g_load T) (F_load T).kp (b_load T) (pa_cons (pv 0) (pa_cons (pv 1) (pa_cons (pv 2) pa_nil))))) (pss_cons (ps_if (pt_cmpR op_le (pv 3) (pv 2) (nomark _)) (pss_one (ps_ret (pv 2))) pss_nil) (pss_one (ps_set (i := 2) sc_answer.nd rfl (Or.inl rfl) (pv 3)))))) (pss_one (ps_ret pe_non)))), ?_⟩
    obtain ⟨_, ws, i, u, rfl, D, G, hi, k⟩ := h
    obtain ⟨a, dx, wl, nd, xs, rfl, ha, hl, hp, hn⟩ := id D
    have B := G.at hi
    have := B.g2; have := B.d2; have := B.t1
    refine ⟨_, rfl, _, rfl, _, ws, i, u, 1, rfl, D, G, hi, by decide, fun H1 e1 => ?_⟩
    refine ⟨fun m σ H' => (∃ L y, σ = [some (.ref a), some (.int (i : Nat)), some (.int L), y] ∧ 1 ≤ L ∧ (∀ M, 1 ≤ M → load ws i u M ≤ M → L ≤ M) ∧ m = (8000000000000001 - L).toNat) ∧ Ex H H',
      ⟨_, ⟨_, _, rfl, load_pos G B 1, fun M m1 m2 => Int.le_trans (load_mono G m1) m2, rfl⟩, e1⟩, ?_⟩
    rintro m σ H2 ⟨⟨L, y, rfl, l1, lst, em⟩, e2⟩
    refine ⟨_, rfl, _, rfl, _, rfl, _, ws, i, u, L, rfl, D.mono e2, hi, fun H3 e3 => ⟨_, rfl, ?_⟩⟩
    refine itc (fun e => ?_) (fun e => ?_)
    · have et := of_decide_eq_true e
      refine ⟨fun σ' H' => ∃ m', m' < m ∧ ((∃ L y, σ' = [some (.ref a), some (.int (i : Nat)), some (.int L), y] ∧ 1 ≤ L ∧ (∀ M, 1 ≤ M → load ws i u M ≤ M → L ≤ M) ∧ m' = (8000000000000001 - L).toNat) ∧ Ex H H'), fun _ _ q => q, ?_⟩
      refine ⟨_, rfl, _, rfl, _, rfl, _, ws, i, u, L, rfl, D.mono (e2.trans e3), G, hi, by omega, fun H4 e4 => ?_⟩
      refine ⟨_, rfl, _, rfl, _, _, rfl, rfl, _, rfl, ?_⟩
      refine itc (fun e' => ?_) (fun e' => ?_)
      · have ef := of_decide_eq_true e'
        exact ⟨_, rfl, k (some L) H4 ((e2.trans e3).trans e4) ⟨l1, et, ef, lst⟩⟩
      · have ef := of_decide_eq_false e'
        refine ⟨_, rfl, _, ?_, ⟨_, _, rfl, load_pos G B L, fun M m1 m2 => Int.le_trans (load_mono G (lst M m1 m2)) m2, rfl⟩, (e2.trans e3).trans e4⟩
        omega
    · have et := of_decide_eq_false e
      refine k none H3 (e2.trans e3) fun M m1 m2 => ?_
      rcases Int.lt_or_le M (load ws i u M) with q | q
      · exact q
      · have := lst M m1 q
        omega
end
end Dty
set_option Elab.async false
set_option linter.all false
set_option maxRecDepth 100000
set_option maxHeartbeats 4000000
namespace Dty
open PySem
/-! ### the hardest row -/
theorem up_lt_iff {x g : Int} (hg : 0 < g) (k : Int) : k < up x g ↔ k * g < x := by
  unfold up
  have q1 := Int.emod_add_mul_ediv x g
  have m1 := Int.emod_nonneg x (by omega : g ≠ 0)
  have n1 := Int.emod_lt_of_pos x hg
  have c : g * (x / g) = (x / g) * g := Int.mul_comm _ _
  constructor
  · intro h
    split at h
    · have z := Int.mul_le_mul_of_nonneg_right (show k ≤ x / g by omega) (Int.le_of_lt hg)
      omega
    · have z := Int.mul_le_mul_of_nonneg_right (show k + 1 ≤ x / g by omega) (Int.le_of_lt hg)
      rw [Int.add_mul] at z
      omega
  · intro h
    rcases Int.lt_or_le k (if x % g > 0 then x / g + 1 else x / g) with l | l
    · exact l
    · split at l
      · have z := Int.mul_le_mul_of_nonneg_right l (Int.le_of_lt hg)
        rw [Int.add_mul] at z
        omega
      · have z := Int.mul_le_mul_of_nonneg_right l (Int.le_of_lt hg)
        omega
def earlyCm (j : Nat) (u : Wk) (start : Int) (k : Nat) : Cm := ⟨j, start - u.late + k * u.gap, maxI 0 (start - (start - u.late + k * u.gap)), u.len⟩
def earlyRow (j : Nat) (u : Wk) (start til : Int) : List Cm := (List.range (ci u (til - start)).toNat).map (earlyCm j u start)
theorem early_test {u : Wk} (b : Wb u) (start til : Int) (k : Nat) : maxI start (start - u.late + k * u.gap) < til ↔ k < (ci u (til - start)).toNat := by
  have := b.g1; have := b.t1
  unfold ci
  split
  · rename_i h
    constructor
    · intro q
      have := le_maxI_l start (start - u.late + k * u.gap)
      omega
    · intro q
      exact absurd q (Nat.not_lt_zero _)
  · rename_i h
    have z := up_lt_iff (x := til - start + u.late) (g := u.gap) (by omega) (k : Int)
    have p := up_pos (a := til - start + u.late) (g := u.gap) (by omega) (by omega)
    have e : k < (up (til - start + u.late) u.gap).toNat ↔ (k : Int) < up (til - start + u.late) u.gap := by omega
    rw [e, z]
    unfold maxI
    split <;> omega
def lateMax (us : List Wk) : Int := (us.map (·.late)).foldl maxI 0
def spanOf (u : Wk) : Option Int → Int
  | none => maxI 0 (u.due - u.late)
  | some L => L
def hardStart (ws : List Wk) (a : Nat) : Option (Nat × Int) → Int
  | none => lateMax (ws.take (a + 1))
  | some (_, n) => maxI (lateMax (ws.take (a + 1))) n
def lenAt (ws : List Wk) (j : Nat) : Int := match ws[j]? with
  | some w => w.len
  | none => 0
def hardPre (ws : List Wk) (a : Nat) : Option (Nat × Int) → List Cm
  | none => []
  | some (j, n) => [⟨j, hardStart ws a (some (j, n)) - n, 0, lenAt ws j⟩]
def hardOne (ws : List Wk) (s til : Int) (j : Nat) : List Cm := match ws[j]? with
  | some w => earlyRow j w s til
  | none => []
def hardRow (ws : List Wk) (a : Nat) (u : Wk) (r : Option Int) (o : Option (Nat × Int)) : List Cm :=
  hardPre ws a o ++ [⟨a, hardStart ws a o - u.late, u.late, u.len⟩] ++ (List.range a).flatMap (hardOne ws (hardStart ws a o) (hardStart ws a o + spanOf u r))
def hardPlace (o : Option (Nat × Int)) : Nat := if o = none then 0 else 1
/-- at most four comings of one work -/
theorem Good.four {ws : List Wk} (g : Good ws) {w u : Wk} (hw : w ∈ ws) (hu : u ∈ ws) {x : Int} (hx : x ≤ u.due) : ci w x ≤ 4 := by
  obtain ⟨c, c1, c2, a⟩ := g.ok
  have rw_ := a w hw
  have ru := a u hu
  have := rw_.g1; have := rw_.g2; have := rw_.t2; have := rw_.t1; have := ru.g2; have := ru.d2
  unfold ci
  split
  · decide
  · rcases Int.lt_or_le 4 (up (x + w.late) w.gap) with l | l
    · have := (up_lt_iff (x := x + w.late) (g := w.gap) (by omega) 4).mp l
      omega
    · exact l
theorem spanOf_le {ws : List Wk} (g : Good ws) {a : Nat} {u : Wk} (hu : ws[a]? = some u) {r : Option Int} (h : Ans ws a u r) : spanOf u r ≤ u.due ∧ 0 ≤ spanOf u r := by
  have b := g.at hu
  have := b.d1; have := b.t1
  cases r with
  | none =>
    refine ⟨maxI_le (by omega) (by omega), le_maxI_l 0 _⟩
  | some L =>
    have h1 := h.1
    have h2 := h.2.1
    show L ≤ u.due ∧ 0 ≤ L
    omega
theorem lateMax_pos (us : List Wk) : 0 ≤ lateMax us := le_fold_maxI _ _
theorem lateMax_le {ws us : List Wk} (g : Good ws) (h : ∀ w ∈ us, w ∈ ws) : lateMax us ≤ 8000000000000000 := by
  refine fold_maxI_le _ _ (by decide) fun x hx => ?_
  obtain ⟨w, hw, rfl⟩ := List.mem_map.mp hx
  have b := g.wb (h w hw)
  have := b.t2; have := b.g2
  omega
theorem late_le {us : List Wk} {w : Wk} (h : w ∈ us) : w.late ≤ lateMax us := mem_fold_maxI _ _ _ (List.mem_map.mpr ⟨w, h, rfl⟩)
theorem lateMax_eq {us : List Wk} (b : ∀ w ∈ us, Wb w) {m : Int} (hm : m ∈ us.map (·.late)) (hg : ∀ y, y ∈ us.map (·.late) → y ≤ m) : lateMax us = m := by
  refine Int.le_antisymm (fold_maxI_le _ _ ?_ hg) (mem_fold_maxI _ _ _ hm)
  obtain ⟨w, hw, rfl⟩ := List.mem_map.mp hm
  exact (b w hw).t1
end Dty
set_option Elab.async false
set_option linter.all false
set_option maxRecDepth 100000
set_option maxHeartbeats 4000000
namespace Dty
open PySem PySem.Spec PyProof.Rows L2 Dq
def PairV (H : Hp) (v : V) : Option (Nat × Int) → Prop
  | none => v = .non
  | some (j, n) => ∃ q, v = .ref q ∧ H q = some (.tup [.int (j : Nat), .int n])
theorem PairV.mono {H H' : Hp} (e : Ex H H') {v : V} {o : Option (Nat × Int)} (h : PairV H v o) : PairV H' v o := by
  cases o with
  | none => exact h
  | some p =>
    obtain ⟨q, e1, e2⟩ := h
    exact ⟨q, e1, e _ _ e2⟩
/-- who blocks so far, by m turns -/
def BlkI (ws : List Wk) (a : Nat) (m : Int) : Option (Nat × Int) → Prop
  | none => m = 0
  | some (j, n) => a < j ∧ ∃ (v : Wk) (t : Str) (s e : Int), ws[j]? = some v ∧ v.holds = [(t, s, e)] ∧ ceil ws t ≤ a ∧ e - s - 1 = m ∧ 0 < m ∧ n = s + 1
def HardV (B : Hp) (v : V) (row : List Cm) (place : Nat) : Prop := ∃ q l, v = .ref q ∧ B q = some (.tup [l, .int (place : Nat)]) ∧ RowV B l row
theorem HardV.mono {B B' : Hp} (e : Ex B B') {v : V} {row : List Cm} {place : Nat} (h : HardV B v row place) : HardV B' v row place := by
  obtain ⟨q, l, e1, e2, e3⟩ := h
  exact ⟨q, l, e1, e _ _ e2, e3.mono e⟩
theorem cps_pair {H : Hp} {v : V} {j : Nat} {n : Int} (h : PairV H v (some (j, n))) : ∃ q, v = .ref q ∧ H q = some (.tup [.int (j : Nat), .int n]) := h
theorem szn {n : Nat} (h : n ≤ 100) : n ≤ sizeLine := Evl.sz_of (Nat.le_trans h (by decide))
section
variable {P : Program} {w : World} {K : PySem.W.Frag} {mg : Str → Option Value} {base : Heap}
abbrev N_blocker : List Str := ["duty", "at", "found", "most", "number", "thing", "start", "end"]
theorem sc_blocker : FnScope N_blocker ["duty", "at"] (defScope s_blocker) := ⟨rfl, rfl, rfl, by decide +kernel, rfl, by decide +kernel, by decide +kernel⟩
abbrev N_latest : List Str := ["works", "work"]
theorem sc_latest : FnScope N_latest ["works"] (defScope s_latest) := ⟨rfl, rfl, rfl, by decide +kernel, rfl, by decide +kernel, by decide +kernel⟩
abbrev N_early : List Str := ["duty", "number", "start", "until", "work", "row", "come"]
theorem sc_early : FnScope N_early ["duty", "number", "start", "until"] (defScope s_early) := ⟨rfl, rfl, rfl, by decide +kernel, rfl, by decide +kernel, by decide +kernel⟩
abbrev N_hardest : List Str := ["duty", "at", "work", "line", "span", "number", "start", "held", "row", "ahead", "place"]
theorem sc_hardest : FnScope N_hardest ["duty", "at"] (defScope s_hardest) := ⟨rfl, rfl, rfl, by decide +kernel, rfl, by decide +kernel, by decide +kernel⟩
def sp_blocker (K : PySem.W.Frag) : Sp := fun vs H Q _ => ∃ (v : V) (ws : List Wk) (a : Nat), vs = [v, .int (a : Nat)] ∧ DtV K H v ws ∧ Good ws ∧ a < ws.length ∧ ∀ x o H', Ex H H' → Blk ws a o → PairV H' x o → Q x H'
theorem ok_blocker (T : Says K mg) : Dq.FnB P w K mg base 3 (He.fAd K d_blocker.at_) (fdOf K d_blocker.at_) ["duty", "at"] (sp_blocker K) := by
  refine Dq.both_ok (F_blocker T) sc_blocker (fun vs H Q E h => ?_) (fun cdv A outer s H vs Q E calm pn hq hcr h => ?_)
  · obtain ⟨_, _, _, rfl, _⟩ := h
    rfl
  · refine ⟨_, (pss_cons (ps_set (i := 2) sc_blocker.nd rfl (Or.inl rfl) pe_non) (pss_cons (ps_set (i := 3) sc_blocker.nd rfl (Or.inl rfl) pe_int) (pss_cons (ps_forQ PassesOwn.never hq.x (piq_range2 (by rfl) (f_range T) (pa_cons (pe_op op_add (pv 1) pe_int) (pa_cons (pe_meth0Q (pv 0) (c_Duty T) (m_Duty_size T) (ok_Duty_size T) (hq.mono (by decide)) (b_Duty_size T)) pa_nil))) (pg_name (i := 4) sc_blocker.nd rfl (Or.inl rfl)) (pss_one (ps_forQ PassesOwn.never hq.x (piq_list (pe_meth0Q (pe_methQ (pv 0) (c_Duty T) (m_Duty_work T) (ok_Duty_work T) (hq.mono (by decide)) (b_Duty_work T) (pa_cons (pv 4) pa_nil)) (c_Work T) (m_Work_held T) (ok_Work_held T) (hq.mono (by decide)) (b_Work_held T))) (pg_tupQ hq.x (pgs_cons (pg_name (i := 5) sc_blocker.nd rfl (Or.inl rfl)) (pgs_cons (pg_name (i := 6) sc_blocker.nd rfl (Or.inl rfl)) (pgs_cons (pg_name (i := 7) sc_blocker.nd rfl (Or.inl rfl)) pgs_nil)))) (pss_one (ps_if (PW.pt (pw_and (pt_cmpR op_le (pe_callQ (ok_ceiling T) (hq.mono (by decide)) rfl (g_ceiling T) (F_ceiling T).kp (b_ceiling T) (pa_cons (pv 0) (pa_cons (pv 5) pa_nil))) (pv 1) (nomark _)) (pw_and1 (pt_cmpR op_gt (pe_op op_sub (pe_op op_sub (pv 7) (pv 6)) pe_int) (pv 3) (nomark _))))) (pss_cons (ps_set (i := 3) sc_blocker.nd rfl (Or.inl rfl) (pe_op op_sub (pe_op op_sub (pv 7) (pv 6)) pe_int)) (pss_one (ps_set (i := 2) sc_blocker.nd rfl (Or.inl rfl) (pe_tup (pa_cons (pv 4) (pa_cons (pe_op op_add (pv 6) pe_int) pa_nil)))))) pss_nil))))) (pss_one (ps_ret (pv 2)))))), ?_⟩
    obtain ⟨_, ws, i, rfl, D, G, hi, k⟩ := h
    obtain ⟨a, dx, wl, nd, xs, rfl, ha, hl, hp, hn⟩ := id D
    have few := G.few
    refine ⟨_, rfl, _, _, rfl, rfl, _, rfl, a, dx, _, rfl, ha, rfl, _, ws, rfl, D, ?_⟩
    refine ⟨_, _, rfl, ⟨by omega, by omega, by omega, by omega⟩, ?_⟩
    refine for_range (fun j σ H' => (∃ f N o x y z t, σ = [some (.ref a), some (.int (i : Nat)), some f, some (.int N), x, y, z, t] ∧ N = (((ws.drop (i + 1)).take j).map (hu ws i)).foldl maxI 0 ∧ PairV H' f o ∧ BlkI ws i N o) ∧ Ex H H') ⟨⟨_, _, none, _, _, _, _, rfl, rfl, rfl, rfl⟩, Evl.Ex.refl _⟩ ?_ ?_
    · rintro j σ H1 hj ⟨⟨f, M, o, x, y, z, t, rfl, eM, pv, bi⟩, e1⟩
      have hj' : i + 1 + j < ws.length := by omega
      obtain ⟨u, hu'⟩ : ∃ u, ws[i + 1 + j]? = some u := ⟨_, List.getElem?_eq_getElem hj'⟩
      have hd : (ws.drop (i + 1))[j]? = some u := by rw [List.getElem?_drop]; exact hu'
      have ej : ((i : Int) + 1 + (j : Int)) = ((i + 1 + j : Nat) : Int) := by omega
      have M0 : 0 ≤ M := by rw [eM]; exact le_fold_maxI _ _
      have step : (((ws.drop (i + 1)).take (j + 1)).map (hu ws i)).foldl maxI 0 = maxI M (hu ws i u) := by
        rw [take_snoc hd, List.map_append, List.foldl_append, eM]
        rfl
      rw [step]
      refine ⟨_, rfl, a, dx, _, rfl, e1 _ _ ha, rfl, _, rfl, _, ws, i + 1 + j, u, by rw [ej], _, Evl.Ex.refl _, D.mono e1, hu', fun x hx => ?_⟩
      obtain ⟨b, bx, l, ys, rfl, hb, hl2, hh⟩ := id hx
      refine ⟨b, bx, _, rfl, hb, rfl, _, u, rfl, hx, fun p zs np hz => ?_⟩
      refine ⟨_, rfl, ⟨zs, SqL.of upd_same⟩, for_list (K := K) (a := p) (xs := zs) (fun m σ H' => (∃ f N o y z t, σ = [some (.ref a), some (.int (i : Nat)), some f, some (.int N), some (.int ((i : Int) + 1 + (j : Int))), y, z, t] ∧ N = (if m = 0 then M else maxI M (hu ws i u)) ∧ PairV H' f o ∧ BlkI ws i N o) ∧ Ex (upd H1 p (.lst zs)) H') ⟨⟨_, _, o, _, _, _, rfl, rfl, pv.mono (ex_up np), bi⟩, Evl.Ex.refl _⟩ (fun m σ H' _ q => SqL.of (q.2 _ _ upd_same)) ?_ ?_⟩
      · rintro m z σ H2 hm ⟨⟨f2, N, o2, y, z', t, rfl, eN, pv2, bi2⟩, e2⟩
        obtain ⟨hd', hd1, q, rfl, hq⟩ := paired_back hz hm
        have hq2 := e2 _ _ (ex_up np _ _ hq)
        have ee : Ex H H2 := (e1.trans (ex_up np)).trans e2
        have B := G.at hu'
        have m0 : m = 0 := by
          have l1 := B.h1
          obtain ⟨l2, _⟩ := List.getElem?_eq_some_iff.mp hd1
          omega
        subst m0
        rw [if_pos rfl] at eN
        have hh1 : u.holds = [hd'] := by
          rcases holds_or B with e | ⟨g, e⟩
          · rw [e] at hd1
            cases hd1
          · rw [e] at hd1
            cases hd1
            exact e
        have hT : hasT hd'.1 u = true := by
          unfold hasT
          rw [hh1]
          simp
        have cl := ceil_le hu' hT
        have ehu : hu ws i u = if ceil ws hd'.1 ≤ i then hd'.2.2 - hd'.2.1 - 1 else 0 := by
          unfold hu
          rw [hh1]
        have hp0 := hu_pos (ws := ws) (a := i) B
        refine ⟨_, _, rfl, SqT.of hq2, rfl, _, _, rfl, _, _, rfl, _, _, rfl, rfl, ?_⟩
        refine ⟨_, rfl, _, rfl, _, ws, hd'.1, rfl, D.mono ee, G, by omega, fun H3 e3 => ?_⟩
        refine ⟨_, rfl, _, _, rfl, rfl, _, rfl, ?_⟩
        refine itc (fun e => ?_) (fun e => ?_)
        · have hc : ceil ws hd'.1 ≤ i := by have := of_decide_eq_true e; omega
          rw [if_pos hc] at ehu
          refine ⟨_, rfl, _, rfl, _, _, rfl, rfl, _, _, rfl, rfl, _, rfl, _, _, rfl, rfl, _, rfl, ?_⟩
          refine itc (fun e' => ?_) (fun e' => ?_)
          · have gt := of_decide_eq_true e'
            refine ⟨_, rfl, _, rfl, _, _, rfl, rfl, _, _, rfl, rfl, ?_⟩
            refine ⟨_, rfl, _, rfl, _, _, rfl, rfl, szn (n := 2) (by decide), fun q nq => ?_⟩
            refine ⟨⟨_, _, some (i + 1 + j, hd'.2.1 + 1), _, _, _, rfl, ?_, ⟨q, rfl, ?_⟩, ?_⟩, (e2.trans e3).trans (ex_up nq)⟩
            · rw [if_neg (by omega), ehu]
              unfold maxI
              rw [if_pos (by omega)]
            · rw [upd_same, ej]
            · exact ⟨by omega, u, hd'.1, hd'.2.1, hd'.2.2, hu', hh1, hc, rfl, by omega, rfl⟩
          · have gt := of_decide_eq_false e'
            refine ⟨⟨_, _, o2, _, _, _, rfl, ?_, pv2.mono e3, bi2⟩, e2.trans e3⟩
            rw [if_neg (by omega), ehu, eN]
            unfold maxI
            rw [if_neg (by omega)]
        · have hc : ¬ ceil ws hd'.1 ≤ i := by have := of_decide_eq_false e; omega
          rw [if_neg hc] at ehu
          refine itF rfl ⟨⟨_, _, o2, _, _, _, rfl, ?_, pv2.mono e3, bi2⟩, e2.trans e3⟩
          rw [if_neg (by omega), ehu, eN]
          unfold maxI
          rw [if_neg (by omega)]
      · rintro σ H2 ⟨⟨f2, N, o2, y, z', t, rfl, eN, pv2, bi2⟩, e2⟩
        have ev : (if zs.length = 0 then M else maxI M (hu ws i u)) = maxI M (hu ws i u) := by
          rw [paired_len hz]
          rcases holds_or (G.at hu') with e | ⟨g, e⟩
          · have e0 : hu ws i u = 0 := by unfold hu; rw [e]
            have e1 : maxI M 0 = M := by unfold maxI; split <;> omega
            rw [e0, e1, e]
            rfl
          · rw [e]
            rfl
        rw [ev] at eN
        exact ⟨⟨_, _, o2, _, _, _, _, rfl, eN, pv2, bi2⟩, (e1.trans (ex_up np)).trans e2⟩
    · rintro σ H1 ⟨⟨f, M, o, x, y, z, t, rfl, eM, pv, bi⟩, e1⟩
      refine ⟨_, rfl, k f o H1 e1 ?_ pv⟩
      rw [List.take_of_length_le (by rw [List.length_drop]; omega)] at eM
      cases o with
      | none => exact eM.symm.trans bi
      | some pr =>
        obtain ⟨j, n⟩ := pr
        obtain ⟨b1, v, tt, ss, ee, b2, b3, b4, b5, b6, b7⟩ := bi
        exact ⟨b1, v, tt, ss, ee, b2, b3, b4, b5.trans eM, by rw [← (show M = holdUp ws i from eM)]; exact b6, b7⟩
def sp_latest (K : PySem.W.Frag) : Sp := fun vs H Q _ => ∃ (p : Addr) (ys : List V) (us : List Wk), vs = [.ref p] ∧ H p = some (.lst ys) ∧ Paired (WkV K H) ys us ∧ us ≠ [] ∧ us.length ≤ 4 ∧ (∀ u ∈ us, Wb u) ∧ ∀ H', Ex H H' → Q (.int (lateMax us)) H'
theorem ok_latest (T : Says K mg) : Dq.FnB P w K mg base 1 (He.fAd K d_latest.at_) (fdOf K d_latest.at_) ["works"] (sp_latest K) := by
  refine Dq.both_ok (F_latest T) sc_latest (fun vs H Q E h => ?_) (fun cdv A outer s H vs Q E calm pn hq hcr h => ?_)
  · obtain ⟨_, _, _, rfl, _⟩ := h
    rfl
  · refine ⟨_, (pss_one (ps_ret (pe_callBK (cr_maxD hq.x) (by rfl) (f_max T) (by decide +kernel) (pa_cons (pe_lcQ (own := [("work", 1)]) hq.x sc_latest.nd (piq_list (pv 0)) (blkOk_by (N := N_latest) (sc := defScope s_latest) (by decide +kernel)) (fun _ _ _ _ _ _ => (pg_name (i := 1) sc_latest.nd rfl (Or.inl rfl))) (fun _ _ _ _ _ _ => pts_nil) (fun _ _ _ _ _ _ hw => (show PE _ _ (tFld K _ _) from pe_fld (pv 1) rfl))) pa_nil) (pk_cons pe_int pk_nil)))), ?_⟩
    obtain ⟨p, ys, us, rfl, hp, pr, ne, few, B, k⟩ := h
    refine ⟨_, rfl, p, rfl, ⟨_, SqL.of hp⟩, fun D nD => ?_⟩
    refine lc_list (K := K) (a := p) (xs := ys) (fun j H' => Ex H H' ∧ H' D = some (.lst ((us.take j).map fun u => V.int u.late))) ⟨ex_up nD, by rw [upd_same]; rfl⟩ (fun j H' _ q => SqL.of (q.1 _ _ hp)) ?_ ?_
    · rintro j x H2 hj ⟨e2, hD⟩
      obtain ⟨u, hu1, hx⟩ := paired_back pr hj
      obtain ⟨b, bx, l, zs, rfl, hb, hl, hh⟩ := id hx
      refine ⟨rfl, _, rfl, b, _, bx, _, _, rfl, e2 _ _ hb, c_Work T, n_Work_late T, wk_late, _, hD, ?_, e2.mut nD, ?_⟩
      · refine Evl.sz_lt ?_
        rw [List.length_map, List.length_take]
        omega
      · rw [upd_same, take_snoc hu1, List.map_append]
        rfl
    · rintro H2 ⟨e2, hD⟩
      rw [paired_len pr, List.take_of_length_le (Nat.le_refl _)] at hD
      refine ⟨D, us.map (·.late), 0, rfl, rfl, SqL.of (by rw [hD, List.map_map]; rfl), fun z => absurd (List.map_eq_nil_iff.mp z) ne, fun m hm hg => ?_⟩
      rw [← lateMax_eq B hm hg]
      exact k H2 e2
def sp_early (K : PySem.W.Frag) : Sp := fun vs H Q _ => ∃ (B : Hp) (v : V) (ws : List Wk) (i : Nat) (u : Wk) (s til : Int), vs = [v, .int (i : Nat), .int s, .int til] ∧ Ex B H ∧ DtV K B v ws ∧ Good ws ∧ ws[i]? = some u ∧ ci u (til - s) ≤ 4 ∧ ∀ x B' H', Gr B H B' H' → RowV B' x (earlyRow i u s til) → Q x H'
theorem ok_early (T : Says K mg) : Dq.FnB P w K mg base 2 (He.fAd K d_early.at_) (fdOf K d_early.at_) ["duty", "number", "start", "until"] (sp_early K) := by
  refine Dq.both_ok (F_early T) sc_early (fun vs H Q E h => ?_) (fun cdv A outer s H vs Q E calm pn hq hcr h => ?_)
  · obtain ⟨_, _, _, _, _, _, _, rfl, _⟩ := h
    rfl
  · refine ⟨_, (pss_cons (ps_set (i := 4) sc_early.nd rfl (Or.inl rfl) (pe_methQ (pv 0) (c_Duty T) (m_Duty_work T) (ok_Duty_work T) (hq.mono (by decide)) (b_Duty_work T) (pa_cons (pv 1) pa_nil))) (pss_cons (ps_set (i := 5) sc_early.nd rfl (Or.inl rfl) (pe_lst pa_nil)) (pss_cons (ps_set (i := 6) sc_early.nd rfl (Or.inl rfl) (pe_op op_sub (pv 2) (pe_fld (pv 4) rfl))) (pss_cons (ps_while PassesOwn.never (pt_cmpR op_lt (pe_callB (call_max2Q hq.x) (by rfl) (f_max T) (by decide +kernel) (pa_cons (pv 2) (pa_cons (pv 6) pa_nil))) (pv 3) (nomark _)) (pss_cons (ps_expr (pe_bm PySem.F.plainAttrs_list PySem.F.slot_list_append PySem.F.type_list_append mt_append (pv 5) (pa_cons (pe_tup (pa_cons (pv 1) (pa_cons (pv 6) (pa_cons (pe_callB (call_max2Q hq.x) (by rfl) (f_max T) (by decide +kernel) (pa_cons pe_int (pa_cons (pe_op op_sub (pv 2) (pv 6)) pa_nil))) (pa_cons (pe_fld (pv 4) rfl) pa_nil))))) pa_nil))) (pss_one (ps_aug (i := 6) sc_early.nd rfl (Or.inl rfl) (pe_fld (pv 4) rfl) ip_add)))) (pss_one (ps_ret (pv 5))))))), ?_⟩
    obtain ⟨B, _, ws, i, u, s, til, rfl, eB, D, G, hi, c4, k⟩ := h
    obtain ⟨a, dx, wl, nd, xs, rfl, ha, hl, hp, hn⟩ := id D
    have WB := G.at hi
    have := WB.t1; have := WB.g1
    refine ⟨_, rfl, a, dx, _, rfl, eB _ _ ha, rfl, _, rfl, _, ws, i, u, rfl, _, Evl.Ex.refl _, D.mono eB, hi, fun y hy => ?_⟩
    obtain ⟨b, bx, l, ys, rfl, hb, hl2, hh⟩ := id hy
    refine ⟨by decide, fun p np => ?_⟩
    have g0 : Gr B H B (upd H p (.lst [])) := (Gr.refl eB).heap (ex_up np)
    have bp : B p = none := ex_none eB np
    refine ⟨_, rfl, _, rfl, b, _, bx, _, _, rfl, ex_up np _ _ hb, c_Work T, n_Work_late T, wk_late, _, _, rfl, rfl, ?_⟩
    refine ⟨fun m σ H' => ∃ (n : Nat) (B1 : Hp) (vs : List V), σ = [some (.ref a), some (.int (i : Nat)), some (.int s), some (.int til), some (.ref b), some (.ref p), some (.int (s - u.late + n * u.gap))] ∧ Gr B H B1 H' ∧ B1 p = none ∧ H' p = some (.lst vs) ∧ Paired (CmV B1) vs ((List.range n).map (earlyCm i u s)) ∧ n ≤ (ci u (til - s)).toNat ∧ m = (ci u (til - s)).toNat - n,
      ⟨_, 0, B, [], ?_, g0, bp, upd_same, .nil, Nat.zero_le _, rfl⟩, ?_⟩
    · rw [show ((0 : Nat) : Int) * u.gap = 0 from Int.zero_mul _, Int.add_zero]
      rfl
    rintro m σ H1 ⟨n, B1, vs, rfl, g1, b1p, h1p, pr, nle, em⟩
    have hb1 := g1.eH _ _ hb
    refine ⟨_, rfl, _, rfl, _, _, rfl, _, rfl, _, _, rfl, rfl, _, rfl, ?_⟩
    refine itc (fun e => ?_) (fun e => ?_)
    · have lt := (early_test WB s til n).mp (of_decide_eq_true e)
      refine ⟨_, fun _ _ q => q, ?_⟩
      refine ⟨_, rfl, .inl ⟨rfl, _, SqL.of h1p⟩, _, rfl, _, rfl, _, rfl, _, rfl, _, _, rfl, rfl, _, _, rfl, _, rfl, b, _, bx, _, _, rfl, hb1, c_Work T, n_Work_length T, wk_len, szn (n := 4) (by decide), fun q nq => ?_⟩
      have npq : p ≠ q := ne_of_none h1p nq
      refine ⟨p, _, _, rfl, rfl, (upd_ne npq).trans h1p, ?_, ?_⟩
      · rw [paired_len pr, List.length_map, List.length_range]
        exact Evl.sz_lt (by omega)
      have g2 : Gr B H (upd B1 q _) (upd (upd H1 q (.tup _)) p (.lst (vs ++ [.ref q]))) := (g1.new (o := .tup [.int (i : Nat), .int (s - u.late + n * u.gap), .int (maxI 0 (s - (s - u.late + n * u.gap))), .int u.len]) nq).write np (by rw [upd_ne npq]; exact b1p)
      refine ⟨_, rfl, _, rfl, b, _, bx, _, _, rfl, g2.eH _ _ hb, c_Work T, n_Work_gap T, wk_gap, _, _, rfl, rfl, ?_⟩
      refine ⟨_, ?_, n + 1, _, _, ?_, g2, by rw [upd_ne npq]; exact b1p, upd_same, ?_, lt, rfl⟩
      · omega
      · show [some (V.ref a), some (V.int (i : Nat)), some (V.int s), some (V.int til), some (V.ref b), some (V.ref p), some (V.int (s - u.late + n * u.gap + u.gap))] = _
        rw [show s - u.late + (n : Int) * u.gap + u.gap = s - u.late + ((n + 1 : Nat) : Int) * u.gap by rw [Int.natCast_add, Int.add_mul]; omega]
      · rw [List.range_succ, List.map_append]
        exact paired_snoc (L2.Paired.mapP pr fun _ _ z => z.mono (ex_up (ex_none g1.e nq))) ⟨q, rfl, upd_same⟩
    · have ge : n = (ci u (til - s)).toNat := by
        have := of_decide_eq_false e
        rw [show (if s - u.late + (n : Int) * u.gap > s then s - u.late + (n : Int) * u.gap else s) = maxI s (s - u.late + n * u.gap) from rfl, early_test WB] at this
        omega
      subst ge
      refine ⟨_, rfl, k _ (upd B1 p (.lst vs)) H1 (g1.freeze np b1p h1p) ⟨p, vs, rfl, upd_same, ?_⟩⟩
      exact L2.Paired.mapP pr fun _ _ z => z.mono (ex_up b1p)
def sp_hardest (K : PySem.W.Frag) : Sp := fun vs H Q _ => ∃ (B : Hp) (v : V) (ws : List Wk) (i : Nat) (u : Wk), vs = [v, .int (i : Nat)] ∧ Ex B H ∧ DtV K B v ws ∧ Good ws ∧ ws[i]? = some u ∧ ∀ x B' H' r o, Ans ws i u r → Blk ws i o → Gr B H B' H' → HardV B' x (hardRow ws i u r o) (hardPlace o) → Q x H'
theorem ok_hardest (T : Says K mg) : Dq.FnB P w K mg base 6 (He.fAd K d_hardest.at_) (fdOf K d_hardest.at_) ["duty", "at"] (sp_hardest K) := by
  refine Dq.both_ok (F_hardest T) sc_hardest (fun vs H Q E h => ?_) (fun cdv A outer s H vs Q E calm pn hq hcr h => ?_)
  · obtain ⟨_, _, _, _, _, rfl, _⟩ := h
    rfl
  · refine ⟨_, (pss_cons (ps_set (i := 2) sc_hardest.nd rfl (Or.inl rfl) (pe_methQ (pv 0) (c_Duty T) (m_Duty_work T) (ok_Duty_work T) (hq.mono (by decide)) (b_Duty_work T) (pa_cons (pv 1) pa_nil))) (pss_cons (ps_set (i := 3) sc_hardest.nd rfl (Or.inl rfl) (pe_callQ (ok_answer T) (hq.mono (by decide)) rfl (g_answer T) (F_answer T).kp (b_answer T) (pa_cons (pv 0) (pa_cons (pv 1) pa_nil)))) (pss_cons (ps_set (i := 4) sc_hardest.nd rfl (Or.inl rfl) (pe_callB (call_max2Q hq.x) (by rfl) (f_max T) (by decide +kernel) (pa_cons pe_int (pa_cons (pe_op op_sub (pe_fld (pv 2) rfl) (pe_fld (pv 2) rfl)) pa_nil)))) (Evl.pss_cut (ps_if (pt_cmpR op_notN (pv 3) pe_non (nomark _)) (pss_one (ps_set (i := 4) sc_hardest.nd rfl (Or.inl rfl) (pv 3))) pss_nil) (pss_cons (ps_set (i := 6) sc_hardest.nd rfl (Or.inl rfl) (pe_callQ (ok_latest T) (hq.mono (by decide)) rfl (g_latest T) (F_latest T).kp (b_latest T) (pa_cons (pe_lcQ (own := [("number", 5)]) hq.x sc_hardest.nd (piq_range1 (by rfl) (f_range T) (pa_cons (pe_op op_add (pv 1) pe_int) pa_nil)) (blkOk_by (N := N_hardest) (sc := defScope s_hardest) (by decide +kernel)) (fun _ _ _ _ _ _ => (pg_name (i := 5) sc_hardest.nd rfl (Or.inl rfl))) (fun _ _ _ _ _ _ => pts_nil) (fun _ _ _ _ _ _ hw => (pe_methQ (pv 0) (c_Duty T) (m_Duty_work T) (ok_Duty_work T) ((hq.blk hw hcr).mono (by decide)) (b_Duty_work T) (pa_cons (pv 5) pa_nil)))) pa_nil))) (pss_cons (ps_set (i := 7) sc_hardest.nd rfl (Or.inl rfl) (pe_callQ (ok_blocker T) (hq.mono (by decide)) rfl (g_blocker T) (F_blocker T).kp (b_blocker T) (pa_cons (pv 0) (pa_cons (pv 1) pa_nil)))) (pss_cons (ps_set (i := 8) sc_hardest.nd rfl (Or.inl rfl) (pe_lst pa_nil)) (Evl.pss_cut (ps_if (pt_cmpR op_notN (pv 7) pe_non (nomark _)) (pss_cons (ps_asg (pv 7) (pg_tupQ hq.x (pgs_cons (pg_name (i := 5) sc_hardest.nd rfl (Or.inl rfl)) (pgs_cons (pg_name (i := 9) sc_hardest.nd rfl (Or.inl rfl)) pgs_nil)))) (pss_cons (ps_set (i := 6) sc_hardest.nd rfl (Or.inl rfl) (pe_callB (call_max2Q hq.x) (by rfl) (f_max T) (by decide +kernel) (pa_cons (pv 6) (pa_cons (pv 9) pa_nil)))) (pss_one (ps_expr (pe_bm PySem.F.plainAttrs_list PySem.F.slot_list_append PySem.F.type_list_append mt_append (pv 8) (pa_cons (pe_tup (pa_cons (pv 5) (pa_cons (pe_op op_sub (pv 6) (pv 9)) (pa_cons pe_int (pa_cons (pe_fld (pe_methQ (pv 0) (c_Duty T) (m_Duty_work T) (ok_Duty_work T) (hq.mono (by decide)) (b_Duty_work T) (pa_cons (pv 5) pa_nil)) rfl) pa_nil))))) pa_nil)))))) pss_nil) (pss_cons (ps_expr (pe_bm PySem.F.plainAttrs_list PySem.F.slot_list_append PySem.F.type_list_append mt_append (pv 8) (pa_cons (pe_tup (pa_cons (pv 1) (pa_cons (pe_op op_sub (pv 6) (pe_fld (pv 2) rfl)) (pa_cons (pe_fld (pv 2) rfl) (pa_cons (pe_fld (pv 2) rfl) pa_nil))))) pa_nil))) (pss_cons (ps_set (i := 10) sc_hardest.nd rfl (Or.inl rfl) (pe_op op_sub (pe_callB call_len_seq (by rfl) (f_len T) (by decide +kernel) (pa_cons (pv 8) pa_nil)) pe_int)) (pss_cons (ps_forQ PassesOwn.never hq.x (piq_range1 (by rfl) (f_range T) (pa_cons (pv 1) pa_nil)) (pg_name (i := 5) sc_hardest.nd rfl (Or.inl rfl)) (pss_one (ps_expr (pe_bm PySem.F.plainAttrs_list PySem.F.slot_list_extend PySem.F.type_list_extend mt_extend (pv 8) (pa_cons (pe_callQ (ok_early T) (hq.mono (by decide)) rfl (g_early T) (F_early T).kp (b_early T) (pa_cons (pv 0) (pa_cons (pv 5) (pa_cons (pv 6) (pa_cons (pe_op op_add (pv 6) (pv 4)) pa_nil))))) pa_nil))))) (pss_one (ps_ret (pe_tup (pa_cons (pv 8) (pa_cons (pv 10) pa_nil)))))))))))))))), ?_⟩
    obtain ⟨B, _, ws, i, u, rfl, eB, D, G, hi, k⟩ := h
    obtain ⟨a, dx, wl, nd, xs, rfl, ha, hl, hp, hn⟩ := id D
    obtain ⟨il, _⟩ := List.getElem?_eq_some_iff.mp hi
    have few := G.few
    have WB := G.at hi
    refine ⟨_, rfl, a, dx, _, rfl, eB _ _ ha, rfl, _, rfl, _, ws, i, u, rfl, _, Evl.Ex.refl _, D.mono eB, hi, fun y hy => ?_⟩
    obtain ⟨b, bx, l, ys, rfl, hb, hl2, hh⟩ := id hy
    refine ⟨_, rfl, _, rfl, _, ws, i, u, rfl, D.mono eB, G, hi, fun r H1 e1 an => ?_⟩
    obtain ⟨sp1, sp0⟩ := spanOf_le G hi an
    refine ⟨_, rfl, b, _, bx, _, _, rfl, e1 _ _ hb, c_Work T, n_Work_due T, wk_due, _, rfl, b, _, bx, _, _, rfl, e1 _ _ hb, c_Work T, n_Work_late T, wk_late, _, _, rfl, rfl, _, _, rfl, ?_⟩
    have bH1 := e1 _ _ hb
    refine ⟨fun σ' H' => σ' = [some (.ref a), some (.int (i : Nat)), some (.ref b), some (optV r), some (.int (spanOf u r)), none, none, none, none, none, none] ∧ H1 = H', ?_, ?_⟩
    · refine ⟨_, rfl, rfl, _, rfl, ?_⟩
      cases r with
      | none => exact itF rfl ⟨rfl, rfl⟩
      | some L => exact itT rfl ⟨_, rfl, rfl, rfl⟩
    rintro σ' H' ⟨rfl, rfl⟩
    refine ⟨_, rfl, _, _, rfl, rfl, _, rfl, by omega, by omega, fun F nF => ?_⟩
    have D1 := D.mono (eB.trans e1)
    refine lc_range (fun j H' => Ex H1 H' ∧ ∃ vs, H' F = some (.lst vs) ∧ Paired (WkV K H1) vs (ws.take j)) ⟨ex_up nF, [], upd_same, .nil⟩ ?_ ?_
    · rintro j H2 hj ⟨e2, vs, hF, pr⟩
      have hj' : j < ws.length := by omega
      obtain ⟨uj, huj⟩ : ∃ u, ws[j]? = some u := ⟨_, List.getElem?_eq_getElem hj'⟩
      have ej : ((0 : Int) + (j : Int)) = ((j : Nat) : Int) := by omega
      refine ⟨rfl, _, rfl, a, dx, _, rfl, e2 _ _ (e1 _ _ (eB _ _ ha)), rfl, _, rfl, _, ws, j, uj, by rw [ej], H1, e2, D1, huj, fun x hx => ⟨vs, hF, ?_, e2.mut nF, vs ++ [x], upd_same, ?_⟩⟩
      · have l := paired_len pr
        rw [List.length_take] at l
        exact Evl.sz_lt (by omega)
      · rw [take_snoc huj]
        exact paired_snoc pr hx
    · rintro H2 ⟨e2, vs, hF, pr⟩
      have ei : ((i : Int) + 1).toNat = i + 1 := by omega
      rw [ei] at pr
      have mt : ∀ w ∈ ws.take (i + 1), w ∈ ws := fun w h => List.mem_of_mem_take h
      refine ⟨F, vs, ws.take (i + 1), rfl, hF, L2.Paired.mapP pr (fun _ _ z => z.mono e2), fun z => ?_, by rw [List.length_take]; omega, fun w h => G.wb (mt w h), fun H3 e3 => ?_⟩
      · have l := congrArg List.length z
        rw [List.length_take, List.length_nil] at l
        omega
      have E3 : Ex H H3 := (e1.trans e2).trans e3
      refine ⟨_, rfl, _, rfl, _, ws, i, rfl, D.mono (eB.trans E3), G, il, fun v o H4 e4 bl pv => ?_⟩
      have E4 : Ex H H4 := E3.trans e4
      refine ⟨by decide, fun p np4 => ?_⟩
      have np : H p = none := Evl.fresh_back E4 np4
      have bp : B p = none := ex_none eB np
      have g0 : Gr B H B (upd H4 p (.lst [])) := ((Gr.refl eB).heap E4).heap (ex_up np4)
      have pv' := pv.mono (ex_up (p := p) (o := .lst []) np4)
      have hp5 : upd H4 p (.lst []) p = some (.lst []) := upd_same
      generalize upd H4 p (.lst []) = H5 at g0 pv' hp5 ⊢
      refine ⟨fun σ' H' => ∃ (B1 : Hp) (zs : List V) (y z : Option V), σ' = [some (.ref a), some (.int (i : Nat)), some (.ref b), some (optV r), some (.int (spanOf u r)), y, some (.int (hardStart ws i o)), some v, some (.ref p), z, none] ∧
        Gr B H B1 H' ∧ B1 p = none ∧ H' p = some (.lst zs) ∧ Paired (CmV B1) zs (hardPre ws i o), ?_, ?_⟩
      · refine ⟨_, rfl, rfl, _, rfl, ?_⟩
        cases o with
        | none =>
          subst pv'
          exact itF rfl ⟨B, [], _, _, rfl, g0, bp, hp5, .nil⟩
        | some jn =>
          obtain ⟨j, n⟩ := jn
          obtain ⟨q, rfl, hq⟩ := pv'
          obtain ⟨_, uj, _, _, _, huj, _⟩ := bl
          refine itT rfl ⟨_, rfl, q, _, rfl, SqT.of hq, rfl, _, _, rfl, _, _, rfl, rfl, ?_⟩
          refine ⟨_, rfl, _, rfl, _, _, rfl, ?_⟩
          refine ⟨_, rfl, .inl ⟨rfl, _, SqL.of hp5⟩, _, rfl, _, rfl, _, rfl, _, _, rfl, rfl, _, rfl, a, dx, _, rfl, g0.eH _ _ (eB _ _ ha), rfl, _, rfl, _, ws, j, uj, rfl, H5, Evl.Ex.refl _, D.mono (eB.trans g0.eH), huj, fun x hx => ?_⟩
          obtain ⟨c, cx, l', ys', rfl, hc, hl', hh'⟩ := id hx
          refine ⟨c, _, cx, _, _, rfl, hc, c_Work T, n_Work_length T, wk_len, szn (n := 4) (by decide), fun t nt => ?_⟩
          have npt : p ≠ t := ne_of_none hp5 nt
          refine ⟨p, _, _, rfl, rfl, (upd_ne npt).trans hp5, Evl.sz_lt (by decide), ?_⟩
          refine ⟨_, _, _, _, rfl, (g0.new nt).write np (by rw [upd_ne npt]; exact bp), by rw [upd_ne npt]; exact bp, upd_same, .cons ⟨t, rfl, ?_⟩ .nil⟩
          rw [upd_same]
          show some (HO.tup [V.int (j : Nat), V.int (maxI (lateMax (ws.take (i + 1))) n - n), V.int 0, V.int uj.len]) = some (HO.tup [V.int (j : Nat), V.int (hardStart ws i (some (j, n)) - n), V.int 0, V.int (lenAt ws j)])
          unfold lenAt
          rw [huj]
          rfl
      rintro σ' H6 ⟨B1, zs, y, z, rfl, g1, b1p, hp6, pr1⟩
      have hb6 := g1.eH _ _ hb
      refine ⟨_, rfl, .inl ⟨rfl, _, SqL.of hp6⟩, _, rfl, _, rfl, _, rfl, b, _, bx, _, _, rfl, hb6, c_Work T, n_Work_late T, wk_late, _, _, rfl, rfl, _, rfl, b, _, bx, _, _, rfl, hb6, c_Work T, n_Work_late T, wk_late, _, rfl, b, _, bx, _, _, rfl, hb6, c_Work T, n_Work_length T, wk_len, szn (n := 4) (by decide), fun t nt => ?_⟩
      have npt : p ≠ t := ne_of_none hp6 nt
      have lz : zs.length = hardPlace o := by
        rw [paired_len pr1]
        cases o with
        | none => rfl
        | some jn => rfl
      have lz1 : zs.length ≤ 1 := by
        rw [lz]
        unfold hardPlace
        split <;> decide
      refine ⟨p, _, _, rfl, rfl, (upd_ne npt).trans hp6, Evl.sz_lt (by omega), ?_⟩
      have g2 := (g1.new (o := .tup [V.int (i : Nat), V.int (hardStart ws i o - u.late), V.int u.late, V.int u.len]) nt).write (o := .lst (zs ++ [.ref t])) np (by rw [upd_ne npt]; exact b1p)
      have b2p : upd B1 t (.tup [V.int (i : Nat), V.int (hardStart ws i o - u.late), V.int u.late, V.int u.len]) p = none := by rw [upd_ne npt]; exact b1p
      have pr2 : Paired (CmV (upd B1 t (.tup [V.int (i : Nat), V.int (hardStart ws i o - u.late), V.int u.late, V.int u.len]))) (zs ++ [.ref t]) (hardPre ws i o ++ [⟨i, hardStart ws i o - u.late, u.late, u.len⟩]) :=
        paired_snoc (L2.Paired.mapP pr1 fun _ _ z => z.mono (ex_up (ex_none g1.e nt))) ⟨t, rfl, upd_same⟩
      refine ⟨_, rfl, p, _, rfl, .inl (SqL.of upd_same), _, _, rfl, rfl, ?_⟩
      have epl : (((zs ++ [V.ref t]).length : Nat) : Int) - 1 = ((hardPlace o : Nat) : Int) := by
        rw [List.length_append, List.length_singleton, lz]
        omega
      refine ⟨_, rfl, _, rfl, by omega, by omega, ?_⟩
      refine for_range (fun j σ H' => ∃ (B3 : Hp) (vs : List V) (y z : Option V), σ = [some (.ref a), some (.int (i : Nat)), some (.ref b), some (optV r), some (.int (spanOf u r)), y, some (.int (hardStart ws i o)), some v, some (.ref p), z, some (.int (hardPlace o : Nat))] ∧
        Gr B H B3 H' ∧ B3 p = none ∧ H' p = some (.lst vs) ∧ Paired (CmV B3) vs (hardPre ws i o ++ [⟨i, hardStart ws i o - u.late, u.late, u.len⟩] ++ (List.range j).flatMap (hardOne ws (hardStart ws i o) (hardStart ws i o + spanOf u r))) ∧ vs.length ≤ 2 + 4 * j)
        ⟨_, _, y, z, ?_, g2, b2p, upd_same, ?_, ?_⟩ ?_ ?_
      · rw [← epl]
        rfl
      · rw [List.range_zero, List.flatMap_nil, List.append_nil]
        exact pr2
      · rw [List.length_append, List.length_singleton]
        omega
      · rintro j σ H7 hj ⟨B3, vs', y', z', rfl, g3, b3p, hp7, pr3, len3⟩
        have hj' : j < ws.length := by omega
        obtain ⟨uj, huj⟩ : ∃ u, ws[j]? = some u := ⟨_, List.getElem?_eq_getElem hj'⟩
        have ej : ((0 : Int) + (j : Int)) = ((j : Nat) : Int) := by omega
        have four : ci uj (hardStart ws i o + spanOf u r - hardStart ws i o) ≤ 4 := G.four (List.mem_of_getElem? huj) (List.mem_of_getElem? hi) (by omega)
        refine ⟨_, rfl, .inl ⟨rfl, _, SqL.of hp7⟩, _, rfl, _, rfl, _, rfl, _, rfl, _, rfl, _, _, rfl, rfl, B3, _, ws, j, uj, _, _, by rw [ej], g3.e, D.mono g3.eB, G, huj, four, fun x B4 H8 g4 rv => ?_⟩
        obtain ⟨l', ys', rfl, hl', pr4⟩ := rv
        have hp8 := g4.eH _ _ hp7
        have b4p : B4 p = none := g4.out b3p hp7
        have l4 : ys'.length ≤ 4 := by
          rw [paired_len pr4]
          unfold earlyRow
          rw [List.length_map, List.length_range]
          omega
        refine ⟨p, l', _, _, rfl, rfl, hp8, g4.e _ _ hl', Evl.sz_of (by omega), ?_⟩
        refine ⟨B4, _, _, _, rfl, (g3.trans g4).write np b4p, b4p, upd_same, ?_, ?_⟩
        · rw [List.range_succ, List.flatMap_append, ← List.append_assoc]
          refine paired_app (L2.Paired.mapP pr3 fun _ _ z => z.mono g4.eB) ?_
          rw [List.flatMap_singleton]
          unfold hardOne
          rw [huj]
          exact pr4
        · rw [List.length_append]
          omega
      · rintro σ H7 ⟨B3, vs', y', z', rfl, g3, b3p, hp7, pr3, len3⟩
        have ei2 : ((i : Nat) : Int).toNat = i := by omega
        rw [ei2] at pr3
        refine ⟨_, rfl, _, rfl, szn (n := 2) (by decide), fun q nq => ?_⟩
        have npq : p ≠ q := ne_of_none hp7 nq
        have g5 := g3.freeze np b3p hp7
        refine k _ _ _ r o an bl (g5.new nq) ⟨q, _, rfl, upd_same, p, vs', rfl, (upd_ne npq).trans upd_same, ?_⟩
        exact L2.Paired.mapP pr3 fun _ _ z => (z.mono (ex_up b3p)).mono (ex_up (ex_none g5.e nq))
end
end Dty
set_option Elab.async false
set_option linter.all false
set_option maxRecDepth 100000
set_option maxHeartbeats 4000000
namespace Dty
open PySem PySem.Spec PyProof.Rows L2 Dq TL NdefX LamX
/-! ### == of lists -/
section
variable {K : PySem.W.Frag} {H : Hp}
theorem dp_ints : ∀ ns : List Int, DpAll K H (ns.map V.int) (ns.map PyData.int)
  | [] => .nil
  | n :: r => .cons (.int n) (dp_ints r)
theorem dp_strs : ∀ xs : List Str, DpAll K H (xs.map V.str) (xs.map PyData.str)
  | [] => .nil
  | n :: r => .cons (.str n) (dp_strs r)
theorem eqv_int : ∀ ns ms : List Int, PyData.eqvAll (ns.map PyData.int) (ms.map PyData.int) = decide (ns = ms)
  | [], [] => rfl
  | [], _ :: _ => rfl
  | _ :: _, [] => rfl
  | n :: r, m :: s => by
    show (n == m && PyData.eqvAll (r.map PyData.int) (s.map PyData.int)) = _
    rw [eqv_int r s]
    by_cases h : n = m <;> by_cases k : r = s <;> simp [h, k]
theorem lay_strs : ∀ xs : List Str, (∀ x ∈ xs, PyData.strOk x = true) → PyData.canLayAll0 (xs.map PyData.str) = true ∧ PyData.depthAll (xs.map PyData.str) = 0
  | [], _ => ⟨rfl, rfl⟩
  | x :: r, h => by
    obtain ⟨a, b⟩ := lay_strs r fun y hy => h y (List.mem_cons_of_mem _ hy)
    have c := h x List.mem_cons_self
    simp [PyData.canLayAll0, PyData.canLay0, PyData.depthAll, PyData.depth, a, b, c]
theorem shaped_strs {xs : List Str} (h : ∀ x ∈ xs, PyData.strOk x = true) : SeqAt.shaped (.list (xs.map PyData.str)) = true := by
  obtain ⟨a, b⟩ := lay_strs xs h
  simp [SeqAt.shaped, PyData.canLay0, PyData.depth, a, b]
theorem nm_ok {x : Str} (h : Nm x) : PyData.strOk x = true := by
  unfold PyData.strOk
  rw [← Array.all_toList, List.all_eq_true]
  intro c hc
  have := (h.2.2 c hc).2
  exact decide_eq_true (by omega)
theorem eqv_nil (xs : List Str) : PyData.eqv (.list (xs.map PyData.str)) (.list []) = decide (xs = []) := by
  cases xs with
  | nil => rfl
  | cons x r => rfl
theorem eqv_nilI (xs : List Int) : PyData.eqv (.list (xs.map PyData.int)) (.list []) = decide (xs = []) := by
  cases xs with
  | nil => rfl
  | cons x r => rfl
end
theorem heldNow_nm {w : Wk} (b : Wb w) {d : Int} {t : Str} (h : t ∈ heldNow w d) : Nm t := by
  unfold heldNow at h
  obtain ⟨x, hx, rfl⟩ := List.mem_map.mp h
  exact (b.h2 x (List.mem_filter.mp hx).1).1
/-! ### the order by rank -/
def OrdV (K : PySem.W.Frag) (B : Hp) (v : V) (ws : List Wk) : Prop := ∃ a dx d, v = .ref a ∧ B a = some (.ins (He.ga K "ByRank") dx [("duty", d)]) ∧ DtV K B d ws
theorem OrdV.mono {K : PySem.W.Frag} {B B' : Hp} (e : Ex B B') {v : V} {ws : List Wk} (h : OrdV K B v ws) : OrdV K B' v ws := by
  obtain ⟨a, dx, d, e1, e2, e3⟩ := h
  exact ⟨a, dx, d, e1, e _ _ e2, e3.mono e⟩
def steadyI (u : Wk) (len d : Int) : Int := u.holds.foldl (fun m h => if h.2.2 > d then (if h.2.2 - d < m then h.2.2 - d else m) else m) (len - d)
section
variable {P : Program} {w : World} {K : PySem.W.Frag} {mg : Str → Option Value} {base : Heap}
abbrev N_ByRank_rank_of : List Str := ["self", "coming", "done"]
theorem sc_ByRank_rank_of : FnScope N_ByRank_rank_of ["self", "coming", "done"] (defScope s_ByRank_rank_of) := ⟨rfl, rfl, rfl, by decide +kernel, rfl, by decide +kernel, by decide +kernel⟩
abbrev N_ByRank_holds : List Str := ["self", "coming", "done"]
theorem sc_ByRank_holds : FnScope N_ByRank_holds ["self", "coming", "done"] (defScope s_ByRank_holds) := ⟨rfl, rfl, rfl, by decide +kernel, rfl, by decide +kernel, by decide +kernel⟩
abbrev N_ByRank_steady : List Str := ["self", "coming", "done", "turns", "thing", "start", "end"]
theorem sc_ByRank_steady : FnScope N_ByRank_steady ["self", "coming", "done"] (defScope s_ByRank_steady) := ⟨rfl, rfl, rfl, by decide +kernel, rfl, by decide +kernel, by decide +kernel⟩
abbrev N_Order_init : List Str := ["self", "duty"]
theorem sc_Order_init : FnScope N_Order_init ["self", "duty"] (defScope s_Order_init) := ⟨rfl, rfl, rfl, by decide +kernel, rfl, by decide +kernel, by decide +kernel⟩
abbrev N_Order_pick : List Str := ["self", "row", "waiting", "dones", "ahead"]
theorem sc_Order_pick : FnScope N_Order_pick ["self", "row", "waiting", "dones"] (defScope s_Order_pick) := ⟨rfl, rfl, rfl, by decide +kernel, rfl, by decide +kernel, by decide +kernel⟩
def sp_ByRank_rank_of (K : PySem.W.Frag) : Sp := fun vs H Q _ => ∃ (v cv : V) (d : Int) (ws : List Wk) (c : Cm) (i : Nat) (u : Wk), vs = [v, cv, .int d] ∧ OrdV K H v ws ∧ CmV H cv c ∧ Good ws ∧ c.who = (i : Nat) ∧ ws[i]? = some u ∧ ∀ H', Ex H H' → Q (.int (rk ws i u d : Nat)) H'
theorem ok_ByRank_rank_of (T : Says K mg) : FnOk P w K mg base CX0 4 (He.fAd K d_ByRank_rank_of.at_) (fdOf K d_ByRank_rank_of.at_) ["self", "coming", "done"] (sp_ByRank_rank_of K) := by
  refine (F_ByRank_rank_of T).ok sc_ByRank_rank_of (fun vs H Q E h => ?_) (fun cdv A outer s H vs Q E hr h => ?_)
  · obtain ⟨_, _, _, _, _, _, _, rfl, _⟩ := h
    rfl
  · refine ⟨_, PSs.nox (pss_one (ps_ret (pe_call (ok_rank T) (hr.mono (by decide)) rfl (g_rank T) (F_rank T).kp (b_rank T) .nil pass0 (pa_cons (pe_fld (pv 0) rfl) (pa_cons (pe_ix ix_tup (pv 1) pe_int (fun _ _ => rfl)) (pa_cons (pv 2) pa_nil)))))), ?_⟩
    obtain ⟨_, _, d, ws, c, i, u, rfl, ⟨a, dx, dv, rfl, ha, D⟩, ⟨q, rfl, hq⟩, G, ei, hi, k⟩ := h
    refine ⟨_, rfl, a, _, dx, _, _, rfl, ha, c_ByRank T, n_ByRank_duty T, rfl, _, rfl, _, _, _, _, rfl, rfl, SqT.of hq, rfl, _, rfl, ?_⟩
    rw [ei]
    exact ⟨_, ws, i, u, d, rfl, D, G, hi, k⟩
def sp_ByRank_holds (K : PySem.W.Frag) : Sp := fun vs H Q _ => ∃ (v cv : V) (d : Int) (ws : List Wk) (c : Cm) (i : Nat) (u : Wk), vs = [v, cv, .int d] ∧ OrdV K H v ws ∧ CmV H cv c ∧ Good ws ∧ c.who = (i : Nat) ∧ ws[i]? = some u ∧ ∀ H', Ex H H' → Q (.bl (!decide (heldNow u d = []))) H'
theorem ok_ByRank_holds (T : Says K mg) : FnOk P w K mg base CX0 3 (He.fAd K d_ByRank_holds.at_) (fdOf K d_ByRank_holds.at_) ["self", "coming", "done"] (sp_ByRank_holds K) := by
  refine (F_ByRank_holds T).ok sc_ByRank_holds (fun vs H Q E h => ?_) (fun cdv A outer s H vs Q E hr h => ?_)
  · obtain ⟨_, _, _, _, _, _, _, rfl, _⟩ := h
    rfl
  · refine ⟨_, PSs.nox (pss_one (ps_ret (pe_cmpR (op_neD hr.units) (pe_call (ok_holding T) (hr.mono (by decide)) rfl (g_holding T) (F_holding T).kp (b_holding T) .nil pass0 (pa_cons (pe_fld (pv 0) rfl) (pa_cons (pe_ix ix_tup (pv 1) pe_int (fun _ _ => rfl)) (pa_cons (pv 2) pa_nil)))) (pe_lst pa_nil) (nomark _)))), ?_⟩
    obtain ⟨_, _, d, ws, c, i, u, rfl, ⟨a, dx, dv, rfl, ha, D⟩, ⟨q, rfl, hq⟩, G, ei, hi, k⟩ := h
    refine ⟨_, rfl, a, _, dx, _, _, rfl, ha, c_ByRank T, n_ByRank_duty T, rfl, _, rfl, _, _, _, _, rfl, rfl, SqT.of hq, rfl, _, rfl, ?_⟩
    rw [ei]
    refine ⟨_, ws, i, u, d, rfl, D, G, hi, fun p H1 np e1 h1 => ?_⟩
    refine ⟨by decide, fun r nr => ⟨_, _, .lst (SqL.of (ex_up nr _ _ h1)) (dp_strs _), .lst (SqL.of upd_same) .nil, shaped_strs fun x hx => nm_ok (heldNow_nm (G.at hi) hx), by decide +kernel, ?_⟩⟩
    rw [eqv_nil]
    exact k _ (e1.trans (ex_up nr))
def sp_ByRank_steady (K : PySem.W.Frag) : Sp := fun vs H Q _ => ∃ (v cv : V) (d : Int) (ws : List Wk) (c : Cm) (i : Nat) (u : Wk), vs = [v, cv, .int d] ∧ OrdV K H v ws ∧ CmV H cv c ∧ c.who = (i : Nat) ∧ ws[i]? = some u ∧ ∀ H', Ex H H' → Q (.int (steadyI u c.len d)) H'
theorem ok_ByRank_steady (T : Says K mg) : FnOk P w K mg base CX0 2 (He.fAd K d_ByRank_steady.at_) (fdOf K d_ByRank_steady.at_) ["self", "coming", "done"] (sp_ByRank_steady K) := by
  refine (F_ByRank_steady T).ok sc_ByRank_steady (fun vs H Q E h => ?_) (fun cdv A outer s H vs Q E hr h => ?_)
  · obtain ⟨_, _, _, _, _, _, _, rfl, _⟩ := h
    rfl
  · refine ⟨_, PSs.nox (pss_cons (ps_set (i := 3) sc_ByRank_steady.nd rfl (Or.inl rfl) (pe_op op_sub (pe_ix ix_tup (pv 1) pe_int (fun _ _ => rfl)) (pv 2))) (pss_cons (ps_for PassesOwn.never rfl (pi_list (pe_meth0 (pe_meth (pe_fld (pv 0) rfl) (c_Duty T) (m_Duty_work T) (ok_Duty_work T).ok (hr.mono (by decide)) (b_Duty_work T) .nil pass0 (pa_cons (pe_ix ix_tup (pv 1) pe_int (fun _ _ => rfl)) pa_nil)) (c_Work T) (m_Work_held T) (ok_Work_held T).ok (hr.mono (by decide)) (b_Work_held T) .nil pass0)) (pg_tup rfl (pgs_cons (pg_name (i := 4) sc_ByRank_steady.nd rfl (Or.inl rfl)) (pgs_cons (pg_name (i := 5) sc_ByRank_steady.nd rfl (Or.inl rfl)) (pgs_cons (pg_name (i := 6) sc_ByRank_steady.nd rfl (Or.inl rfl)) pgs_nil)))) (pss_one (ps_if (pt_cmpR op_gt (pv 6) (pv 2) (nomark _)) (pss_one (ps_set (i := 3) sc_ByRank_steady.nd rfl (Or.inl rfl) (pe_callB (call_min2 rfl) (by rfl) (f_min T) (by decide +kernel) (pa_cons (pv 3) (pa_cons (pe_op op_sub (pv 6) (pv 2)) pa_nil))))) pss_nil))) (pss_one (ps_ret (pv 3))))), ?_⟩
    obtain ⟨_, _, d, ws, c, i, u, rfl, ⟨a, dx, dv, rfl, ha, D⟩, ⟨q, rfl, hq⟩, ei, hi, k⟩ := h
    obtain ⟨b, bx, wl, nd, xs, rfl, hb, hl, hp, hn⟩ := id D
    refine ⟨_, rfl, _, _, _, _, rfl, rfl, SqT.of hq, rfl, _, rfl, _, _, rfl, rfl, ?_⟩
    refine ⟨_, rfl, a, _, dx, _, _, rfl, ha, c_ByRank T, n_ByRank_duty T, rfl, b, bx, _, rfl, hb, rfl, _, rfl, _, _, _, _, rfl, rfl, SqT.of hq, rfl, ?_⟩
    rw [ei]
    refine ⟨_, ws, i, u, rfl, H, Evl.Ex.refl _, D, hi, fun x hx => ?_⟩
    obtain ⟨e, bx, l, ys, rfl, he, hl2, hh⟩ := id hx
    refine ⟨e, bx, _, rfl, he, rfl, _, u, rfl, hx, fun p zs np hz => ?_⟩
    refine ⟨_, rfl, ⟨zs, SqL.of upd_same⟩, for_list (K := K) (a := p) (xs := zs) (fun j σ H' => (∃ x y z, σ = [some (.ref a), some (.ref q), some (.int d), some (.int ((u.holds.take j).foldl (fun m h => if h.2.2 > d then (if h.2.2 - d < m then h.2.2 - d else m) else m) (c.len - d))), x, y, z]) ∧ Ex (upd H p (.lst zs)) H') ⟨⟨_, _, _, rfl⟩, Evl.Ex.refl _⟩ (fun j σ H' _ q => SqL.of (q.2 _ _ upd_same)) ?_ ?_⟩
    · rintro j z σ H2 hj ⟨⟨x, y, z', rfl⟩, e2⟩
      obtain ⟨hd, hd1, t, rfl, ht⟩ := paired_back hz hj
      have ht2 := e2 _ _ (ex_up np _ _ ht)
      rw [take_snoc hd1, List.foldl_append]
      generalize (u.holds.take j).foldl (fun m h => if h.2.2 > d then (if h.2.2 - d < m then h.2.2 - d else m) else m) (c.len - d) = M
      refine ⟨_, _, rfl, SqT.of ht2, rfl, _, _, rfl, _, _, rfl, _, _, rfl, rfl, _, rfl, _, rfl, _, _, rfl, rfl, _, rfl, ?_⟩
      refine itc (fun e => ?_) (fun e => ?_)
      · have g := of_decide_eq_true e
        refine ⟨_, rfl, _, rfl, _, rfl, _, _, rfl, rfl, _, _, rfl, ?_⟩
        exact ⟨⟨_, _, _, by rw [show List.foldl (fun m h => if h.2.2 > d then (if h.2.2 - d < m then h.2.2 - d else m) else m) M [hd] = (if hd.2.2 - d < M then hd.2.2 - d else M) from if_pos g]; rfl⟩, e2⟩
      · have g := of_decide_eq_false e
        exact ⟨⟨_, _, _, by rw [show List.foldl (fun m h => if h.2.2 > d then (if h.2.2 - d < m then h.2.2 - d else m) else m) M [hd] = M from if_neg g]; rfl⟩, e2⟩
    · rintro σ H2 ⟨⟨x, y, z', rfl⟩, e2⟩
      rw [paired_len hz, List.take_of_length_le (Nat.le_refl _)]
      exact ⟨_, rfl, k H2 ((ex_up np).trans e2)⟩
/-- a new order; x is its place in memory -/
def sp_Order_init (K : PySem.W.Frag) : Sp := fun vs H Q _ => ∃ (x dx : Addr) (d : V), vs = [.ref x, d] ∧ H x = some (.ins (He.ga K "ByRank") dx []) ∧ Q .non (upd H x (.ins (He.ga K "ByRank") dx [("duty", d)]))
theorem ok_Order_init (T : Says K mg) : FnOk P w K mg base CX0 1 (He.fAd K d_Order_init.at_) (fdOf K d_Order_init.at_) ["self", "duty"] (sp_Order_init K) := by
  refine (F_Order_init T).ok sc_Order_init (fun vs H Q E h => ?_) (fun cdv A outer s H vs Q E hr h => ?_)
  · obtain ⟨_, _, _, rfl, _⟩ := h
    rfl
  · refine ⟨_, PSs.nox (pss_one (ps_fld (pv 0) (pv 1) rfl)), ?_⟩
    obtain ⟨x, dx, d, rfl, hx, k⟩ := h
    exact ⟨_, rfl, _, rfl, x, _, dx, [], rfl, hx, c_ByRank T, n_ByRank_duty T, (by show 0 < 1000; decide), k⟩
end
/-! ### the pick -/
abbrev cPick (K : PySem.W.Frag) : Addr × Addr := He.cT K ("ByRank", some "pick")
abbrev s_ahead : Stmt := (defBody s_Order_pick).getD 0 (.Pass ⟨0, 0, 0, 0⟩)
abbrev N_ahead : List Str := ["place", "self", "row", "dones", "coming", "free"]
theorem ns_ahead : NScope N_ahead ["place"] ["self", "row", "dones"] (C8.fnScope s_ahead) := nscope_by (by decide +kernel)
abbrev q_ahead : Str := "Order.pick.<locals>.ahead"
abbrev tPick (K : PySem.W.Frag) : List NTab := [((cPick K).2, fun _ _ => q_ahead)]
/-- the key of the coming at place m -/
def keyOf (ws : List Wk) (row : List Cm) (ds : List Int) (m : Nat) : List Int := match row[m]?, ds[m]? with
  | some c, some d => (match ws[c.who.toNat]? with
    | some u => [((rk ws c.who.toNat u d : Nat) : Int), if heldNow u d = [] then 1 else 0, ((m : Nat) : Int)]
    | none => [])
  | _, _ => []
/-- every place of ns stands in the row, each coming of a work of ws -/
def Waits (ws : List Wk) (row : List Cm) (ds : List Int) (ns : List Nat) : Prop := ∀ m ∈ ns, ∃ (c : Cm) (d : Int) (i : Nat) (u : Wk), row[m]? = some c ∧ ds[m]? = some d ∧ c.who = (i : Nat) ∧ ws[i]? = some u
theorem keyOf_eq {ws : List Wk} {row : List Cm} {ds : List Int} {m : Nat} {c : Cm} {d : Int} {i : Nat} {u : Wk} (h1 : row[m]? = some c) (h2 : ds[m]? = some d) (h3 : c.who = (i : Nat)) (h4 : ws[i]? = some u) :
    keyOf ws row ds m = [((rk ws i u d : Nat) : Int), if heldNow u d = [] then 1 else 0, ((m : Nat) : Int)] := by
  unfold keyOf
  rw [h1, h2]
  have e : c.who.toNat = i := by omega
  simp only [e, h4]
def nInts (ns : List Nat) : List Int := ns.map fun (n : Nat) => (n : Int)
section
variable {P : Program} {w : World} {K : PySem.W.Frag} {mg : Str → Option Value} {base : Heap}
def sp_ahead (K : PySem.W.Frag) (fr : List (Option V)) : Sp := fun vs H Q _ => ∃ (o rv : V) (dl : Addr) (ws : List Wk) (row : List Cm) (ds : List Int) (m i : Nat) (c : Cm) (d : Int) (u : Wk), fr = [some o, some rv, some (.ref dl)] ∧ vs = [.int (m : Nat)] ∧
  OrdV K H o ws ∧ RowV H rv row ∧ H dl = some (.lst (ds.map V.int)) ∧ Good ws ∧ row[m]? = some c ∧ ds[m]? = some d ∧ c.who = (i : Nat) ∧ ws[i]? = some u ∧ ∀ t H', Ex H H' → H' t = some (.tup ((keyOf ws row ds m).map V.int)) → Q (.ref t) H'
theorem ok_ahead (T : Says K mg) (cl : List (Str × Addr)) (f c' : Addr) : NOk P w K mg base CX0 5 f (NF.of s_ahead "ahead" q_ahead cl c') ["place"] ["self", "row", "dones"] (sp_ahead K) := by
  refine nok_of ns_ahead (fun doc pm ctv us hl => ?_) (fun fr vs H Q E h => ?_) (fun A outer s H vs fr Q E hr hf hc hl h => ?_)
  · match us, hl with
    | [_], _ => rfl
  · obtain ⟨_, _, _, _, _, _, _, _, _, _, _, _, rfl, _⟩ := h
    rfl
  · refine ⟨_, pss_cons (ps_set (i := 4) ns_ahead.nd rfl (Or.inl rfl) (pe_ix ix_list (pv 2) (pv 0) (fun _ _ => rfl))) (pss_cons (ps_set (i := 5) ns_ahead.nd rfl (Or.inl rfl) pe_int)
      (Evl.pss_cut (ps_if (pt_val (pe_meth (pv 1) (c_ByRank T) (m_ByRank_holds T) (ok_ByRank_holds T) (hr.mono (by decide)) (b_ByRank_holds T) .nil pass0 (pa_cons (pv 4) (pa_cons (pe_ix ix_list (pv 3) (pv 0) (fun _ _ => rfl)) pa_nil)))) (pss_one (ps_set (i := 5) ns_ahead.nd rfl (Or.inl rfl) pe_int)) pss_nil)
      (pss_one (ps_ret (pe_tup (pa_cons (pe_meth (pv 1) (c_ByRank T) (m_ByRank_rank_of T) (ok_ByRank_rank_of T) (hr.mono (by decide)) (b_ByRank_rank_of T) .nil pass0 (pa_cons (pv 4) (pa_cons (pe_ix ix_list (pv 3) (pv 0) (fun _ _ => rfl)) pa_nil))) (pa_cons (pv 5) (pa_cons (pv 0) pa_nil)))))))), ?_⟩
    obtain ⟨o, rv, dl, ws, row, ds, m, i, c, d, u, rfl, rfl, O, ⟨rl, cs, rfl, hr1, prow⟩, hdl, G, e1, e2, e3, e4, k⟩ := h
    obtain ⟨cv, ecv, C⟩ := paired_at prow e1
    obtain ⟨oa, odx, od, rfl, ho, D⟩ := id O
    have ed : (ds.map V.int)[m]? = some (.int d) := by rw [List.getElem?_map, e2]; rfl
    refine ⟨_, rfl, _, rfl, _, _, _, _, rfl, rfl, SqL.of hr1, atI_nat ecv, ?_⟩
    refine ⟨fun σ' H' => σ' = [some (.int (m : Nat)), some (.ref oa), some (.ref rl), some (.ref dl), some cv, some (.int (if heldNow u d = [] then 1 else 0))] ∧ Ex H H', ?_, ?_⟩
    · refine ⟨_, rfl, oa, odx, _, rfl, ho, rfl, _, rfl, _, rfl, _, rfl, _, _, _, _, rfl, rfl, SqL.of hdl, atI_nat ed, ?_⟩
      refine ⟨_, _, d, ws, c, i, u, rfl, O, C, G, e3, e4, fun H1 x1 => ⟨_, rfl, ?_⟩⟩
      refine itc (fun e => ?_) (fun e => ?_)
      · have ne : ¬ heldNow u d = [] := by simpa using e
        rw [if_neg ne]
        exact ⟨rfl, x1⟩
      · have ne : heldNow u d = [] := by simpa using e
        rw [if_pos ne]
        exact ⟨rfl, x1⟩
    · rintro σ' H1 ⟨rfl, x1⟩
      refine ⟨_, rfl, oa, odx, _, rfl, x1 _ _ ho, rfl, _, rfl, _, rfl, _, rfl, _, _, _, _, rfl, rfl, SqL.of (x1 _ _ hdl), atI_nat ed, ?_⟩
      refine ⟨_, _, d, ws, c, i, u, rfl, O.mono x1, C.mono x1, G, e3, e4, fun H2 x2 => ?_⟩
      refine ⟨_, rfl, _, rfl, szn (n := 3) (by decide), fun t nt => k t _ ((x1.trans x2).trans (ex_up nt)) ?_⟩
      rw [upd_same, keyOf_eq e1 e2 e3 e4]
      rfl
/-- no code tables here -/
def NT (B : Hp) : Prop := ∀ b ps, B b ≠ some (.tbl ps)
theorem ex_N {B H H' : Hp} (n : NT B) (e : Ex B H) (x : ExtN H H') : Ex B H' := fun b o hb => x b o (e b o hb) fun ps z => n b ps (by rw [hb, z])
def sp_pick (K : PySem.W.Frag) : Sp := fun vs H Q _ => ∃ (B : Hp) (o rv : V) (wl dl : Addr) (ws : List Wk) (row : List Cm) (ds : List Int) (wn : List Nat), vs = [o, rv, .ref wl, .ref dl] ∧ Ex B H ∧ NT B ∧ TabsN (tPick K) H ∧ OrdV K B o ws ∧ RowV B rv row ∧
  H wl = some (.lst ((nInts wn).map V.int)) ∧ H dl = some (.lst (ds.map V.int)) ∧ Good ws ∧ wn ≠ [] ∧ Waits ws row ds wn ∧
  ∀ (m : Nat) H', m ∈ wn → (∀ n ∈ wn, HT.lexLt (keyOf ws row ds n) (keyOf ws row ds m) = false) → ExtN H H' → (∀ b, H' b = none → H b = none) → TabsN (tPick K) H' → Q (.int (m : Nat)) H'
theorem free_ahead : ∀ y ∈ (C8.fnScope s_ahead).names, y.2 = .free → (defScope s_Order_pick).names.lookup y.1 = some .cell ∨ (defScope s_Order_pick).names.lookup y.1 = some .free := by decide +kernel
theorem has_ahead : ∀ y ∈ (["self", "row", "dones"] : List Str), (y, NameKind.free) ∈ (C8.fnScope s_ahead).names := by decide +kernel
theorem ok_Order_pick (T : Says K mg) (TB : LamX.TabB base mg (cPick K).1 (cPick K).2) : FnOk P w K mg base CX0 7 (He.fAd K d_Order_pick.at_) (fdOf K d_Order_pick.at_) ["self", "row", "waiting", "dones"] (sp_pick K) := by
  have F := F_Order_pick T
  obtain ⟨oc, od, dV, kV, doc, pm, an, cdv, ct, osl, efd, lk, hcd, _, _⟩ := F.ex
  obtain ⟨c, rfl⟩ : ∃ c, cdv = .ref c := by
    cases cdv with
    | ref c => exact ⟨c, rfl⟩
    | _ => exact absurd (show false = true from hcd) Bool.false_ne_true
  have ec : (cPick K).1 = c := He.codeOf_eq (p := ("ByRank", some "pick")) lk (by rw [efd])
  subst ec
  rw [efd] at lk ⊢
  refine fn_of lk hcd sc_Order_pick (fun vs H Q E h => ?_) (fun A outer s H vs Q E hr h => ?_)
  · obtain ⟨_, _, _, _, _, _, _, _, _, rfl, _⟩ := h
    rfl
  · refine ⟨_, pss_cons (ps_ndefMS (st := s_ahead) (T := tPick K) (i := 4) rfl TB rfl List.mem_cons_self (by rfl) (fun p hp _ => by cases List.mem_singleton.mp hp; rfl) free_ahead rfl rfl rfl sc_Order_pick.nd rfl (Or.inl rfl) (by first | exact .inl rfl | exact .inr rfl))
      (pss_one (ps_ret (pe_minKey (mk := fun c' => NF.of s_ahead "ahead" q_ahead _ c') (ps := ["place"]) (fr := ["self", "row", "dones"]) (js := [0, 1, 3]) (sp := fun _ _ => sp_ahead K) (k := 5) (j := 6) (fun f c' => ok_ahead T _ f c') (fun _ => rfl) (fun ok => Caps.made ok free_ahead has_ahead rfl) hr (by decide) (by rfl) (f_min T) (pa_cons (pv 2) pa_nil) (pk_cons (pv 4) pk_nil)))), ?_⟩
    obtain ⟨B, o, rv, wl, dl, ws, row, ds, wn, rfl, eB, nB, hT, O, R, hwl, hdl, G, ne, wt, k⟩ := h
    refine ⟨hT, fun f c' H1 x1 kp hT1 nf hf hc => ?_⟩
    have eB1 := ex_N nB eB x1
    have hwl1 := x1 _ _ hwl (fun _ z => nomatch z)
    have hdl1 := x1 _ _ hdl (fun _ z => nomatch z)
    refine ⟨_, rfl, _, rfl, wl, nInts wn, f, c', fun j => keyOf ws row ds (wn.getD j 0), fun _ H' => Ex H1 H', rfl, rfl, ?_, Evl.Ex.refl _, ?_, ?_, ?_⟩
    · unfold nInts
      rw [List.length_map]
      exact List.length_pos_iff.mpr ne
    · intro j n H2 hj x2
      unfold nInts at hj
      rw [List.getElem?_map] at hj
      cases ej : wn[j]? with
      | none =>
        rw [ej] at hj
        cases hj
      | some m =>
        rw [ej] at hj
        cases hj
        obtain ⟨cm, d, i, u, e1, e2, e3, e4⟩ := wt m (List.mem_of_getElem? ej)
        have eg : wn.getD j 0 = m := by rw [List.getD_eq_getElem?_getD, ej]; rfl
        refine ⟨x2 _ _ hf, x2 _ _ hc, o, rv, dl, ws, row, ds, m, i, cm, d, u, rfl, rfl, O.mono (eB1.trans x2), R.mono (eB1.trans x2), x2 _ _ hdl1, G, e1, e2, e3, e4, fun t H3 x3 h3 => ⟨t, rfl, ?_, x2.trans x3⟩⟩
        show H3 t = some (.tup ((keyOf ws row ds (wn.getD j 0)).map V.int))
        rw [eg]
        exact h3
    · intro j H2 _ x2
      exact SqL.of (x2 _ _ hwl1)
    · intro j n H2 hj least x2
      unfold nInts at hj least
      rw [List.getElem?_map] at hj
      cases ej : wn[j]? with
      | none =>
        rw [ej] at hj
        cases hj
      | some m =>
        rw [ej] at hj
        cases hj
        have eg : wn.getD j 0 = m := by rw [List.getD_eq_getElem?_getD, ej]; rfl
        refine k m H2 (List.mem_of_getElem? ej) (fun n hn => ?_) (x1.trans (ExtN.of x2)) (fun b z => kp b (Evl.fresh_back x2 z)) (hT1.ext x2)
        obtain ⟨i, hi, ei⟩ := List.mem_iff_getElem.mp hn
        have z : HT.lexLt (keyOf ws row ds (wn.getD i 0)) (keyOf ws row ds (wn.getD j 0)) = false := least i (by rw [List.length_map]; exact hi)
        have eg2 : wn.getD i 0 = n := by rw [List.getD_eq_getElem?_getD, List.getElem?_eq_getElem hi, ei]; rfl
        rw [eg, eg2] at z
        exact z
end
end Dty
set_option Elab.async false
set_option linter.all false
set_option maxRecDepth 100000
set_option maxHeartbeats 4000000
namespace Dty
open PySem PySem.Spec PyProof.Rows L2 Dq TL
/-! ### the numbers of the names -/
theorem val_no : ∀ (ws : List Wk) (i : Nat) (x : Str), (∀ w ∈ ws, ¬ w.name = x) → valV (numsAt i ws) (Sum.inr x) = none
  | [], _, _, _ => rfl
  | w :: r, i, x, h => by
    have ih := val_no r (i + 1) x fun v hv => h v (List.mem_cons_of_mem _ hv)
    have ne : ¬ (Sum.inr w.name : Key) = Sum.inr x := fun z => h w List.mem_cons_self (Sum.inr.inj z)
    unfold valV at ih ⊢
    unfold numsAt
    rw [List.find?_cons_of_neg (by simpa using ne)]
    exact ih
theorem val_at : ∀ (ws : List Wk) (i j : Nat) (w : Wk), (ws.map (·.name)).Nodup → ws[j]? = some w → valV (numsAt i ws) (Sum.inr w.name) = some (.int ((i + j : Nat) : Int))
  | [], _, _, _, _, h => by cases h
  | v :: r, i, 0, w, _, h => by
    cases h
    unfold valV numsAt
    rw [List.find?_cons_of_pos (by simp)]
    rfl
  | v :: r, i, j + 1, w, nd, h => by
    have nd2 := List.nodup_cons.mp nd
    have hm : w ∈ r := List.mem_of_getElem? (show r[j]? = some w from h)
    have ih := val_at r (i + 1) j w nd2.2 h
    have ne : ¬ (Sum.inr v.name : Key) = Sum.inr w.name := fun z => nd2.1 (by show v.name ∈ r.map (·.name); rw [Sum.inr.inj z]; exact List.mem_map.mpr ⟨w, hm, rfl⟩)
    unfold valV at ih ⊢
    unfold numsAt
    rw [List.find?_cons_of_neg (by simpa using ne), ih]
    rw [show i + 1 + j = i + (j + 1) by omega]
theorem nums_snoc : ∀ (ws : List Wk) (i : Nat) (w : Wk), numsAt i (ws ++ [w]) = numsAt i ws ++ [(Sum.inr w.name, V.int ((i + ws.length : Nat) : Int))]
  | [], _, _ => rfl
  | v :: r, i, w => by
    show (Sum.inr v.name, V.int ((i : Nat) : Int)) :: numsAt (i + 1) (r ++ [w]) = _
    rw [nums_snoc r (i + 1) w, List.length_cons, show i + 1 + r.length = i + (r.length + 1) by omega]
    rfl
theorem nums_len : ∀ (ws : List Wk) (i : Nat), (numsAt i ws).length = ws.length
  | [], _ => rfl
  | _ :: r, i => congrArg (· + 1) (nums_len r (i + 1))
theorem nums_any : ∀ (ws : List Wk) (i : Nat) (x : Str), (∀ w ∈ ws, ¬ w.name = x) → (numsAt i ws).any (fun kv => decide (kv.1 = Sum.inr x)) = false
  | [], _, _, _ => rfl
  | w :: r, i, x, h => by
    have ih := nums_any r (i + 1) x fun v hv => h v (List.mem_cons_of_mem _ hv)
    have ne : ¬ (Sum.inr w.name : Key) = Sum.inr x := fun z => h w List.mem_cons_self (Sum.inr.inj z)
    unfold numsAt
    rw [List.any_cons, ih, decide_eq_false ne]
    rfl
theorem nums_put {ws : List Wk} {w : Wk} (h : ∀ v ∈ ws, ¬ v.name = w.name) : putK (numsAt 0 ws) (Sum.inr w.name) (V.int ((ws.length : Nat) : Int)) = numsAt 0 (ws ++ [w]) := by
  unfold putK
  rw [nums_any ws 0 w.name h, nums_snoc, Nat.zero_add]
  rfl
theorem putF_new {f : Str} {v : V} : ∀ {fs : List (Str × V)}, f ∉ fs.map (·.1) → putF f v fs = fs ++ [(f, v)]
  | [], _ => rfl
  | (g, u) :: r, h => by
    have h1 : ¬ g = f := fun z => h (by rw [z]; exact List.mem_cons_self)
    have h2 : f ∉ r.map (·.1) := fun z => h (List.mem_cons_of_mem _ z)
    show (if g = f then (g, v) :: r else (g, u) :: putF f v r) = _
    rw [if_neg h1, putF_new h2]
    rfl
theorem Good.tail {ws : List Wk} {j : Nat} {w : Wk} (g : Good ws) (h : ws[j]? = some w) : ∀ v ∈ ws.take j, ¬ v.name = w.name := by
  intro v hv e
  obtain ⟨i, hi, ev⟩ := List.mem_iff_getElem.mp hv
  rw [List.length_take] at hi
  rw [List.getElem_take] at ev
  obtain ⟨hj, ew⟩ := List.getElem?_eq_some_iff.mp h
  have nd := List.pairwise_iff_getElem.mp g.nd i j (by rw [List.length_map]; omega) (by rw [List.length_map]; exact hj) (by omega)
  rw [List.getElem_map, List.getElem_map, ev, ew] at nd
  exact nd e
section
variable {P : Program} {w : World} {K : PySem.W.Frag} {mg : Str → Option Value} {base : Heap}
abbrev N_is_hold : List Str := ["thing", "length"]
theorem sc_is_hold : FnScope N_is_hold ["thing", "length"] (defScope s_is_hold) := ⟨rfl, rfl, rfl, by decide +kernel, rfl, by decide +kernel, by decide +kernel⟩
abbrev N_holds_fit : List Str := ["holds", "length", "k", "hold"]
theorem sc_holds_fit : FnScope N_holds_fit ["holds", "length"] (defScope s_holds_fit) := ⟨rfl, rfl, rfl, by decide +kernel, rfl, by decide +kernel, by decide +kernel⟩
abbrev N_Work_init : List Str := ["self", "name", "gap", "length", "due", "late", "holds"]
theorem sc_Work_init : FnScope N_Work_init ["self", "name", "gap", "length", "due", "late", "holds"] (defScope s_Work_init) := ⟨rfl, rfl, rfl, by decide +kernel, rfl, by decide +kernel, by decide +kernel⟩
abbrev N_Duty_init : List Str := ["self", "works", "at"]
theorem sc_Duty_init : FnScope N_Duty_init ["self", "works"] (defScope s_Duty_init) := ⟨rfl, rfl, rfl, by decide +kernel, rfl, by decide +kernel, by decide +kernel⟩
abbrev N_Duty_number_of : List Str := ["self", "name"]
theorem sc_Duty_number_of : FnScope N_Duty_number_of ["self", "name"] (defScope s_Duty_number_of) := ⟨rfl, rfl, rfl, by decide +kernel, rfl, by decide +kernel, by decide +kernel⟩
abbrev N_Duty_crowd : List Str := ["self", "one", "greatest", "many"]
theorem sc_Duty_crowd : FnScope N_Duty_crowd ["self"] (defScope s_Duty_crowd) := ⟨rfl, rfl, rfl, by decide +kernel, rfl, by decide +kernel, by decide +kernel⟩
abbrev N_Duty_reordered : List Str := ["self", "places", "at"]
theorem sc_Duty_reordered : FnScope N_Duty_reordered ["self", "places"] (defScope s_Duty_reordered) := ⟨rfl, rfl, rfl, by decide +kernel, rfl, by decide +kernel, by decide +kernel⟩
abbrev N_works_of : List Str := ["duty", "at"]
theorem sc_works_of : FnScope N_works_of ["duty"] (defScope s_works_of) := ⟨rfl, rfl, rfl, by decide +kernel, rfl, by decide +kernel, by decide +kernel⟩
def sp_is_hold : Sp := fun vs H Q _ => ∃ (v : V) (h : Str × Int × Int) (n : Int), vs = [v, .int n] ∧ HoldV H v h ∧ Nm h.1 ∧ 0 ≤ h.2.1 ∧ h.2.1 < h.2.2 ∧ h.2.2 < n ∧ Q (.bl true) H
theorem ok_is_hold (T : Says K mg) : FnOk P w K mg base CX0 2 (He.fAd K d_is_hold.at_) (fdOf K d_is_hold.at_) ["thing", "length"] sp_is_hold := by
  refine (F_is_hold T).ok sc_is_hold (fun vs H Q E h => ?_) (fun cdv A outer s H vs Q E hr h => ?_)
  · obtain ⟨_, _, _, rfl, _⟩ := h
    rfl
  · refine ⟨_, PSs.nox (pss_cons (ps_if (PW.pt (pw_or (pt_not (pt_val (pe_callB call_isi (by rfl) (f_isinstance T) (by decide +kernel) (pa_cons (pv 0) (pa_cons (pe_bltn (v := .ty "tuple") rfl (f_tuple T) (by decide +kernel) rfl) pa_nil))))) (pw_or1 (pt_cmpR op_ne (pe_callB call_len_seq (by rfl) (f_len T) (by decide +kernel) (pa_cons (pv 0) pa_nil)) pe_int (nomark _))))) (pss_one (ps_ret pe_bl)) pss_nil) (pss_cons (ps_if (PW.pt (pw_or (pt_not (pt_val (pe_call (ok_is_name T) (hr.mono (by decide)) rfl (g_is_name T) (F_is_name T).kp (b_is_name T) .nil pass0 (pa_cons (pe_ix ix_tup (pv 0) pe_int (fun _ _ => rfl)) pa_nil)))) (pw_or (pt_not (pt_val (pe_call (ok_is_whole T) (hr.mono (by decide)) rfl (g_is_whole T) (F_is_whole T).kp (b_is_whole T) .nil pass0 (pa_cons (pe_ix ix_tup (pv 0) pe_int (fun _ _ => rfl)) pa_nil)))) (pw_or1 (pt_not (pt_val (pe_call (ok_is_whole T) (hr.mono (by decide)) rfl (g_is_whole T) (F_is_whole T).kp (b_is_whole T) .nil pass0 (pa_cons (pe_ix ix_tup (pv 0) pe_int (fun _ _ => rfl)) pa_nil)))))))) (pss_one (ps_ret pe_bl)) pss_nil) (pss_one (ps_ret (pe_chain3 op_le op_lt op_lt pe_int (pe_ix ix_tup (pv 0) pe_int (fun _ _ => rfl)) (pe_ix ix_tup (pv 0) pe_int (fun _ _ => rfl)) (pv 1)))))), ?_⟩
    obtain ⟨_, h, n, rfl, ⟨a, rfl, ha⟩, nm, h0, h1, h2, k⟩ := h
    refine ⟨_, rfl, ⟨_, _, .type "tuple", .type "tuple", true, rfl, .ty _, .base (.tup ha), kit_ty (by decide +kernel), _, rfl, itF rfl ?_⟩⟩
    refine ⟨_, rfl, a, _, rfl, .inr (SqT.of ha), rfl, _, rfl, itF rfl ?_⟩
    refine ⟨_, rfl, _, _, _, _, rfl, rfl, SqT.of ha, rfl, _, rfl, nm, _, rfl, itF rfl ?_⟩
    refine ⟨_, rfl, _, _, _, _, rfl, rfl, SqT.of ha, rfl, _, rfl, _, rfl, itF rfl ?_⟩
    refine ⟨_, rfl, _, _, _, _, rfl, rfl, SqT.of ha, rfl, _, rfl, _, rfl, itF rfl ?_⟩
    refine ⟨_, rfl, _, _, _, _, rfl, rfl, SqT.of ha, rfl, _, _, rfl, rfl, _, rfl, itT (decide_eq_true h0) ?_⟩
    refine ⟨_, rfl, _, _, _, _, rfl, rfl, SqT.of ha, rfl, _, _, rfl, rfl, _, rfl, itT (decide_eq_true h1) ?_⟩
    refine ⟨_, rfl, _, _, rfl, rfl, ?_⟩
    show Q (V.bl (decide (h.2.2 < n))) H
    rw [decide_eq_true h2]
    exact k
def sp_holds_fit : Sp := fun vs H Q _ => ∃ (v : V) (u : Wk), vs = [v, .int u.len] ∧ HoldsV H v u.holds ∧ Wb u ∧ ∀ H', Ex H H' → Q (.bl true) H'
theorem ok_holds_fit (T : Says K mg) : FnOk P w K mg base CX0 3 (He.fAd K d_holds_fit.at_) (fdOf K d_holds_fit.at_) ["holds", "length"] sp_holds_fit := by
  refine (F_holds_fit T).ok sc_holds_fit (fun vs H Q E h => ?_) (fun cdv A outer s H vs Q E hr h => ?_)
  · obtain ⟨_, _, rfl, _⟩ := h
    rfl
  · refine ⟨_, PSs.nox (pss_cons (ps_if (PW.pt (pw_or (pt_not (pt_val (pe_callB call_isi (by rfl) (f_isinstance T) (by decide +kernel) (pa_cons (pv 0) (pa_cons (pe_bltn (v := .ty "list") rfl (f_list T) (by decide +kernel) rfl) pa_nil))))) (pw_or1 (pt_cmpR op_gt (pe_callB call_len_seq (by rfl) (f_len T) (by decide +kernel) (pa_cons (pv 0) pa_nil)) (pe_gint rfl (i_MOST_HOLDS T)) (nomark _))))) (pss_one (ps_ret pe_bl)) pss_nil) (pss_cons (ps_for PassesOwn.never rfl (pi_range1 (by rfl) (f_range T) (pa_cons (pe_callB call_len_seq (by rfl) (f_len T) (by decide +kernel) (pa_cons (pv 0) pa_nil)) pa_nil)) (pg_name (i := 2) sc_holds_fit.nd rfl (Or.inl rfl)) (pss_cons (ps_if (pt_not (pt_val (pe_call (ok_is_hold T) (hr.mono (by decide)) rfl (g_is_hold T) (F_is_hold T).kp (b_is_hold T) .nil pass0 (pa_cons (pe_ix ix_list (pv 0) (pv 2) (fun _ _ => rfl)) (pa_cons (pv 1) pa_nil))))) (pss_one (ps_ret pe_bl)) pss_nil) (pss_one (ps_for PassesOwn.never rfl (pi_list (pe_slice sl_list (pv 0) po_none (po_some (pv 2)))) (pg_name (i := 3) sc_holds_fit.nd rfl (Or.inl rfl)) (pss_one ps_never))))) (pss_one (ps_ret pe_bl)))), ?_⟩
    obtain ⟨_, u, rfl, ⟨a, vs, rfl, ha, pr⟩, b, k⟩ := h
    have lv : vs.length ≤ 1 := by rw [paired_len pr]; exact b.h1
    refine ⟨_, rfl, ⟨_, _, .type "list", .type "list", true, rfl, .ty _, .base (.lst ha), kit_ty (by decide +kernel), _, rfl, itF rfl ?_⟩⟩
    refine ⟨_, rfl, a, _, rfl, .inl (SqL.of ha), _, _, rfl, rfl, _, rfl, ?_⟩
    refine itF (decide_eq_false (by omega)) ?_
    refine ⟨_, rfl, a, _, rfl, .inl (SqL.of ha), _, rfl, by omega, by omega, ?_⟩
    refine for_range (fun j σ H' => (∃ x y, σ = [some (.ref a), some (.int u.len), x, y]) ∧ Ex H H') ⟨⟨_, _, rfl⟩, Evl.Ex.refl _⟩ ?_ ?_
    · rintro j σ H1 hj ⟨⟨x, y, rfl⟩, e1⟩
      have j0 : j = 0 := by omega
      subst j0
      obtain ⟨v0, hv0⟩ : ∃ v, vs[0]? = some v := ⟨_, List.getElem?_eq_getElem (by omega)⟩
      obtain ⟨h, hh, hv⟩ := paired_back pr hv0
      have hb := b.h2 h (List.mem_of_getElem? hh)
      refine ⟨_, rfl, _, rfl, _, _, _, _, rfl, rfl, SqL.of (e1 _ _ ha), (show atI vs ((0 : Nat) : Int) = some v0 from atI_nat hv0), _, rfl, ?_⟩
      refine ⟨v0, h, u.len, rfl, hv.mono e1, hb.1, hb.2.1, hb.2.2.1, hb.2.2.2, _, rfl, itF rfl ?_⟩
      have e0 : cutV vs none (some (0 + ((0 : Nat) : Int))) = [] := by
        rw [show (0 : Int) + ((0 : Nat) : Int) = ((0 : Nat) : Int) from rfl, cut_upto, List.take_zero]
      refine ⟨_, rfl, _, rfl, _, rfl, a, _, rfl, SqL.of (e1 _ _ ha), fun p np => ?_⟩
      rw [e0]
      refine ⟨_, rfl, ⟨_, SqL.of upd_same⟩, for_list (K := K) (a := p) (xs := []) (fun m σ H' => (∃ x y, σ = [some (.ref a), some (.int u.len), x, y]) ∧ Ex (upd H1 p (.lst [])) H') ⟨⟨_, _, rfl⟩, Evl.Ex.refl _⟩ (fun m σ H' _ q => SqL.of (q.2 _ _ upd_same)) (fun m x σ H' hx _ => by cases hx) ?_⟩
      rintro σ H2 ⟨⟨x, y, rfl⟩, e2⟩
      exact ⟨⟨_, _, rfl⟩, (e1.trans (ex_up np)).trans e2⟩
    · rintro σ H1 ⟨⟨x, y, rfl⟩, e1⟩
      exact k H1 e1
theorem b_Work_init (T : Says K mg) : Binds K (fdOf K d_Work_init.at_) ["self", "name", "gap", "length", "due", "late", "holds"] [] := by
  obtain ⟨ds, r, b⟩ := (F_Work_init T).binds1 (ps := ["self", "name", "gap", "length", "due", "late", "holds"]) 7 3 (fun z => by cases z) rfl (fun _ _ _ _ _ _ _ us its hl hi => match us, its, hl, hi with
    | [_, _, _, _, _, _, _], [_, _, _], _, _ => ⟨_, rfl, rfl⟩)
  have e : ds = [] := by
    cases r
    rfl
  rw [e] at b
  exact b
theorem wkput1 {w : Wk} : putF "name" (.str w.name) ([] : List (Str × V)) = ([("name", V.str w.name)] : List (Str × V)) := putF_new (show ("name" : Str) ∉ ([] : List Str) by decide +kernel)
theorem wkput2 {w : Wk} : putF "gap" (.int w.gap) ([("name", V.str w.name)] : List (Str × V)) = ([("name", V.str w.name), ("gap", V.int w.gap)] : List (Str × V)) := putF_new (show ("gap" : Str) ∉ (["name"] : List Str) by decide +kernel)
theorem wkput3 {w : Wk} : putF "length" (.int w.len) ([("name", V.str w.name), ("gap", V.int w.gap)] : List (Str × V)) = ([("name", V.str w.name), ("gap", V.int w.gap), ("length", V.int w.len)] : List (Str × V)) := putF_new (show ("length" : Str) ∉ (["name", "gap"] : List Str) by decide +kernel)
theorem wkput4 {w : Wk} : putF "due" (.int w.due) ([("name", V.str w.name), ("gap", V.int w.gap), ("length", V.int w.len)] : List (Str × V)) = ([("name", V.str w.name), ("gap", V.int w.gap), ("length", V.int w.len), ("due", V.int w.due)] : List (Str × V)) := putF_new (show ("due" : Str) ∉ (["name", "gap", "length"] : List Str) by decide +kernel)
theorem wkput5 {w : Wk} : putF "late" (.int w.late) ([("name", V.str w.name), ("gap", V.int w.gap), ("length", V.int w.len), ("due", V.int w.due)] : List (Str × V)) = ([("name", V.str w.name), ("gap", V.int w.gap), ("length", V.int w.len), ("due", V.int w.due), ("late", V.int w.late)] : List (Str × V)) := putF_new (show ("late" : Str) ∉ (["name", "gap", "length", "due"] : List Str) by decide +kernel)
theorem wkput6 {w : Wk} {l : Addr} : putF "sections" (.ref l) ([("name", V.str w.name), ("gap", V.int w.gap), ("length", V.int w.len), ("due", V.int w.due), ("late", V.int w.late)] : List (Str × V)) = wkFs w l := putF_new (show ("sections" : Str) ∉ (["name", "gap", "length", "due", "late"] : List Str) by decide +kernel)
theorem upd_upd {H : Hp} {a : Addr} {o o' : HO} : upd (upd H a o) a o' = upd H a o' := by
  funext b
  by_cases h : b = a
  · rw [h, upd_same, upd_same]
  · rw [upd_ne h, upd_ne h, upd_ne h]
/-- a new work; B, H0: what stood before it was laid -/
def sp_Work_init (K : PySem.W.Frag) : Sp := fun vs H Q _ => ∃ (B H0 : Hp) (x dx : Addr) (u : Wk) (hv : V), vs = [.ref x, .str u.name, .int u.gap, .int u.len, .int u.due, .int u.late, hv] ∧ Gr B H0 B H ∧ H0 x = none ∧ B x = none ∧ H x = some (.ins (He.ga K "Work") dx []) ∧ HoldsV B hv u.holds ∧ Wb u ∧
  ∀ B' H', Gr B H0 B' H' → WkV K B' (.ref x) u → Q .non H'
theorem ok_Work_init (T : Says K mg) : FnOk P w K mg base CX0 4 (He.fAd K d_Work_init.at_) (fdOf K d_Work_init.at_) ["self", "name", "gap", "length", "due", "late", "holds"] (sp_Work_init K) := by
  refine (F_Work_init T).ok sc_Work_init (fun vs H Q E h => ?_) (fun cdv A outer s H vs Q E hr h => ?_)
  · obtain ⟨_, _, _, _, _, _, rfl, _⟩ := h
    rfl
  · refine ⟨_, PSs.nox (pss_cons (ps_if (pt_cmpR op_isN (pv 4) pe_non (nomark _)) (pss_one (ps_set (i := 4) sc_Work_init.nd rfl (Or.inl rfl) (pv 2))) pss_nil) (pss_cons (ps_if (pt_cmpR op_isN (pv 6) pe_non (nomark _)) (pss_one (ps_set (i := 6) sc_Work_init.nd rfl (Or.inl rfl) (pe_lst pa_nil))) pss_nil) (pss_cons (ps_if (PW.pt (pw_or (pt_not (pt_val (pe_call (ok_is_name T) (hr.mono (by decide)) rfl (g_is_name T) (F_is_name T).kp (b_is_name T) .nil pass0 (pa_cons (pv 1) pa_nil)))) (pw_or (pt_not (pt_val (pe_call (ok_from_on T) (hr.mono (by decide)) rfl (g_from_on T) (F_from_on T).kp (b_from_on T) .nil pass0 (pa_cons (pv 2) (pa_cons pe_int pa_nil))))) (pw_or1 (pt_not (pt_val (pe_call (ok_from_on T) (hr.mono (by decide)) rfl (g_from_on T) (F_from_on T).kp (b_from_on T) .nil pass0 (pa_cons (pv 3) (pa_cons pe_int pa_nil))))))))) (pss_one ps_never) pss_nil) (pss_cons (ps_if (PW.pt (pw_or (pt_not (pt_val (pe_call (ok_from_on T) (hr.mono (by decide)) rfl (g_from_on T) (F_from_on T).kp (b_from_on T) .nil pass0 (pa_cons (pv 4) (pa_cons pe_int pa_nil))))) (pw_or (pt_cmpR op_gt (pv 4) (pv 2) (nomark _)) (pw_or1 (pt_not (pt_val (pe_call (ok_from_on T) (hr.mono (by decide)) rfl (g_from_on T) (F_from_on T).kp (b_from_on T) .nil pass0 (pa_cons (pv 5) (pa_cons pe_int pa_nil))))))))) (pss_one ps_never) pss_nil) (pss_cons (ps_if (pt_not (pt_val (pe_call (ok_holds_fit T) (hr.mono (by decide)) rfl (g_holds_fit T) (F_holds_fit T).kp (b_holds_fit T) .nil pass0 (pa_cons (pv 6) (pa_cons (pv 3) pa_nil))))) (pss_one ps_never) pss_nil) (pss_cons (ps_fld (pv 0) (pv 1) rfl) (pss_cons (ps_fld (pv 0) (pv 2) rfl) (pss_cons (ps_fld (pv 0) (pv 3) rfl) (pss_cons (ps_fld (pv 0) (pv 4) rfl) (pss_cons (ps_fld (pv 0) (pv 5) rfl) (pss_one (ps_fld (pv 0) (pe_callTy call_list_of (by rfl) (f_list T) (by decide +kernel) (pa_cons (pv 6) pa_nil)) rfl)))))))))))), ?_⟩
    obtain ⟨B, H0, x, dx, u, hv, rfl, g, nx, bx, hx, hh, b, k⟩ := h
    obtain ⟨l0, vs, rfl, hl0, pr⟩ := id hh
    have hl1 := g.e _ _ hl0
    have := b.g1; have := b.g2; have := b.l1; have := b.d1; have := b.d2; have := b.t1
    refine ⟨_, rfl, rfl, _, rfl, itF rfl ?_⟩
    refine ⟨_, rfl, rfl, _, rfl, itF rfl ?_⟩
    refine ⟨_, rfl, _, rfl, b.nm, _, rfl, itF rfl ?_⟩
    refine ⟨_, rfl, _, _, rfl, _, rfl, ?_⟩
    rw [decide_eq_true (show u.gap ≥ 1 by omega)]
    refine itF rfl ⟨_, rfl, _, _, rfl, _, rfl, ?_⟩
    rw [decide_eq_true (show u.len ≥ 1 by omega)]
    refine itF rfl ⟨_, rfl, _, _, rfl, _, rfl, ?_⟩
    rw [decide_eq_true (show u.due ≥ 1 by omega)]
    refine itF rfl ⟨_, rfl, _, rfl, _, _, rfl, rfl, _, rfl, ?_⟩
    refine itF (decide_eq_false (by omega)) ⟨_, rfl, _, _, rfl, _, rfl, ?_⟩
    rw [decide_eq_true (show u.late ≥ 0 by omega)]
    refine itF rfl ⟨_, rfl, _, rfl, _, u, rfl, hh.mono g.e, b, fun H1 x1 => ⟨_, rfl, itF rfl ?_⟩⟩
    have hx1 := x1 _ _ hx
    refine ⟨_, rfl, _, rfl, x, _, dx, _, rfl, hx1, c_Work T, n_Work_name T, (show 0 < 1000 by decide), ?_⟩
    have g1 := (g.heap x1).write (o := .ins (He.ga K "Work") dx (putF "name" (.str u.name) [])) nx bx
    have h1 : upd H1 x (.ins (He.ga K "Work") dx (putF "name" (.str u.name) [])) x = some (.ins (He.ga K "Work") dx ([("name", V.str u.name)] : List (Str × V))) := by rw [upd_same, wkput1]
    generalize upd H1 x (.ins (He.ga K "Work") dx (putF "name" (.str u.name) [])) = G1 at g1 h1 ⊢
    refine ⟨_, rfl, _, rfl, x, _, dx, _, rfl, h1, c_Work T, n_Work_gap T, (show 1 < 1000 by decide), ?_⟩
    have g2 := g1.write (o := .ins (He.ga K "Work") dx (putF "gap" (.int u.gap) ([("name", V.str u.name)] : List (Str × V)))) nx bx
    have h2 : upd G1 x (.ins (He.ga K "Work") dx (putF "gap" (.int u.gap) ([("name", V.str u.name)] : List (Str × V)))) x = some (.ins (He.ga K "Work") dx ([("name", V.str u.name), ("gap", V.int u.gap)] : List (Str × V))) := by rw [upd_same, wkput2]
    generalize upd G1 x (.ins (He.ga K "Work") dx (putF "gap" (.int u.gap) ([("name", V.str u.name)] : List (Str × V)))) = G2 at g2 h2 ⊢
    refine ⟨_, rfl, _, rfl, x, _, dx, _, rfl, h2, c_Work T, n_Work_length T, (show 2 < 1000 by decide), ?_⟩
    have g3 := g2.write (o := .ins (He.ga K "Work") dx (putF "length" (.int u.len) ([("name", V.str u.name), ("gap", V.int u.gap)] : List (Str × V)))) nx bx
    have h3 : upd G2 x (.ins (He.ga K "Work") dx (putF "length" (.int u.len) ([("name", V.str u.name), ("gap", V.int u.gap)] : List (Str × V)))) x = some (.ins (He.ga K "Work") dx ([("name", V.str u.name), ("gap", V.int u.gap), ("length", V.int u.len)] : List (Str × V))) := by rw [upd_same, wkput3]
    generalize upd G2 x (.ins (He.ga K "Work") dx (putF "length" (.int u.len) ([("name", V.str u.name), ("gap", V.int u.gap)] : List (Str × V)))) = G3 at g3 h3 ⊢
    refine ⟨_, rfl, _, rfl, x, _, dx, _, rfl, h3, c_Work T, n_Work_due T, (show 3 < 1000 by decide), ?_⟩
    have g4 := g3.write (o := .ins (He.ga K "Work") dx (putF "due" (.int u.due) ([("name", V.str u.name), ("gap", V.int u.gap), ("length", V.int u.len)] : List (Str × V)))) nx bx
    have h4 : upd G3 x (.ins (He.ga K "Work") dx (putF "due" (.int u.due) ([("name", V.str u.name), ("gap", V.int u.gap), ("length", V.int u.len)] : List (Str × V)))) x = some (.ins (He.ga K "Work") dx ([("name", V.str u.name), ("gap", V.int u.gap), ("length", V.int u.len), ("due", V.int u.due)] : List (Str × V))) := by rw [upd_same, wkput4]
    generalize upd G3 x (.ins (He.ga K "Work") dx (putF "due" (.int u.due) ([("name", V.str u.name), ("gap", V.int u.gap), ("length", V.int u.len)] : List (Str × V)))) = G4 at g4 h4 ⊢
    refine ⟨_, rfl, _, rfl, x, _, dx, _, rfl, h4, c_Work T, n_Work_late T, (show 4 < 1000 by decide), ?_⟩
    have g5 := g4.write (o := .ins (He.ga K "Work") dx (putF "late" (.int u.late) ([("name", V.str u.name), ("gap", V.int u.gap), ("length", V.int u.len), ("due", V.int u.due)] : List (Str × V)))) nx bx
    have h5 : upd G4 x (.ins (He.ga K "Work") dx (putF "late" (.int u.late) ([("name", V.str u.name), ("gap", V.int u.gap), ("length", V.int u.len), ("due", V.int u.due)] : List (Str × V)))) x = some (.ins (He.ga K "Work") dx ([("name", V.str u.name), ("gap", V.int u.gap), ("length", V.int u.len), ("due", V.int u.due), ("late", V.int u.late)] : List (Str × V))) := by rw [upd_same, wkput5]
    generalize upd G4 x (.ins (He.ga K "Work") dx (putF "late" (.int u.late) ([("name", V.str u.name), ("gap", V.int u.gap), ("length", V.int u.len), ("due", V.int u.due)] : List (Str × V)))) = G5 at g5 h5 ⊢
    refine ⟨_, rfl, l0, vs, rfl, .inl (SqL.of (g5.e _ _ hl0)), fun l nl => ?_⟩
    have nxl : x ≠ l := ne_of_none h5 nl
    have bl : B l = none := ex_none g5.e nl
    refine ⟨_, rfl, x, _, dx, _, rfl, (upd_ne nxl).trans h5, c_Work T, n_Work_sections T, (show 5 < 1000 by decide), ?_⟩
    rw [wkput6]
    have g6 := (g5.new (o := .lst vs) nl).write (o := .ins (He.ga K "Work") dx (wkFs u l)) nx (by rw [upd_ne nxl]; exact bx)
    have g7 := g6.freeze nx (by rw [upd_ne nxl]; exact bx) upd_same
    refine k _ _ g7 ⟨x, dx, l, vs, rfl, upd_same, (upd_ne nxl.symm).trans upd_same, ?_⟩
    exact L2.Paired.mapP pr fun _ _ z => (z.mono (ex_up bl)).mono (ex_up (by rw [upd_ne nxl]; exact bx))
def sp_Duty_crowd (K : PySem.W.Frag) : Sp := fun vs H Q _ => ∃ (v : V) (ws : List Wk), vs = [v] ∧ DtV K H v ws ∧ Good ws ∧ ∀ c H', c ≤ 16 → Ex H H' → Q (.int c) H'
theorem ok_Duty_crowd (T : Says K mg) : FnOk P w K mg base CX0 2 (He.fAd K d_Duty_crowd.at_) (fdOf K d_Duty_crowd.at_) ["self"] (sp_Duty_crowd K) := by
  refine (F_Duty_crowd T).ok sc_Duty_crowd (fun vs H Q E h => ?_) (fun cdv A outer s H vs Q E hr h => ?_)
  · obtain ⟨_, _, rfl, _⟩ := h
    rfl
  · refine ⟨_, PSs.nox (pss_cons (ps_set (i := 2) sc_Duty_crowd.nd rfl (Or.inl rfl) (pe_callBK (cr_maxD (.inl rfl)) (by rfl) (f_max T) (by decide +kernel) (pa_cons (pe_lc (own := [("one", 1)]) rfl sc_Duty_crowd.nd (pi_list (pe_fld (pv 0) rfl)) (blkOk_by (N := N_Duty_crowd) (sc := defScope s_Duty_crowd) (by decide +kernel)) (fun _ _ _ _ _ => (pg_name (i := 1) sc_Duty_crowd.nd rfl (Or.inl rfl))) (fun _ _ _ _ _ => pts_nil) (fun _ _ _ _ _ => (show PE _ _ (tFld K _ _) from pe_fld (pv 1) rfl))) pa_nil) (pk_cons pe_int pk_nil))) (pss_cons (ps_set (i := 3) sc_Duty_crowd.nd rfl (Or.inl rfl) pe_int) (pss_cons (ps_for PassesOwn.never rfl (pi_list (pe_fld (pv 0) rfl)) (pg_name (i := 1) sc_Duty_crowd.nd rfl (Or.inl rfl)) (pss_one (ps_aug (i := 3) sc_Duty_crowd.nd rfl (Or.inl rfl) (pe_call (ok_rounds_up T).ok (hr.mono (by decide)) rfl (g_rounds_up T) (F_rounds_up T).kp (b_rounds_up T) .nil pass0 (pa_cons (pe_op op_add (pv 2) (pe_fld (pv 1) rfl)) (pa_cons (pe_fld (pv 1) rfl) pa_nil))) ip_add))) (pss_one (ps_ret (pv 3)))))), ?_⟩
    obtain ⟨_, ws, rfl, D, G, k⟩ := h
    obtain ⟨a, dx, wl, nd, xs, rfl, ha, hl, hp, hn⟩ := id D
    have few := G.few
    obtain ⟨un, u1, u2, rk⟩ := G.ok
    refine ⟨_, rfl, a, _, dx, _, _, rfl, ha, c_Duty T, n_Duty_works T, dt_works, wl, rfl, ⟨_, SqL.of hl⟩, fun F nF => ?_⟩
    refine lc_list (K := K) (a := wl) (xs := xs) (fun j H' => Ex H H' ∧ H' F = some (.lst ((ws.take j).map fun u => V.int u.due))) ⟨ex_up nF, by rw [upd_same]; rfl⟩ (fun j H' _ q => SqL.of (q.1 _ _ hl)) ?_ ?_
    · rintro j x H2 hj ⟨e2, hF⟩
      obtain ⟨u, hu1, hx⟩ := paired_back hp hj
      obtain ⟨b, bx, l, zs, rfl, hb, hl, hh⟩ := id hx
      refine ⟨rfl, _, rfl, b, _, bx, _, _, rfl, e2 _ _ hb, c_Work T, n_Work_due T, wk_due, _, hF, ?_, e2.mut nF, ?_⟩
      · refine Evl.sz_lt ?_
        rw [List.length_map, List.length_take]
        omega
      · rw [upd_same, take_snoc hu1, List.map_append]
        rfl
    rintro H2 ⟨e2, hF⟩
    rw [paired_len hp, List.take_of_length_le (Nat.le_refl _)] at hF
    have rest : ∀ m : Int, 0 ≤ m → m ≤ 8 * un → tSeq (tAsg (tC (.int 0)) (gName 3)) (tSeq (tFor (iList K (tFld K (tVar 0) "works")) (gName 1) (tAug 3 (tCall sp_rounds_up [] E0 (tCons (tOp (rI0 fun i j => .int (i + j)) (tVar 2) (tFld K (tVar 1) "late")) (tCons (tFld K (tVar 1) "gap") tNil))) (ipI fun i j => i + j))) (tRet (tVar 3))) { nx := fun _ H' => Q .non H', rt := Q } [some (.ref a), none, some (.int m), none] H2 := by
      intro m m0 m8
      refine ⟨_, rfl, a, _, dx, _, _, rfl, e2 _ _ ha, c_Duty T, n_Duty_works T, dt_works, wl, rfl, ⟨_, SqL.of (e2 _ _ hl)⟩, ?_⟩
      refine for_list (K := K) (a := wl) (xs := xs) (fun j σ H' => (∃ y c, σ = [some (.ref a), y, some (.int m), some (.int c)] ∧ c ≤ 4 * j) ∧ Ex H H') ⟨⟨_, _, rfl, by decide⟩, e2⟩ (fun j σ H' _ q => SqL.of (q.2 _ _ hl)) ?_ ?_
      · rintro j x σ H3 hj ⟨⟨y, c, rfl, c4⟩, e3⟩
        obtain ⟨u, hu1, hx⟩ := paired_back hp hj
        obtain ⟨b, bx, l, zs, rfl, hb, hl, hh⟩ := id hx
        have r := rk u (List.mem_of_getElem? hu1)
        have := r.g1; have := r.g2; have := r.t1; have := r.t2
        refine ⟨_, rfl, _, rfl, _, rfl, b, _, bx, _, _, rfl, e3 _ _ hb, c_Work T, n_Work_late T, wk_late, _, _, rfl, rfl, _, rfl, b, _, bx, _, _, rfl, e3 _ _ hb, c_Work T, n_Work_gap T, wk_gap, _, _, rfl, divp_ok (by omega) ?_, fun H4 e4 => ?_⟩
        · have b := (intBits_le_iff (m := 63) (x := m + u.late)).mpr (by omega)
          omega
        refine ⟨_, _, rfl, rfl, ⟨_, _, rfl, ?_⟩, e3.trans e4⟩
        have four : up (m + u.late) u.gap ≤ 4 := by
          rcases Int.lt_or_le 4 (up (m + u.late) u.gap) with l | l
          · have := (up_lt_iff (x := m + u.late) (g := u.gap) (by omega) 4).mp l
            omega
          · exact l
        show c + up (m + u.late) u.gap ≤ 4 * ((j + 1 : Nat) : Int)
        omega
      · rintro σ H3 ⟨⟨y, c, rfl, c4⟩, e3⟩
        have lx : xs.length ≤ 4 := by rw [paired_len hp]; exact few
        exact ⟨_, rfl, k c H3 (by omega) e3⟩
    refine ⟨F, ws.map (·.due), 0, rfl, rfl, SqL.of (by rw [hF, List.map_map]; rfl), fun _ => rest 0 (by decide) (by omega), fun m hm _ => ?_⟩
    obtain ⟨u, hu, rfl⟩ := List.mem_map.mp hm
    have r := rk u hu
    have := r.d1; have := r.d2; have := r.g2
    exact rest u.due (by omega) (by omega)
def sp_number_of (K : PySem.W.Frag) : Sp := fun vs H Q _ => ∃ (v : V) (ws : List Wk) (i : Nat) (u : Wk), vs = [v, .str u.name] ∧ DtV K H v ws ∧ (ws.map (·.name)).Nodup ∧ ws[i]? = some u ∧ Q (.int (i : Nat)) H
theorem ok_Duty_number_of (T : Says K mg) : FnOk P w K mg base CX0 1 (He.fAd K d_Duty_number_of.at_) (fdOf K d_Duty_number_of.at_) ["self", "name"] (sp_number_of K) := by
  refine (F_Duty_number_of T).ok sc_Duty_number_of (fun vs H Q E h => ?_) (fun cdv A outer s H vs Q E hr h => ?_)
  · obtain ⟨_, _, _, _, rfl, _⟩ := h
    rfl
  · refine ⟨_, PSs.nox (pss_cons (ps_if (PW.pt (pw_or (pt_not (pt_val (pe_callB call_isi (by rfl) (f_isinstance T) (by decide +kernel) (pa_cons (pv 1) (pa_cons (pe_bltn (v := .ty "str") rfl (f_str T) (by decide +kernel) rfl) pa_nil))))) (pw_or1 (pt_cmp (pc_dnotin (hu_of hr) (pv 1) (pe_fld (pv 0) rfl)))))) (pss_one ps_never) pss_nil) (pss_one (ps_ret (pe_dget (hu_of hr) (pe_fld (pv 0) rfl) (pv 1) (fun _ _ => rfl))))), ?_⟩
    obtain ⟨_, ws, i, u, rfl, ⟨a, dx, wl, nd, xs, rfl, ha, hl, hp, hn⟩, nod, hi, k⟩ := h
    have ev := val_at ws 0 i u nod hi
    rw [Nat.zero_add] at ev
    have dg : DGet H nd (.str u.name) (some (.int (i : Nat))) := by
      rw [← ev]
      exact DGet.k (k := Sum.inr u.name) hn
    refine ⟨_, rfl, ⟨_, _, .type "str", .type "str", true, rfl, .ty _, .base (.str _), kit_ty (by decide +kernel), _, rfl, itF rfl ?_⟩⟩
    refine ⟨_, rfl, _, rfl, a, _, dx, _, _, rfl, ha, c_Duty T, n_Duty_numbers T, dt_numbers, nd, _, rfl, dg, _, rfl, itF rfl ?_⟩
    exact ⟨_, rfl, a, _, dx, _, _, rfl, ha, c_Duty T, n_Duty_numbers T, dt_numbers, _, rfl, nd, _, rfl, dg, k⟩
/-- a new duty; B, H0: what stood before it was laid -/
def sp_Duty_init (K : PySem.W.Frag) : Sp := fun vs H Q _ => ∃ (B H0 : Hp) (x dx l : Addr) (ws : List Wk) (xs : List V), vs = [.ref x, .ref l] ∧ Gr B H0 B H ∧ H0 x = none ∧ B x = none ∧ H x = some (.ins (He.ga K "Duty") dx []) ∧ H l = some (.lst xs) ∧ Paired (WkV K B) xs ws ∧ Good ws ∧
  ∀ B' H', Gr B H0 B' H' → DtV K B' (.ref x) ws → Q .non H'
theorem dt_put1 {v : V} : putF "works" v ([] : List (Str × V)) = ([("works", v)] : List (Str × V)) := putF_new (show ("works" : Str) ∉ ([] : List Str) by decide +kernel)
theorem dt_put2 {a b : Addr} : putF "numbers" (.ref b) ([("works", .ref a)] : List (Str × V)) = dtFs a b := putF_new (show ("numbers" : Str) ∉ (["works"] : List Str) by decide +kernel)
theorem ok_Duty_init (T : Says K mg) : FnOk P w K mg base CX0 3 (He.fAd K d_Duty_init.at_) (fdOf K d_Duty_init.at_) ["self", "works"] (sp_Duty_init K) := by
  refine (F_Duty_init T).ok sc_Duty_init (fun vs H Q E h => ?_) (fun cdv A outer s H vs Q E hr h => ?_)
  · obtain ⟨_, _, _, _, _, _, _, rfl, _⟩ := h
    rfl
  · refine ⟨_, PSs.nox (pss_cons (ps_if (pt_not (pt_val (pe_callB call_isi (by rfl) (f_isinstance T) (by decide +kernel) (pa_cons (pv 1) (pa_cons (pe_bltn (v := .ty "list") rfl (f_list T) (by decide +kernel) rfl) pa_nil))))) (pss_one ps_never) pss_nil) (pss_cons (ps_fld (pv 0) (pe_callTy call_list_of (by rfl) (f_list T) (by decide +kernel) (pa_cons (pv 1) pa_nil)) rfl) (pss_cons (ps_fld (pv 0) pe_dnewK rfl) (pss_cons (ps_for PassesOwn.never rfl (pi_range1 (by rfl) (f_range T) (pa_cons (pe_callB call_len_seq (by rfl) (f_len T) (by decide +kernel) (pa_cons (pv 1) pa_nil)) pa_nil)) (pg_name (i := 2) sc_Duty_init.nd rfl (Or.inl rfl)) (pss_cons (ps_if (PW.pt (pw_or (pt_not (pt_val (pe_callB call_isi (by rfl) (f_isinstance T) (by decide +kernel) (pa_cons (pe_ix ix_list (pv 1) (pv 2) (fun _ _ => rfl)) (pa_cons (pe_glob (v := .ref (He.ga K "Work")) rfl (g_Work T) rfl) pa_nil))))) (pw_or1 (pt_cmp (pc_din (hu_of hr) (pe_fld (pe_ix ix_list (pv 1) (pv 2) (fun _ _ => rfl)) rfl) (pe_fld (pv 0) rfl)))))) (pss_one ps_never) pss_nil) (pss_one (ps_dput (hu_of hr) (pe_fld (pv 0) rfl) (pe_fld (pe_ix ix_list (pv 1) (pv 2) (fun _ _ => rfl)) rfl) (pv 2) rfl)))) (pss_one (ps_if (PW.pt (pw_or (pt_cmpR op_gt (pe_callB call_len_seq (by rfl) (f_len T) (by decide +kernel) (pa_cons (pv 1) pa_nil)) (pe_gint rfl (i_MOST_WORKS T)) (nomark _)) (pw_or1 (pt_cmpR op_gt (pe_meth0 (pv 0) (c_Duty T) (m_Duty_crowd T) (ok_Duty_crowd T) (hr.mono (by decide)) (b_Duty_crowd T) .nil pass0) (pe_gint rfl (i_MOST_CROWD T)) (nomark _))))) (pss_one ps_never) pss_nil)))))), ?_⟩
    obtain ⟨B, H0, x, dx, l, ws, xs, rfl, g, nx, bx, hx, hl, pr, G, k⟩ := h
    have few := G.few
    have lx : xs.length ≤ 4 := by rw [paired_len pr]; exact few
    have nlx : l ≠ x := ne_of hl hx (by intro q; cases q)
    refine ⟨_, rfl, ⟨_, _, .type "list", .type "list", true, rfl, .ty _, .base (.lst hl), kit_ty (by decide +kernel), _, rfl, itF rfl ?_⟩⟩
    -- self.works = list(works)
    refine ⟨_, rfl, l, xs, rfl, .inl (SqL.of hl), fun wl nw => ?_⟩
    have nwx : x ≠ wl := ne_of_none hx nw
    have nwl : l ≠ wl := ne_of_none hl nw
    have nw0 : H0 wl = none := Evl.fresh_back g.eH nw
    have bw : B wl = none := ex_none g.e nw
    refine ⟨_, rfl, x, _, dx, _, rfl, (upd_ne nwx).trans hx, c_Duty T, n_Duty_works T, (show 0 < 1000 by decide), ?_⟩
    rw [dt_put1]
    have g1 := (g.heap (ex_up (o := .lst xs) nw)).write (o := .ins (He.ga K "Duty") dx ([("works", .ref wl)] : List (Str × V))) nx bx
    have hx1 : upd (upd H wl (.lst xs)) x (.ins (He.ga K "Duty") dx ([("works", .ref wl)] : List (Str × V))) x = some (.ins (He.ga K "Duty") dx ([("works", .ref wl)] : List (Str × V))) := upd_same
    have hw1 : upd (upd H wl (.lst xs)) x (.ins (He.ga K "Duty") dx ([("works", .ref wl)] : List (Str × V))) wl = some (.lst xs) := (upd_ne nwx.symm).trans upd_same
    have hl1 : upd (upd H wl (.lst xs)) x (.ins (He.ga K "Duty") dx ([("works", .ref wl)] : List (Str × V))) l = some (.lst xs) := (upd_ne nlx).trans ((upd_ne nwl).trans hl)
    generalize upd (upd H wl (.lst xs)) x (.ins (He.ga K "Duty") dx ([("works", .ref wl)] : List (Str × V))) = H1 at g1 hx1 hw1 hl1 ⊢
    -- self.numbers = {}
    refine fun nd nn => ?_
    have nnx : x ≠ nd := ne_of_none hx1 nn
    have nnw : wl ≠ nd := ne_of_none hw1 nn
    have nnl : l ≠ nd := ne_of_none hl1 nn
    have nn0 : H0 nd = none := Evl.fresh_back g1.eH nn
    have bn : B nd = none := ex_none g1.e nn
    refine ⟨_, rfl, x, _, dx, _, rfl, (upd_ne nnx).trans hx1, c_Duty T, n_Duty_numbers T, (show 1 < 1000 by decide), ?_⟩
    rw [dt_put2]
    have g2 := (g1.heap (ex_up (o := .dK []) nn)).write (o := .ins (He.ga K "Duty") dx (dtFs wl nd)) nx bx
    have hx2 : upd (upd H1 nd (.dK [])) x (.ins (He.ga K "Duty") dx (dtFs wl nd)) x = some (.ins (He.ga K "Duty") dx (dtFs wl nd)) := upd_same
    have hw2 : upd (upd H1 nd (.dK [])) x (.ins (He.ga K "Duty") dx (dtFs wl nd)) wl = some (.lst xs) := (upd_ne nwx.symm).trans ((upd_ne nnw).trans hw1)
    have hl2 : upd (upd H1 nd (.dK [])) x (.ins (He.ga K "Duty") dx (dtFs wl nd)) l = some (.lst xs) := (upd_ne nlx).trans ((upd_ne nnl).trans hl1)
    have hn2 : upd (upd H1 nd (.dK [])) x (.ins (He.ga K "Duty") dx (dtFs wl nd)) nd = some (.dK []) := (upd_ne nnx.symm).trans upd_same
    generalize upd (upd H1 nd (.dK [])) x (.ins (He.ga K "Duty") dx (dtFs wl nd)) = H2 at g2 hx2 hw2 hl2 hn2 ⊢
    refine ⟨_, rfl, l, _, rfl, .inl (SqL.of hl2), _, rfl, by omega, by omega, ?_⟩
    refine for_range (fun j σ H' => (∃ y, σ = [some (.ref x), some (.ref l), y]) ∧ Gr B H0 B H' ∧ H' x = some (.ins (He.ga K "Duty") dx (dtFs wl nd)) ∧ H' wl = some (.lst xs) ∧ H' l = some (.lst xs) ∧ H' nd = some (.dK (numsAt 0 (ws.take j)))) ⟨⟨_, rfl⟩, g2, hx2, hw2, hl2, hn2⟩ ?_ ?_
    · rintro j σ H3 hj ⟨⟨y, rfl⟩, g3, hx3, hw3, hl3, hn3⟩
      have hj' : j < xs.length := by omega
      obtain ⟨v, hv⟩ : ∃ v, xs[j]? = some v := ⟨_, List.getElem?_eq_getElem hj'⟩
      obtain ⟨u, hu, hvu⟩ := paired_back pr hv
      obtain ⟨b, bx', l', ys, rfl, hb, _, _⟩ := id hvu
      have hb3 := g3.e _ _ hb
      have ej : ((0 : Int) + (j : Int)) = ((j : Nat) : Int) := by omega
      have no := G.tail hu
      have vn := val_no (ws.take j) 0 u.name no
      have dg : DGet H3 nd (.str u.name) none := by
        rw [← vn]
        exact DGet.k (k := Sum.inr u.name) hn3
      have at_ : atI xs (0 + (j : Int)) = some (.ref b) := by
        rw [ej]
        exact atI_nat hv
      refine ⟨_, rfl, _, rfl, _, _, _, _, rfl, rfl, SqL.of hl3, at_, ⟨_, _, .ref (He.ga K "Work"), .ref (He.ga K "Work"), true, rfl, .own _, .base (isW T hb3), by unfold PySem.W.kitOne; rw [if_pos (by simp)], _, rfl, itF rfl ?_⟩⟩
      refine ⟨_, rfl, _, rfl, _, _, _, _, rfl, rfl, SqL.of hl3, at_, b, _, bx', _, _, rfl, hb3, c_Work T, n_Work_name T, wk_name, _, rfl, x, _, dx, _, _, rfl, hx3, c_Duty T, n_Duty_numbers T, dt_numbers, nd, _, rfl, dg, _, rfl, itF rfl ?_⟩
      refine ⟨_, rfl, _, rfl, x, _, dx, _, _, rfl, hx3, c_Duty T, n_Duty_numbers T, dt_numbers, _, rfl, _, rfl, _, _, _, _, rfl, rfl, SqL.of hl3, at_, b, _, bx', _, _, rfl, hb3, c_Work T, n_Work_name T, wk_name, nd, _, rfl, DPut.k (k := Sum.inr u.name) hn3 ?_, ?_⟩
      · rw [nums_len, List.length_take]
        exact Evl.sz_lt (by omega)
      have lt : (ws.take j).length = j := by
        rw [List.length_take, ← paired_len pr]
        omega
      have np := nums_put (ws := ws.take j) (w := u) no
      rw [lt] at np
      refine ⟨⟨_, rfl⟩, g3.write nn0 bn, (upd_ne nnx).trans hx3, (upd_ne nnw).trans hw3, (upd_ne nnl).trans hl3, ?_⟩
      rw [upd_same, ej, np, take_snoc hu]
    · rintro σ H3 ⟨⟨y, rfl⟩, g3, hx3, hw3, hl3, hn3⟩
      rw [List.take_of_length_le (by rw [← paired_len pr]; omega)] at hn3
      have D3 : DtV K H3 (.ref x) ws := ⟨x, dx, wl, nd, xs, rfl, hx3, hw3, L2.Paired.mapP pr fun _ _ z => z.mono g3.e, hn3⟩
      refine ⟨_, rfl, l, _, rfl, .inl (SqL.of hl3), _, _, rfl, rfl, _, rfl, ?_⟩
      refine itF (decide_eq_false (by omega)) ?_
      refine ⟨_, rfl, x, dx, _, rfl, hx3, rfl, _, ws, rfl, D3, G, fun c H4 c16 e4 => ?_⟩
      refine ⟨_, _, rfl, rfl, _, rfl, ?_⟩
      refine itF (decide_eq_false (by omega)) ?_
      have g4 := g3.heap e4
      have f1 := g4.freeze nw0 bw (e4 _ _ hw3)
      have f2 := f1.freeze nn0 (by rw [upd_ne nnw.symm]; exact bn) (e4 _ _ hn3)
      have f3 := f2.freeze nx (by rw [upd_ne nnx, upd_ne nwx]; exact bx) (e4 _ _ hx3)
      refine k _ _ f3 ⟨x, dx, wl, nd, xs, rfl, upd_same, ?_, ?_, ?_⟩
      · rw [upd_ne nwx.symm, upd_ne nnw, upd_same]
      · exact L2.Paired.mapP pr fun _ _ z => z.mono f3.eB
      · rw [upd_ne nnx.symm, upd_same]
/-- the works of a duty: a new list -/
def sp_works_of (K : PySem.W.Frag) : Sp := fun vs H Q _ => ∃ (B : Hp) (v : V) (ws : List Wk), vs = [v] ∧ Ex B H ∧ DtV K B v ws ∧ ws.length ≤ 4 ∧ ∀ p xs H', H p = none → Ex H H' → H' p = some (.lst xs) → Paired (WkV K B) xs ws → Q (.ref p) H'
theorem ok_works_of (T : Says K mg) : FnOk P w K mg base CX0 2 (He.fAd K d_works_of.at_) (fdOf K d_works_of.at_) ["duty"] (sp_works_of K) := by
  refine (F_works_of T).ok sc_works_of (fun vs H Q E h => ?_) (fun cdv A outer s H vs Q E hr h => ?_)
  · obtain ⟨_, _, _, rfl, _⟩ := h
    rfl
  · refine ⟨_, PSs.nox (pss_one (ps_ret (pe_lc (own := [("at", 1)]) rfl sc_works_of.nd (pi_range1 (by rfl) (f_range T) (pa_cons (pe_meth0 (pv 0) (c_Duty T) (m_Duty_size T) (ok_Duty_size T).ok (hr.mono (by decide)) (b_Duty_size T) .nil pass0) pa_nil)) (blkOk_by (N := N_works_of) (sc := defScope s_works_of) (by decide +kernel)) (fun _ _ _ _ _ => (pg_name (i := 1) sc_works_of.nd rfl (Or.inl rfl))) (fun _ _ _ _ _ => pts_nil) (fun _ _ _ _ _ => (pe_meth (pv 0) (c_Duty T) (m_Duty_work T) (ok_Duty_work T).ok (hr.mono (by decide)) (b_Duty_work T) .nil pass0 (pa_cons (pv 1) pa_nil)))))), ?_⟩
    obtain ⟨B, _, ws, rfl, eB, D, few, k⟩ := h
    obtain ⟨a, dx, wl, nd, xs, rfl, ha, hl, hp, hn⟩ := id D
    refine ⟨_, rfl, a, dx, _, rfl, eB _ _ ha, rfl, _, ws, rfl, D.mono eB, ?_⟩
    refine ⟨_, rfl, by omega, by omega, fun F nF => ?_⟩
    refine lc_range (fun j H' => Ex H H' ∧ ∃ vs, H' F = some (.lst vs) ∧ Paired (WkV K B) vs (ws.take j)) ⟨ex_up nF, [], upd_same, .nil⟩ ?_ ?_
    · rintro j H2 hj ⟨e2, vs, hF, pr⟩
      have hj' : j < ws.length := by omega
      obtain ⟨uj, huj⟩ : ∃ u, ws[j]? = some u := ⟨_, List.getElem?_eq_getElem hj'⟩
      have ej : ((0 : Int) + (j : Int)) = ((j : Nat) : Int) := by omega
      refine ⟨rfl, _, rfl, a, dx, _, rfl, e2 _ _ (eB _ _ ha), rfl, _, rfl, _, ws, j, uj, by rw [ej]; rfl, B, eB.trans e2, D, huj, fun x hx => ⟨vs, hF, ?_, e2.mut nF, vs ++ [x], upd_same, ?_⟩⟩
      · have l := paired_len pr
        rw [List.length_take] at l
        exact Evl.sz_lt (by omega)
      · rw [take_snoc huj]
        exact paired_snoc pr hx
    · rintro H2 ⟨e2, vs, hF, pr⟩
      have ei : ((ws.length : Nat) : Int).toNat = ws.length := by omega
      rw [ei, List.take_of_length_le (Nat.le_refl _)] at pr
      exact k F vs H2 nF e2 hF pr
end
end Dty
set_option Elab.async false
set_option linter.all false
set_option maxRecDepth 100000
set_option maxHeartbeats 4000000
namespace Dty
open PySem PySem.Spec PyProof.Rows L2 Dq TL
theorem gr_make {B0 H0 B H1 : Hp} {x dx : Addr} {o o' : HO} (g : Gr B0 H0 B H1) (nx : H1 x = none) (ndx : H1 dx = none) (ne : dx ≠ x) : Gr B0 H0 B (upd (upd H1 dx o) x o') := g.heap ((ex_up ndx).trans (ex_up (by rw [upd_ne ne.symm]; exact nx)))
theorem Good.perm {ws ws' : List Wk} (g : Good ws) (p : ws'.Perm ws) : Good ws' := by
  obtain ⟨u, u1, u2, a⟩ := g.ok
  exact ⟨⟨u, u1, u2, fun w h => a w (p.mem_iff.mp h)⟩, ((p.map (·.name)).nodup_iff).mpr g.nd, by rw [p.length_eq]; exact g.few⟩
theorem paired_perm {ws ws' : List Wk} {ns : List Nat} (h : Paired (fun n w => ws[n]? = some w) ns ws') : ns.filterMap (fun n => ws[n]?) = ws' := by
  induction h with
  | nil => rfl
  | cons r t ih => rw [List.filterMap_cons, r, ih]
theorem range_all (ws : List Wk) : (List.range ws.length).filterMap (fun n => ws[n]?) = ws := by
  induction ws with
  | nil => rfl
  | cons w r ih =>
    rw [List.length_cons, List.range_succ_eq_map, List.filterMap_cons, List.filterMap_map]
    show w :: (List.range r.length).filterMap (fun n => r[n]?) = w :: r
    rw [ih]
/-- where the names stand -/
def placesOf (ws ws' : List Wk) : List Nat := ws'.map fun w => (ws.map (·.name)).idxOf w.name
theorem places_at {ws : List Wk} (nd : (ws.map (·.name)).Nodup) {w : Wk} (h : w ∈ ws) : ws[(ws.map (·.name)).idxOf w.name]? = some w := by
  obtain ⟨i, hi, ei⟩ := List.mem_iff_getElem.mp h
  have z := nd.idxOf_getElem i (by rw [List.length_map]; exact hi)
  rw [List.getElem_map, ei] at z
  rw [z, List.getElem?_eq_getElem hi, ei]
theorem places_pair {ws : List Wk} (nd : (ws.map (·.name)).Nodup) : ∀ ws' : List Wk, (∀ w ∈ ws', w ∈ ws) → Paired (fun n w => ws[n]? = some w) (placesOf ws ws') ws'
  | [], _ => .nil
  | w :: r, h => .cons (places_at nd (h w List.mem_cons_self)) (places_pair nd r fun v hv => h v (List.mem_cons_of_mem _ hv))
theorem places_self {ws : List Wk} (nd : (ws.map (·.name)).Nodup) : placesOf ws ws = List.range ws.length := by
  apply List.ext_getElem
  · unfold placesOf
    rw [List.length_map, List.length_range]
  · intro i h1 h2
    unfold placesOf at h1 ⊢
    rw [List.length_map] at h1
    rw [List.getElem_map, List.getElem_range]
    have z := nd.idxOf_getElem i (by rw [List.length_map]; exact h1)
    rw [List.getElem_map] at z
    exact z
theorem places_perm {ws ws' : List Wk} (nd : (ws.map (·.name)).Nodup) (p : ws'.Perm ws) : (placesOf ws ws').Perm (List.range ws.length) := by
  rw [← places_self nd]
  exact p.map _
theorem sorted_range {l : List Int} {n : Nat} (p : l.Perm ((List.range n).map fun (i : Nat) => (i : Int))) (s : l.Pairwise (· ≤ ·)) : l = (List.range n).map fun (i : Nat) => (i : Int) := by
  refine List.Perm.eq_of_pairwise (fun a b _ _ h1 h2 => Int.le_antisymm h1 h2) s ?_ p
  rw [List.pairwise_map]
  exact List.Pairwise.imp (fun h => by omega) List.pairwise_lt_range
section
variable {P : Program} {w : World} {K : PySem.W.Frag} {mg : Str → Option Value} {base : Heap}
abbrev N_in_order : List Str := ["duty", "names", "name"]
theorem sc_in_order : FnScope N_in_order ["duty", "names"] (defScope s_in_order) := ⟨rfl, rfl, rfl, by decide +kernel, rfl, by decide +kernel, by decide +kernel⟩
abbrev N_without_work : List Str := ["duty", "name", "at", "works"]
theorem sc_without_work : FnScope N_without_work ["duty", "name"] (defScope s_without_work) := ⟨rfl, rfl, rfl, by decide +kernel, rfl, by decide +kernel, by decide +kernel⟩
theorem rgV_ints (n : Nat) : rgV 0 (n : Nat) = ((List.range n).map fun (i : Nat) => (i : Int)).map V.int := by
  unfold rgV
  rw [List.map_map, show (((n : Nat) : Int) - 0).toNat = n by omega]
  apply List.map_congr_left
  intro i _
  show V.int (0 + (i : Int)) = V.int (i : Int)
  rw [Int.zero_add]
def sp_reordered (K : PySem.W.Frag) : Sp := fun vs H Q _ => ∃ (B : Hp) (v : V) (ws ws' : List Wk) (ns : List Nat) (p : Addr), vs = [v, .ref p] ∧ Ex B H ∧ DtV K B v ws ∧ Good ws ∧ Good ws' ∧ H p = some (.lst ((nInts ns).map V.int)) ∧ Paired (fun n w => ws[n]? = some w) ns ws' ∧ ns.Perm (List.range ws.length) ∧
  ∀ x B' H', Gr B H B' H' → DtV K B' x ws' → Q x H'
theorem ok_Duty_reordered (T : Says K mg) : FnOk P w K mg base CX0 5 (He.fAd K d_Duty_reordered.at_) (fdOf K d_Duty_reordered.at_) ["self", "places"] (sp_reordered K) := by
  refine (F_Duty_reordered T).ok sc_Duty_reordered (fun vs H Q E h => ?_) (fun cdv A outer s H vs Q E hr h => ?_)
  · obtain ⟨_, _, _, _, _, _, rfl, _⟩ := h
    rfl
  · refine ⟨_, PSs.nox (pss_cons (ps_if (PW.pt (pw_or (pt_not (pt_val (pe_callB call_isi (by rfl) (f_isinstance T) (by decide +kernel) (pa_cons (pv 1) (pa_cons (pe_bltn (v := .ty "list") rfl (f_list T) (by decide +kernel) rfl) pa_nil))))) (pw_or1 (pt_not (pt_val (pe_callB (cr_all rfl) (by rfl) (f_all T) (by decide +kernel) (pa_cons (pe_lc (own := [("at", 2)]) rfl sc_Duty_reordered.nd (pi_list (pv 1)) (blkOk_by (N := N_Duty_reordered) (sc := defScope s_Duty_reordered) (by decide +kernel)) (fun _ _ _ _ _ => (pg_name (i := 2) sc_Duty_reordered.nd rfl (Or.inl rfl))) (fun _ _ _ _ _ => pts_nil) (fun _ _ _ _ _ => (pe_call (ok_is_whole T) (hr.mono (by decide)) rfl (g_is_whole T) (F_is_whole T).kp (b_is_whole T) .nil pass0 (pa_cons (pv 2) pa_nil)))) pa_nil))))))) (pss_one ps_never) pss_nil) (pss_cons (ps_if (pt_cmpR (op_neD hr.units) (pe_callB cr_sorted (by rfl) (f_sorted T) (by decide +kernel) (pa_cons (pv 1) pa_nil)) (pe_listRg rfl (by rfl) (f_list T) (prg_1 (by rfl) (f_range T) (pe_callB call_len_seq (by rfl) (f_len T) (by decide +kernel) (pa_cons (pe_fld (pv 0) rfl) pa_nil)))) (nomark _)) (pss_one ps_never) pss_nil) (pss_one (ps_ret (pe_make (k_Duty T) (ok_Duty_init T) (hr.mono (by decide)) rfl (g_Duty T) (b_Duty_init T) .nil pass0 (pa_cons (pe_lc (own := [("at", 2)]) rfl sc_Duty_reordered.nd (pi_list (pv 1)) (blkOk_by (N := N_Duty_reordered) (sc := defScope s_Duty_reordered) (by decide +kernel)) (fun _ _ _ _ _ => (pg_name (i := 2) sc_Duty_reordered.nd rfl (Or.inl rfl))) (fun _ _ _ _ _ => pts_nil) (fun _ _ _ _ _ => (pe_ix (show IxR _ (rIxL K) from ix_list) (show PE _ _ (tFld K _ _) from pe_fld (pv 0) rfl) (pv 2) (fun _ _ => rfl)))) pa_nil)))))), ?_⟩
    obtain ⟨B, _, ws, ws', ns, p, rfl, eB, D, G, G', hp0, pr, pm, k⟩ := h
    obtain ⟨a, dx, wl, nd, xs, rfl, ha, hl, hp, hn⟩ := id D
    have few := G.few
    have ln : ns.length ≤ 4 := by rw [pm.length_eq, List.length_range]; exact few
    refine ⟨_, rfl, ⟨_, _, .type "list", .type "list", true, rfl, .ty _, .base (.lst hp0), kit_ty (by decide +kernel), _, rfl, itF rfl ?_⟩⟩
    -- all([is_whole(at) for at in places])
    refine ⟨_, rfl, p, rfl, ⟨_, SqL.of hp0⟩, fun F nF => ?_⟩
    refine lc_list (K := K) (a := p) (xs := (nInts ns).map V.int) (fun j H' => Ex H H' ∧ H' F = some (.lst ((List.replicate j true).map V.bl)) ∧ j ≤ 5) ⟨ex_up nF, upd_same, by decide⟩ (fun j H' _ q => SqL.of (q.1 _ _ hp0)) ?_ ?_
    · rintro j x H2 hj ⟨e2, hF, _⟩
      rw [List.getElem?_map] at hj
      obtain ⟨hlt, _⟩ : j < ns.length ∧ True := by
        refine ⟨?_, trivial⟩
        cases e : (nInts ns)[j]? with
        | none =>
          rw [e] at hj
          cases hj
        | some n =>
          obtain ⟨z, _⟩ := List.getElem?_eq_some_iff.mp e
          unfold nInts at z
          rw [List.length_map] at z
          exact z
      cases e : (nInts ns)[j]? with
      | none =>
        rw [e] at hj
        cases hj
      | some n =>
        rw [e] at hj
        cases hj
        refine ⟨rfl, _, rfl, n, rfl, _, hF, ?_, e2.mut nF, ?_, by omega⟩
        · rw [List.length_map, List.length_replicate]
          exact Evl.sz_lt (by omega)
        · rw [upd_same, List.replicate_succ', List.map_append]
          rfl
    rintro H2 ⟨e2, hF, _⟩
    refine ⟨F, _, rfl, SqL.of hF, ?_⟩
    rw [show (List.replicate ((nInts ns).map V.int).length true).all id = true by simp]
    refine ⟨_, rfl, itF rfl ?_⟩
    -- sorted(places) != list(range(len(self.works)))
    have hp2 := e2 _ _ hp0
    refine ⟨_, rfl, p, nInts ns, rfl, SqL.of hp2, ?_, fun ns' q pm' so nq => ?_⟩
    · unfold nInts
      rw [List.length_map]
      omega
    have eso : ns' = (List.range ws.length).map fun (i : Nat) => (i : Int) := sorted_range (pm'.trans (pm.map _)) so
    have e3 := e2.trans (ex_up (o := .lst (ns'.map V.int)) nq)
    refine ⟨_, rfl, a, _, dx, _, _, rfl, e3 _ _ (eB _ _ ha), c_Duty T, n_Duty_works T, dt_works, wl, xs, rfl, .inl (SqL.of (e3 _ _ (eB _ _ hl))), _, rfl, RgOk.of_le (by decide) (by rw [paired_len hp]; omega) (by decide) (by omega), fun r nr => ?_⟩
    rw [paired_len hp, rgV_ints]
    refine ⟨_, _, .lst (SqL.of (ex_up nr _ _ upd_same)) (dp_ints _), .lst (SqL.of upd_same) (dp_ints _), PySem.W.ke_shaped_ints _, PySem.W.ke_shaped_ints _, ?_⟩
    rw [show PyData.eqv (.list (ns'.map PyData.int)) (.list (((List.range ws.length).map fun (i : Nat) => (i : Int)).map PyData.int)) = true from (eqv_int _ _).trans (decide_eq_true eso)]
    refine ⟨_, rfl, itF rfl ?_⟩
    -- Duty([self.works[at] for at in places])
    have e4 := e3.trans (ex_up (o := .lst (((List.range ws.length).map fun (i : Nat) => (i : Int)).map V.int)) nr)
    generalize upd (upd H2 q (.lst (ns'.map V.int))) r (.lst (((List.range ws.length).map fun (i : Nat) => (i : Int)).map V.int)) = H4 at e4 ⊢
    refine ⟨_, rfl, p, rfl, ⟨_, SqL.of (e4 _ _ hp0)⟩, fun F4 nF4 => ?_⟩
    refine lc_list (K := K) (a := p) (xs := (nInts ns).map V.int) (fun j H' => Ex H4 H' ∧ ∃ vs, H' F4 = some (.lst vs) ∧ Paired (WkV K B) vs (ws'.take j)) ⟨ex_up nF4, [], upd_same, .nil⟩ (fun j H' _ q => SqL.of (q.1 _ _ (e4 _ _ hp0))) ?_ ?_
    · rintro j x H5 hj ⟨e5, vs, hF5, pr5⟩
      cases e : ns[j]? with
      | none =>
        unfold nInts at hj
        rw [List.getElem?_map, List.getElem?_map, e] at hj
        cases hj
      | some n =>
        unfold nInts at hj
        rw [List.getElem?_map, List.getElem?_map, e] at hj
        cases hj
        obtain ⟨wj, hw1, hw2⟩ := paired_back pr e
        obtain ⟨xv, hx1, hx2⟩ := paired_at hp hw2
        have e6 := eB.trans (e4.trans e5)
        refine ⟨rfl, _, rfl, a, _, dx, _, _, rfl, e6 _ _ ha, c_Duty T, n_Duty_works T, dt_works, _, rfl, _, _, _, _, rfl, rfl, SqL.of (e6 _ _ hl), atI_nat hx1, vs, hF5, ?_, e5.mut nF4, vs ++ [xv], upd_same, ?_⟩
        · have l := paired_len pr5
          have l2 := G'.few
          rw [List.length_take] at l
          exact Evl.sz_lt (by omega)
        · rw [take_snoc hw1]
          exact paired_snoc pr5 hx2
    rintro H5 ⟨e5, vs, hF5, pr5⟩
    rw [List.length_map, show (nInts ns).length = ws'.length by unfold nInts; rw [List.length_map, paired_len pr], List.take_of_length_le (Nat.le_refl _)] at pr5
    intro x dx' nx ndx ne
    have g0 : Gr B H B H5 := (Gr.refl eB).heap (e4.trans e5)
    have g1 := gr_make (o := .own x) (o' := .ins (He.ga K "Duty") dx' []) g0 nx ndx ne
    have nlx : F4 ≠ x := ne_of_none hF5 nx
    refine ⟨B, H, x, dx', F4, ws', vs, rfl, g1, Evl.fresh_back g0.eH nx, ex_none g0.e nx, upd_same, ?_, pr5, G', fun B' H' g2 D2 => ⟨rfl, k _ B' H' g2 D2⟩⟩
    rw [upd_ne nlx]
    exact ex_up ndx _ _ hF5
def sp_in_order (K : PySem.W.Frag) : Sp := fun vs H Q _ => ∃ (B : Hp) (v : V) (ws ws' : List Wk) (p : Addr), vs = [v, .ref p] ∧ Ex B H ∧ DtV K B v ws ∧ Good ws ∧ ws'.Perm ws ∧ H p = some (.lst ((ws'.map (·.name)).map V.str)) ∧ ∀ x B' H', Gr B H B' H' → DtV K B' x ws' → Q x H'
theorem ok_in_order (T : Says K mg) : FnOk P w K mg base CX0 6 (He.fAd K d_in_order.at_) (fdOf K d_in_order.at_) ["duty", "names"] (sp_in_order K) := by
  refine (F_in_order T).ok sc_in_order (fun vs H Q E h => ?_) (fun cdv A outer s H vs Q E hr h => ?_)
  · obtain ⟨_, _, _, _, _, rfl, _⟩ := h
    rfl
  · refine ⟨_, PSs.nox (pss_one (ps_ret (pe_meth (pv 0) (c_Duty T) (m_Duty_reordered T) (ok_Duty_reordered T) (hr.mono (by decide)) (b_Duty_reordered T) .nil pass0 (pa_cons (pe_lc (own := [("name", 2)]) rfl sc_in_order.nd (pi_list (pv 1)) (blkOk_by (N := N_in_order) (sc := defScope s_in_order) (by decide +kernel)) (fun _ _ _ _ _ => (pg_name (i := 2) sc_in_order.nd rfl (Or.inl rfl))) (fun _ _ _ _ _ => pts_nil) (fun _ _ _ _ _ => (pe_meth (pv 0) (c_Duty T) (m_Duty_number_of T) (ok_Duty_number_of T) (hr.mono (by decide)) (b_Duty_number_of T) .nil pass0 (pa_cons (pv 2) pa_nil)))) pa_nil)))), ?_⟩
    obtain ⟨B, _, ws, ws', p, rfl, eB, D, G, pm, hp0, k⟩ := h
    obtain ⟨a, dx, wl, nd, xs, rfl, ha, hl, hp, hn⟩ := id D
    have few := G.few
    have pr := places_pair G.nd ws' fun w h => pm.mem_iff.mp h
    refine ⟨_, rfl, a, dx, _, rfl, eB _ _ ha, rfl, _, rfl, p, rfl, ⟨_, SqL.of hp0⟩, fun F nF => ?_⟩
    refine lc_list (K := K) (a := p) (xs := (ws'.map (·.name)).map V.str) (fun j H' => Ex H H' ∧ H' F = some (.lst ((nInts ((placesOf ws ws').take j)).map V.int))) ⟨ex_up nF, upd_same⟩ (fun j H' _ q => SqL.of (q.1 _ _ hp0)) ?_ ?_
    · rintro j x H2 hj ⟨e2, hF⟩
      rw [List.getElem?_map, List.getElem?_map] at hj
      cases e : ws'[j]? with
      | none =>
        rw [e] at hj
        cases hj
      | some u =>
        rw [e] at hj
        cases hj
        obtain ⟨n, hn1, hn2⟩ := paired_at pr e
        refine ⟨rfl, _, rfl, a, dx, _, rfl, e2 _ _ (eB _ _ ha), rfl, _, rfl, _, ws, n, u, rfl, D.mono (eB.trans e2), G.nd, hn2, _, hF, ?_, e2.mut nF, ?_⟩
        · unfold nInts placesOf
          rw [List.length_map, List.length_map, List.length_take, List.length_map, pm.length_eq]
          exact Evl.sz_lt (by omega)
        · rw [upd_same, take_snoc hn1]
          unfold nInts
          rw [List.map_append, List.map_append]
          rfl
    rintro H2 ⟨e2, hF⟩
    rw [List.length_map, List.length_map, List.take_of_length_le (by unfold placesOf; rw [List.length_map]; exact Nat.le_refl _)] at hF
    exact ⟨B, _, ws, ws', placesOf ws ws', F, rfl, eB.trans e2, D, G, G.perm pm, hF, pr, places_perm G.nd pm, fun x B' H' g D' => k x B' H' (((Gr.refl eB).heap e2).trans g) D'⟩
theorem paired_take {α β : Type} {R : α → β → Prop} : ∀ {xs : List α} {ys : List β} (n : Nat), Paired R xs ys → Paired R (xs.take n) (ys.take n)
  | _, _, 0, _ => .nil
  | _, _, _ + 1, .nil => .nil
  | _, _, n + 1, .cons r t => .cons r (paired_take n t)
theorem paired_drop {α β : Type} {R : α → β → Prop} : ∀ {xs : List α} {ys : List β} (n : Nat), Paired R xs ys → Paired R (xs.drop n) (ys.drop n)
  | _, _, 0, h => h
  | _, _, _ + 1, .nil => .nil
  | _, _, n + 1, .cons _ t => paired_drop n t
def sp_without_work (K : PySem.W.Frag) : Sp := fun vs H Q _ => ∃ (B : Hp) (v : V) (ws : List Wk) (i : Nat) (u : Wk), vs = [v, .str u.name] ∧ Ex B H ∧ DtV K B v ws ∧ Good ws ∧ ws[i]? = some u ∧ Good (ws.take i ++ ws.drop (i + 1)) ∧ ∀ x B' H', Gr B H B' H' → DtV K B' x (ws.take i ++ ws.drop (i + 1)) → Q x H'
theorem ok_without_work (T : Says K mg) : FnOk P w K mg base CX0 5 (He.fAd K d_without_work.at_) (fdOf K d_without_work.at_) ["duty", "name"] (sp_without_work K) := by
  refine (F_without_work T).ok sc_without_work (fun vs H Q E h => ?_) (fun cdv A outer s H vs Q E hr h => ?_)
  · obtain ⟨_, _, _, _, _, rfl, _⟩ := h
    rfl
  · refine ⟨_, PSs.nox (pss_cons (ps_set (i := 2) sc_without_work.nd rfl (Or.inl rfl) (pe_meth (pv 0) (c_Duty T) (m_Duty_number_of T) (ok_Duty_number_of T) (hr.mono (by decide)) (b_Duty_number_of T) .nil pass0 (pa_cons (pv 1) pa_nil))) (pss_cons (ps_set (i := 3) sc_without_work.nd rfl (Or.inl rfl) (pe_call (ok_works_of T) (hr.mono (by decide)) rfl (g_works_of T) (F_works_of T).kp (b_works_of T) .nil pass0 (pa_cons (pv 0) pa_nil))) (pss_one (ps_ret (pe_make (k_Duty T) (ok_Duty_init T) (hr.mono (by decide)) rfl (g_Duty T) (b_Duty_init T) .nil pass0 (pa_cons (pe_op op_cat (pe_slice sl_list (pv 3) po_none (po_some (pv 2))) (pe_slice sl_list (pv 3) (po_some (pe_op op_add (pv 2) pe_int)) po_none)) pa_nil)))))), ?_⟩
    obtain ⟨B, _, ws, i, u, rfl, eB, D, G, hi, G', k⟩ := h
    obtain ⟨a, dx, wl, nd, xs, rfl, ha, hl, hp, hn⟩ := id D
    have few := G.few
    refine ⟨_, rfl, a, dx, _, rfl, eB _ _ ha, rfl, _, rfl, _, ws, i, u, rfl, D.mono eB, G.nd, hi, ?_⟩
    refine ⟨_, rfl, B, _, ws, rfl, eB, D, few, fun p ys H1 np e1 h1 pr => ?_⟩
    have ly : ys.length ≤ 4 := by rw [paired_len pr]; exact few
    refine ⟨_, rfl, _, rfl, _, rfl, p, ys, rfl, SqL.of h1, fun q nq => ?_⟩
    rw [cut_upto]
    refine ⟨_, rfl, _, rfl, _, _, rfl, rfl, _, rfl, p, ys, rfl, SqL.of (ex_up nq _ _ h1), fun r nr => ?_⟩
    rw [show (i : Int) + 1 = ((i + 1 : Nat) : Int) by omega, cut_from]
    refine ⟨q, r, _, _, rfl, rfl, ex_up nr _ _ upd_same, upd_same, ?_, fun t nt => ?_⟩
    · rw [List.length_take, List.length_drop]
      exact Evl.sz_of (by omega)
    have e3 := ((e1.trans (ex_up (o := .lst (ys.take i)) nq)).trans (ex_up (o := .lst (ys.drop (i + 1))) nr)).trans (ex_up (o := .lst (ys.take i ++ ys.drop (i + 1))) nt)
    have ht : upd (upd (upd H1 q (.lst (ys.take i))) r (.lst (ys.drop (i + 1)))) t (.lst (ys.take i ++ ys.drop (i + 1))) t = some (.lst (ys.take i ++ ys.drop (i + 1))) := upd_same
    generalize upd (upd (upd H1 q (.lst (ys.take i))) r (.lst (ys.drop (i + 1)))) t (.lst (ys.take i ++ ys.drop (i + 1))) = H4 at e3 ht ⊢
    intro x dx' nx ndx ne
    have g0 : Gr B H B H4 := (Gr.refl eB).heap e3
    have g1 := gr_make (o := .own x) (o' := .ins (He.ga K "Duty") dx' []) g0 nx ndx ne
    have nlx : t ≠ x := ne_of_none ht nx
    refine ⟨B, H, x, dx', t, _, _, rfl, g1, Evl.fresh_back g0.eH nx, ex_none g0.e nx, upd_same, ?_, paired_app (paired_take i pr) (paired_drop (i + 1) pr), G', fun B' H' g2 D2 => ⟨rfl, k _ B' H' g2 D2⟩⟩
    rw [upd_ne nlx]
    exact ex_up ndx _ _ ht
end
end Dty
set_option Elab.async false
set_option linter.all false
set_option maxRecDepth 100000
set_option maxHeartbeats 4000000
namespace Dty
open PySem PySem.Spec PyProof.Rows L2 Dq TL
/-! ### the texts -/
abbrev numI (i : Int) : Str := Str.ofString (toString i)
theorem numI_nat {i : Int} (h : 0 ≤ i) : numI i = num i.toNat := by
  show Str.ofString (toString i) = Str.ofString (toString ((i.toNat : Nat) : Int))
  rw [show ((i.toNat : Nat) : Int) = i by omega]
abbrev big : Int := 2 ^ 70
theorem numI_small {i : Int} (h0 : 0 ≤ i) (h : i < big) : ∃ n : Nat, i = (n : Int) ∧ n < 10 ^ 60 ∧ numI i = num n := by
  refine ⟨i.toNat, by omega, ?_, numI_nat h0⟩
  have e : (big : Int) = 1180591620717411303424 := by decide
  rw [e] at h
  have : i.toNat < 1180591620717411303424 := by omega
  exact Nat.lt_of_lt_of_le this (by decide)
theorem lg {i : Int} (h0 : 0 ≤ i) (h : i < big) : i.natAbs.log2 < 1920 := by
  have e : (big : Int) = 1180591620717411303424 := by decide
  rw [e] at h
  exact Nat.lt_of_lt_of_le (PySem.Flt.log2_lt_of (k := 70) (by decide) (by omega)) (by decide)
theorem numI_len {i : Int} (h0 : 0 ≤ i) (h : i < big) : (numI i).length ≤ 60 := by
  obtain ⟨n, _, hn, e⟩ := numI_small h0 h
  rw [e]
  exact ten60 hn
theorem numI_dig {i : Int} (h0 : 0 ≤ i) {c : Nat} (h : c ∈ tl (numI i)) : 48 ≤ c ∧ c ≤ 57 := by
  rw [numI_nat h0] at h
  exact num_dig h
theorem tl_blank : tl (" " : Str) = [32] := by decide +kernel
theorem tl_colon : tl (":" : Str) = [58] := by decide +kernel
theorem tl_dash : tl ("-" : Str) = [45] := by decide +kernel
theorem tl_semi : tl ("; " : Str) = [59, 32] := by decide +kernel
theorem str_assoc (a b c : Str) : a ++ b ++ c = a ++ (b ++ c) := ext_tl (by rw [tl_append, tl_append, tl_append, tl_append, List.append_assoc])
def holdText (h : Str × Int × Int) : Str := h.1 ++ ":" ++ numI h.2.1 ++ "-" ++ numI h.2.2
def workWords (w : Wk) : List Str := [w.name, numI w.gap, numI w.len, numI w.due, numI w.late] ++ w.holds.map holdText
def workText (w : Wk) : Str := Txt.join " " (workWords w)
theorem hold_eq (h : Str × Int × Int) : holdText h = h.1 ++ ":" ++ (numI h.2.1 ++ "-" ++ numI h.2.2) := by
  unfold holdText
  rw [str_assoc (h.1 ++ ":" ++ numI h.2.1), str_assoc (h.1 ++ ":"), str_assoc (numI h.2.1)]
theorem hold_part1 {h : Str × Int × Int} (nm : Nm h.1) : Txt.partition (holdText h) ":" = (h.1, (":" : Str), numI h.2.1 ++ "-" ++ numI h.2.2) := by
  rw [hold_eq]
  exact partition_app tl_colon fun z => by have := nm.2.2 _ z; omega
theorem hold_part2 {h : Str × Int × Int} (h0 : 0 ≤ h.2.1) : Txt.partition (numI h.2.1 ++ "-" ++ numI h.2.2) "-" = (numI h.2.1, ("-" : Str), numI h.2.2) :=
  partition_app tl_dash fun z => by have := numI_dig h0 z; omega
/-- no blank and no semicolon in a word -/
def Plain (x : Str) : Prop := ∀ c ∈ tl x, c ≠ 32 ∧ c ≠ 59
theorem nm_plain {x : Str} (h : Nm x) : Plain x := fun c hc => by have := h.2.2 c hc; omega
theorem num_plain {i : Int} (h : 0 ≤ i) : Plain (numI i) := fun c hc => by have := numI_dig h hc; omega
theorem app_plain {x y : Str} (h : Plain x) (k : Plain y) : Plain (x ++ y) := fun c hc => by
  rw [tl_append, List.mem_append] at hc
  exact hc.elim (h c) (k c)
theorem colon_plain : Plain ":" := fun c hc => by
  rw [tl_colon] at hc
  cases List.mem_singleton.mp hc
  decide
theorem dash_plain : Plain "-" := fun c hc => by
  rw [tl_dash] at hc
  cases List.mem_singleton.mp hc
  decide
theorem hold_plain {h : Str × Int × Int} (nm : Nm h.1) (h0 : 0 ≤ h.2.1) (h1 : 0 ≤ h.2.2) : Plain (holdText h) := app_plain (app_plain (app_plain (app_plain (nm_plain nm) colon_plain) (num_plain h0)) dash_plain) (num_plain h1)
theorem words_plain {w : Wk} (b : Wb w) : ∀ x ∈ workWords w, Plain x := by
  have := b.g1; have := b.l1; have := b.d1; have := b.t1
  intro x hx
  unfold workWords at hx
  simp only [List.mem_append, List.mem_cons, List.mem_nil_iff, or_false] at hx
  rcases hx with (rfl | rfl | rfl | rfl | rfl) | hx
  · exact nm_plain b.nm
  · exact num_plain (by omega)
  · exact num_plain (by omega)
  · exact num_plain (by omega)
  · exact num_plain (by omega)
  · obtain ⟨h, hh, rfl⟩ := List.mem_map.mp hx
    have hb := b.h2 h hh
    exact hold_plain hb.1 hb.2.1 (by omega)
theorem split_words {ps : List Str} (ne : ps ≠ []) (h : ∀ x ∈ ps, Plain x) : Txt.split (Txt.join " " ps) " " = ps :=
  TL.split_join tl_blank (by decide +kernel) ne fun p hp z => (h p hp 32 z).1 rfl
theorem work_split {w : Wk} (b : Wb w) : Txt.split (workText w) " " = workWords w := split_words (by unfold workWords; simp) (words_plain b)
/-! lengths -/
theorem len_app (a b : Str) : (a ++ b).length = a.length + b.length := by rw [len_tl, len_tl, len_tl, tl_append, List.length_append]
theorem len_join (y : Str) : ∀ ps : List Str, (Txt.join y ps).length ≤ (ps.map (·.length)).sum + ps.length * y.length
  | ps => by
    rw [join_eq, len_tl, tl_join]
    have k : ∀ (S : List Nat) (l : List (List Nat)), (joinL S l).length ≤ (l.map (·.length)).sum + l.length * S.length := by
      intro S l
      induction l with
      | nil => exact Nat.zero_le _
      | cons p r ih =>
        cases r with
        | nil =>
          show p.length ≤ _
          simp
        | cons q t =>
          show (p ++ (S ++ joinL S (q :: t))).length ≤ _
          rw [List.length_append, List.length_append, List.map_cons, List.sum_cons, List.length_cons, Nat.succ_mul]
          omega
    have z := k (tl y) (ps.map tl)
    rw [List.map_map, List.length_map] at z
    rw [len_tl y]
    have e : (ps.map (List.length ∘ tl)) = ps.map (·.length) := List.map_congr_left fun x _ => (len_tl x).symm
    rw [e] at z
    exact z
theorem hold_len {h : Str × Int × Int} (nm : Nm h.1) (h0 : 0 ≤ h.2.1) (h1 : 0 ≤ h.2.2) (h2 : h.2.1 < big) (h3 : h.2.2 < big) : (holdText h).length ≤ 200 := by
  unfold holdText
  rw [len_app, len_app, len_app, len_app]
  have e1 : (":" : Str).length = 1 := by decide +kernel
  have e2 : ("-" : Str).length = 1 := by decide +kernel
  have := nm.2.1; have := numI_len h0 h2; have := numI_len h1 h3
  omega
theorem sum_le {c : Nat} : ∀ l : List Nat, (∀ x ∈ l, x ≤ c) → l.sum ≤ l.length * c
  | [], _ => Nat.zero_le _
  | x :: r, h => by
    rw [List.sum_cons, List.length_cons, Nat.succ_mul]
    have := sum_le r fun y hy => h y (List.mem_cons_of_mem _ hy)
    have := h x List.mem_cons_self
    omega
theorem word_len {w : Wk} (b : Wb w) : ∀ x ∈ workWords w, x.length ≤ 200 := by
  have := b.g1; have := b.l1; have := b.d1; have := b.t1; have := b.g2; have := b.l2; have := b.d2; have := b.t2
  have e : (big : Int) = 1180591620717411303424 := by decide
  intro x hx
  unfold workWords at hx
  simp only [List.mem_append, List.mem_cons, List.mem_nil_iff, or_false] at hx
  rcases hx with (rfl | rfl | rfl | rfl | rfl) | hx
  · have := b.nm.2.1
    omega
  · exact Nat.le_trans (numI_len (by omega) (by omega)) (by decide)
  · exact Nat.le_trans (numI_len (by omega) (by omega)) (by decide)
  · exact Nat.le_trans (numI_len (by omega) (by omega)) (by decide)
  · exact Nat.le_trans (numI_len (by omega) (by omega)) (by decide)
  · obtain ⟨h, hh, rfl⟩ := List.mem_map.mp hx
    have hb := b.h2 h hh
    exact hold_len hb.1 hb.2.1 (by omega) (by omega) (by omega)
theorem words_few {w : Wk} (b : Wb w) : (workWords w).length ≤ 6 := by
  have := b.h1
  unfold workWords
  rw [List.length_append, List.length_map]
  show 5 + _ ≤ 6
  omega
theorem join_room {y : Str} {ps : List Str} (hy : y.length ≤ 2) (hl : ps.length ≤ 1000) (h : ∀ x ∈ ps, x.length ≤ 10000) : (ps.map (·.length)).sum + ps.length * y.length ≤ 16777216 := by
  have s := sum_le (ps.map (·.length)) (c := 10000) fun n hn => by
    obtain ⟨x, hx, rfl⟩ := List.mem_map.mp hn
    exact h x hx
  rw [List.length_map] at s
  have : ps.length * y.length ≤ ps.length * 2 := Nat.mul_le_mul_left _ hy
  omega
theorem join_len {y : Str} {ps : List Str} (hy : y.length ≤ 2) (hl : ps.length ≤ 1000) (h : ∀ x ∈ ps, x.length ≤ 10000) : (Txt.join y ps).length ≤ 16777216 := Nat.le_trans (len_join y ps) (join_room hy hl h)
theorem work_len {w : Wk} (b : Wb w) : (workText w).length ≤ 2000 := by
  have s := sum_le ((workWords w).map (·.length)) (c := 200) fun n hn => by
    obtain ⟨x, hx, rfl⟩ := List.mem_map.mp hn
    exact word_len b x hx
  have l := len_join " " (workWords w)
  have few := words_few b
  rw [List.length_map] at s
  have e1 : (" " : Str).length = 1 := by decide +kernel
  rw [e1] at l
  unfold workText
  omega
/-! rows -/
def nameAt (ws : List Wk) (c : Cm) : Str := match ws[c.who.toNat]? with
  | some w => w.name
  | none => ""
def cmWords (ws : List Wk) (c : Cm) : List Str := [nameAt ws c, numI c.come, numI c.late, numI c.len]
def cmText (ws : List Wk) (c : Cm) : Str := Txt.join " " (cmWords ws c)
def rowText (ws : List Wk) (row : List Cm) : Str := Txt.join "; " (row.map (cmText ws))
/-- a coming of a work of ws, in plain numbers -/
structure CmOk (ws : List Wk) (c : Cm) : Prop where
  at_ : ∃ (i : Nat) (u : Wk), c.who = (i : Nat) ∧ ws[i]? = some u
  c0 : 0 ≤ c.come
  c1 : c.come < big
  t0 : 0 ≤ c.late
  t1 : c.late < big
  l0 : 0 ≤ c.len
  l1 : c.len < big
theorem nameAt_eq {ws : List Wk} {c : Cm} {i : Nat} {u : Wk} (h : c.who = (i : Nat)) (e : ws[i]? = some u) : nameAt ws c = u.name := by
  unfold nameAt
  rw [show c.who.toNat = i by omega, e]
theorem cm_nm {ws : List Wk} (g : Good ws) {c : Cm} (o : CmOk ws c) : Nm (nameAt ws c) := by
  obtain ⟨i, u, e1, e2⟩ := o.at_
  rw [nameAt_eq e1 e2]
  exact (g.at e2).nm
theorem cm_plain {ws : List Wk} (g : Good ws) {c : Cm} (o : CmOk ws c) : ∀ x ∈ cmWords ws c, Plain x := by
  intro x hx
  unfold cmWords at hx
  simp only [List.mem_cons, List.mem_nil_iff, or_false] at hx
  rcases hx with rfl | rfl | rfl | rfl
  · exact nm_plain (cm_nm g o)
  · exact num_plain o.c0
  · exact num_plain o.t0
  · exact num_plain o.l0
theorem cm_split {ws : List Wk} (g : Good ws) {c : Cm} (o : CmOk ws c) : Txt.split (cmText ws c) " " = cmWords ws c := split_words (by unfold cmWords; simp) (cm_plain g o)
theorem cm_word {ws : List Wk} (g : Good ws) {c : Cm} (o : CmOk ws c) : ∀ x ∈ cmWords ws c, x.length ≤ 60 := by
  intro x hx
  unfold cmWords at hx
  simp only [List.mem_cons, List.mem_nil_iff, or_false] at hx
  rcases hx with rfl | rfl | rfl | rfl
  · have := (cm_nm g o).2.1
    omega
  · exact numI_len o.c0 o.c1
  · exact numI_len o.t0 o.t1
  · exact numI_len o.l0 o.l1
theorem cm_len {ws : List Wk} (g : Good ws) {c : Cm} (o : CmOk ws c) : (cmText ws c).length ≤ 300 := by
  have s := sum_le ((cmWords ws c).map (·.length)) (c := 60) fun n hn => by
    obtain ⟨x, hx, rfl⟩ := List.mem_map.mp hn
    exact cm_word g o x hx
  have l := len_join " " (cmWords ws c)
  rw [List.length_map] at s
  have e1 : (" " : Str).length = 1 := by decide +kernel
  have e2 : (cmWords ws c).length = 4 := rfl
  rw [e1, e2] at l
  rw [e2] at s
  unfold cmText
  omega
theorem join_free {y : Str} {s : Nat} (hy : s ∉ tl y) : ∀ {ps : List Str}, (∀ x ∈ ps, s ∉ tl x) → s ∉ tl (Txt.join y ps)
  | ps, h => by
    rw [join_eq, tl_join]
    have k : ∀ l : List (List Nat), (∀ x ∈ l, s ∉ x) → s ∉ joinL (tl y) l := by
      intro l
      induction l with
      | nil => intro _ z; cases z
      | cons p r ih =>
        intro hl z
        cases r with
        | nil => exact hl p List.mem_cons_self z
        | cons q t =>
          have z : s ∈ p ++ (tl y ++ joinL (tl y) (q :: t)) := z
          rw [List.mem_append, List.mem_append] at z
          rcases z with z | z | z
          · exact hl p List.mem_cons_self z
          · exact hy z
          · exact ih (fun x hx => hl x (List.mem_cons_of_mem _ hx)) z
    refine k _ fun x hx => ?_
    obtain ⟨z, hz, rfl⟩ := List.mem_map.mp hx
    exact h z hz
theorem cm_free {ws : List Wk} (g : Good ws) {c : Cm} (o : CmOk ws c) : 59 ∉ tl (cmText ws c) := join_free (by rw [tl_blank]; decide) fun x hx z => (cm_plain g o x hx 59 z).2 rfl
theorem row_split {ws : List Wk} (g : Good ws) {row : List Cm} (ne : row ≠ []) (o : ∀ c ∈ row, CmOk ws c) : Txt.split (rowText ws row) "; " = row.map (cmText ws) :=
  TL.split_join tl_semi (by decide +kernel) (by simpa using ne) fun p hp => by
    obtain ⟨c, hc, rfl⟩ := List.mem_map.mp hp
    exact cm_free g (o c hc)
theorem row_room {ws : List Wk} (g : Good ws) {row : List Cm} (l : row.length ≤ 100) (o : ∀ c ∈ row, CmOk ws c) : ((row.map (cmText ws)).map (·.length)).sum + (row.map (cmText ws)).length * ("; " : Str).length ≤ 16777216 :=
  join_room (by decide +kernel) (by rw [List.length_map]; omega) fun x hx => by
    obtain ⟨c, hc, rfl⟩ := List.mem_map.mp hx
    exact Nat.le_trans (cm_len g (o c hc)) (by decide)
theorem row_len {ws : List Wk} (g : Good ws) {row : List Cm} (l : row.length ≤ 100) (o : ∀ c ∈ row, CmOk ws c) : (rowText ws row).length ≤ 50000 := by
  have s := sum_le ((row.map (cmText ws)).map (·.length)) (c := 300) fun n hn => by
    obtain ⟨x, hx, rfl⟩ := List.mem_map.mp hn
    obtain ⟨c, hc, rfl⟩ := List.mem_map.mp hx
    exact cm_len g (o c hc)
  have z := len_join "; " (row.map (cmText ws))
  rw [List.length_map, List.length_map] at s
  have e1 : ("; " : Str).length = 2 := by decide +kernel
  rw [e1, List.length_map] at z
  unfold rowText
  omega
end Dty
set_option Elab.async false
set_option linter.all false
set_option maxRecDepth 100000
set_option maxHeartbeats 4000000
namespace Dty
open PySem PySem.Spec PyProof.Rows L2 Dq TL
def ToldV (ws : List Wk) (B : Hp) (v : V) (c : Cm) : Prop := ∃ t, v = .ref t ∧ B t = some (.tup [.str (nameAt ws c), .int c.come, .int c.late, .int c.len])
theorem ToldV.mono {ws : List Wk} {B B' : Hp} (e : Ex B B') {v : V} {c : Cm} (h : ToldV ws B v c) : ToldV ws B' v c := by
  obtain ⟨t, e1, e2⟩ := h
  exact ⟨t, e1, e _ _ e2⟩
section
variable {P : Program} {w : World} {K : PySem.W.Frag} {mg : Str → Option Value} {base : Heap}
abbrev N_read_hold : List Str := ["word", "thing", "colon", "turns", "start", "dash", "end"]
theorem sc_read_hold : FnScope N_read_hold ["word"] (defScope s_read_hold) := ⟨rfl, rfl, rfl, by decide +kernel, rfl, by decide +kernel, by decide +kernel⟩
abbrev N_read_work : List Str := ["text", "words", "gap", "length", "due", "late", "holds", "word"]
theorem sc_read_work : FnScope N_read_work ["text"] (defScope s_read_work) := ⟨rfl, rfl, rfl, by decide +kernel, rfl, by decide +kernel, by decide +kernel⟩
abbrev N_with_work : List Str := ["duty", "text"]
theorem sc_with_work : FnScope N_with_work ["duty", "text"] (defScope s_with_work) := ⟨rfl, rfl, rfl, by decide +kernel, rfl, by decide +kernel, by decide +kernel⟩
abbrev N_show_coming : List Str := ["duty", "coming", "words", "number"]
theorem sc_show_coming : FnScope N_show_coming ["duty", "coming"] (defScope s_show_coming) := ⟨rfl, rfl, rfl, by decide +kernel, rfl, by decide +kernel, by decide +kernel⟩
abbrev N_show_row : List Str := ["duty", "row", "coming"]
theorem sc_show_row : FnScope N_show_row ["duty", "row"] (defScope s_show_row) := ⟨rfl, rfl, rfl, by decide +kernel, rfl, by decide +kernel, by decide +kernel⟩
abbrev N_read_coming : List Str := ["text", "words"]
theorem sc_read_coming : FnScope N_read_coming ["text"] (defScope s_read_coming) := ⟨rfl, rfl, rfl, by decide +kernel, rfl, by decide +kernel, by decide +kernel⟩
abbrev N_read_row : List Str := ["duty", "text", "told", "part", "name", "come", "late", "length"]
theorem sc_read_row : FnScope N_read_row ["duty", "text"] (defScope s_read_row) := ⟨rfl, rfl, rfl, by decide +kernel, rfl, by decide +kernel, by decide +kernel⟩
abbrev N_l_text : List Str := ["_law_parts_here", "_law_words", "_law_number", "_law_one"]
theorem sc_l_text : FnScope N_l_text ["_law_parts_here"] (defScope s_l_text) := ⟨rfl, rfl, rfl, by decide +kernel, rfl, by decide +kernel, by decide +kernel⟩
def sp_read_hold : Sp := fun vs H Q _ => ∃ h : Str × Int × Int, vs = [.str (holdText h)] ∧ Nm h.1 ∧ 0 ≤ h.2.1 ∧ h.2.1 < big ∧ 0 ≤ h.2.2 ∧ h.2.2 < big ∧ ∀ t H', H t = none → Ex H H' → H' t = some (.tup [.str h.1, .int h.2.1, .int h.2.2]) → Q (.ref t) H'
theorem ok_read_hold (T : Says K mg) : FnOk P w K mg base CX0 3 (He.fAd K d_read_hold.at_) (fdOf K d_read_hold.at_) ["word"] sp_read_hold := by
  refine (F_read_hold T).ok sc_read_hold (fun vs H Q E h => ?_) (fun cdv A outer s H vs Q E hr h => ?_)
  · obtain ⟨_, rfl, _⟩ := h
    rfl
  · refine ⟨_, PSs.nox (pss_cons (ps_asg (pe_partition (pv 0) pe_str) (pg_tup rfl (pgs_cons (pg_name (i := 1) sc_read_hold.nd rfl (Or.inl rfl)) (pgs_cons (pg_name (i := 2) sc_read_hold.nd rfl (Or.inl rfl)) (pgs_cons (pg_name (i := 3) sc_read_hold.nd rfl (Or.inl rfl)) pgs_nil))))) (pss_cons (ps_asg (pe_partition (pv 3) pe_str) (pg_tup rfl (pgs_cons (pg_name (i := 4) sc_read_hold.nd rfl (Or.inl rfl)) (pgs_cons (pg_name (i := 5) sc_read_hold.nd rfl (Or.inl rfl)) (pgs_cons (pg_name (i := 6) sc_read_hold.nd rfl (Or.inl rfl)) pgs_nil))))) (pss_one (ps_ret (pe_tup (pa_cons (pv 1) (pa_cons (pe_call (ok_number_in T) (hr.mono (by decide)) rfl (g_number_in T) (F_number_in T).kp (b_number_in T) .nil pass0 (pa_cons (pv 4) pa_nil)) (pa_cons (pe_call (ok_number_in T) (hr.mono (by decide)) rfl (g_number_in T) (F_number_in T).kp (b_number_in T) .nil pass0 (pa_cons (pv 6) pa_nil)) pa_nil)))))))), ?_⟩
    obtain ⟨h, rfl, nm, h0, h1, h2, h3, k⟩ := h
    have lw := hold_len nm h0 h2 h1 h3
    obtain ⟨m, em, hm, tm⟩ := numI_small h0 h1
    obtain ⟨n, en, hn, tn⟩ := numI_small h2 h3
    refine ⟨_, rfl, ⟨_, rfl⟩, _, _, rfl, rfl, by decide +kernel, Evl.sz_of (by omega), fun p np => ?_⟩
    rw [hold_part1 nm]
    refine ⟨p, _, rfl, SqT.of upd_same, rfl, _, _, rfl, _, _, rfl, _, _, rfl, rfl, ?_⟩
    refine ⟨_, rfl, ⟨_, rfl⟩, _, _, rfl, rfl, by decide +kernel, ?_, fun q nq => ?_⟩
    · show (numI h.2.1 ++ "-" ++ numI h.2.2).length ≤ sizeLine
      rw [len_app, len_app]
      have e2 : ("-" : Str).length = 1 := by decide +kernel
      have := numI_len h0 h1; have := numI_len h2 h3
      exact Evl.sz_of (by omega)
    rw [hold_part2 h0]
    refine ⟨q, _, rfl, SqT.of upd_same, rfl, _, _, rfl, _, _, rfl, _, _, rfl, rfl, ?_⟩
    refine ⟨_, rfl, _, rfl, m, by rw [tm]; rfl, hm, _, rfl, n, by rw [tn]; rfl, hn, szn (n := 3) (by decide), fun t nt => ?_⟩
    have nt0 : H t = none := Evl.fresh_back ((ex_up np).trans (ex_up nq)) nt
    refine k t _ nt0 (((ex_up np).trans (ex_up nq)).trans (ex_up nt)) ?_
    rw [upd_same, em, en]
def sp_read_work (K : PySem.W.Frag) : Sp := fun vs H Q _ => ∃ (B : Hp) (u : Wk), vs = [.str (workText u)] ∧ Ex B H ∧ Wb u ∧ ∀ x B' H', Gr B H B' H' → WkV K B' x u → Q x H'
theorem work_nums {u : Wk} (b : Wb u) : ∃ ms : List Nat, [u.gap, u.len, u.due, u.late] = ms.map (fun (m : Nat) => (m : Int)) ∧ [numI u.gap, numI u.len, numI u.due, numI u.late] = ms.map num ∧ (∀ m ∈ ms, m < 10 ^ 60) ∧ ms.length = 4 := by
  have := b.g1; have := b.l1; have := b.d1; have := b.t1; have := b.g2; have := b.l2; have := b.d2; have := b.t2
  have e : (big : Int) = 1180591620717411303424 := by decide
  obtain ⟨m1, e1, h1, t1⟩ := numI_small (i := u.gap) (by omega) (by omega)
  obtain ⟨m2, e2, h2, t2⟩ := numI_small (i := u.len) (by omega) (by omega)
  obtain ⟨m3, e3, h3, t3⟩ := numI_small (i := u.due) (by omega) (by omega)
  obtain ⟨m4, e4, h4, t4⟩ := numI_small (i := u.late) (by omega) (by omega)
  refine ⟨[m1, m2, m3, m4], by rw [e1, e2, e3, e4]; rfl, by rw [t1, t2, t3, t4]; rfl, ?_, rfl⟩
  intro m hm
  simp only [List.mem_cons, List.mem_nil_iff, or_false] at hm
  rcases hm with rfl | rfl | rfl | rfl <;> assumption
theorem ok_read_work (T : Says K mg) : FnOk P w K mg base CX0 6 (He.fAd K d_read_work.at_) (fdOf K d_read_work.at_) ["text"] (sp_read_work K) := by
  refine (F_read_work T).ok sc_read_work (fun vs H Q E h => ?_) (fun cdv A outer s H vs Q E hr h => ?_)
  · obtain ⟨_, _, rfl, _⟩ := h
    rfl
  · refine ⟨_, PSs.nox (pss_cons (ps_set (i := 1) sc_read_work.nd rfl (Or.inl rfl) (pe_call (ok_words_of T) (hr.mono (by decide)) rfl (g_words_of T) (F_words_of T).kp (b_words_of T) .nil pass0 (pa_cons (pv 0) pa_nil))) (pss_cons (ps_if (pt_cmpR op_lt (pe_callB call_len_seq (by rfl) (f_len T) (by decide +kernel) (pa_cons (pv 1) pa_nil)) pe_int (nomark _)) (pss_one ps_never) pss_nil) (pss_cons (ps_asg (pe_lc (own := [("word", 7)]) rfl sc_read_work.nd (pi_list (pe_slice sl_list (pv 1) (po_some pe_int) (po_some pe_int))) (blkOk_by (N := N_read_work) (sc := defScope s_read_work) (by decide +kernel)) (fun _ _ _ _ _ => (pg_name (i := 7) sc_read_work.nd rfl (Or.inl rfl))) (fun _ _ _ _ _ => pts_nil) (fun _ _ _ _ _ => (pe_call (ok_number_in T) (hr.mono (by decide)) rfl (g_number_in T) (F_number_in T).kp (b_number_in T) .nil pass0 (pa_cons (pv 7) pa_nil)))) (pg_unl rfl (pgs_cons (pg_name (i := 2) sc_read_work.nd rfl (Or.inl rfl)) (pgs_cons (pg_name (i := 3) sc_read_work.nd rfl (Or.inl rfl)) (pgs_cons (pg_name (i := 4) sc_read_work.nd rfl (Or.inl rfl)) (pgs_cons (pg_name (i := 5) sc_read_work.nd rfl (Or.inl rfl)) pgs_nil)))))) (pss_cons (ps_setLc (i := 6) (own := [("word", 7)]) rfl sc_read_work.nd rfl rfl (sw_true rfl rfl rfl (by decide +kernel)) (pi_list (pe_slice sl_list (pv 1) (po_some pe_int) po_none)) (blkOk_by (N := N_read_work) (sc := defScope s_read_work) (by decide +kernel)) (fun _ _ _ _ _ => (pg_name (i := 7) sc_read_work.nd rfl (Or.inl rfl))) (fun _ _ _ _ _ => pts_nil) (fun _ _ _ _ _ => (pe_call (ok_read_hold T) (hr.mono (by decide)) rfl (g_read_hold T) (F_read_hold T).kp (b_read_hold T) .nil pass0 (pa_cons (pv 7) pa_nil)))) (pss_one (ps_ret (pe_make (k_Work T) (ok_Work_init T) (hr.mono (by decide)) rfl (g_Work T) (b_Work_init T) .nil pass0 (pa_cons (pe_ix ix_list (pv 1) pe_int (fun _ _ => rfl)) (pa_cons (pv 2) (pa_cons (pv 3) (pa_cons (pv 4) (pa_cons (pv 5) (pa_cons (pv 6) pa_nil))))))))))))), ?_⟩
    obtain ⟨B, u, rfl, eB, b, k⟩ := h
    have lw := work_len b
    obtain ⟨ms, en, et, hms, lms⟩ := work_nums b
    refine ⟨_, rfl, _, rfl, Evl.sz_of (by omega), fun p np => ?_⟩
    rw [work_split b]
    have lww : (workWords u).length = 5 + u.holds.length := by
      unfold workWords
      rw [List.length_append, List.length_map]
      rfl
    refine ⟨_, rfl, p, _, rfl, .inl (SqL.of upd_same), _, _, rfl, rfl, _, rfl, ?_⟩
    refine itF (decide_eq_false (by rw [List.length_map]; omega)) ?_
    have g0 : Gr B H B (upd H p (.lst ((workWords u).map V.str))) := (Gr.refl eB).heap (ex_up np)
    have hp0 : upd H p (.lst ((workWords u).map V.str)) p = some (.lst ((workWords u).map V.str)) := upd_same
    generalize upd H p (.lst ((workWords u).map V.str)) = H1 at g0 hp0 ⊢
    -- gap, length, due, late
    refine ⟨_, rfl, 1, rfl, 5, rfl, p, _, rfl, SqL.of hp0, fun q nq => ?_⟩
    have ecut : cutV ((workWords u).map V.str) (some 1) (some 5) = (ms.map num).map V.str := by
      rw [show (1 : Int) = ((1 : Nat) : Int) from rfl, show (5 : Int) = ((5 : Nat) : Int) from rfl, cut_part _ 1 5 (by rw [List.length_map]; omega) (by decide), ← et]
      rfl
    rw [ecut]
    have g1 := g0.heap (ex_up (o := .lst ((ms.map num).map V.str)) nq)
    have hp1 := ex_up (o := .lst ((ms.map num).map V.str)) nq _ _ hp0
    have hq1 : upd H1 q (.lst ((ms.map num).map V.str)) q = some (.lst ((ms.map num).map V.str)) := upd_same
    generalize upd H1 q (.lst ((ms.map num).map V.str)) = H2 at g1 hp1 hq1 ⊢
    refine ⟨q, rfl, ⟨_, SqL.of hq1⟩, fun F nF => ?_⟩
    refine lc_list (K := K) (a := q) (xs := (ms.map num).map V.str) (fun j H' => Ex H2 H' ∧ H' F = some (.lst ((nInts (ms.take j)).map V.int))) ⟨ex_up nF, upd_same⟩ (fun j H' _ q => SqL.of (q.1 _ _ hq1)) ?_ ?_
    · rintro j x H3 hj ⟨e3, hF⟩
      rw [List.getElem?_map, List.getElem?_map] at hj
      cases e : ms[j]? with
      | none =>
        rw [e] at hj
        cases hj
      | some m =>
        rw [e] at hj
        cases hj
        refine ⟨rfl, _, rfl, m, rfl, hms m (List.mem_of_getElem? e), _, hF, ?_, e3.mut nF, ?_⟩
        · unfold nInts
          rw [List.length_map, List.length_map, List.length_take]
          exact Evl.sz_lt (by omega)
        · rw [upd_same, take_snoc e]
          unfold nInts
          rw [List.map_append, List.map_append]
          rfl
    rintro H3 ⟨e3, hF⟩
    rw [List.length_map, List.length_map, List.take_of_length_le (Nat.le_refl _)] at hF
    have eI : (nInts ms).map V.int = [V.int u.gap, V.int u.len, V.int u.due, V.int u.late] := by
      unfold nInts
      rw [← en]
      rfl
    rw [eI] at hF
    refine ⟨F, _, rfl, SqL.of hF, rfl, _, _, rfl, _, _, rfl, _, _, rfl, _, _, rfl, rfl, ?_⟩
    have g2 := g1.heap e3
    have hp2 := e3 _ _ hp1
    -- holds
    refine ⟨_, rfl, 5, rfl, p, _, rfl, SqL.of hp2, fun r nr => ?_⟩
    have ecut2 : cutV ((workWords u).map V.str) (some 5) none = (u.holds.map holdText).map V.str := by
      rw [show (5 : Int) = ((5 : Nat) : Int) from rfl, cut_from]
      rfl
    rw [ecut2]
    have g3 := g2.heap (ex_up (o := .lst ((u.holds.map holdText).map V.str)) nr)
    have hp3 := ex_up (o := .lst ((u.holds.map holdText).map V.str)) nr _ _ hp2
    have hr3 : upd H3 r (.lst ((u.holds.map holdText).map V.str)) r = some (.lst ((u.holds.map holdText).map V.str)) := upd_same
    generalize upd H3 r (.lst ((u.holds.map holdText).map V.str)) = H4 at g3 hp3 hr3 ⊢
    refine ⟨r, rfl, ⟨_, SqL.of hr3⟩, fun D nD => ?_⟩
    have nD0 : H D = none := Evl.fresh_back g3.eH nD
    have bD : B D = none := ex_none g3.e nD
    have nrD : r ≠ D := ne_of_none hr3 nD
    have npD : p ≠ D := ne_of_none hp3 nD
    refine lc_list (K := K) (a := r) (xs := (u.holds.map holdText).map V.str) (fun j H' => ∃ (B1 : Hp) (vs : List V), Gr B H B1 H' ∧ B1 D = none ∧ H' p = some (.lst ((workWords u).map V.str)) ∧ H' r = some (.lst ((u.holds.map holdText).map V.str)) ∧ H' D = some (.lst vs) ∧ Paired (HoldV B1) vs (u.holds.take j))
      ⟨B, [], g3.heap (ex_up nD), bD, (upd_ne npD).trans hp3, (upd_ne nrD).trans hr3, upd_same, .nil⟩ (fun j H' _ ⟨_, _, _, _, _, q, _⟩ => SqL.of q) ?_ ?_
    · rintro j x H5 hj ⟨B1, vs, g5, b1D, hp5, hr5, hD5, pr⟩
      rw [List.getElem?_map, List.getElem?_map] at hj
      cases e : u.holds[j]? with
      | none =>
        rw [e] at hj
        cases hj
      | some h =>
        rw [e] at hj
        cases hj
        have hb := b.h2 h (List.mem_of_getElem? e)
        have := b.l2
        have ebig : (big : Int) = 1180591620717411303424 := by decide
        have lv : vs.length ≤ 1 := by
          rw [paired_len pr, List.length_take]
          have := b.h1
          omega
        refine ⟨rfl, _, rfl, h, rfl, hb.1, hb.2.1, by omega, by omega, by omega, fun t H6 nt e6 ht => ?_⟩
        have b1t : B1 t = none := ex_none g5.e nt
        have nt0 : H t = none := Evl.fresh_back g5.eH nt
        have ntD : D ≠ t := ne_of_none hD5 nt
        refine ⟨vs, e6 _ _ hD5, Evl.sz_lt (by omega), upd B1 t (.tup [.str h.1, .int h.2.1, .int h.2.2]), vs ++ [.ref t], ((g5.heap e6).freeze nt0 b1t ht).write nD0 (by rw [upd_ne ntD]; exact b1D), by rw [upd_ne ntD]; exact b1D, (upd_ne npD).trans (e6 _ _ hp5), (upd_ne nrD).trans (e6 _ _ hr5), upd_same, ?_⟩
        rw [take_snoc e]
        exact paired_snoc (L2.Paired.mapP pr fun _ _ z => z.mono (ex_up b1t)) ⟨t, rfl, upd_same⟩
    rintro H5 ⟨B1, vs, g5, b1D, hp5, hr5, hD5, pr⟩
    rw [List.length_map, List.length_map, List.take_of_length_le (Nat.le_refl _)] at pr
    have g6 := g5.freeze nD0 b1D hD5
    have hv : HoldsV (upd B1 D (.lst vs)) (.ref D) u.holds := ⟨D, vs, rfl, upd_same, L2.Paired.mapP pr fun _ _ z => z.mono (ex_up b1D)⟩
    have hw0 : ((workWords u).map V.str)[0]? = some (.str u.name) := rfl
    refine ⟨_, rfl, _, _, _, _, rfl, rfl, SqL.of hp5, (show atI ((workWords u).map V.str) ((0 : Nat) : Int) = some (.str u.name) from atI_nat hw0), _, rfl, _, rfl, _, rfl, _, rfl, _, rfl, ?_⟩
    intro x dx' nx ndx ne
    have g7 := gr_make (o := .own x) (o' := .ins (He.ga K "Work") dx' []) (Gr.refl g6.e) nx ndx ne
    exact ⟨upd B1 D (.lst vs), H5, x, dx', u, .ref D, rfl, g7, nx, ex_none g6.e nx, upd_same, hv, b, fun B' H' g8 W => ⟨rfl, k _ B' H' (g6.trans g8) W⟩⟩
def sp_with_work (K : PySem.W.Frag) : Sp := fun vs H Q _ => ∃ (B : Hp) (v : V) (ws : List Wk) (u : Wk), vs = [v, .str (workText u)] ∧ Ex B H ∧ DtV K B v ws ∧ ws.length ≤ 4 ∧ Good (ws ++ [u]) ∧ ∀ x B' H', Gr B H B' H' → DtV K B' x (ws ++ [u]) → Q x H'
theorem ok_with_work (T : Says K mg) : FnOk P w K mg base CX0 7 (He.fAd K d_with_work.at_) (fdOf K d_with_work.at_) ["duty", "text"] (sp_with_work K) := by
  refine (F_with_work T).ok sc_with_work (fun vs H Q E h => ?_) (fun cdv A outer s H vs Q E hr h => ?_)
  · obtain ⟨_, _, _, _, rfl, _⟩ := h
    rfl
  · refine ⟨_, PSs.nox (pss_one (ps_ret (pe_make (k_Duty T) (ok_Duty_init T) (hr.mono (by decide)) rfl (g_Duty T) (b_Duty_init T) .nil pass0 (pa_cons (pe_op op_cat (pe_call (ok_works_of T) (hr.mono (by decide)) rfl (g_works_of T) (F_works_of T).kp (b_works_of T) .nil pass0 (pa_cons (pv 0) pa_nil)) (pe_lst (pa_cons (pe_call (ok_read_work T) (hr.mono (by decide)) rfl (g_read_work T) (F_read_work T).kp (b_read_work T) .nil pass0 (pa_cons (pv 1) pa_nil)) pa_nil))) pa_nil)))), ?_⟩
    obtain ⟨B, _, ws, u, rfl, eB, D, few, G', k⟩ := h
    have b : Wb u := G'.wb (List.mem_append_right _ List.mem_cons_self)
    refine ⟨_, rfl, B, _, ws, rfl, eB, D, few, fun p ys H1 np e1 h1 pr => ?_⟩
    have ly : ys.length ≤ 4 := by rw [paired_len pr]; exact few
    have g0 : Gr B H B H1 := (Gr.refl eB).heap e1
    refine ⟨_, rfl, B, u, rfl, g0.e, b, fun v B2 H2 g2 W => ?_⟩
    refine ⟨szn (n := 1) (by decide), fun q nq => ?_⟩
    refine ⟨p, q, _, _, rfl, rfl, ex_up nq _ _ (g2.eH _ _ h1), upd_same, ?_, fun t nt => ?_⟩
    · exact Evl.sz_of (by show ys.length + 1 ≤ _; omega)
    have g3 := ((g0.trans g2).heap (ex_up (o := .lst [v]) nq)).heap (ex_up (o := .lst (ys ++ [v])) nt)
    have ht : upd (upd H2 q (.lst [v])) t (.lst (ys ++ [v])) t = some (.lst (ys ++ [v])) := upd_same
    generalize upd (upd H2 q (.lst [v])) t (.lst (ys ++ [v])) = H4 at g3 ht ⊢
    intro x dx' nx ndx ne
    have g4 := gr_make (o := .own x) (o' := .ins (He.ga K "Duty") dx' []) (Gr.refl g3.e) nx ndx ne
    have nlx : t ≠ x := ne_of_none ht nx
    refine ⟨B2, H4, x, dx', t, _, _, rfl, g4, nx, ex_none g3.e nx, upd_same, ?_, paired_snoc (L2.Paired.mapP pr fun _ _ z => z.mono g3.eB) W, G', fun B' H' g5 D2 => ⟨rfl, k _ B' H' (g3.trans g5) D2⟩⟩
    rw [upd_ne nlx]
    exact ex_up ndx _ _ ht
def sp_show_coming (K : PySem.W.Frag) : Sp := fun vs H Q _ => ∃ (v cv : V) (ws : List Wk) (c : Cm), vs = [v, cv] ∧ DtV K H v ws ∧ CmV H cv c ∧ Good ws ∧ CmOk ws c ∧ ∀ H', Ex H H' → Q (.str (cmText ws c)) H'
theorem ok_show_coming (T : Says K mg) : FnOk P w K mg base CX0 2 (He.fAd K d_show_coming.at_) (fdOf K d_show_coming.at_) ["duty", "coming"] (sp_show_coming K) := by
  refine (F_show_coming T).ok sc_show_coming (fun vs H Q E h => ?_) (fun cdv A outer s H vs Q E hr h => ?_)
  · obtain ⟨_, _, _, _, rfl, _⟩ := h
    rfl
  · refine ⟨_, PSs.nox (pss_cons (ps_set (i := 2) sc_show_coming.nd rfl (Or.inl rfl) (pe_lst (pa_cons (pe_fld (pe_meth (pv 0) (c_Duty T) (m_Duty_work T) (ok_Duty_work T).ok (hr.mono (by decide)) (b_Duty_work T) .nil pass0 (pa_cons (pe_ix ix_tup (pv 1) pe_int (fun _ _ => rfl)) pa_nil)) rfl) pa_nil))) (pss_cons (ps_for PassesOwn.never rfl (pi_tup (pe_slice sl_tup (pv 1) (po_some pe_int) po_none)) (pg_name (i := 3) sc_show_coming.nd rfl (Or.inl rfl)) (pss_one (ps_expr (pe_bm PySem.F.plainAttrs_list PySem.F.slot_list_append PySem.F.type_list_append mt_append (pv 2) (pa_cons (pe_callTy call_str_int (by rfl) (f_str T) (by decide +kernel) (pa_cons (pv 3) pa_nil)) pa_nil))))) (pss_one (ps_ret (pe_join pe_str (pv 2)))))), ?_⟩
    obtain ⟨_, _, ws, c, rfl, D, ⟨q, rfl, hq⟩, G, o, k⟩ := h
    obtain ⟨a, dx, wl, nd, xs, rfl, ha, hl, hp, hn⟩ := id D
    obtain ⟨i, u, ew, hi⟩ := o.at_
    have eN := nameAt_eq ew hi
    refine ⟨_, rfl, a, dx, _, rfl, ha, rfl, _, rfl, _, _, _, _, rfl, rfl, SqT.of hq, rfl, ?_⟩
    rw [ew]
    refine ⟨_, ws, i, u, rfl, H, Evl.Ex.refl _, D, hi, fun y hy => ?_⟩
    obtain ⟨b, bx, l, ys, rfl, hb, _, _⟩ := id hy
    refine ⟨b, _, bx, _, _, rfl, hb, c_Work T, n_Work_name T, wk_name, szn (n := 1) (by decide), fun p np => ?_⟩
    refine ⟨_, rfl, 1, rfl, q, _, rfl, SqT.of (ex_up np _ _ hq), (fun z => by have z1 := z.1; rw [show (1 : Int) = ((1 : Nat) : Int) from rfl, HT.sIx_nat] at z1; exact absurd z1 (show ¬ min 1 4 = 0 by decide)), fun t nt => ?_⟩
    have npt : p ≠ t := ne_of_none upd_same nt
    have ecut : cutV [V.int c.who, V.int c.come, V.int c.late, V.int c.len] (some 1) none = [V.int c.come, V.int c.late, V.int c.len] := by
      rw [show (1 : Int) = ((1 : Nat) : Int) from rfl, cut_from]
      rfl
    rw [ecut]
    have nm : ∀ n ∈ [c.come, c.late, c.len], 0 ≤ n ∧ n < big := by
      intro n hn
      simp only [List.mem_cons, List.mem_nil_iff, or_false] at hn
      rcases hn with rfl | rfl | rfl
      · exact ⟨o.c0, o.c1⟩
      · exact ⟨o.t0, o.t1⟩
      · exact ⟨o.l0, o.l1⟩
    refine ⟨t, rfl, ⟨_, SqT.of upd_same⟩, for_tup (K := K) (a := t) (xs := [V.int c.come, V.int c.late, V.int c.len]) (fun j σ H' => (∃ y, σ = [some (.ref a), some (.ref q), some (.ref p), y]) ∧ Ex H H' ∧ H' t = some (.tup [V.int c.come, V.int c.late, V.int c.len]) ∧ H' p = some (.lst ((u.name :: (([c.come, c.late, c.len].take j).map numI)).map V.str)))
      ⟨⟨_, rfl⟩, (ex_up np).trans (ex_up nt), upd_same, (upd_ne npt).trans upd_same⟩ (fun j σ H' _ q => SqT.of q.2.2.1) ?_ ?_⟩
    · rintro j x σ H2 hj ⟨⟨y, rfl⟩, e2, ht, hp2⟩
      have hj2 : ([c.come, c.late, c.len].map V.int)[j]? = some x := hj
      rw [List.getElem?_map] at hj2
      cases e : [c.come, c.late, c.len][j]? with
      | none =>
        rw [e] at hj2
        cases hj2
      | some n =>
        rw [e] at hj2
        cases hj2
        obtain ⟨n0, n1⟩ := nm n (List.mem_of_getElem? e)
        refine ⟨_, rfl, .inl ⟨rfl, _, SqL.of hp2⟩, _, rfl, n, rfl, lg n0 n1, p, _, _, rfl, rfl, hp2, ?_, ?_⟩
        · have j3 : j < 3 := (List.getElem?_eq_some_iff.mp e).1
          rw [List.length_map, List.length_cons, List.length_map, List.length_take]
          exact Evl.sz_lt (by omega)
        · refine ⟨⟨_, rfl⟩, e2.mut np, (upd_ne npt.symm).trans ht, ?_⟩
          rw [upd_same, take_snoc e, List.map_append, List.map_cons, List.map_cons, List.map_append]
          rfl
    · rintro σ H2 ⟨⟨y, rfl⟩, e2, ht, hp2⟩
      refine ⟨⟨_, rfl⟩, _, rfl, _, p, _, rfl, rfl, .inl (SqL.of hp2), ?_, ?_⟩
      · refine join_room (by decide +kernel) (by rw [List.length_cons, List.length_map, List.length_take]; simp) fun x hx => ?_
        rcases List.mem_cons.mp hx with rfl | hx
        · have := (G.at hi).nm.2.1
          omega
        · obtain ⟨n, hn, rfl⟩ := List.mem_map.mp hx
          obtain ⟨n0, n1⟩ := nm n (List.mem_of_mem_take hn)
          exact Nat.le_trans (numI_len n0 n1) (by decide)
      · have e : (u.name :: (([c.come, c.late, c.len].take [V.int c.come, V.int c.late, V.int c.len].length).map numI)) = cmWords ws c := by
          unfold cmWords
          rw [eN]
          rfl
        rw [e]
        exact k H2 e2
def sp_show_row (K : PySem.W.Frag) : Sp := fun vs H Q _ => ∃ (v rv : V) (ws : List Wk) (row : List Cm), vs = [v, rv] ∧ DtV K H v ws ∧ RowV H rv row ∧ Good ws ∧ row.length ≤ 100 ∧ (∀ c ∈ row, CmOk ws c) ∧ ∀ H', Ex H H' → Q (.str (rowText ws row)) H'
theorem ok_show_row (T : Says K mg) : FnOk P w K mg base CX0 3 (He.fAd K d_show_row.at_) (fdOf K d_show_row.at_) ["duty", "row"] (sp_show_row K) := by
  refine (F_show_row T).ok sc_show_row (fun vs H Q E h => ?_) (fun cdv A outer s H vs Q E hr h => ?_)
  · obtain ⟨_, _, _, _, rfl, _⟩ := h
    rfl
  · refine ⟨_, PSs.nox (pss_one (ps_ret (pe_join pe_str (pe_lc (own := [("coming", 2)]) rfl sc_show_row.nd (pi_list (pv 1)) (blkOk_by (N := N_show_row) (sc := defScope s_show_row) (by decide +kernel)) (fun _ _ _ _ _ => (pg_name (i := 2) sc_show_row.nd rfl (Or.inl rfl))) (fun _ _ _ _ _ => pts_nil) (fun _ _ _ _ _ => (pe_call (ok_show_coming T) (hr.mono (by decide)) rfl (g_show_coming T) (F_show_coming T).kp (b_show_coming T) .nil pass0 (pa_cons (pv 0) (pa_cons (pv 2) pa_nil)))))))), ?_⟩
    obtain ⟨_, _, ws, row, rfl, D, ⟨p, cs, rfl, hp0, pr⟩, G, lr, o, k⟩ := h
    refine ⟨⟨_, rfl⟩, _, rfl, p, rfl, ⟨_, SqL.of hp0⟩, fun F nF => ?_⟩
    refine lc_list (K := K) (a := p) (xs := cs) (fun j H' => Ex H H' ∧ H' F = some (.lst (((row.take j).map (cmText ws)).map V.str))) ⟨ex_up nF, upd_same⟩ (fun j H' _ q => SqL.of (q.1 _ _ hp0)) ?_ ?_
    · rintro j x H2 hj ⟨e2, hF⟩
      obtain ⟨c, hc, hx⟩ := paired_back pr hj
      refine ⟨rfl, _, rfl, _, rfl, _, _, ws, c, rfl, D.mono e2, hx.mono e2, G, o c (List.mem_of_getElem? hc), fun H3 e3 => ⟨_, e3 _ _ hF, ?_, (e2.trans e3).mut nF, ?_⟩⟩
      · rw [List.length_map, List.length_map, List.length_take]
        exact Evl.sz_lt (by omega)
      · rw [upd_same, take_snoc hc, List.map_append, List.map_append]
        rfl
    rintro H2 ⟨e2, hF⟩
    rw [paired_len pr, List.take_of_length_le (Nat.le_refl _)] at hF
    exact ⟨_, F, _, rfl, rfl, .inl (SqL.of hF), row_room G lr o, k H2 e2⟩
def sp_read_coming : Sp := fun vs H Q _ => ∃ (ws : List Wk) (c : Cm), vs = [.str (cmText ws c)] ∧ Good ws ∧ CmOk ws c ∧ ∀ t H', H t = none → Ex H H' → H' t = some (.tup [.str (nameAt ws c), .int c.come, .int c.late, .int c.len]) → Q (.ref t) H'
theorem ok_read_coming (T : Says K mg) : FnOk P w K mg base CX0 3 (He.fAd K d_read_coming.at_) (fdOf K d_read_coming.at_) ["text"] sp_read_coming := by
  refine (F_read_coming T).ok sc_read_coming (fun vs H Q E h => ?_) (fun cdv A outer s H vs Q E hr h => ?_)
  · obtain ⟨_, _, rfl, _⟩ := h
    rfl
  · refine ⟨_, PSs.nox (pss_cons (ps_set (i := 1) sc_read_coming.nd rfl (Or.inl rfl) (pe_call (ok_words_of T) (hr.mono (by decide)) rfl (g_words_of T) (F_words_of T).kp (b_words_of T) .nil pass0 (pa_cons (pv 0) pa_nil))) (pss_cons (ps_if (pt_cmpR op_ne (pe_callB call_len_seq (by rfl) (f_len T) (by decide +kernel) (pa_cons (pv 1) pa_nil)) pe_int (nomark _)) (pss_one ps_never) pss_nil) (pss_one (ps_ret (pe_tup (pa_cons (pe_ix ix_list (pv 1) pe_int (fun _ _ => rfl)) (pa_cons (pe_call (ok_number_in T) (hr.mono (by decide)) rfl (g_number_in T) (F_number_in T).kp (b_number_in T) .nil pass0 (pa_cons (pe_ix ix_list (pv 1) pe_int (fun _ _ => rfl)) pa_nil)) (pa_cons (pe_call (ok_number_in T) (hr.mono (by decide)) rfl (g_number_in T) (F_number_in T).kp (b_number_in T) .nil pass0 (pa_cons (pe_ix ix_list (pv 1) pe_int (fun _ _ => rfl)) pa_nil)) (pa_cons (pe_call (ok_number_in T) (hr.mono (by decide)) rfl (g_number_in T) (F_number_in T).kp (b_number_in T) .nil pass0 (pa_cons (pe_ix ix_list (pv 1) pe_int (fun _ _ => rfl)) pa_nil)) pa_nil))))))))), ?_⟩
    obtain ⟨ws, c, rfl, G, o, k⟩ := h
    obtain ⟨m1, e1, h1, t1⟩ := numI_small o.c0 o.c1
    obtain ⟨m2, e2, h2, t2⟩ := numI_small o.t0 o.t1
    obtain ⟨m3, e3, h3, t3⟩ := numI_small o.l0 o.l1
    have lc := cm_len G o
    refine ⟨_, rfl, _, rfl, Evl.sz_of (by omega), fun p np => ?_⟩
    rw [cm_split G o]
    have ew : (cmWords ws c).map V.str = [.str (nameAt ws c), .str (num m1), .str (num m2), .str (num m3)] := by
      rw [← t1, ← t2, ← t3]
      rfl
    rw [ew]
    have at1 : atI [V.str (nameAt ws c), .str (num m1), .str (num m2), .str (num m3)] ((1 : Nat) : Int) = some (.str (num m1)) := atI_nat rfl
    have at2 : atI [V.str (nameAt ws c), .str (num m1), .str (num m2), .str (num m3)] ((2 : Nat) : Int) = some (.str (num m2)) := atI_nat rfl
    have at3 : atI [V.str (nameAt ws c), .str (num m1), .str (num m2), .str (num m3)] ((3 : Nat) : Int) = some (.str (num m3)) := atI_nat rfl
    have at0 : atI [V.str (nameAt ws c), .str (num m1), .str (num m2), .str (num m3)] ((0 : Nat) : Int) = some (.str (nameAt ws c)) := atI_nat rfl
    refine ⟨_, rfl, p, _, rfl, .inl (SqL.of upd_same), rfl, _, rfl, itF rfl ?_⟩
    refine ⟨_, rfl, _, _, _, _, rfl, rfl, SqL.of upd_same, at0, _, rfl, _, _, _, _, rfl, rfl, SqL.of upd_same, at1, m1, rfl, h1, _, rfl, _, _, _, _, rfl, rfl, SqL.of upd_same, at2, m2, rfl, h2, _, rfl, _, _, _, _, rfl, rfl, SqL.of upd_same, at3, m3, rfl, h3, szn (n := 4) (by decide), fun t nt => ?_⟩
    refine k t _ (Evl.fresh_back (ex_up np) nt) ((ex_up np).trans (ex_up nt)) ?_
    rw [upd_same, e1, e2, e3]
def sp_read_row (K : PySem.W.Frag) : Sp := fun vs H Q _ => ∃ (B : Hp) (v : V) (ws : List Wk) (row : List Cm), vs = [v, .str (rowText ws row)] ∧ Ex B H ∧ DtV K B v ws ∧ Good ws ∧ row ≠ [] ∧ row.length ≤ 100 ∧ (∀ c ∈ row, CmOk ws c) ∧ ∀ x B' H', Gr B H B' H' → RowV B' x row → Q x H'
theorem row_ne {ws : List Wk} (g : Good ws) {row : List Cm} (ne : row ≠ []) (o : ∀ c ∈ row, CmOk ws c) : rowText ws row ≠ "" := by
  intro z
  have s := row_split g ne o
  rw [z] at s
  have e : Txt.split ("" : Str) "; " = [("" : Str)] := by decide +kernel
  rw [e] at s
  match row, ne, o, s with
  | c :: r, _, o, s =>
    have e1 := (List.cons.inj s).1
    have sp := cm_split g (o c List.mem_cons_self)
    rw [← e1] at sp
    have e2 : Txt.split ("" : Str) " " = [("" : Str)] := by decide +kernel
    rw [e2] at sp
    have := congrArg List.length sp
    unfold cmWords at this
    simp at this
theorem ok_read_row (T : Says K mg) : FnOk P w K mg base CX0 4 (He.fAd K d_read_row.at_) (fdOf K d_read_row.at_) ["duty", "text"] (sp_read_row K) := by
  refine (F_read_row T).ok sc_read_row (fun vs H Q E h => ?_) (fun cdv A outer s H vs Q E hr h => ?_)
  · obtain ⟨_, _, _, _, rfl, _⟩ := h
    rfl
  · refine ⟨_, PSs.nox (pss_cons (ps_if (pt_cmpR op_eq (pv 1) pe_str (nomark _)) (pss_one (ps_ret (pe_lst pa_nil))) pss_nil) (pss_cons (ps_if (pt_not (pt_val (pe_callB call_isi (by rfl) (f_isinstance T) (by decide +kernel) (pa_cons (pv 1) (pa_cons (pe_bltn (v := .ty "str") rfl (f_str T) (by decide +kernel) rfl) pa_nil))))) (pss_one ps_never) pss_nil) (pss_cons (ps_setLc (i := 2) (own := [("part", 3)]) rfl sc_read_row.nd rfl rfl (sw_true rfl rfl rfl (by decide +kernel)) (pi_list (pe_split (pv 1) pe_str)) (blkOk_by (N := N_read_row) (sc := defScope s_read_row) (by decide +kernel)) (fun _ _ _ _ _ => (pg_name (i := 3) sc_read_row.nd rfl (Or.inl rfl))) (fun _ _ _ _ _ => pts_nil) (fun _ _ _ _ _ => (pe_call (ok_read_coming T) (hr.mono (by decide)) rfl (g_read_coming T) (F_read_coming T).kp (b_read_coming T) .nil pass0 (pa_cons (pv 3) pa_nil)))) (pss_one (ps_ret (pe_lc (own := [("name", 4), ("come", 5), ("late", 6), ("length", 7)]) rfl sc_read_row.nd (pi_list (pv 2)) (blkOk_by (N := N_read_row) (sc := defScope s_read_row) (by decide +kernel)) (fun _ _ _ _ _ => (show PG _ _ (gTup K 4 _) from pg_tup rfl (pgs_cons (pg_name (i := 4) sc_read_row.nd rfl (Or.inl rfl)) (pgs_cons (pg_name (i := 5) sc_read_row.nd rfl (Or.inl rfl)) (pgs_cons (pg_name (i := 6) sc_read_row.nd rfl (Or.inl rfl)) (pgs_cons (pg_name (i := 7) sc_read_row.nd rfl (Or.inl rfl)) pgs_nil)))))) (fun _ _ _ _ _ => pts_nil) (fun _ _ _ _ _ => (pe_tup (pa_cons (pe_meth (pv 0) (c_Duty T) (m_Duty_number_of T) (ok_Duty_number_of T) (hr.mono (by decide)) (b_Duty_number_of T) .nil pass0 (pa_cons (pv 4) pa_nil)) (pa_cons (pv 5) (pa_cons (pv 6) (pa_cons (pv 7) pa_nil)))))))))))), ?_⟩
    obtain ⟨B, _, ws, row, rfl, eB, D, G, ne, lr, o, k⟩ := h
    obtain ⟨a, dx, wl, nd, xs, rfl, ha, hl, hp, hn⟩ := id D
    have ln := row_len G lr o
    refine ⟨_, rfl, rfl, _, rfl, ?_⟩
    refine itF (decide_eq_false fun z => row_ne G ne o (V.str.inj z)) ?_
    refine ⟨_, rfl, ⟨_, _, .type "str", .type "str", true, rfl, .ty _, .base (.str _), kit_ty (by decide +kernel), _, rfl, itF rfl ?_⟩⟩
    refine ⟨_, rfl, ⟨_, rfl⟩, _, _, rfl, rfl, by decide +kernel, Evl.sz_of (by omega), fun p np => ?_⟩
    rw [row_split G ne o]
    have g0 : Gr B H B (upd H p (.lst ((row.map (cmText ws)).map V.str))) := (Gr.refl eB).heap (ex_up np)
    have hp0 : upd H p (.lst ((row.map (cmText ws)).map V.str)) p = some (.lst ((row.map (cmText ws)).map V.str)) := upd_same
    generalize upd H p (.lst ((row.map (cmText ws)).map V.str)) = H1 at g0 hp0 ⊢
    refine ⟨p, rfl, ⟨_, SqL.of hp0⟩, fun F nF => ?_⟩
    have nF0 : H F = none := Evl.fresh_back g0.eH nF
    have bF : B F = none := ex_none g0.e nF
    have npF : p ≠ F := ne_of_none hp0 nF
    refine lc_list (K := K) (a := p) (xs := (row.map (cmText ws)).map V.str) (fun j H' => ∃ (B1 : Hp) (vs : List V), Gr B H B1 H' ∧ B1 F = none ∧ H' p = some (.lst ((row.map (cmText ws)).map V.str)) ∧ H' F = some (.lst vs) ∧ Paired (ToldV ws B1) vs (row.take j))
      ⟨B, [], g0.heap (ex_up nF), bF, (upd_ne npF).trans hp0, upd_same, .nil⟩ (fun j H' _ ⟨_, _, _, _, q, _⟩ => SqL.of q) ?_ ?_
    · rintro j x H5 hj ⟨B1, vs, g5, b1F, hp5, hF5, pr⟩
      rw [List.getElem?_map, List.getElem?_map] at hj
      cases e : row[j]? with
      | none =>
        rw [e] at hj
        cases hj
      | some c =>
        rw [e] at hj
        cases hj
        have lv : vs.length ≤ 100 := by
          rw [paired_len pr, List.length_take]
          omega
        refine ⟨rfl, _, rfl, ws, c, rfl, G, o c (List.mem_of_getElem? e), fun t H6 nt e6 ht => ?_⟩
        have b1t : B1 t = none := ex_none g5.e nt
        have nt0 : H t = none := Evl.fresh_back g5.eH nt
        have ntF : F ≠ t := ne_of_none hF5 nt
        refine ⟨vs, e6 _ _ hF5, Evl.sz_lt (by omega), _, vs ++ [.ref t], ((g5.heap e6).freeze nt0 b1t ht).write nF0 (by rw [upd_ne ntF]; exact b1F), by rw [upd_ne ntF]; exact b1F, (upd_ne npF).trans (e6 _ _ hp5), upd_same, ?_⟩
        rw [take_snoc e]
        exact paired_snoc (L2.Paired.mapP pr fun _ _ z => z.mono (ex_up b1t)) ⟨t, rfl, upd_same⟩
    rintro H5 ⟨B1, vs, g5, b1F, hp5, hF5, pr⟩
    rw [List.length_map, List.length_map, List.take_of_length_le (Nat.le_refl _)] at pr
    have g6 := g5.freeze nF0 b1F hF5
    have pr6 := L2.Paired.mapP pr fun _ _ (z : ToldV ws B1 _ _) => z.mono (ex_up (o := .lst vs) b1F)
    have hF6 : upd B1 F (.lst vs) F = some (.lst vs) := upd_same
    generalize upd B1 F (.lst vs) = B6 at g6 pr6 hF6
    refine ⟨_, rfl, F, rfl, ⟨_, SqL.of hF5⟩, fun E1 nE => ?_⟩
    have nE0 : H E1 = none := Evl.fresh_back g6.eH nE
    have bE : B6 E1 = none := ex_none g6.e nE
    refine lc_list (K := K) (a := F) (xs := vs) (fun j H' => ∃ (B2 : Hp) (zs : List V), Gr B H B2 H' ∧ Ex B6 B2 ∧ B2 E1 = none ∧ H' E1 = some (.lst zs) ∧ Paired (CmV B2) zs (row.take j))
      ⟨B6, [], g6.heap (ex_up nE), Evl.Ex.refl _, bE, upd_same, .nil⟩ (fun j H' _ ⟨_, _, g, x, _⟩ => SqL.of (g.e _ _ (x _ _ hF6))) ?_ ?_
    · rintro j x H7 hj ⟨B2, zs, g7, x7, b2E, hE7, pr7⟩
      obtain ⟨c, hc, t, rfl, ht⟩ := paired_back pr6 hj
      have oc := o c (List.mem_of_getElem? hc)
      obtain ⟨i, u, ew, hi⟩ := oc.at_
      have ht7 := g7.e _ _ (x7 _ _ ht)
      have lz : zs.length ≤ 100 := by
        rw [paired_len pr7, List.length_take]
        omega
      refine ⟨t, _, rfl, SqT.of ht7, rfl, _, _, rfl, _, _, rfl, _, _, rfl, _, _, rfl, rfl, rfl, ?_⟩
      refine ⟨_, rfl, a, dx, _, rfl, g7.e _ _ (g7.eB _ _ ha), rfl, _, rfl, _, ws, i, u, by rw [nameAt_eq ew hi]; rfl, (D.mono g7.eB).mono g7.e, G.nd, hi, ?_⟩
      refine ⟨_, rfl, _, rfl, _, rfl, szn (n := 4) (by decide), fun q nq => ?_⟩
      have nqE : E1 ≠ q := ne_of_none hE7 nq
      refine ⟨zs, (upd_ne nqE).trans hE7, Evl.sz_lt (by omega), _, zs ++ [.ref q], (g7.new nq).write nE0 (by rw [upd_ne nqE]; exact b2E), x7.trans (ex_up (ex_none g7.e nq)), by rw [upd_ne nqE]; exact b2E, upd_same, ?_⟩
      rw [take_snoc hc]
      refine paired_snoc (L2.Paired.mapP pr7 fun _ _ z => z.mono (ex_up (ex_none g7.e nq))) ⟨q, rfl, ?_⟩
      rw [upd_same, ew]
    rintro H7 ⟨B2, zs, g7, x7, b2E, hE7, pr7⟩
    rw [paired_len pr6, List.take_of_length_le (Nat.le_refl _)] at pr7
    exact k _ _ _ (g7.freeze nE0 b2E hE7) ⟨E1, zs, rfl, upd_same, L2.Paired.mapP pr7 fun _ _ z => z.mono (ex_up b2E)⟩
end
end Dty
set_option Elab.async false
set_option linter.all false
set_option maxRecDepth 100000
set_option maxHeartbeats 4000000
namespace Dty
open PySem
/-! ### the bench, in plain Lean -/
abbrev Sg := Nat × Int × Int
structure Bn where
  many : Nat
  wait : List Nat
  dones : List Int
  told : List Sg
  now : Int
def rdC (c : Cm) : Int := c.come + c.late
def minI (a b : Int) : Int := if b < a then b else a
def bput (told : List Sg) (p : Nat) (now til : Int) : List Sg := match told.getLast? with
  | some (q, b, e) => if q = p ∧ e = now then told.dropLast ++ [(p, b, til)] else told ++ [(p, now, til)]
  | none => [(p, now, til)]
/-- told in order: one at a time, none before it is ready -/
def TOk (row : List Cm) : Int → List Sg → Prop
  | _, [] => True
  | t, (p, b, e) :: r => (∃ c, row[p]? = some c ∧ rdC c ≤ b) ∧ t ≤ b ∧ b < e ∧ TOk row e r
def endOf : Int → List Sg → Int
  | t, [] => t
  | _, (_, _, e) :: r => endOf e r
def sumOf (told : List Sg) (p : Nat) : Int := (told.map fun g => if g.1 = p then g.2.2 - g.2.1 else 0).sum
def lastOf (told : List Sg) (p : Nat) : Int := told.foldl (fun z g => if g.1 = p then g.2.2 else z) 0
theorem tok_snoc {row : List Cm} {p : Nat} {b e : Int} : ∀ (l : List Sg) (t : Int), TOk row t (l ++ [(p, b, e)]) ↔ TOk row t l ∧ (∃ c, row[p]? = some c ∧ rdC c ≤ b) ∧ endOf t l ≤ b ∧ b < e
  | [], t => by simp [TOk, endOf]
  | (q, b', e') :: r, t => by
    show ((∃ c, row[q]? = some c ∧ rdC c ≤ b') ∧ t ≤ b' ∧ b' < e' ∧ TOk row e' (r ++ [(p, b, e)])) ↔ ((∃ c, row[q]? = some c ∧ rdC c ≤ b') ∧ t ≤ b' ∧ b' < e' ∧ TOk row e' r) ∧ _ ∧ endOf e' r ≤ b ∧ b < e
    rw [tok_snoc r e']
    constructor
    · rintro ⟨h1, h2, h3, h4, h5⟩
      exact ⟨⟨h1, h2, h3, h4⟩, h5⟩
    · rintro ⟨⟨h1, h2, h3, h4⟩, h5⟩
      exact ⟨h1, h2, h3, h4, h5⟩
theorem end_snoc {p : Nat} {b e : Int} : ∀ (l : List Sg) (t : Int), endOf t (l ++ [(p, b, e)]) = e
  | [], _ => rfl
  | (_, _, e') :: r, _ => end_snoc r e'
theorem sum_snoc (l : List Sg) (g : Sg) (p : Nat) : sumOf (l ++ [g]) p = sumOf l p + if g.1 = p then g.2.2 - g.2.1 else 0 := by
  unfold sumOf
  rw [List.map_append, List.sum_append]
  simp
theorem last_snoc (l : List Sg) (g : Sg) (p : Nat) : lastOf (l ++ [g]) p = if g.1 = p then g.2.2 else lastOf l p := by
  unfold lastOf
  rw [List.foldl_append]
  rfl
theorem getLast_split {l : List Sg} {g : Sg} (h : l.getLast? = some g) : l = l.dropLast ++ [g] := by
  obtain ⟨ys, e⟩ := List.getLast?_eq_some_iff.mp h
  rw [e, List.dropLast_concat]
structure PutOk (row : List Cm) (told told' : List Sg) (p : Nat) (now til : Int) : Prop where
  ok : TOk row 0 told'
  fin : endOf 0 told' = til
  sum : ∀ q, sumOf told' q = sumOf told q + if p = q then til - now else 0
  last : ∀ q, lastOf told' q = if p = q then til else lastOf told q
theorem put_ok {row : List Cm} {told : List Sg} {p : Nat} {now til : Int} {c : Cm} (h : TOk row 0 told) (he : endOf 0 told ≤ now) (hc : row[p]? = some c) (hr : rdC c ≤ now) (hlt : now < til) : PutOk row told (bput told p now til) p now til := by
  have app : PutOk row told (told ++ [(p, now, til)]) p now til :=
    ⟨(tok_snoc told 0).mpr ⟨h, ⟨c, hc, hr⟩, he, hlt⟩, end_snoc told 0, fun q => sum_snoc told _ q, fun q => last_snoc told _ q⟩
  unfold bput
  cases hl : told.getLast? with
  | none =>
    have e : told = [] := List.getLast?_eq_none_iff.mp hl
    subst e
    exact app
  | some g =>
    obtain ⟨q, b, e⟩ := g
    show PutOk row told (if q = p ∧ e = now then told.dropLast ++ [(p, b, til)] else told ++ [(p, now, til)]) p now til
    split
    · rename_i hq
      obtain ⟨rfl, rfl⟩ := hq
      have sp := getLast_split hl
      generalize told.dropLast = l at sp ⊢
      subst sp
      obtain ⟨h1, h2, h3, h4⟩ := (tok_snoc l 0).mp h
      refine ⟨(tok_snoc l 0).mpr ⟨h1, h2, h3, by omega⟩, end_snoc l 0, fun x => ?_, fun x => ?_⟩
      · rw [sum_snoc, sum_snoc]
        by_cases z : q = x
        · simp only [z, if_true]
          omega
        · simp only [z, if_false]
          omega
      · rw [last_snoc, last_snoc]
        by_cases z : q = x
        · simp [z]
        · simp [z]
    · exact app
/-- the order in which they come -/
structure LaterOk (row : List Cm) (later : List (Int × Nat)) : Prop where
  len : later.length = row.length
  at_ : ∀ (k : Nat) (x : Int × Nat), later[k]? = some x → ∃ c, row[x.2]? = some c ∧ x.1 = rdC c
  all : ∀ p, p < row.length → ∃ (k : Nat) (x : Int × Nat), later[k]? = some x ∧ x.2 = p
  nd : (later.map (·.2)).Nodup
  so : ∀ (j k : Nat) (x y : Int × Nat), j ≤ k → later[j]? = some x → later[k]? = some y → x.1 ≤ y.1
inductive BStep (ws : List Wk) (row : List Cm) (later : List (Int × Nat)) : Bn → Bn → Prop
  | mk (s : Bn) (now1 : Int) (many1 : Nat) (wait1 : List Nat) (p i : Nat) (c : Cm) (u : Wk) (d t : Int)
    (hcond : s.many < row.length ∨ s.wait ≠ [])
    (hnow : now1 = if s.wait = [] then maxI s.now (later.getD s.many (0, 0)).1 else s.now)
    (hm : s.many ≤ many1) (hm2 : many1 ≤ later.length)
    (harr : ∀ k x, s.many ≤ k → k < many1 → later[k]? = some x → x.1 ≤ now1)
    (hstop : ∀ x, later[many1]? = some x → now1 < x.1)
    (hw : wait1 = s.wait ++ ((later.drop s.many).take (many1 - s.many)).map (·.2))
    (hp : p ∈ wait1) (hleast : ∀ q ∈ wait1, HT.lexLt (keyOf ws row s.dones q) (keyOf ws row s.dones p) = false)
    (hc : row[p]? = some c) (hi : c.who = (i : Nat)) (hu : ws[i]? = some u) (hd : s.dones[p]? = some d)
    (ht : t = match later[many1]? with
      | some x => minI (steadyI u c.len d) (x.1 - now1)
      | none => steadyI u c.len d) :
    BStep ws row later s ⟨many1, if d + t = c.len then wait1.erase p else wait1, s.dones.set p (d + t), bput s.told p now1 (now1 + t), now1 + t⟩
def st0 (row : List Cm) : Bn := ⟨0, [], row.map fun _ => 0, [], 0⟩
inductive BReach (ws : List Wk) (row : List Cm) (later : List (Int × Nat)) : Bn → Prop
  | start : BReach ws row later (st0 row)
  | step {s s' : Bn} : BReach ws row later s → BStep ws row later s s' → BReach ws row later s'
def arrived (later : List (Int × Nat)) (m : Nat) : List Nat := (later.take m).map (·.2)
structure BInv (row : List Cm) (later : List (Int × Nat)) (s : Bn) : Prop where
  many : s.many ≤ later.length
  dlen : s.dones.length = row.length
  dok : ∀ (p : Nat) (c : Cm) (d : Int), row[p]? = some c → s.dones[p]? = some d → 0 ≤ d ∧ d ≤ c.len
  wnd : s.wait.Nodup
  warr : ∀ p ∈ s.wait, p ∈ arrived later s.many
  wopen : ∀ p ∈ s.wait, ∀ (c : Cm) (d : Int), row[p]? = some c → s.dones[p]? = some d → d < c.len
  fin : ∀ p ∈ arrived later s.many, p ∉ s.wait → ∀ (c : Cm) (d : Int), row[p]? = some c → s.dones[p]? = some d → d = c.len
  off : ∀ (p : Nat) (c : Cm) (d : Int), p ∉ arrived later s.many → row[p]? = some c → s.dones[p]? = some d → d = 0
  next : ∀ (x : Int × Nat), later[s.many]? = some x → s.now ≤ x.1
  came : ∀ (k : Nat) (x : Int × Nat), k < s.many → later[k]? = some x → x.1 ≤ s.now
  tok : TOk row 0 s.told
  tend : endOf 0 s.told ≤ s.now
  tsum : ∀ (p : Nat) (d : Int), s.dones[p]? = some d → sumOf s.told p = d
  now0 : 0 ≤ s.now
/-- a row that the bench may run -/
structure RowP (ws : List Wk) (row : List Cm) : Prop where
  cm : ∀ (p : Nat) (c : Cm), row[p]? = some c → 0 ≤ c.come ∧ 0 ≤ c.late ∧ 1 ≤ c.len ∧ ∃ (i : Nat) (u : Wk), c.who = (i : Nat) ∧ ws[i]? = some u
theorem steady_ge {u : Wk} {l d : Int} (h : d < l) : 1 ≤ steadyI u l d := by
  unfold steadyI
  have k : ∀ (hs : List (Str × Int × Int)) (m : Int), 1 ≤ m → 1 ≤ hs.foldl (fun m h => if h.2.2 > d then (if h.2.2 - d < m then h.2.2 - d else m) else m) m := by
    intro hs
    induction hs with
    | nil => exact fun m h => h
    | cons x r ih =>
      intro m hm
      refine ih _ ?_
      show 1 ≤ (if x.2.2 > d then (if x.2.2 - d < m then x.2.2 - d else m) else m)
      split
      · split <;> omega
      · exact hm
  exact k _ _ (by omega)
theorem steady_le (u : Wk) (l d : Int) : steadyI u l d ≤ l - d := by
  unfold steadyI
  have k : ∀ (hs : List (Str × Int × Int)) (m : Int), hs.foldl (fun m h => if h.2.2 > d then (if h.2.2 - d < m then h.2.2 - d else m) else m) m ≤ m := by
    intro hs
    induction hs with
    | nil => exact fun m => Int.le_refl _
    | cons x r ih =>
      intro m
      refine Int.le_trans (ih _) ?_
      show (if x.2.2 > d then (if x.2.2 - d < m then x.2.2 - d else m) else m) ≤ m
      split
      · split <;> omega
      · exact Int.le_refl _
  exact k _ _
theorem steady_hold {u : Wk} {l d : Int} {h : Str × Int × Int} (hm : h ∈ u.holds) (hd : d < h.2.2) : steadyI u l d ≤ h.2.2 - d := by
  unfold steadyI
  have k0 : ∀ (hs : List (Str × Int × Int)) (m : Int), hs.foldl (fun m h => if h.2.2 > d then (if h.2.2 - d < m then h.2.2 - d else m) else m) m ≤ m := by
    intro hs
    induction hs with
    | nil => exact fun m => Int.le_refl _
    | cons x r ih =>
      intro m
      refine Int.le_trans (ih _) ?_
      show (if x.2.2 > d then (if x.2.2 - d < m then x.2.2 - d else m) else m) ≤ m
      split
      · split <;> omega
      · exact Int.le_refl _
  have k : ∀ (hs : List (Str × Int × Int)) (m : Int), h ∈ hs → hs.foldl (fun m h => if h.2.2 > d then (if h.2.2 - d < m then h.2.2 - d else m) else m) m ≤ h.2.2 - d := by
    intro hs
    induction hs with
    | nil => intro _ z; cases z
    | cons x r ih =>
      intro m z
      rcases List.mem_cons.mp z with rfl | z
      · refine Int.le_trans (k0 r _) ?_
        show (if h.2.2 > d then (if h.2.2 - d < m then h.2.2 - d else m) else m) ≤ h.2.2 - d
        rw [if_pos (show h.2.2 > d from hd)]
        split <;> omega
      · exact ih _ z
  exact k _ _ hm
/-- what one step brings -/
structure Turn (row : List Cm) (later : List (Int × Nat)) (s : Bn) (now1 : Int) (many1 : Nat) (wait1 : List Nat) (p : Nat) (c : Cm) (d t : Int) : Prop where
  t1 : 1 ≤ t
  tl : t ≤ c.len - d
  dlt : d < c.len
  d0 : 0 ≤ d
  rd : rdC c ≤ now1
  nowle : s.now ≤ now1
  stop : ∀ (x : Int × Nat), later[many1]? = some x → now1 + t ≤ x.1
  came : ∀ (k : Nat) (x : Int × Nat), k < many1 → later[k]? = some x → x.1 ≤ now1
  wnd : wait1.Nodup
  warr : ∀ q ∈ wait1, q ∈ arrived later many1
  wopen : ∀ q ∈ wait1, ∀ (c : Cm) (d : Int), row[q]? = some c → s.dones[q]? = some d → d < c.len
  fin : ∀ q ∈ arrived later many1, q ∉ wait1 → ∀ (c : Cm) (d : Int), row[q]? = some c → s.dones[q]? = some d → d = c.len
  off : ∀ (q : Nat) (c : Cm) (d : Int), q ∉ arrived later many1 → row[q]? = some c → s.dones[q]? = some d → d = 0
  sub : ∀ q ∈ s.wait, q ∈ wait1
  nowe : s.wait ≠ [] → now1 = s.now
theorem arrived_split (later : List (Int × Nat)) {m m1 : Nat} (h : m ≤ m1) : arrived later m1 = arrived later m ++ ((later.drop m).take (m1 - m)).map (·.2) := by
  unfold arrived
  rw [← List.map_append]
  congr 1
  rw [show m1 = m + (m1 - m) by omega, List.take_add]
  congr 2
  omega
theorem turn_of {ws : List Wk} {row : List Cm} {later : List (Int × Nat)} (R : RowP ws row) (L : LaterOk row later) {s : Bn} (I : BInv row later s) {now1 : Int} {many1 : Nat} {wait1 : List Nat} {p : Nat} {c : Cm} {u : Wk} {d t : Int}
    (hcond : s.many < row.length ∨ s.wait ≠ [])
    (hnow : now1 = if s.wait = [] then maxI s.now (later.getD s.many (0, 0)).1 else s.now)
    (hm : s.many ≤ many1) (hm2 : many1 ≤ later.length)
    (harr : ∀ k x, s.many ≤ k → k < many1 → later[k]? = some x → x.1 ≤ now1)
    (hstop : ∀ x, later[many1]? = some x → now1 < x.1)
    (hw : wait1 = s.wait ++ ((later.drop s.many).take (many1 - s.many)).map (·.2))
    (hp : p ∈ wait1) (hc : row[p]? = some c) (hd : s.dones[p]? = some d)
    (ht : t = match later[many1]? with
      | some x => minI (steadyI u c.len d) (x.1 - now1)
      | none => steadyI u c.len d) : Turn row later s now1 many1 wait1 p c d t := by
  have nowle : s.now ≤ now1 := by
    rw [hnow]
    split
    · exact le_maxI_l _ _
    · exact Int.le_refl _
  have came : ∀ k x, k < many1 → later[k]? = some x → x.1 ≤ now1 := fun k x hk e => by
    rcases Nat.lt_or_ge k s.many with z | z
    · exact Int.le_trans (I.came k x z e) nowle
    · exact harr k x z hk e
  have esp := arrived_split later hm
  have ndall : (arrived later many1).Nodup := (List.Sublist.map _ (List.take_sublist many1 later)).nodup L.nd
  rw [esp] at ndall
  have ndp := List.nodup_append.mp ndall
  have newoff : ∀ q ∈ ((later.drop s.many).take (many1 - s.many)).map (·.2), q ∉ arrived later s.many := fun q hq z => ndp.2.2 q z q hq rfl
  have wnd : wait1.Nodup := by
    rw [hw]
    exact List.nodup_append.mpr ⟨I.wnd, ndp.2.1, fun a ha b hb e => newoff b hb (e ▸ I.warr a ha)⟩
  have warr : ∀ q ∈ wait1, q ∈ arrived later many1 := fun q hq => by
    rw [hw] at hq
    rw [esp]
    rcases List.mem_append.mp hq with z | z
    · exact List.mem_append_left _ (I.warr q z)
    · exact List.mem_append_right _ z
  have wopen : ∀ q ∈ wait1, ∀ c d, row[q]? = some c → s.dones[q]? = some d → d < c.len := fun q hq c d e1 e2 => by
    rw [hw] at hq
    rcases List.mem_append.mp hq with z | z
    · exact I.wopen q z c d e1 e2
    · have := I.off q c d (newoff q z) e1 e2
      have := (R.cm q c e1).2.2.1
      omega
  have fin : ∀ q ∈ arrived later many1, q ∉ wait1 → ∀ c d, row[q]? = some c → s.dones[q]? = some d → d = c.len := fun q hq nq c d e1 e2 => by
    rw [esp] at hq
    rw [hw, List.mem_append, not_or] at nq
    rcases List.mem_append.mp hq with z | z
    · exact I.fin q z nq.1 c d e1 e2
    · exact absurd z nq.2
  have off : ∀ q c d, q ∉ arrived later many1 → row[q]? = some c → s.dones[q]? = some d → d = 0 := fun q c d nq e1 e2 => by
    rw [esp, List.mem_append, not_or] at nq
    exact I.off q c d nq.1 e1 e2
  have dlt := wopen p hp c d hc hd
  have rd : rdC c ≤ now1 := by
    have z := warr p hp
    unfold arrived at z
    obtain ⟨x, hx, ex⟩ := List.mem_map.mp z
    obtain ⟨k, hk, ek⟩ := List.mem_iff_getElem.mp hx
    rw [List.length_take] at hk
    rw [List.getElem_take] at ek
    have e : later[k]? = some x := by rw [List.getElem?_eq_getElem (by omega), ek]
    obtain ⟨c', h1, h2⟩ := L.at_ k x e
    rw [ex, hc] at h1
    cases h1
    rw [← h2]
    exact came k x (by omega) e
  have sg := steady_ge (u := u) dlt
  have sl := steady_le u c.len d
  have t1 : 1 ≤ t ∧ t ≤ c.len - d ∧ ∀ x, later[many1]? = some x → now1 + t ≤ x.1 := by
    cases e : later[many1]? with
    | none =>
      rw [e] at ht
      have ht : t = steadyI u c.len d := ht
      exact ⟨by omega, by omega, fun x z => by cases z⟩
    | some x =>
      rw [e] at ht
      have ht : t = minI (steadyI u c.len d) (x.1 - now1) := ht
      have hs := hstop x e
      unfold minI at ht
      split at ht
      · exact ⟨by omega, by omega, fun y z => by cases z; omega⟩
      · exact ⟨by omega, by omega, fun y z => by cases z; omega⟩
  exact ⟨t1.1, t1.2.1, dlt, (I.dok p c d hc hd).1, rd, nowle, t1.2.2, came, wnd, warr, wopen, fin, off, fun q hq => by rw [hw]; exact List.mem_append_left _ hq, fun ne => by rw [hnow, if_neg ne]⟩
theorem inv_step {ws : List Wk} {row : List Cm} {later : List (Int × Nat)} (R : RowP ws row) (L : LaterOk row later) {s s' : Bn} (I : BInv row later s) (h : BStep ws row later s s') : BInv row later s' := by
  cases h with
  | mk now1 many1 wait1 p i c u d t hcond hnow hm hm2 harr hstop hw hp hleast hc hi hu hd ht =>
    have T := turn_of R L I hcond hnow hm hm2 harr hstop hw hp hc hd ht
    have t1 := T.t1; have tl := T.tl; have d0 := T.d0
    have P := put_ok I.tok (Int.le_trans I.tend T.nowle) hc T.rd (show now1 < now1 + t by omega)
    have hset : ∀ q e, (s.dones.set p (d + t))[q]? = some e → (q = p ∧ e = d + t) ∨ (q ≠ p ∧ s.dones[q]? = some e) := fun q e z => by
      rw [List.getElem?_set] at z
      split at z
      · rename_i eq
        split at z
        · cases z
          exact .inl ⟨eq.symm, rfl⟩
        · cases z
      · rename_i ne
        exact .inr ⟨fun y => ne y.symm, z⟩
    have hmem : ∀ q, q ∈ (if d + t = c.len then wait1.erase p else wait1) ↔ q ∈ wait1 ∧ (d + t = c.len → q ≠ p) := fun q => by
      split
      · rename_i e
        rw [T.wnd.mem_erase_iff]
        constructor
        · rintro ⟨a, b⟩
          exact ⟨b, fun _ => a⟩
        · rintro ⟨a, b⟩
          exact ⟨b e, a⟩
      · rename_i e
        exact ⟨fun a => ⟨a, fun z => absurd z e⟩, fun a => a.1⟩
    refine ⟨hm2, by show (s.dones.set p (d + t)).length = _; rw [List.length_set]; exact I.dlen, ?_, ?_, ?_, ?_, ?_, ?_, T.stop, fun k x hk e => Int.le_trans (T.came k x hk e) (by show now1 ≤ now1 + t; omega), P.ok, Int.le_of_eq P.fin, ?_, by have := I.now0; have := T.nowle; show 0 ≤ now1 + t; omega⟩
    · intro q c' d' e1 e2
      rcases hset q d' e2 with ⟨rfl, rfl⟩ | ⟨_, e2⟩
      · rw [hc] at e1
        cases e1
        omega
      · exact I.dok q c' d' e1 e2
    · show (if d + t = c.len then wait1.erase p else wait1).Nodup
      split
      · exact T.wnd.erase p
      · exact T.wnd
    · intro q hq
      exact T.warr q ((hmem q).mp hq).1
    · intro q hq c' d' e1 e2
      obtain ⟨h1, h2⟩ := (hmem q).mp hq
      rcases hset q d' e2 with ⟨rfl, rfl⟩ | ⟨_, e2⟩
      · rw [hc] at e1
        cases e1
        by_cases z : d + t = c.len
        · exact absurd rfl (h2 z)
        · omega
      · exact T.wopen q h1 c' d' e1 e2
    · intro q hq nq c' d' e1 e2
      rcases hset q d' e2 with ⟨rfl, rfl⟩ | ⟨ne, e2⟩
      · rw [hc] at e1
        cases e1
        by_cases z : d + t = c.len
        · exact z
        · exact absurd ((hmem q).mpr ⟨hp, fun y => absurd y z⟩) nq
      · exact T.fin q hq (fun z => nq ((hmem q).mpr ⟨z, fun _ => ne⟩)) c' d' e1 e2
    · intro q c' d' nq e1 e2
      rcases hset q d' e2 with ⟨rfl, rfl⟩ | ⟨ne, e2⟩
      · exact absurd (T.warr q hp) nq
      · exact T.off q c' d' nq e1 e2
    · intro q d' e2
      rw [P.sum q]
      rcases hset q d' e2 with ⟨rfl, rfl⟩ | ⟨ne, e2⟩
      · rw [if_pos rfl, I.tsum q d hd]
        omega
      · rw [if_neg (fun z => ne z.symm), I.tsum q d' e2]
        omega
theorem inv_start {ws : List Wk} {row : List Cm} {later : List (Int × Nat)} (R : RowP ws row) (L : LaterOk row later) : BInv row later (st0 row) := by
  have dz : ∀ (p : Nat) (d : Int), (row.map fun _ => (0 : Int))[p]? = some d → d = 0 := fun p d h => by
    rw [List.getElem?_map] at h
    cases e : row[p]? with
    | none => rw [e] at h; cases h
    | some c => rw [e] at h; cases h; rfl
  refine ⟨Nat.zero_le _, by show (row.map _).length = _; rw [List.length_map], fun p c d e1 e2 => ?_, List.nodup_nil, fun p hp => (by cases hp), fun p hp => (by cases hp), fun p hp => ?_, fun p c d _ _ e2 => dz p d e2, fun x e => ?_, fun k x hk _ => absurd hk (Nat.not_lt_zero _), trivial, Int.le_refl _, fun p d e => ?_, Int.le_refl _⟩
  · have := dz p d e2
    have := (R.cm p c e1).2.2.1
    omega
  · unfold arrived at hp
    cases hp
  · obtain ⟨c, h1, h2⟩ := L.at_ _ x e
    have := R.cm _ c h1
    show 0 ≤ x.1
    rw [h2]
    unfold rdC
    omega
  · rw [dz p d e]
    rfl
theorem reach_inv {ws : List Wk} {row : List Cm} {later : List (Int × Nat)} (R : RowP ws row) (L : LaterOk row later) {s : Bn} (h : BReach ws row later s) : BInv row later s := by
  induction h with
  | start => exact inv_start R L
  | step _ k ih => exact inv_step R L ih k
end Dty
set_option Elab.async false
set_option linter.all false
set_option maxRecDepth 100000
set_option maxHeartbeats 4000000
namespace Dty
open PySem
/-! ### the hardest row on the bench -/
def c0 : Option (Nat × Int) → Int
  | none => 0
  | some (_, n) => n
structure Hd (ws : List Wk) (a : Nat) (u : Wk) (row : List Cm) (S : Int) (o : Option (Nat × Int)) : Prop where
  g : Good ws
  hu : ws[a]? = some u
  s0 : 0 ≤ S
  main : ∃ c : Cm, row[hardPlace o]? = some c ∧ c.who = (a : Nat) ∧ rdC c = S ∧ c.len = u.len
  strong : ∀ (q : Nat) (c : Cm), hardPlace o < q → row[q]? = some c → ∃ (j : Nat) (w : Wk), c.who = (j : Nat) ∧ ws[j]? = some w ∧ j < a ∧ S ≤ rdC c
  blk : Blk ws a o
  pre : ∀ (b : Nat) (n : Int), o = some (b, n) → row[0]? = some ⟨b, S - n, 0, lenAt ws b⟩ ∧ n ≤ S
def strSum (row : List Cm) (P0 : Nat) (E : Int) : Int := ((row.drop (P0 + 1)).map fun c => if rdC c < E then c.len else 0).sum
/-- how much of the blocker is done -/
def BB (ws : List Wk) (a : Nat) (o : Option (Nat × Int)) (ds : List Int) : Prop := ∀ (b : Nat) (n : Int), o = some (b, n) → ∃ d, ds[0]? = some d ∧ n ≤ d ∧ d ≤ n + holdUp ws a
def Done (ws : List Wk) (a : Nat) (u : Wk) (row : List Cm) (S : Int) (o : Option (Nat × Int)) (s : Bn) : Prop :=
  s.dones[hardPlace o]? = some u.len ∧ ∃ x : Int, 1 ≤ x ∧ lastOf s.told (hardPlace o) = S + x ∧ x = holdUp ws a + u.len + strSum row (hardPlace o) (S + x)
def JJ (ws : List Wk) (a : Nat) (u : Wk) (row : List Cm) (later : List (Int × Nat)) (S : Int) (o : Option (Nat × Int)) (s : Bn) : Prop :=
  s = st0 row ∨ (o ≠ none ∧ s.now = S ∧ s.wait = [0] ∧ s.dones.sum = c0 o ∧ BB ws a o s.dones ∧ hardPlace o ∉ arrived later s.many) ∨
  (hardPlace o ∈ s.wait ∧ S ≤ s.now ∧ s.dones.sum = s.now - S + c0 o ∧ BB ws a o s.dones) ∨ Done ws a u row S o s
theorem sum_set : ∀ (l : List Int) (p : Nat) (d t : Int), l[p]? = some d → (l.set p (d + t)).sum = l.sum + t
  | [], _, _, _, h => by cases h
  | x :: r, 0, d, t, h => by
    cases h
    show x + t + r.sum = x + r.sum + t
    omega
  | x :: r, p + 1, d, t, h => by
    show x + (r.set p (d + t)).sum = x + r.sum + t
    rw [sum_set r p d t h]
    omega
theorem sum_at : ∀ (l : List Int) (p : Nat) (d : Int), l[p]? = some d → l.sum = (l.take p).sum + d + (l.drop (p + 1)).sum
  | [], _, _, h => by cases h
  | x :: r, 0, d, h => by
    cases h
    show x + r.sum = 0 + x + r.sum
    omega
  | x :: r, p + 1, d, h => by
    show x + r.sum = x + (r.take p).sum + d + (r.drop (p + 1)).sum
    rw [sum_at r p d h]
    omega
theorem sum_zero : ∀ (row : List Cm), (row.map fun _ => (0 : Int)).sum = 0
  | [] => rfl
  | _ :: r => by
    show 0 + (r.map fun _ => (0 : Int)).sum = 0
    rw [sum_zero r]
    rfl
section
variable {ws : List Wk} {a : Nat} {u : Wk} {row : List Cm} {later : List (Int × Nat)} {S : Int} {o : Option (Nat × Int)} {s : Bn}
theorem rk_le {i : Nat} {w : Wk} {d : Int} : rk ws i w d ≤ i := by
  unfold rk
  have k : ∀ (l : List Str) (m : Nat), l.foldl (fun m t => min m (ceil ws t)) m ≤ m := by
    intro l
    induction l with
    | nil => exact fun m => Nat.le_refl _
    | cons x r ih => exact fun m => Nat.le_trans (ih _) (Nat.min_le_left _ _)
  exact k _ _
theorem rk_nil {i : Nat} {w : Wk} {d : Int} (h : heldNow w d = []) : rk ws i w d = i := by
  unfold rk
  rw [h]
  rfl
theorem lex_first {x y : Int} {r r' : List Int} (h : x < y) : HT.lexLt (x :: r) (y :: r') = true := by
  rw [HT.lexLt_cons, if_neg (by omega)]
  exact decide_eq_true h
theorem lex_second {x z y : Int} {r r' : List Int} (h : z < y) : HT.lexLt (x :: z :: r) (x :: y :: r') = true := by
  rw [HT.lexLt_cons, if_pos rfl]
  exact lex_first h
theorem done_at (I : BInv row later s) {q : Nat} {c : Cm} (h : row[q]? = some c) : ∃ d, s.dones[q]? = some d := by
  obtain ⟨l, _⟩ := List.getElem?_eq_some_iff.mp h
  exact ⟨_, List.getElem?_eq_getElem (by rw [I.dlen]; exact l)⟩
/-- the blocker's numbers -/
theorem blk_num (h : Hd ws a u row S o) {b : Nat} {n : Int} (e : o = some (b, n)) : hardPlace o = 1 ∧ 1 ≤ n ∧ ∃ (v : Wk) (t : Str) (sb eb : Int), ws[b]? = some v ∧ v.holds = [(t, sb, eb)] ∧ ceil ws t ≤ a ∧ a < b ∧ n = sb + 1 ∧ eb = n + holdUp ws a ∧ 0 < holdUp ws a ∧ eb < v.len ∧ lenAt ws b = v.len ∧ 0 ≤ sb := by
  subst e
  obtain ⟨h1, v, t, sb, eb, h2, h3, h4, h5, h6, h7⟩ := h.blk
  have hb := (h.g.at h2).h2 (t, sb, eb) (by rw [h3]; exact List.mem_cons_self)
  have := hb.2.1
  simp only at hb this
  refine ⟨rfl, by omega, v, t, sb, eb, h2, h3, h4, h1, h7, by omega, h6, hb.2.2.2, ?_, hb.2.1⟩
  unfold lenAt
  rw [h2]
/-- a turn while the coming at the place waits -/
theorem mid_turn (R : RowP ws row) (L : LaterOk row later) (hh : Hd ws a u row S o) (I : BInv row later s) {now1 : Int} {many1 : Nat} {wait1 : List Nat} {p i : Nat} {c : Cm} {u' : Wk} {d t : Int}
    (T : Turn row later s now1 many1 wait1 p c d t) (hp : p ∈ wait1) (hleast : ∀ q ∈ wait1, HT.lexLt (keyOf ws row s.dones q) (keyOf ws row s.dones p) = false)
    (hc : row[p]? = some c) (hi : c.who = (i : Nat)) (hu : ws[i]? = some u') (hd : s.dones[p]? = some d) (ht : t ≤ steadyI u' c.len d)
    (m1 : hardPlace o ∈ wait1) (m2 : S ≤ now1) (m3 : s.dones.sum = now1 - S + c0 o) (m4 : BB ws a o s.dones) :
    JJ ws a u row later S o ⟨many1, if d + t = c.len then wait1.erase p else wait1, s.dones.set p (d + t), bput s.told p now1 (now1 + t), now1 + t⟩ := by
  obtain ⟨cm, k1, k2, k3, k4⟩ := hh.main
  have t1 := T.t1; have tl := T.tl
  have sums := sum_set s.dones p d t hd
  have plen : p < s.dones.length := (List.getElem?_eq_some_iff.mp hd).1
  have Pk := put_ok I.tok (Int.le_trans I.tend T.nowle) hc T.rd (show now1 < now1 + t by omega)
  -- the blocker may do no more than its hold
  have bb : BB ws a o (s.dones.set p (d + t)) := fun b n e => by
    obtain ⟨d0, e0, l0, l1⟩ := m4 b n e
    obtain ⟨hP, n1, v, tt, sb, eb, b1, b2, b3, b4, b5, b6, b7, b8, b9, b10⟩ := blk_num hh e
    by_cases p0 : p = 0
    · subst p0
      rw [e0] at hd
      cases hd
      refine ⟨d + t, by rw [List.getElem?_set, if_pos rfl, if_pos plen], by omega, ?_⟩
      obtain ⟨pr, _⟩ := hh.pre b n e
      rw [hc] at pr
      cases pr
      have eib : i = b := by have := hi; simp only at this; omega
      subst eib
      rw [b1] at hu
      have ev : v = u' := Option.some.inj hu
      subst ev
      have lt : d < eb := by
        rcases Int.lt_or_le d eb with z | z
        · exact z
        · exfalso
          obtain ⟨dm, em⟩ := done_at I k1
          have hl := hleast _ m1
          rw [keyOf_eq k1 em k2 hh.hu, keyOf_eq hc e0 rfl b1] at hl
          have hn : heldNow v d = [] := by
            unfold heldNow
            rw [b2]
            have : decide (d < eb) = false := decide_eq_false (by omega)
            simp [List.filter, this]
          rw [rk_nil hn] at hl
          have := rk_le (ws := ws) (i := a) (w := u) (d := dm)
          rw [lex_first (by omega)] at hl
          cases hl
      have := steady_hold (u := v) (l := lenAt ws i) (d := d) (h := (tt, sb, eb)) (by rw [b2]; exact List.mem_cons_self) lt
      simp only at this ht
      omega
    · exact ⟨d0, by rw [List.getElem?_set, if_neg p0]; exact e0, l0, l1⟩
  by_cases pP : p = hardPlace o
  · subst pP
    rw [k1] at hc
    have ec : cm = c := Option.some.inj hc
    subst ec
    have eia : i = a := by omega
    subst eia
    rw [hh.hu] at hu
    have eu : u = u' := Option.some.inj hu
    subst eu
    by_cases fin : d + t = cm.len
    · -- it is done
      refine .inr (.inr (.inr ⟨?_, ?_⟩))
      · show (s.dones.set (hardPlace o) (d + t))[hardPlace o]? = some u.len
        rw [List.getElem?_set, if_pos rfl, if_pos plen, fin, k4]
      have nohold : ∀ h ∈ u.holds, h.2.2 ≤ d := fun h hm => by
        rcases Int.lt_or_le d h.2.2 with z | z
        · have := steady_hold (u := u) (l := cm.len) (d := d) hm z
          have := ((hh.g.at hh.hu).h2 h hm).2.2.2
          omega
        · exact z
      have hn : heldNow u d = [] := by
        unfold heldNow
        rw [List.map_eq_nil_iff, List.filter_eq_nil_iff]
        intro h hm
        have := nohold h hm
        simp only [Bool.and_eq_true, decide_eq_true_eq, not_and]
        intro _
        omega
      have keyP : keyOf ws row s.dones (hardPlace o) = [((i : Nat) : Int), 1, ((hardPlace o : Nat) : Int)] := by
        rw [keyOf_eq k1 hd hi hh.hu, rk_nil hn, if_pos hn]
      rw [keyP] at hleast
      -- stronger ones: done if they came, else not begun
      have str : ∀ (q : Nat) (c : Cm) (e : Int), hardPlace o < q → row[q]? = some c → s.dones[q]? = some e → e = if rdC c < now1 + t then c.len else 0 := fun q c e hq e1 e2 => by
        obtain ⟨j, w, h1, h2, h3, h4⟩ := hh.strong q c hq e1
        obtain ⟨kx, x, hx1, hx2⟩ := L.all q (List.getElem?_eq_some_iff.mp e1).1
        obtain ⟨c', hx3, hx4⟩ := L.at_ kx x hx1
        rw [hx2, e1] at hx3
        cases hx3
        by_cases ar : kx < many1
        · have lt : rdC c < now1 + t := by
            have := T.came kx x ar hx1
            omega
          rw [if_pos lt]
          have inar : q ∈ arrived later many1 := by
            unfold arrived
            refine List.mem_map.mpr ⟨x, ?_, hx2⟩
            obtain ⟨z1, z2⟩ := List.getElem?_eq_some_iff.mp hx1
            refine List.mem_iff_getElem.mpr ⟨kx, by rw [List.length_take]; omega, by rw [List.getElem_take, z2]⟩
          by_cases nw : q ∈ wait1
          · have hl := hleast q nw
            rw [keyOf_eq e1 e2 h1 h2] at hl
            have := rk_le (ws := ws) (i := j) (w := w) (d := e)
            rw [lex_first (by omega)] at hl
            cases hl
          · exact T.fin q inar nw c e e1 e2
        · have ge : now1 + t ≤ rdC c := by
            obtain ⟨z1, z2⟩ := List.getElem?_eq_some_iff.mp hx1
            have hm : many1 < later.length := by omega
            have := T.stop later[many1] (List.getElem?_eq_getElem hm)
            have := L.so many1 kx later[many1] x (by omega) (List.getElem?_eq_getElem hm) hx1
            omega
          rw [if_neg (by omega)]
          refine T.off q c e (fun z => ?_) e1 e2
          unfold arrived at z
          obtain ⟨y, hy1, hy2⟩ := List.mem_map.mp z
          obtain ⟨ky, hky, ey⟩ := List.mem_iff_getElem.mp hy1
          rw [List.length_take] at hky
          rw [List.getElem_take] at ey
          obtain ⟨z1, z2⟩ := List.getElem?_eq_some_iff.mp hx1
          have nd := List.pairwise_iff_getElem.mp L.nd
          have := nd ky kx (by rw [List.length_map]; omega) (by rw [List.length_map]; exact z1) (by omega)
          rw [List.getElem_map, List.getElem_map, ey, z2, hx2, hy2] at this
          exact this rfl
      have dropEq : (s.dones.drop (hardPlace o + 1)).sum = strSum row (hardPlace o) (now1 + t) := by
        unfold strSum
        congr 1
        apply List.ext_getElem?
        intro n
        rw [List.getElem?_drop, List.getElem?_map, List.getElem?_drop]
        cases e1 : row[hardPlace o + 1 + n]? with
        | none =>
          have := List.getElem?_eq_none_iff.mp e1
          rw [List.getElem?_eq_none (by rw [I.dlen]; exact this)]
          rfl
        | some c =>
          obtain ⟨e, e2⟩ := done_at I e1
          rw [e2, str _ c e (by omega) e1 e2]
          rfl
      have preEq : (s.dones.take (hardPlace o)).sum = c0 o + holdUp ws i := by
        cases eo : o with
        | none =>
          have hb := hh.blk
          rw [eo] at hb
          have hb : holdUp ws i = 0 := hb
          rw [hb]
          rfl
        | some bn =>
          obtain ⟨b, n⟩ := bn
          obtain ⟨d0, e0, l0, l1⟩ := m4 b n eo
          obtain ⟨hP, n1, v, tt, sb, eb, b1, b2, b3, b4, b5, b6, b7, b8, b9, b10⟩ := blk_num hh eo
          obtain ⟨pr, _⟩ := hh.pre b n eo
          have e10 : (s.dones.take 1) = [d0] := by
            cases hds : s.dones with
            | nil => rw [hds] at e0; cases e0
            | cons x r => rw [hds] at e0; cases e0; rfl
          show (s.dones.take 1).sum = n + holdUp ws i
          rw [e10]
          -- it waits no more within its hold
          have deb : eb ≤ d0 := by
            rcases Int.lt_or_le d0 eb with z | z
            · exfalso
              have w0 : 0 ∈ wait1 := by
                rcases Classical.em (0 ∈ wait1) with y | y
                · exact y
                · exfalso
                  have inar : 0 ∈ arrived later many1 := by
                    rcases Classical.em (0 ∈ arrived later many1) with y2 | y2
                    · exact y2
                    · have := T.off 0 _ d0 y2 pr e0
                      omega
                  have := T.fin 0 inar y _ d0 pr e0
                  simp only at this
                  omega
              have hl := hleast 0 w0
              rw [keyOf_eq pr e0 rfl b1] at hl
              have hn0 : heldNow v d0 = [tt] := by
                unfold heldNow
                rw [b2]
                have h1 : decide (sb < d0) = true := decide_eq_true (by omega)
                have h2 : decide (d0 < eb) = true := decide_eq_true z
                simp [List.filter, h1, h2]
              have rk0 : rk ws b v d0 ≤ i := by
                unfold rk
                rw [hn0]
                show min b (ceil ws tt) ≤ i
                omega
              rw [hn0, if_neg (by simp)] at hl
              rcases Nat.lt_or_ge (rk ws b v d0) i with y | y
              · rw [lex_first (by omega)] at hl
                cases hl
              · have ee : rk ws b v d0 = i := by omega
                rw [ee, lex_second (by decide)] at hl
                cases hl
            · exact z
          show d0 + 0 = _
          omega
      have spl := sum_at s.dones (hardPlace o) d hd
      rw [m3, preEq, dropEq] at spl
      refine ⟨now1 + t - S, by omega, ?_, ?_⟩
      · show lastOf (bput s.told (hardPlace o) now1 (now1 + t)) (hardPlace o) = _
        rw [Pk.last, if_pos rfl]
        omega
      · rw [show S + (now1 + t - S) = now1 + t by omega]
        omega
    · refine .inr (.inr (.inl ⟨?_, by show S ≤ now1 + t; omega, ?_, bb⟩))
      · show hardPlace o ∈ (if d + t = cm.len then wait1.erase (hardPlace o) else wait1)
        rw [if_neg fin]
        exact m1
      · show (s.dones.set (hardPlace o) (d + t)).sum = now1 + t - S + c0 o
        omega
  · refine .inr (.inr (.inl ⟨?_, by show S ≤ now1 + t; omega, ?_, bb⟩))
    · show hardPlace o ∈ (if d + t = c.len then wait1.erase p else wait1)
      split
      · exact (T.wnd.mem_erase_iff).mpr ⟨fun z => pP z.symm, m1⟩
      · exact m1
    · show (s.dones.set p (d + t)).sum = now1 + t - S + c0 o
      omega
theorem at_place (L : LaterOk row later) {q : Nat} {c : Cm} (h : row[q]? = some c) : ∃ k : Nat, later[k]? = some (rdC c, q) := by
  obtain ⟨k, x, e1, e2⟩ := L.all q (List.getElem?_eq_some_iff.mp h).1
  obtain ⟨c', h1, h2⟩ := L.at_ k x e1
  rw [e2, h] at h1
  cases h1
  refine ⟨k, ?_⟩
  rw [e1, ← h2, ← e2]
theorem in_arrived {k m : Nat} {x : Int × Nat} (h : later[k]? = some x) (lt : k < m) : x.2 ∈ arrived later m := by
  unfold arrived
  obtain ⟨z1, z2⟩ := List.getElem?_eq_some_iff.mp h
  exact List.mem_map.mpr ⟨x, List.mem_iff_getElem.mpr ⟨k, by rw [List.length_take]; omega, by rw [List.getElem_take, z2]⟩, rfl⟩
/-- who is ready at least at S, but the blocker -/
theorem rd_ge (hh : Hd ws a u row S o) {q : Nat} {c : Cm} (h : row[q]? = some c) (hq : hardPlace o ≤ q) : S ≤ rdC c := by
  rcases Nat.lt_or_ge (hardPlace o) q with z | z
  · obtain ⟨_, _, _, _, _, k⟩ := hh.strong q c z h
    exact k
  · have e : q = hardPlace o := by omega
    obtain ⟨cm, k1, _, k3, _⟩ := hh.main
    rw [e, k1] at h
    cases h
    omega
theorem jj_step (R : RowP ws row) (L : LaterOk row later) (hh : Hd ws a u row S o) {s' : Bn} (I : BInv row later s) (J : JJ ws a u row later S o s) (h : BStep ws row later s s') : JJ ws a u row later S o s' := by
  cases h with
  | mk now1 many1 wait1 p i c u' d t hcond hnow hm hm2 harr hstop hw hp hleast hc hi hu hd ht =>
    have T := turn_of R L I hcond hnow hm hm2 harr hstop hw hp hc hd ht
    obtain ⟨cm, k1, k2, k3, k4⟩ := hh.main
    have tst : t ≤ steadyI u' c.len d := by
      cases e : later[many1]? with
      | none =>
        rw [e] at ht
        exact Int.le_of_eq ht
      | some x =>
        rw [e] at ht
        have ht : t = minI (steadyI u' c.len d) (x.1 - now1) := ht
        unfold minI at ht
        split at ht <;> omega
    obtain ⟨kP, ekP⟩ := at_place L k1
    -- once S is reached and the coming is not finished, it waits
    have waits : S ≤ now1 → (∀ dm, s.dones[hardPlace o]? = some dm → dm < cm.len) → hardPlace o ∈ wait1 := fun le fin => by
      have lt : kP < many1 := by
        rcases Nat.lt_or_ge kP many1 with z | z
        · exact z
        · exfalso
          obtain ⟨z1, _⟩ := List.getElem?_eq_some_iff.mp ekP
          have hm1 : many1 < later.length := by omega
          have := hstop later[many1] (List.getElem?_eq_getElem hm1)
          have := L.so many1 kP _ _ z (List.getElem?_eq_getElem hm1) ekP
          simp only at this
          omega
      rcases Classical.em (hardPlace o ∈ wait1) with y | y
      · exact y
      · exfalso
        obtain ⟨dm, em⟩ := done_at I k1
        have := T.fin (hardPlace o) (in_arrived ekP lt) y cm dm k1 em
        have := fin dm em
        omega
    have lenpos : 1 ≤ cm.len := (R.cm _ cm k1).2.2.1
    rcases J with rfl | ⟨on, j1, j2, j3, j4, j5⟩ | ⟨j1, j2, j3, j4⟩ | ⟨j1, x, j2, j3, j4⟩
    · -- at the start
      have w0 : (st0 row).wait = [] := rfl
      have m0 : (st0 row).many = 0 := rfl
      rw [w0, if_pos rfl] at hnow
      rw [m0] at hnow hm harr hw
      obtain ⟨x0, ex0⟩ : ∃ x, later[0]? = some x := by
        obtain ⟨z1, _⟩ := List.getElem?_eq_some_iff.mp ekP
        exact ⟨_, List.getElem?_eq_getElem (by omega)⟩
      have en : now1 = maxI 0 x0.1 := by
        rw [hnow]
        show maxI 0 (later.getD 0 (0, 0)).1 = _
        rw [List.getD_eq_getElem?_getD, ex0]
        rfl
      obtain ⟨cx, hx1, hx2⟩ := L.at_ 0 x0 ex0
      have dz : ∀ (q : Nat) (e : Int), (st0 row).dones[q]? = some e → e = 0 := fun q e h => by
        have h : (row.map fun _ => (0 : Int))[q]? = some e := h
        rw [List.getElem?_map] at h
        cases e1 : row[q]? with
        | none => rw [e1] at h; cases h
        | some c => rw [e1] at h; cases h; rfl
      have minP := L.so 0 kP x0 _ (Nat.zero_le _) ex0 ekP
      simp only at minP
      cases eo : o with
      | none =>
        have hP : hardPlace o = 0 := by rw [eo]; rfl
        have ge := rd_ge hh hx1 (by rw [hP]; exact Nat.zero_le _)
        have s0 := hh.s0
        have eS : now1 = S := by
          rw [en]
          unfold maxI
          split <;> omega
        have res := mid_turn R L hh I T hp hleast hc hi hu hd tst (waits (by omega) fun dm em => by have := dz _ _ em; omega) (by omega) (by
          show (row.map fun _ => (0 : Int)).sum = _
          rw [sum_zero, eS, eo]
          show 0 = S - S + 0
          omega) (fun b n e => by rw [eo] at e; cases e)
        rw [eo] at res
        exact res
      | some bn =>
        obtain ⟨b, n⟩ := bn
        obtain ⟨hP, n1, v, tt, sb, eb, b1, b2, b3, b4, b5, b6, b7, b8, b9, b10⟩ := blk_num hh eo
        obtain ⟨pr, nS⟩ := hh.pre b n eo
        obtain ⟨k0, ek0⟩ := at_place L pr
        have rd0 : rdC (⟨b, S - n, 0, lenAt ws b⟩ : Cm) = S - n := by
          show S - n + 0 = S - n
          omega
        rw [rd0] at ek0
        have min0 := L.so 0 k0 x0 _ (Nat.zero_le _) ex0 ek0
        simp only at min0
        have only0 : ∀ (k : Nat) (x : Int × Nat), later[k]? = some x → x.1 < S → x.2 = 0 := fun k x e lt => by
          rcases Nat.eq_zero_or_pos x.2 with z | z
          · exact z
          · exfalso
            obtain ⟨c', y1, y2⟩ := L.at_ k x e
            have := rd_ge hh y1 (by rw [hP]; exact z)
            omega
        have x00 : x0.2 = 0 := only0 0 x0 ex0 (by omega)
        have x01 : x0.1 = S - n := by
          rw [x00, pr] at hx1
          cases hx1
          omega
        have eN : now1 = S - n := by
          rw [en, x01]
          unfold maxI
          split <;> omega
        have nd := List.pairwise_iff_getElem.mp L.nd
        have uniq0 : ∀ (k : Nat) (x : Int × Nat), later[k]? = some x → x.2 = 0 → k = 0 := fun k x e z => by
          rcases Nat.eq_zero_or_pos k with y | y
          · exact y
          · exfalso
            obtain ⟨z1, z2⟩ := List.getElem?_eq_some_iff.mp e
            obtain ⟨z3, z4⟩ := List.getElem?_eq_some_iff.mp ex0
            have := nd 0 k (by rw [List.length_map]; exact z3) (by rw [List.length_map]; exact z1) y
            rw [List.getElem_map, List.getElem_map, z2, z4, z, x00] at this
            exact this rfl
        have m1 : many1 = 1 := by
          rcases Nat.lt_trichotomy many1 1 with z | z | z
          · exfalso
            have e0 : many1 = 0 := by omega
            have := hstop x0 (by rw [e0]; exact ex0)
            omega
          · exact z
          · exfalso
            have hl1 : 1 < later.length := by omega
            have e1 := harr 1 later[1] (Nat.zero_le _) z (List.getElem?_eq_getElem hl1)
            have := uniq0 1 _ (List.getElem?_eq_getElem hl1) (only0 1 _ (List.getElem?_eq_getElem hl1) (by omega))
            omega
        subst m1
        obtain ⟨z3, z4⟩ := List.getElem?_eq_some_iff.mp ex0
        have ew : wait1 = [0] := by
          rw [hw]
          show [] ++ ((later.drop 0).take (1 - 0)).map (·.2) = [0]
          rw [List.drop_zero]
          cases hl : later with
          | nil => rw [hl] at z3; cases z3
          | cons y r =>
            rw [hl] at ex0
            cases ex0
            show [x0.2] = [0]
            rw [x00]
        have p0 : p = 0 := by
          rw [ew] at hp
          exact List.mem_singleton.mp hp
        subst p0
        have ec : c = ⟨b, S - n, 0, lenAt ws b⟩ := Option.some.inj (hc.symm.trans pr)
        have d0 := dz 0 d hd
        subst d0
        have eib : i = b := by rw [ec] at hi; simp only at hi; omega
        subst eib
        have ev : v = u' := Option.some.inj (b1.symm.trans hu)
        subst ev
        -- the next one comes at S
        have kP1 : 1 ≤ kP := by
          rcases Nat.eq_zero_or_pos kP with z | z
          · exfalso
            rw [z, ex0] at ekP
            have := congrArg Prod.snd (Option.some.inj ekP)
            simp only at this
            omega
          · exact z
        obtain ⟨zP, _⟩ := List.getElem?_eq_some_iff.mp ekP
        have hl1 : 1 < later.length := by omega
        have e1 : later[1]? = some later[1] := List.getElem?_eq_getElem hl1
        have le1 := L.so 1 kP _ _ kP1 e1 ekP
        simp only at le1
        have ge1 : S ≤ later[1].1 := by
          rcases Int.lt_or_le later[1].1 S with z | z
          · have := uniq0 1 _ e1 (only0 1 _ e1 z)
            omega
          · exact z
        have et : t = n := by
          rw [e1] at ht
          have ht : t = minI (steadyI v c.len 0) (later[1].1 - now1) := ht
          have st : steadyI v c.len 0 = eb := by
            unfold steadyI
            rw [b2, ec, b9]
            show (if eb > 0 then (if eb - 0 < v.len - 0 then eb - 0 else v.len - 0) else v.len - 0) = eb
            rw [if_pos (by omega), if_pos (by omega)]
            omega
          rw [st] at ht
          unfold minI at ht
          rw [if_pos (by omega)] at ht
          omega
        have hlen : (st0 row).dones.length = row.length := I.dlen
        have rl : 0 < row.length := (List.getElem?_eq_some_iff.mp pr).1
        refine .inr (.inl ⟨by simp, by show now1 + t = S; omega, ?_, ?_, fun b' n' e => ?_, ?_⟩)
        · show (if 0 + t = c.len then wait1.erase 0 else wait1) = [0]
          rw [if_neg (by rw [ec]; show ¬ 0 + t = lenAt ws i; omega)]
          exact ew
        · show ((st0 row).dones.set 0 (0 + t)).sum = n
          rw [sum_set _ 0 0 t hd]
          show (row.map fun _ => (0 : Int)).sum + t = n
          rw [sum_zero, et]
          omega
        · cases e
          refine ⟨0 + t, ?_, by omega, by omega⟩
          show ((st0 row).dones.set 0 (0 + t))[0]? = some (0 + t)
          rw [List.getElem?_set, if_pos rfl, if_pos (by omega)]
        · show hardPlace (some (i, n)) ∉ arrived later 1
          unfold arrived
          cases hl : later with
          | nil => rw [hl] at z3; cases z3
          | cons y r =>
            rw [hl] at ex0
            cases ex0
            show 1 ∉ [x0.2]
            rw [x00]
            simp
    · -- the blocker alone has run
      have eS : now1 = S := by rw [T.nowe (by rw [j2]; simp), j1]
      refine mid_turn R L hh I T hp hleast hc hi hu hd tst (waits (by omega) fun dm em => ?_) (by omega) (by rw [j3, eS]; omega) j4
      have := I.off _ cm dm j5 k1 em
      omega
    · have ne : s.wait ≠ [] := fun z => by rw [z] at j1; cases j1
      have eS : now1 = s.now := T.nowe ne
      exact mid_turn R L hh I T hp hleast hc hi hu hd tst (T.sub _ j1) (by omega) (by rw [j3, eS]) j4
    · have pP : p ≠ hardPlace o := fun z => by
        have := T.wopen p hp c d hc hd
        rw [z, j1] at hd
        rw [z, k1] at hc
        cases hd
        cases hc
        omega
      have Pk := put_ok I.tok (Int.le_trans I.tend T.nowle) hc T.rd (show now1 < now1 + t by have := T.t1; omega)
      refine .inr (.inr (.inr ⟨?_, x, j2, ?_, j4⟩))
      · show (s.dones.set p (d + t))[hardPlace o]? = some u.len
        rw [List.getElem?_set, if_neg pP]
        exact j1
      · show lastOf (bput s.told p now1 (now1 + t)) (hardPlace o) = S + x
        rw [Pk.last, if_neg pP]
        exact j3
theorem jj_reach (R : RowP ws row) (L : LaterOk row later) (hh : Hd ws a u row S o) (h : BReach ws row later s) : JJ ws a u row later S o s := by
  induction h with
  | start => exact .inl rfl
  | step h1 h2 ih => exact jj_step R L hh (reach_inv R L h1) ih h2
theorem done_end (R : RowP ws row) (L : LaterOk row later) (hh : Hd ws a u row S o) (h : BReach ws row later s) (e1 : row.length ≤ s.many) (e2 : s.wait = []) : Done ws a u row S o s := by
  obtain ⟨cm, k1, _, _, _⟩ := hh.main
  have rl := (List.getElem?_eq_some_iff.mp k1).1
  rcases jj_reach R L hh h with rfl | ⟨_, _, j2, _⟩ | ⟨j1, _⟩ | j
  · have : (st0 row).many = 0 := rfl
    omega
  · rw [e2] at j2
    cases j2
  · rw [e2] at j1
    cases j1
  · exact j
end
end Dty
set_option Elab.async false
set_option linter.all false
set_option maxRecDepth 100000
set_option maxHeartbeats 4000000
namespace Dty
open PySem PySem.Spec PyProof.Rows L2 Dq TL
/-- a row that the program takes -/
structure RowQ (ws : List Wk) (row : List Cm) : Prop where
  cm : ∀ (p : Nat) (c : Cm), row[p]? = some c → 0 ≤ c.come ∧ c.come < 1152921504606846976 ∧ 0 ≤ c.late ∧ 1 ≤ c.len ∧ ∃ (i : Nat) (u : Wk), c.who = (i : Nat) ∧ ws[i]? = some u ∧ c.late ≤ u.late ∧ c.len ≤ u.len
  gap : ∀ (p q : Nat) (c d : Cm) (i : Nat) (u : Wk), p < q → row[p]? = some c → row[q]? = some d → c.who = (i : Nat) → d.who = (i : Nat) → ws[i]? = some u → c.come + u.gap ≤ d.come
  few : row.length ≤ 100
  ne : row ≠ []
theorem RowQ.p {ws : List Wk} {row : List Cm} (R : RowQ ws row) : RowP ws row := ⟨fun p c h => by
  obtain ⟨h1, _, h2, h3, i, u, h4, h5, _⟩ := R.cm p c h
  exact ⟨h1, h2, h3, i, u, h4, h5⟩⟩
theorem RowQ.ok {ws : List Wk} (G : Good ws) {row : List Cm} (R : RowQ ws row) : ∀ c ∈ row, CmOk ws c := fun c hc => by
  obtain ⟨p, hp⟩ := List.getElem?_of_mem hc
  obtain ⟨h1, h1b, h2, h3, i, u, h4, h5, h6, h7⟩ := R.cm p c hp
  have b := G.at h5
  have := b.t2; have := b.g2; have := b.l2
  have e : (big : Int) = 1180591620717411303424 := by decide
  exact ⟨⟨i, u, h4, h5⟩, h1, by omega, h2, by omega, by omega, by omega⟩
def SgV (B : Hp) (v : V) (g : Sg) : Prop := ∃ a, v = .ref a ∧ B a = some (.tup [.int (g.1 : Nat), .int g.2.1, .int g.2.2])
theorem SgV.mono {B B' : Hp} (e : Ex B B') {v : V} {g : Sg} (h : SgV B v g) : SgV B' v g := by
  obtain ⟨a, e1, e2⟩ := h
  exact ⟨a, e1, e _ _ e2⟩
def sgD (g : Sg) : PyData := .tuple [.int (g.1 : Nat), .int g.2.1, .int g.2.2]
theorem dp_segs {K : PySem.W.Frag} {H : Hp} : ∀ {vs : List V} {gs : List Sg}, Paired (SgV H) vs gs → DpAll K H vs (gs.map sgD)
  | _, _, .nil => .nil
  | _, _, .cons ⟨a, e1, e2⟩ t => by
    subst e1
    exact .cons (.tup (SqT.of e2) (.cons (.int _) (.cons (.int _) (.cons (.int _) .nil)))) (dp_segs t)
theorem lay_segs : ∀ gs : List Sg, PyData.canLayAll0 (gs.map sgD) = true ∧ PyData.depthAll (gs.map sgD) ≤ 1
  | [] => ⟨rfl, Nat.zero_le _⟩
  | g :: r => by
    obtain ⟨a, b⟩ := lay_segs r
    refine ⟨by simp [sgD, PyData.canLayAll0, PyData.canLay0, a], ?_⟩
    simp only [List.map_cons, PyData.depthAll, sgD, PyData.depth]
    omega
theorem shaped_segs (gs : List Sg) : SeqAt.shaped (.list (gs.map sgD)) = true := by
  obtain ⟨a, b⟩ := lay_segs gs
  simp [SeqAt.shaped, PyData.canLay0, PyData.depth, a]
  omega
theorem eqv_segs (gs : List Sg) : PyData.eqv (.list (gs.map sgD)) (.list []) = decide (gs = []) := by
  cases gs with
  | nil => rfl
  | cons x r => rfl
/-- all but the object at p stands; B tells more -/
structure Gx (p : Addr) (B H B' H' : Hp) : Prop where
  ex : ∀ q o, q ≠ p → H q = some o → H' q = some o
  eB : Ex B B'
  e : Ex B' H'
  hid : ∀ q, B q = none → H q ≠ none → B' q = none
  nt : ∀ q ps, B' q = some (.tbl ps) → B q = some (.tbl ps)
section
variable {P : Program} {w : World} {K : PySem.W.Frag} {mg : Str → Option Value} {base : Heap}
abbrev N_right_coming : List Str := ["duty", "coming", "work"]
theorem sc_right_coming : FnScope N_right_coming ["duty", "coming"] (defScope s_right_coming) := ⟨rfl, rfl, rfl, by decide +kernel, rfl, by decide +kernel, by decide +kernel⟩
abbrev N_first_wrong : List Str := ["duty", "row", "last", "place", "coming", "at"]
theorem sc_first_wrong : FnScope N_first_wrong ["duty", "row"] (defScope s_first_wrong) := ⟨rfl, rfl, rfl, by decide +kernel, rfl, by decide +kernel, by decide +kernel⟩
abbrev N_checked : List Str := ["duty", "row", "place"]
theorem sc_checked : FnScope N_checked ["duty", "row"] (defScope s_checked) := ⟨rfl, rfl, rfl, by decide +kernel, rfl, by decide +kernel, by decide +kernel⟩
abbrev N_put_on : List Str := ["told", "place", "now", "until", "begin"]
theorem sc_put_on : FnScope N_put_on ["told", "place", "now", "until"] (defScope s_put_on) := ⟨rfl, rfl, rfl, by decide +kernel, rfl, by decide +kernel, by decide +kernel⟩
abbrev N_show_stretch : List Str := ["stretch"]
theorem sc_show_stretch : FnScope N_show_stretch ["stretch"] (defScope s_show_stretch) := ⟨rfl, rfl, rfl, by decide +kernel, rfl, by decide +kernel, by decide +kernel⟩
def sp_right_coming (K : PySem.W.Frag) : Sp := fun vs H Q _ => ∃ (v cv : V) (ws : List Wk) (c : Cm) (i : Nat) (u : Wk), vs = [v, cv] ∧ DtV K H v ws ∧ CmV H cv c ∧ c.who = (i : Nat) ∧ ws[i]? = some u ∧ 0 ≤ c.come ∧ 0 ≤ c.late ∧ c.late ≤ u.late ∧ 1 ≤ c.len ∧ c.len ≤ u.len ∧ Q (.bl true) H
theorem ok_right_coming (T : Says K mg) : FnOk P w K mg base CX0 3 (He.fAd K d_right_coming.at_) (fdOf K d_right_coming.at_) ["duty", "coming"] (sp_right_coming K) := by
  refine (F_right_coming T).ok sc_right_coming (fun vs H Q E h => ?_) (fun cdv A outer s H vs Q E hr h => ?_)
  · obtain ⟨_, _, _, _, _, _, rfl, _⟩ := h
    rfl
  · refine ⟨_, PSs.nox (pss_cons (ps_if (PW.pt (pw_or (pt_not (pt_val (pe_callB call_isi (by rfl) (f_isinstance T) (by decide +kernel) (pa_cons (pv 1) (pa_cons (pe_bltn (v := .ty "tuple") rfl (f_tuple T) (by decide +kernel) rfl) pa_nil))))) (pw_or1 (pt_cmpR op_ne (pe_callB call_len_seq (by rfl) (f_len T) (by decide +kernel) (pa_cons (pv 1) pa_nil)) pe_int (nomark _))))) (pss_one (ps_ret pe_bl)) pss_nil) (pss_cons (ps_if (pt_not (pt_val (pe_call (ok_in_range T) (hr.mono (by decide)) rfl (g_in_range T) (F_in_range T).kp (b_in_range T) .nil pass0 (pa_cons (pe_ix ix_tup (pv 1) pe_int (fun _ _ => rfl)) (pa_cons pe_int (pa_cons (pe_op op_sub (pe_meth0 (pv 0) (c_Duty T) (m_Duty_size T) (ok_Duty_size T).ok (hr.mono (by decide)) (b_Duty_size T) .nil pass0) pe_int) pa_nil)))))) (pss_one (ps_ret pe_bl)) pss_nil) (pss_cons (ps_set (i := 2) sc_right_coming.nd rfl (Or.inl rfl) (pe_meth (pv 0) (c_Duty T) (m_Duty_work T) (ok_Duty_work T).ok (hr.mono (by decide)) (b_Duty_work T) .nil pass0 (pa_cons (pe_ix ix_tup (pv 1) pe_int (fun _ _ => rfl)) pa_nil))) (pss_cons (ps_if (PW.pt (pw_or (pt_not (pt_val (pe_call (ok_is_whole T) (hr.mono (by decide)) rfl (g_is_whole T) (F_is_whole T).kp (b_is_whole T) .nil pass0 (pa_cons (pe_ix ix_tup (pv 1) pe_int (fun _ _ => rfl)) pa_nil)))) (pw_or1 (pt_cmpR op_lt (pe_ix ix_tup (pv 1) pe_int (fun _ _ => rfl)) pe_int (nomark _))))) (pss_one (ps_ret pe_bl)) pss_nil) (pss_one (ps_ret (pe_and (pe_call (ok_in_range T) (hr.mono (by decide)) rfl (g_in_range T) (F_in_range T).kp (b_in_range T) .nil pass0 (pa_cons (pe_ix ix_tup (pv 1) pe_int (fun _ _ => rfl)) (pa_cons pe_int (pa_cons (pe_fld (pv 2) rfl) pa_nil)))) (pe_one (pe_call (ok_in_range T) (hr.mono (by decide)) rfl (g_in_range T) (F_in_range T).kp (b_in_range T) .nil pass0 (pa_cons (pe_ix ix_tup (pv 1) pe_int (fun _ _ => rfl)) (pa_cons pe_int (pa_cons (pe_fld (pv 2) rfl) pa_nil)))))))))))), ?_⟩
    obtain ⟨_, _, ws, c, i, u, rfl, D, ⟨q, rfl, hq⟩, ei, hi, c0, t0, t1, l0, l1, k⟩ := h
    obtain ⟨a, dx, wl, nd, xs, rfl, ha, hl, hp, hn⟩ := id D
    obtain ⟨il, _⟩ := List.getElem?_eq_some_iff.mp hi
    refine ⟨_, rfl, ⟨_, _, .type "tuple", .type "tuple", true, rfl, .ty _, .base (.tup hq), kit_ty (by decide +kernel), _, rfl, itF rfl ?_⟩⟩
    refine ⟨_, rfl, q, _, rfl, .inr (SqT.of hq), rfl, _, rfl, itF rfl ?_⟩
    refine ⟨_, rfl, _, _, _, _, rfl, rfl, SqT.of hq, rfl, _, rfl, a, dx, _, rfl, ha, rfl, _, ws, rfl, D, _, _, rfl, rfl, ?_⟩
    refine ⟨c.who, 0, _, rfl, _, rfl, ?_⟩
    rw [decide_eq_true (show 0 ≤ c.who by omega), decide_eq_true (show c.who ≤ (ws.length : Int) - 1 by omega)]
    refine itF rfl ?_
    refine ⟨_, rfl, a, dx, _, rfl, ha, rfl, _, rfl, _, _, _, _, rfl, rfl, SqT.of hq, rfl, ?_⟩
    rw [ei]
    refine ⟨_, ws, i, u, rfl, H, Evl.Ex.refl _, D, hi, fun y hy => ?_⟩
    obtain ⟨b, bx, l, ys, rfl, hb, _, _⟩ := id hy
    refine ⟨_, rfl, _, _, _, _, rfl, rfl, SqT.of hq, rfl, _, rfl, _, rfl, itF rfl ?_⟩
    refine ⟨_, rfl, _, _, _, _, rfl, rfl, SqT.of hq, rfl, _, _, rfl, rfl, _, rfl, itF (decide_eq_false (by omega)) ?_⟩
    refine ⟨_, rfl, _, _, _, _, rfl, rfl, SqT.of hq, rfl, _, rfl, b, _, bx, _, _, rfl, hb, c_Work T, n_Work_late T, wk_late, ?_⟩
    refine ⟨c.late, 0, u.late, rfl, _, rfl, ?_⟩
    rw [decide_eq_true t0, decide_eq_true t1]
    refine itT rfl ⟨_, rfl, _, _, _, _, rfl, rfl, SqT.of hq, rfl, _, rfl, b, _, bx, _, _, rfl, hb, c_Work T, n_Work_length T, wk_len, ?_⟩
    refine ⟨c.len, 1, u.len, rfl, ?_⟩
    rw [decide_eq_true l0, decide_eq_true l1]
    exact k
def sp_first_wrong (K : PySem.W.Frag) : Sp := fun vs H Q _ => ∃ (v rv : V) (ws : List Wk) (row : List Cm), vs = [v, rv] ∧ DtV K H v ws ∧ RowV H rv row ∧ RowQ ws row ∧ ∀ H', Ex H H' → Q .non H'
theorem ok_first_wrong (T : Says K mg) : FnOk P w K mg base CX0 4 (He.fAd K d_first_wrong.at_) (fdOf K d_first_wrong.at_) ["duty", "row"] (sp_first_wrong K) := by
  refine (F_first_wrong T).ok sc_first_wrong (fun vs H Q E h => ?_) (fun cdv A outer s H vs Q E hr h => ?_)
  · obtain ⟨_, _, _, _, rfl, _⟩ := h
    rfl
  · refine ⟨_, PSs.nox (pss_cons (ps_set (i := 2) sc_first_wrong.nd rfl (Or.inl rfl) pe_dnewK) (pss_cons (ps_for PassesOwn.never rfl (pi_range1 (by rfl) (f_range T) (pa_cons (pe_callB call_len_seq (by rfl) (f_len T) (by decide +kernel) (pa_cons (pv 1) pa_nil)) pa_nil)) (pg_name (i := 3) sc_first_wrong.nd rfl (Or.inl rfl)) (pss_cons (ps_set (i := 4) sc_first_wrong.nd rfl (Or.inl rfl) (pe_ix ix_list (pv 1) (pv 3) (fun _ _ => rfl))) (pss_cons (ps_if (pt_not (pt_val (pe_call (ok_right_coming T) (hr.mono (by decide)) rfl (g_right_coming T) (F_right_coming T).kp (b_right_coming T) .nil pass0 (pa_cons (pv 0) (pa_cons (pv 4) pa_nil))))) (pss_one (ps_ret (pv 3))) pss_nil) (pss_cons (ps_set (i := 5) sc_first_wrong.nd rfl (Or.inl rfl) (pe_ix ix_tup (pv 4) pe_int (fun _ _ => rfl))) (pss_cons (ps_if (PW.pt (pw_and (pt_cmp (pc_din (hu_of hr) (pv 5) (pv 2))) (pw_and1 (pt_cmpR op_gt (pe_op op_add (pe_dget (hu_of hr) (pv 2) (pv 5) (fun _ _ => rfl)) (pe_fld (pe_meth (pv 0) (c_Duty T) (m_Duty_work T) (ok_Duty_work T).ok (hr.mono (by decide)) (b_Duty_work T) .nil pass0 (pa_cons (pv 5) pa_nil)) rfl)) (pe_ix ix_tup (pv 4) pe_int (fun _ _ => rfl)) (nomark _))))) (pss_one (ps_ret (pv 3))) pss_nil) (pss_one (ps_dput (hu_of hr) (pv 2) (pv 5) (pe_ix ix_tup (pv 4) pe_int (fun _ _ => rfl)) rfl))))))) (pss_one (ps_ret pe_non)))), ?_⟩
    obtain ⟨_, _, ws, row, rfl, D, ⟨p, cs, rfl, hp0, pr⟩, R, k⟩ := h
    obtain ⟨a, dx, wl, nd, xs, rfl, ha, hl, hp, hn⟩ := id D
    have few := R.few
    intro d nd'
    have npd : p ≠ d := ne_of_none hp0 nd'
    refine ⟨_, rfl, p, _, rfl, .inl (SqL.of (ex_up nd' _ _ hp0)), _, rfl, by rw [paired_len pr]; omega, by rw [paired_len pr]; omega, ?_⟩
    refine for_range (fun j σ H' => (∃ x y z, σ = [some (.ref a), some (.ref p), some (.ref d), x, y, z]) ∧ Ex H H' ∧ ∃ kvs : List (Key × V), H' d = some (.dK kvs) ∧ kvs.length ≤ j ∧
      ∀ (i : Nat) (v : V), valV kvs (Sum.inl (i : Int)) = some v → ∃ (q : Nat) (c : Cm), q < j ∧ row[q]? = some c ∧ c.who = (i : Nat) ∧ v = .int c.come) ⟨⟨_, _, _, rfl⟩, ex_up nd', [], upd_same, Nat.le_refl _, fun i v z => by cases z⟩ ?_ ?_
    · rintro j σ H2 hj ⟨⟨x, y, z, rfl⟩, e2, kvs, hd2, lk, old⟩
      have hj' : j < row.length := by rw [paired_len pr] at hj; omega
      obtain ⟨c, hc⟩ : ∃ c, row[j]? = some c := ⟨_, List.getElem?_eq_getElem hj'⟩
      obtain ⟨cv, hcv, q, rfl, hq⟩ := paired_at pr hc
      obtain ⟨h1, _, h2, h3, i, u, h4, h5, h6, h7⟩ := R.cm j c hc
      have hq2 := e2 _ _ hq
      have ej : ((0 : Int) + (j : Int)) = ((j : Nat) : Int) := by omega
      have at_ : atI cs (0 + (j : Int)) = some (.ref q) := by
        rw [ej]
        exact atI_nat hcv
      refine ⟨_, rfl, _, rfl, _, _, _, _, rfl, rfl, SqL.of (e2 _ _ hp0), at_, ?_⟩
      refine ⟨_, rfl, _, rfl, _, _, ws, c, i, u, rfl, D.mono e2, ⟨q, rfl, hq2⟩, h4, h5, h1, h2, h6, h3, h7, _, rfl, itF rfl ?_⟩
      refine ⟨_, rfl, _, _, _, _, rfl, rfl, SqT.of hq2, rfl, ?_⟩
      have dg : DGet H2 d (.int c.who) (valV kvs (Sum.inl c.who)) := DGet.k (k := Sum.inl c.who) hd2
      have fini : ∀ (X : Prop), X → X := fun _ h => h
      refine ⟨_, rfl, _, rfl, d, _, rfl, dg, _, rfl, ?_⟩
      have last : ∀ {G : Prop}, ((∃ kvs' : List (Key × V), kvs' = putK kvs (Sum.inl c.who) (.int c.come)) → G) → G := fun f => f ⟨_, rfl⟩
      have next : tSeq (tNext) (sDPut (tVar 2) (tVar 5) (tOp (rIxT K) (tVar 4) (tC (.int 1)))) { nx := (fun σ H' => (∃ x y z, σ = [some (.ref a), some (.ref p), some (.ref d), x, y, z]) ∧ Ex H H' ∧ ∃ kvs : List (Key × V), H' d = some (.dK kvs) ∧ kvs.length ≤ j + 1 ∧
          ∀ (i : Nat) (v : V), valV kvs (Sum.inl (i : Int)) = some v → ∃ (q : Nat) (c : Cm), q < j + 1 ∧ row[q]? = some c ∧ c.who = (i : Nat) ∧ v = .int c.come), rt := Q } [some (.ref a), some (.ref p), some (.ref d), some (.int (0 + (j : Int))), some (.ref q), some (.int c.who)] H2 := by
        refine ⟨_, rfl, _, _, _, _, rfl, rfl, SqT.of hq2, rfl, _, rfl, _, rfl, d, _, rfl, DPut.k (k := Sum.inl c.who) hd2 (Evl.sz_lt (by omega)), ?_⟩
        refine ⟨⟨_, _, _, rfl⟩, e2.mut nd', _, upd_same, Nat.le_trans (length_putK _ _ _) (by omega), fun i' v' z => ?_⟩
        rw [valV_put] at z
        split at z
        · rename_i e
          cases z
          exact ⟨j, c, by omega, hc, by rw [← Sum.inl.inj e], rfl⟩
        · obtain ⟨q', c', y1, y2, y3, y4⟩ := old i' v' z
          exact ⟨q', c', by omega, y2, y3, y4⟩
      cases ev : valV kvs (Sum.inl c.who) with
      | none => exact itF rfl (itF rfl next)
      | some v =>
        obtain ⟨q', c', y1, y2, y3, rfl⟩ := old i v (by rw [← h4]; exact ev)
        have gp := R.gap q' j c' c i u y1 y2 hc y3 h4 h5
        rw [ev] at dg
        refine itT rfl ⟨_, rfl, _, rfl, d, _, rfl, dg, _, rfl, a, dx, _, rfl, e2 _ _ ha, rfl, _, rfl, _, ws, i, u, by rw [h4]; rfl, H2, Evl.Ex.refl _, D.mono e2, h5, fun y hy => ?_⟩
        obtain ⟨b, bx, l, ys, rfl, hb, _, _⟩ := id hy
        refine ⟨b, _, bx, _, _, rfl, hb, c_Work T, n_Work_gap T, wk_gap, _, _, rfl, rfl, _, rfl, _, _, _, _, rfl, rfl, SqT.of hq2, rfl, _, _, rfl, rfl, _, rfl, ?_⟩
        exact itF (decide_eq_false (by omega)) next
    · rintro σ H2 ⟨⟨x, y, z, rfl⟩, e2, _⟩
      exact k H2 e2
def sp_checked (K : PySem.W.Frag) : Sp := fun vs H Q _ => ∃ (v rv : V) (ws : List Wk) (row : List Cm), vs = [v, rv] ∧ DtV K H v ws ∧ RowV H rv row ∧ RowQ ws row ∧ ∀ H', Ex H H' → Q .non H'
theorem ok_checked (T : Says K mg) : FnOk P w K mg base CX0 5 (He.fAd K d_checked.at_) (fdOf K d_checked.at_) ["duty", "row"] (sp_checked K) := by
  refine (F_checked T).ok sc_checked (fun vs H Q E h => ?_) (fun cdv A outer s H vs Q E hr h => ?_)
  · obtain ⟨_, _, _, _, rfl, _⟩ := h
    rfl
  · refine ⟨_, PSs.nox (pss_cons (ps_if (pt_cmpR op_gt (pe_callB call_len_seq (by rfl) (f_len T) (by decide +kernel) (pa_cons (pv 1) pa_nil)) (pe_gint rfl (i_MOST_COMINGS T)) (nomark _)) (pss_one ps_never) pss_nil) (pss_cons (ps_set (i := 2) sc_checked.nd rfl (Or.inl rfl) (pe_call (ok_first_wrong T) (hr.mono (by decide)) rfl (g_first_wrong T) (F_first_wrong T).kp (b_first_wrong T) .nil pass0 (pa_cons (pv 0) (pa_cons (pv 1) pa_nil)))) (pss_cons (ps_if (pt_cmpR op_notN (pv 2) pe_non (nomark _)) (pss_one ps_never) pss_nil) (pss_one (ps_ret pe_non))))), ?_⟩
    obtain ⟨_, _, ws, row, rfl, D, RV, R, k⟩ := h
    obtain ⟨p, cs, rfl, hp0, pr⟩ := id RV
    have few := R.few
    refine ⟨_, rfl, p, _, rfl, .inl (SqL.of hp0), _, _, rfl, rfl, _, rfl, itF (decide_eq_false (by rw [paired_len pr]; omega)) ?_⟩
    refine ⟨_, rfl, _, rfl, _, _, ws, row, rfl, D, RV, R, fun H1 e1 => ?_⟩
    exact ⟨_, rfl, rfl, _, rfl, itF rfl (k H1 e1)⟩
def sp_put_on : Sp := fun vs H Q _ => ∃ (B : Hp) (p : Addr) (ts : List V) (told : List Sg) (pl : Nat) (now til : Int), vs = [.ref p, .int (pl : Nat), .int now, .int til] ∧ Ex B H ∧ B p = none ∧ H p = some (.lst ts) ∧ Paired (SgV B) ts told ∧ told.length ≤ 10000 ∧
  ∀ B' H' ts', Gx p B H B' H' → B' p = none → H' p = some (.lst ts') → Paired (SgV B') ts' (bput told pl now til) → Q .non H'
theorem ok_put_on (T : Says K mg) : FnOk P w K mg base CX0 1 (He.fAd K d_put_on.at_) (fdOf K d_put_on.at_) ["told", "place", "now", "until"] sp_put_on := by
  refine (F_put_on T).ok sc_put_on (fun vs H Q E h => ?_) (fun cdv A outer s H vs Q E hr h => ?_)
  · obtain ⟨_, _, _, _, _, _, _, rfl, _⟩ := h
    rfl
  · refine ⟨_, PSs.nox (pss_one (ps_if (PW.pt (pw_and (pt_cmpR (op_neD hr.units) (pv 0) (pe_lst pa_nil) (nomark _)) (pw_and (pt_cmpR op_eq (pe_ix ix_tup (pe_ix ix_list (pv 0) (pe_un un_neg pe_int) (fun _ _ => rfl)) pe_int (fun _ _ => rfl)) (pv 1) (nomark _)) (pw_and1 (pt_cmpR op_eq (pe_ix ix_tup (pe_ix ix_list (pv 0) (pe_un un_neg pe_int) (fun _ _ => rfl)) pe_int (fun _ _ => rfl)) (pv 2) (nomark _)))))) (pss_cons (ps_set (i := 4) sc_put_on.nd rfl (Or.inl rfl) (pe_ix ix_tup (pe_bm0 PySem.F.plainAttrs_list PySem.F.slot_list_pop PySem.F.type_list_pop mt_pop (pv 0)) pe_int (fun _ _ => rfl))) (pss_one (ps_expr (pe_bm PySem.F.plainAttrs_list PySem.F.slot_list_append PySem.F.type_list_append mt_append (pv 0) (pa_cons (pe_tup (pa_cons (pv 1) (pa_cons (pv 4) (pa_cons (pv 3) pa_nil)))) pa_nil))))) (pss_one (ps_expr (pe_bm PySem.F.plainAttrs_list PySem.F.slot_list_append PySem.F.type_list_append mt_append (pv 0) (pa_cons (pe_tup (pa_cons (pv 1) (pa_cons (pv 2) (pa_cons (pv 3) pa_nil)))) pa_nil)))))), ?_⟩
    obtain ⟨B, p, ts, told, pl, now, til, rfl, eB, bp, hp, pr, lt, k⟩ := h
    have lts := paired_len pr
    refine ⟨_, rfl, ⟨by decide, fun e ne => ?_⟩⟩
    have nep : p ≠ e := ne_of_none hp ne
    have be : B e = none := ex_none eB ne
    have hp1 : upd H e (.lst []) p = some (.lst ts) := (upd_ne nep).trans hp
    have eB1 : Ex B (upd H e (.lst [])) := eB.trans (ex_up ne)
    have ex1 : ∀ q o, H q = some o → upd H e (.lst []) q = some o := ex_up ne
    have he1 : upd H e (.lst []) e = some (.lst []) := upd_same
    generalize upd H e (.lst []) = H1 at hp1 eB1 ex1 he1 ⊢
    have els : bput told pl now til = told ++ [(pl, now, til)] → tDrop (tBM K "list" rAppend (tVar 0) (tCons (tTup (tCons (tVar 1) (tCons (tVar 2) (tCons (tVar 3) tNil)))) tNil)) { nx := fun _ H' => Q .non H', rt := Q } (L2.start N_put_on [.ref p, .int (pl : Nat), .int now, .int til]) H1 := by
      intro eb
      refine ⟨_, rfl, .inl ⟨rfl, _, SqL.of hp1⟩, _, rfl, _, rfl, _, rfl, szn (n := 3) (by decide), fun t nt => ?_⟩
      have npt : p ≠ t := ne_of_none hp1 nt
      have bt : B t = none := ex_none eB1 nt
      refine ⟨p, _, _, rfl, rfl, (upd_ne npt).trans hp1, Evl.sz_lt (by omega), ?_⟩
      refine k (upd B t (.tup [.int (pl : Nat), .int now, .int til])) _ (ts ++ [.ref t]) ⟨fun q o ne' hq => ?_, ex_up bt, fun q o hq => ?_, fun q hb hq => ?_, fun q ps hq => tbl_upd (fun _ _ h => h) (o := .tup _) (by intro _ z; cases z) hq⟩ (by rw [upd_ne npt]; exact bp) upd_same ?_
      · rw [upd_ne ne', upd_ne (ne_of_none (ex1 _ _ hq) nt)]
        exact ex1 _ _ hq
      · by_cases c : q = t
        · subst c
          rw [upd_same] at hq
          rw [upd_ne npt.symm, upd_same]
          exact hq
        · rw [upd_ne c] at hq
          have c2 : q ≠ p := fun z => by rw [z, bp] at hq; cases hq
          rw [upd_ne c2, upd_ne c]
          exact eB1 _ _ hq
      · have c : q ≠ t := fun z => by
          rw [z] at hq
          cases h2 : H t with
          | none => exact hq h2
          | some o =>
            have := ex1 _ _ h2
            rw [nt] at this
            cases this
        rw [upd_ne c]
        exact hb
      · rw [eb]
        exact paired_snoc (L2.Paired.mapP pr fun _ _ z => z.mono (ex_up bt)) ⟨t, rfl, upd_same⟩
    refine ⟨_, _, .lst (SqL.of hp1) (dp_segs (L2.Paired.mapP pr fun _ _ z => z.mono eB1)), .lst (SqL.of he1) .nil, shaped_segs told, by decide +kernel, ?_⟩
    rw [eqv_segs]
    refine ⟨_, rfl, ?_⟩
    cases hl : told.getLast? with
    | none =>
      have e0 : told = [] := List.getLast?_eq_none_iff.mp hl
      subst e0
      exact itF rfl (itF rfl (els rfl))
    | some g =>
      obtain ⟨q0, b0, u0⟩ := g
      have sp := getLast_split hl
      have ne0 : ¬ told = [] := fun z => by rw [z] at hl; cases hl
      refine itT (by rw [decide_eq_false ne0]; rfl) ?_
      have prl := pr
      rw [sp] at prl
      obtain ⟨ys, y, ety, pry, ⟨ya, rfl, hya⟩⟩ : ∃ ys y, ts = ys ++ [y] ∧ Paired (SgV B) ys told.dropLast ∧ SgV B y (q0, b0, u0) := by
        have l : told.dropLast.length + 1 = ts.length := by
          rw [lts]
          conv => rhs; rw [sp, List.length_append]
          rfl
        have h1 := paired_take told.dropLast.length prl
        rw [List.take_left' rfl] at h1
        have h2 := paired_drop told.dropLast.length prl
        rw [List.drop_left' rfl] at h2
        cases h3 : ts.drop told.dropLast.length with
        | nil =>
          rw [h3] at h2
          cases h2
        | cons y r =>
          rw [h3] at h2
          cases h2 with
          | cons r1 r2 =>
            cases r2
            exact ⟨_, y, by rw [← h3, List.take_append_drop], h1, r1⟩
      have hya1 := eB1 _ _ hya
      have atl : atI ts (-1) = some (.ref ya) := by rw [ety]; exact atI_last ys _
      have ebp : bput told pl now til = if q0 = pl ∧ u0 = now then told.dropLast ++ [(pl, b0, til)] else told ++ [(pl, now, til)] := by
        unfold bput
        rw [hl]
      refine ⟨_, rfl, 1, rfl, _, _, _, _, rfl, rfl, SqL.of hp1, atl, _, _, _, _, rfl, rfl, SqT.of hya1, rfl, _, rfl, rfl, _, rfl, ?_⟩
      refine itc (fun e1 => ?_) (fun e1 => itF rfl (els ?_))
      · have eq0 : q0 = pl := by
          have z := V.int.inj (of_decide_eq_true e1)
          omega
        refine ⟨_, rfl, 1, rfl, _, _, _, _, rfl, rfl, SqL.of hp1, atl, _, _, _, _, rfl, rfl, SqT.of hya1, rfl, _, rfl, rfl, _, rfl, ?_⟩
        refine itc (fun e2 => ?_) (fun e2 => els ?_)
        · have eu0 : u0 = now := V.int.inj (of_decide_eq_true e2)
          rw [if_pos ⟨eq0, eu0⟩] at ebp
          have nyp : ya ≠ p := fun z => by rw [z, bp] at hya; cases hya
          have ely : ts[ts.length - 1]? = some (.ref ya) := by
            rw [ety, List.length_append, List.length_singleton, Nat.add_sub_cancel, List.getElem?_append_right (Nat.le_refl _), Nat.sub_self]
            rfl
          have edl : ts.dropLast = ys := by rw [ety, List.dropLast_concat]
          refine ⟨_, rfl, .inl ⟨rfl, _, SqL.of hp1⟩, p, ts, _, rfl, rfl, hp1, ely, ?_⟩
          rw [edl]
          refine ⟨_, _, _, _, rfl, rfl, SqT.of ((upd_ne nyp).trans hya1), rfl, ?_⟩
          refine ⟨_, rfl, .inl ⟨rfl, _, SqL.of upd_same⟩, _, rfl, _, rfl, _, rfl, szn (n := 3) (by decide), fun t nt => ?_⟩
          have npt : p ≠ t := ne_of_none upd_same nt
          have nt1 : H1 t = none := by rw [← nt, upd_ne npt.symm]
          have bt : B t = none := ex_none eB1 nt1
          refine ⟨p, _, _, rfl, rfl, (upd_ne npt).trans upd_same, ?_, ?_⟩
          · have : ys.length ≤ ts.length := by rw [ety, List.length_append]; omega
            exact Evl.sz_lt (by omega)
          refine k (upd B t (.tup [.int (pl : Nat), .int b0, .int til])) _ (ys ++ [.ref t]) ⟨fun q o ne' hq => ?_, ex_up bt, fun q o hq => ?_, fun q hb hq => ?_, fun q ps hq => tbl_upd (fun _ _ h => h) (o := .tup _) (by intro _ z; cases z) hq⟩ (by rw [upd_ne npt]; exact bp) upd_same ?_
          · have h3 := ex1 _ _ hq
            rw [upd_ne ne', upd_ne (ne_of_none h3 nt1), upd_ne ne']
            exact h3
          · by_cases c : q = t
            · subst c
              rw [upd_same] at hq
              rw [upd_ne npt.symm, upd_same]
              exact hq
            · rw [upd_ne c] at hq
              have c2 : q ≠ p := fun z => by rw [z, bp] at hq; cases hq
              rw [upd_ne c2, upd_ne c, upd_ne c2]
              exact eB1 _ _ hq
          · have c : q ≠ t := fun z => by
              rw [z] at hq
              cases h2 : H t with
              | none => exact hq h2
              | some o =>
                have := ex1 _ _ h2
                rw [nt1] at this
                cases this
            rw [upd_ne c]
            exact hb
          · rw [ebp]
            exact paired_snoc (L2.Paired.mapP pry fun _ _ z => z.mono (ex_up bt)) ⟨t, rfl, upd_same⟩
        · rw [ebp, if_neg]
          rintro ⟨_, z⟩
          exact absurd (congrArg V.int z) (of_decide_eq_false e2)
      · rw [ebp, if_neg]
        rintro ⟨z, _⟩
        exact absurd (congrArg (fun (n : Nat) => V.int (n : Int)) z) (of_decide_eq_false e1)
end
end Dty
set_option Elab.async false
set_option linter.all false
set_option maxRecDepth 100000
set_option maxHeartbeats 4000000
namespace Dty
open PySem PySem.Spec PyProof.Rows L2 Dq TL NdefX LamX
/-! ### the same where a code table may change -/
structure GrN (K : PySem.W.Frag) (B0 H0 B H : Hp) : Prop where
  eH : ExtN H0 H
  eB : Ex B0 B
  e : Ex B H
  hid : ∀ q, B0 q = none → H0 q ≠ none → B q = none
  nt : NT B
  tab : TabsN (tPick K) H
  keep : ∀ q, H q = none → H0 q = none
theorem tab_write {H : Hp} {p : Addr} {o o' : HO} {T : List NTab} (t : TabsN T H) (hp : H p = some o) (n1 : ∀ ps, o ≠ .tbl ps) (n2 : ∀ c q, o ≠ CodeO c q) : TabsN T (upd H p o') := by
  intro x hx
  obtain ⟨ps, h1, h2, h3⟩ := t x hx
  refine ⟨ps, ?_, h2, fun pos cv hc => ?_⟩
  · rw [upd_ne fun z => ?_]
    · exact h1
    · rw [z, hp] at h1
      exact n1 ps (Option.some.inj h1)
  · obtain ⟨c, e1, e2⟩ := h3 pos cv hc
    refine ⟨c, e1, ?_⟩
    rw [upd_ne fun z => ?_]
    · exact e2
    · rw [z, hp] at e2
      exact n2 _ _ (Option.some.inj e2)
section
variable {K : PySem.W.Frag} {B0 H0 B H B1 H1 : Hp} {p : Addr} {o o' : HO}
theorem GrN.refl (e : Ex B H) (n : NT B) (t : TabsN (tPick K) H) : GrN K B H B H := ⟨ExtN.refl _, Evl.Ex.refl _, e, fun q h _ => h, n, t, fun _ h => h⟩
theorem GrN.heap (g : GrN K B0 H0 B H) (e : Ex H H1) : GrN K B0 H0 B H1 := ⟨g.eH.trans (ExtN.of e), g.eB, g.e.trans e, g.hid, g.nt, g.tab.ext e, fun q h => g.keep q (Evl.fresh_back e h)⟩
theorem GrN.gr (g : GrN K B0 H0 B H) (k : Gr B H B1 H1) : GrN K B0 H0 B1 H1 :=
  ⟨g.eH.trans (ExtN.of k.eH), g.eB.trans k.eB, k.e, fun q h1 h2 => k.hid q (g.hid q h1 h2) (fun z => h2 (g.keep q z)), fun b ps h => g.nt b ps (k.nt b ps h), g.tab.ext k.eH, fun q h => g.keep q (Evl.fresh_back k.eH h)⟩
theorem GrN.write (g : GrN K B0 H0 B H) (h0 : H0 p = none) (hb : B p = none) (hp : H p = some o) (n1 : ∀ ps, o ≠ .tbl ps) (n2 : ∀ c q, o ≠ CodeO c q) : GrN K B0 H0 B (upd H p o') := by
  refine ⟨fun b w hw nw => ?_, g.eB, g.e.mut hb, g.hid, g.nt, tab_write g.tab hp n1 n2, fun q h => ?_⟩
  · have c : b ≠ p := fun z => by rw [z, h0] at hw; cases hw
    rw [upd_ne c]
    exact g.eH b w hw nw
  · by_cases c : q = p
    · rw [c]
      exact h0
    · rw [upd_ne c] at h
      exact g.keep q h
theorem GrN.freeze (g : GrN K B0 H0 B H) (h0 : H0 p = none) (hb : B p = none) (h : H p = some o) (hn : ∀ ps, o ≠ .tbl ps) : GrN K B0 H0 (upd B p o) H := by
  refine ⟨g.eH, g.eB.trans (ex_up hb), fun a w ha => ?_, fun q h1 h2 => ?_, fun b ps hz => g.nt b ps (tbl_upd (fun _ _ z => z) hn hz), g.tab, g.keep⟩
  · by_cases c : a = p
    · subst c
      rw [upd_same] at ha
      rw [h]
      exact ha
    · rw [upd_ne c] at ha
      exact g.e a w ha
  · have c : q ≠ p := fun z => h2 (by rw [z]; exact h0)
    rw [upd_ne c]
    exact g.hid q h1 h2
theorem GrN.pick (g : GrN K B0 H0 B H) (x : ExtN H H1) (kp : ∀ b, H1 b = none → H b = none) (t : TabsN (tPick K) H1) : GrN K B0 H0 B H1 := ⟨g.eH.trans x, g.eB, ex_N g.nt g.e x, g.hid, g.nt, t, fun q h => g.keep q (kp q h)⟩
theorem GrN.trans (g : GrN K B0 H0 B H) (k : GrN K B H B1 H1) : GrN K B0 H0 B1 H1 :=
  ⟨g.eH.trans k.eH, g.eB.trans k.eB, k.e, fun q h1 h2 => k.hid q (g.hid q h1 h2) (fun z => h2 (g.keep q z)), k.nt, k.tab, fun q h => g.keep q (k.keep q h)⟩
end
/-! ### pairs in their order -/
def LtV (B : Hp) (v : V) (x : Int × Nat) : Prop := ∃ t, v = .ref t ∧ B t = some (.tup [.int x.1, .int (x.2 : Nat)])
theorem LtV.mono {B B' : Hp} (e : Ex B B') {v : V} {x : Int × Nat} (h : LtV B v x) : LtV B' v x := by
  obtain ⟨a, e1, e2⟩ := h
  exact ⟨a, e1, e _ _ e2⟩
def kOf (B : Hp) : V → Int × Int
  | .ref t => (match B t with
    | some (.tup [.int a, .int b]) => (a, b)
    | _ => (0, 0))
  | _ => (0, 0)
theorem kOf_eq {B : Hp} {v : V} {x : Int × Nat} (h : LtV B v x) : kOf B v = (x.1, ((x.2 : Nat) : Int)) := by
  obtain ⟨t, rfl, e⟩ := h
  unfold kOf
  simp only [e]
theorem paired_shuffle {α β : Type} {R : α → β → Prop} {ys xs : List α} (p : ys.Perm xs) : ∀ {ls : List β}, Paired R xs ls → ∃ ls', Paired R ys ls' ∧ ls'.Perm ls := by
  induction p with
  | nil => exact fun h => ⟨_, h, List.Perm.refl _⟩
  | cons x _ ih =>
    intro ls h
    cases h with
    | cons r t =>
      obtain ⟨l, h1, h2⟩ := ih t
      exact ⟨_, .cons r h1, h2.cons _⟩
  | swap x y l =>
    intro ls h
    cases h with
    | cons r t =>
      cases t with
      | cons r2 t2 => exact ⟨_, .cons r2 (.cons r t2), List.Perm.swap _ _ _⟩
  | trans _ _ ih1 ih2 =>
    intro ls h
    obtain ⟨l1, a1, a2⟩ := ih2 h
    obtain ⟨l2, b1, b2⟩ := ih1 a1
    exact ⟨l2, b1, b2.trans a2⟩
def rdAt (row : List Cm) (p : Nat) : Int := match row[p]? with
  | some c => rdC c
  | none => 0
def latL (row : List Cm) (j : Nat) : List (Int × Nat) := (List.range j).map fun p => (rdAt row p, p)
theorem later_ok {row : List Cm} {later : List (Int × Nat)} {B : Hp} {ys : List V} (pm : later.Perm (latL row row.length)) (pr : Paired (LtV B) ys later) (so : SrtO.Srtd (ltP (kOf B)) ys) : LaterOk row later := by
  refine ⟨by rw [pm.length_eq]; unfold latL; rw [List.length_map, List.length_range], fun k x h => ?_, fun p hp => ?_, ?_, fun j k x y jk h1 h2 => ?_⟩
  · have m := pm.mem_iff.mp (List.mem_of_getElem? h)
    unfold latL at m
    obtain ⟨p, hp, rfl⟩ := List.mem_map.mp m
    have lp := List.mem_range.mp hp
    refine ⟨row[p], List.getElem?_eq_getElem lp, ?_⟩
    show rdAt row p = _
    unfold rdAt
    rw [List.getElem?_eq_getElem lp]
  · have m : (rdAt row p, p) ∈ later := pm.mem_iff.mpr (by unfold latL; exact List.mem_map.mpr ⟨p, List.mem_range.mpr hp, rfl⟩)
    obtain ⟨k, hk⟩ := List.getElem?_of_mem m
    exact ⟨k, _, hk, rfl⟩
  · rw [(pm.map (·.2)).nodup_iff]
    unfold latL
    rw [List.map_map]
    have e : ((fun x : Int × Nat => x.2) ∘ fun p => (rdAt row p, p)) = id := rfl
    rw [e, List.map_id]
    exact List.nodup_range
  · rcases Nat.lt_or_ge j k with z | z
    · obtain ⟨v, e1, e2⟩ := paired_at pr h1
      obtain ⟨u, e3, e4⟩ := paired_at pr h2
      obtain ⟨l1, g1⟩ := List.getElem?_eq_some_iff.mp e1
      obtain ⟨l2, g2⟩ := List.getElem?_eq_some_iff.mp e3
      have q := List.pairwise_iff_getElem.mp so j k l1 l2 z
      rw [g1, g2] at q
      have q2 : SrtO.lexB (kOf B u) (kOf B v) = false := q
      rw [kOf_eq e2, kOf_eq e4] at q2
      have q3 := SrtO.lexB_no.mp q2
      simp only at q3
      omega
    · have ej : j = k := by omega
      subst ej
      rw [h1] at h2
      cases h2
      exact Int.le_refl _
/-! ### each turn brings it on -/
def mu (row : List Cm) (s : Bn) : Nat := ((row.map (·.len)).sum - s.dones.sum).toNat
theorem sums_le : ∀ (row : List Cm) (ds : List Int), ds.length = row.length → (∀ (p : Nat) (c : Cm) (d : Int), row[p]? = some c → ds[p]? = some d → d ≤ c.len) → ds.sum ≤ (row.map (·.len)).sum
  | [], [], _, _ => Int.le_refl _
  | [], _ :: _, h, _ => by cases h
  | _ :: _, [], h, _ => by cases h
  | c :: r, d :: t, h, k => by
    have a := sums_le r t (Nat.succ.inj h) fun p c d e1 e2 => k (p + 1) c d e1 e2
    have b := k 0 c d rfl rfl
    show d + t.sum ≤ c.len + (r.map (·.len)).sum
    omega
theorem mu_lt {row : List Cm} {later : List (Int × Nat)} {s s' : Bn} (I' : BInv row later s') {t : Int} (h : s'.dones.sum = s.dones.sum + t) (ht : 1 ≤ t) : mu row s' < mu row s := by
  have := sums_le row s'.dones I'.dlen fun p c d e1 e2 => (I'.dok p c d e1 e2).2
  unfold mu
  omega
/-! ### few stretches -/
def fC (ws : List Wk) (c : Cm) (d : Int) : Nat := (if c.len ≤ d then 1 else 0) + match ws[c.who.toNat]? with
  | some u => if u.holds.all (fun h => decide (h.2.2 ≤ d)) = true then 1 else 0
  | none => 0
def fAll (ws : List Wk) : List Cm → List Int → Nat
  | c :: r, d :: t => fC ws c d + fAll ws r t
  | _, _ => 0
theorem fC_le (ws : List Wk) (c : Cm) (d : Int) : fC ws c d ≤ 2 := by
  unfold fC
  split <;> split <;> (try split) <;> omega
theorem fAll_le (ws : List Wk) : ∀ (row : List Cm) (ds : List Int), fAll ws row ds ≤ 2 * row.length
  | [], _ => Nat.zero_le _
  | _ :: _, [] => Nat.zero_le _
  | c :: r, d :: t => by
    have a := fAll_le ws r t
    have b := fC_le ws c d
    show fC ws c d + fAll ws r t ≤ 2 * (r.length + 1)
    omega
theorem fAll_set (ws : List Wk) : ∀ (row : List Cm) (ds : List Int) (p : Nat) (c : Cm) (d d' : Int), row[p]? = some c → ds[p]? = some d → fAll ws row (ds.set p d') + fC ws c d = fAll ws row ds + fC ws c d'
  | [], _, _, _, _, _, h, _ => by cases h
  | _ :: _, [], _, _, _, _, _, h => by cases h
  | c :: r, d :: t, 0, _, _, d', h1, h2 => by
    cases h1
    cases h2
    show fC ws c d' + fAll ws r t + fC ws c d = fC ws c d + fAll ws r t + fC ws c d'
    omega
  | c :: r, d :: t, p + 1, c', e, d', h1, h2 => by
    have a := fAll_set ws r t p c' e d' h1 h2
    show fC ws c d + fAll ws r (t.set p d') + fC ws c' e = fC ws c d + fAll ws r t + fC ws c' d'
    omega
theorem fC_mono (ws : List Wk) (c : Cm) {d d' : Int} (h : d ≤ d') : fC ws c d ≤ fC ws c d' := by
  unfold fC
  have a : (if c.len ≤ d then 1 else 0) ≤ (if c.len ≤ d' then 1 else 0) := by split <;> split <;> omega
  refine Nat.add_le_add a ?_
  cases e : ws[c.who.toNat]? with
  | none => exact Nat.le_refl _
  | some u =>
    show (if u.holds.all (fun h => decide (h.2.2 ≤ d)) = true then 1 else 0) ≤ (if u.holds.all (fun h => decide (h.2.2 ≤ d')) = true then 1 else 0)
    split
    · rename_i q
      rw [if_pos]
      · exact Nat.le_refl _
      · rw [List.all_eq_true] at q ⊢
        intro x hx
        have := of_decide_eq_true (q x hx)
        exact decide_eq_true (by omega)
    · exact Nat.zero_le _
theorem fC_gain {ws : List Wk} (G : Good ws) {c : Cm} {i : Nat} {u : Wk} (hi : c.who = (i : Nat)) (hu : ws[i]? = some u) {d : Int} (hd : d < c.len) : fC ws c d + 1 ≤ fC ws c (d + steadyI u c.len d) := by
  have ei : c.who.toNat = i := by omega
  have st := steady_ge (u := u) hd
  have mono : ∀ e : Int, d ≤ e → (match ws[c.who.toNat]? with | some u => if u.holds.all (fun h => decide (h.2.2 ≤ d)) = true then 1 else 0 | none => 0) ≤ (match ws[c.who.toNat]? with | some u => if u.holds.all (fun h => decide (h.2.2 ≤ e)) = true then 1 else 0 | none => 0) := fun e he => by
    rw [ei, hu]
    show (if u.holds.all (fun h => decide (h.2.2 ≤ d)) = true then 1 else 0) ≤ (if u.holds.all (fun h => decide (h.2.2 ≤ e)) = true then 1 else 0)
    split
    · rename_i q
      rw [if_pos]
      · exact Nat.le_refl _
      · rw [List.all_eq_true] at q ⊢
        intro x hx
        have := of_decide_eq_true (q x hx)
        exact decide_eq_true (by omega)
    · exact Nat.zero_le _
  by_cases full : d + steadyI u c.len d = c.len
  · have m := mono (d + steadyI u c.len d) (by omega)
    unfold fC
    rw [if_neg (show ¬ c.len ≤ d by omega), if_pos (show c.len ≤ d + steadyI u c.len d by omega)]
    omega
  · rcases holds_or (G.at hu) with e | ⟨h, e⟩
    · exact absurd (show d + steadyI u c.len d = c.len by unfold steadyI; rw [e]; show d + (c.len - d) = c.len; omega) full
    · have sv : steadyI u c.len d = (if h.2.2 > d then (if h.2.2 - d < c.len - d then h.2.2 - d else c.len - d) else c.len - d) := by
        unfold steadyI
        rw [e]
        rfl
      by_cases h1 : h.2.2 > d
      · rw [if_pos h1] at sv
        by_cases h2 : h.2.2 - d < c.len - d
        · rw [if_pos h2] at sv
          unfold fC
          rw [ei, hu]
          show (if c.len ≤ d then 1 else 0) + (if u.holds.all (fun h => decide (h.2.2 ≤ d)) = true then 1 else 0) + 1 ≤ (if c.len ≤ d + steadyI u c.len d then 1 else 0) + (if u.holds.all (fun h => decide (h.2.2 ≤ d + steadyI u c.len d)) = true then 1 else 0)
          rw [e]
          have a1 : [h].all (fun h => decide (h.2.2 ≤ d)) = false := by simp; omega
          have a2 : [h].all (fun h => decide (h.2.2 ≤ d + steadyI u c.len d)) = true := by simp; omega
          rw [a1, a2, if_neg (show ¬ c.len ≤ d by omega)]
          simp
        · rw [if_neg h2] at sv
          omega
      · rw [if_neg h1] at sv
        omega
def aCnt (later : List (Int × Nat)) (now : Int) : Nat := later.countP fun x => decide (x.1 ≤ now)
theorem aCnt_mono (later : List (Int × Nat)) {a b : Int} (h : a ≤ b) : aCnt later a ≤ aCnt later b := by
  unfold aCnt
  apply List.countP_mono_left
  intro x _ q
  have := of_decide_eq_true q
  exact decide_eq_true (by omega)
theorem aCnt_gain {later : List (Int × Nat)} {a : Int} {x : Int × Nat} (hx : x ∈ later) (h : a < x.1) : aCnt later a + 1 ≤ aCnt later x.1 := by
  unfold aCnt
  induction later with
  | nil => cases hx
  | cons y r ih =>
    rw [List.countP_cons, List.countP_cons]
    have m : r.countP (fun x => decide (x.1 ≤ a)) ≤ r.countP (fun y => decide (y.1 ≤ x.1)) := aCnt_mono r (by omega)
    rcases List.mem_cons.mp hx with rfl | hx
    · rw [if_neg (by simp; omega), if_pos (by simp)]
      omega
    · have k := ih hx
      by_cases q : y.1 ≤ a
      · rw [if_pos (by simpa using q), if_pos (by simp; omega)]
        omega
      · rw [if_neg (by simpa using q)]
        omega
theorem bput_len (told : List Sg) (p : Nat) (now til : Int) : (bput told p now til).length ≤ told.length + 1 := by
  unfold bput
  split
  · split
    · rw [List.length_append, List.length_dropLast, List.length_singleton]
      omega
    · rw [List.length_append, List.length_singleton]
      exact Nat.le_refl _
  · exact Nat.le_add_left _ _
theorem told_few {ws : List Wk} (G : Good ws) {row : List Cm} {later : List (Int × Nat)} (R : RowP ws row) (L : LaterOk row later) {s : Bn} (h : BReach ws row later s) : s.told.length ≤ aCnt later s.now + fAll ws row s.dones := by
  induction h with
  | start => exact Nat.zero_le _
  | step h1 h2 ih =>
    have I := reach_inv R L h1
    cases h2 with
    | mk now1 many1 wait1 p i c u d t hcond hnow hm hm2 harr hstop hw hp hleast hc hi hu hd ht =>
      rename_i s
      have T := turn_of R L I hcond hnow hm hm2 harr hstop hw hp hc hd ht
      have t1 := T.t1
      have fs := fAll_set ws row s.dones p c d (d + t) hc hd
      have fm := fC_mono ws c (show d ≤ d + t by omega)
      have am := aCnt_mono later T.nowle
      have am2 := aCnt_mono later (show now1 ≤ now1 + t by omega)
      have bl := bput_len s.told p now1 (now1 + t)
      show (bput s.told p now1 (now1 + t)).length ≤ aCnt later (now1 + t) + fAll ws row (s.dones.set p (d + t))
      cases e : later[many1]? with
      | none =>
        rw [e] at ht
        have ht : t = steadyI u c.len d := ht
        have fg := fC_gain G hi hu T.dlt
        rw [← ht] at fg
        omega
      | some x =>
        rw [e] at ht
        have ht : t = minI (steadyI u c.len d) (x.1 - now1) := ht
        unfold minI at ht
        split at ht
        · have ag := aCnt_gain (List.mem_of_getElem? e) (hstop x e)
          rw [show x.1 = now1 + t by omega] at ag
          omega
        · have fg := fC_gain G hi hu T.dlt
          rw [← ht] at fg
          omega
theorem told_small {ws : List Wk} (G : Good ws) {row : List Cm} {later : List (Int × Nat)} (R : RowP ws row) (L : LaterOk row later) {s : Bn} (h : BReach ws row later s) : s.told.length ≤ 3 * row.length := by
  have a := told_few G R L h
  have b := fAll_le ws row s.dones
  have c : aCnt later s.now ≤ later.length := List.countP_le_length
  have := L.len
  omega
end Dty
set_option Elab.async false
set_option linter.all false
set_option maxRecDepth 100000
set_option maxHeartbeats 8000000
namespace Dty
open PySem PySem.Spec PyProof.Rows L2 Dq TL NdefX LamX
abbrev SegsV := LsV SgV
/-- what the bench's objects hold -/
structure RS (K : PySem.W.Frag) (B0 H0 B H : Hp) (dl wl tl : Addr) (ds : List Int) (wn : List Nat) (ts : List V) (told : List Sg) : Prop where
  g : GrN K B0 H0 B H
  bd : B dl = none
  bw : B wl = none
  bt : B tl = none
  hd : H dl = some (.lst (ds.map V.int))
  hw : H wl = some (.lst ((nInts wn).map V.int))
  ht : H tl = some (.lst ts)
  pt : Paired (SgV B) ts told
theorem RS.ex {K : PySem.W.Frag} {B0 H0 B H H' : Hp} {dl wl tl : Addr} {ds : List Int} {wn : List Nat} {ts : List V} {told : List Sg} (r : RS K B0 H0 B H dl wl tl ds wn ts told) (e : Ex H H') : RS K B0 H0 B H' dl wl tl ds wn ts told :=
  ⟨r.g.heap e, r.bd, r.bw, r.bt, e _ _ r.hd, e _ _ r.hw, e _ _ r.ht, r.pt⟩
theorem RS.pick {K : PySem.W.Frag} {B0 H0 B H H' : Hp} {dl wl tl : Addr} {ds : List Int} {wn : List Nat} {ts : List V} {told : List Sg} (r : RS K B0 H0 B H dl wl tl ds wn ts told) (e : ExtN H H') (kp : ∀ b, H' b = none → H b = none) (t : TabsN (tPick K) H') : RS K B0 H0 B H' dl wl tl ds wn ts told :=
  ⟨r.g.pick e kp t, r.bd, r.bw, r.bt, e _ _ r.hd (fun _ z => nomatch z), e _ _ r.hw (fun _ z => nomatch z), e _ _ r.ht (fun _ z => nomatch z), r.pt⟩
theorem RS.setw {K : PySem.W.Frag} {B0 H0 B H : Hp} {dl wl tl : Addr} {ds : List Int} {wn : List Nat} {ts : List V} {told : List Sg} (r : RS K B0 H0 B H dl wl tl ds wn ts told) (h0 : H0 wl = none) (n1 : dl ≠ wl) (n2 : wl ≠ tl) (wn' : List Nat) : RS K B0 H0 B (upd H wl (.lst ((nInts wn').map V.int))) dl wl tl ds wn' ts told :=
  ⟨r.g.write h0 r.bw r.hw (by intro _ z; cases z) (by intro _ _ z; unfold CodeO at z; cases z), r.bd, r.bw, r.bt, (upd_ne n1).trans r.hd, upd_same, (upd_ne n2.symm).trans r.ht, r.pt⟩
theorem RS.setd {K : PySem.W.Frag} {B0 H0 B H : Hp} {dl wl tl : Addr} {ds : List Int} {wn : List Nat} {ts : List V} {told : List Sg} (r : RS K B0 H0 B H dl wl tl ds wn ts told) (h0 : H0 dl = none) (n1 : dl ≠ wl) (n2 : dl ≠ tl) (ds' : List Int) : RS K B0 H0 B (upd H dl (.lst (ds'.map V.int))) dl wl tl ds' wn ts told :=
  ⟨r.g.write h0 r.bd r.hd (by intro _ z; cases z) (by intro _ _ z; unfold CodeO at z; cases z), r.bd, r.bw, r.bt, upd_same, (upd_ne n1.symm).trans r.hw, (upd_ne n2.symm).trans r.ht, r.pt⟩
theorem RS.sett {K : PySem.W.Frag} {B0 H0 B H B' H' : Hp} {dl wl tl : Addr} {ds : List Int} {wn : List Nat} {ts ts' : List V} {told told' : List Sg} (r : RS K B0 H0 B H dl wl tl ds wn ts told) (h0 : H0 tl = none) (n1 : dl ≠ tl) (n2 : wl ≠ tl) (x : Gx tl B H B' H') (b' : B' tl = none) (h' : H' tl = some (.lst ts')) (p' : Paired (SgV B') ts' told') : RS K B0 H0 B' H' dl wl tl ds wn ts' told' := by
  refine ⟨⟨fun b o hb nb => ?_, r.g.eB.trans x.eB, x.e, fun q h1 h2 => x.hid q (r.g.hid q h1 h2) (fun z => h2 (r.g.keep q z)), fun b ps z => r.g.nt b ps (x.nt b ps z), ?_, fun q h => ?_⟩, x.hid dl r.bd (by rw [r.hd]; exact fun z => nomatch z), x.hid wl r.bw (by rw [r.hw]; exact fun z => nomatch z), b', x.ex _ _ n1 r.hd, x.ex _ _ n2 r.hw, h', p'⟩
  · exact x.ex b o (fun z => by rw [z, h0] at hb; cases hb) (r.g.eH b o hb nb)
  · intro y hy
    obtain ⟨ps, h1, h2, h3⟩ := r.g.tab y hy
    refine ⟨ps, x.ex _ _ (fun z => by rw [z, r.ht] at h1; cases h1) h1, h2, fun pos cv hc => ?_⟩
    obtain ⟨c, e1, e2⟩ := h3 pos cv hc
    exact ⟨c, e1, x.ex _ _ (fun z => by rw [z, r.ht] at e2; have e3 := Option.some.inj e2; unfold CodeO at e3; cases e3) e2⟩
  · by_cases c : q = tl
    · rw [c]
      exact h0
    · cases hq : H q with
      | none => exact r.g.keep q hq
      | some o =>
        have := x.ex q o c hq
        rw [h] at this
        cases this
theorem ixN_nat {n j : Nat} (h : j < n) : ixN n (j : Int) = some j := by
  unfold ixN
  rw [if_pos (by omega), if_pos (by omega)]
  exact congrArg some (by omega)
theorem nodup_lt : ∀ (n : Nat) (l : List Nat), l.Nodup → (∀ x ∈ l, x < n) → l.length ≤ n
  | 0, l, _, h => by
    cases l with
    | nil => exact Nat.le_refl _
    | cons x r => exact absurd (h x List.mem_cons_self) (Nat.not_lt_zero _)
  | n + 1, l, nd, h => by
    by_cases m : n ∈ l
    · have k := nodup_lt n (l.erase n) (nd.erase n) fun x hx => by
        obtain ⟨h1, h2⟩ := nd.mem_erase_iff.mp hx
        have := h x h2
        omega
      rw [List.length_erase_of_mem m] at k
      omega
    · have k := nodup_lt n l nd fun x hx => by
        have := h x hx
        have : x ≠ n := fun z => m (z ▸ hx)
        omega
      omega
theorem erase_map {α β : Type} (f : α → β) : ∀ (l : List α) (j : Nat), (l.map f).eraseIdx j = (l.eraseIdx j).map f
  | [], _ => rfl
  | _ :: _, 0 => rfl
  | x :: r, j + 1 => congrArg (f x :: ·) (erase_map f r j)
theorem nInts_app (a b : List Nat) : nInts (a ++ b) = nInts a ++ nInts b := by
  unfold nInts
  rw [List.map_append]
theorem nInts_at {wn : List Nat} {j n : Nat} (h : wn[j]? = some n) : (nInts wn)[j]? = some (n : Int) := by
  unfold nInts
  rw [List.getElem?_map, h]
  rfl
section
variable {P : Program} {w : World} {K : PySem.W.Frag} {mg : Str → Option Value} {base : Heap}
abbrev N_run : List Str := ["order", "row", "place", "later", "dones", "waiting", "told", "now", "many", "turns", "coming"]
theorem sc_run : FnScope N_run ["order", "row"] (defScope s_run) := ⟨rfl, rfl, rfl, by decide +kernel, rfl, by decide +kernel, by decide +kernel⟩
def sp_run (K : PySem.W.Frag) : Sp := fun vs H Q _ => ∃ (B : Hp) (o rv : V) (ws : List Wk) (row : List Cm), vs = [o, rv] ∧ Ex B H ∧ NT B ∧ TabsN (tPick K) H ∧ OrdV K B o ws ∧ RowV B rv row ∧ Good ws ∧ RowQ ws row ∧
  ∀ x B' H' later s, LaterOk row later → BReach ws row later s → row.length ≤ s.many → s.wait = [] → GrN K B H B' H' → SegsV B' x s.told → Q x H'
theorem ok_run (T : Says K mg) (TB : LamX.TabB base mg (cPick K).1 (cPick K).2) : FnOk P w K mg base CX0 8 (He.fAd K d_run.at_) (fdOf K d_run.at_) ["order", "row"] (sp_run K) := by
  refine (F_run T).ok sc_run (fun vs H Q E h => ?_) (fun cdv A outer s H vs Q E hr h => ?_)
  · obtain ⟨_, _, _, _, _, rfl, _⟩ := h
    rfl
  · refine ⟨_, PSs.nox (pss_cons (ps_expr (pe_call (ok_checked T) (hr.mono (by decide)) rfl (g_checked T) (F_checked T).kp (b_checked T) .nil pass0 (pa_cons (pe_fld (pv 0) rfl) (pa_cons (pv 1) pa_nil)))) (pss_cons (ps_set (i := 3) sc_run.nd rfl (Or.inl rfl) (pe_callB cr_sortedPO (by rfl) (f_sorted T) (by decide +kernel) (pa_cons (pe_lc (own := [("place", 2)]) rfl sc_run.nd (pi_range1 (by rfl) (f_range T) (pa_cons (pe_callB call_len_seq (by rfl) (f_len T) (by decide +kernel) (pa_cons (pv 1) pa_nil)) pa_nil)) (blkOk_by (N := N_run) (sc := defScope s_run) (by decide +kernel)) (fun _ _ _ _ _ => (pg_name (i := 2) sc_run.nd rfl (Or.inl rfl))) (fun _ _ _ _ _ => pts_nil) (fun _ _ _ _ _ => (pe_tup (pa_cons (pe_call (ok_ready T) (hr.mono (by decide)) rfl (g_ready T) (F_ready T).kp (b_ready T) .nil pass0 (pa_cons (pe_ix (show IxR _ (rIxL K) from ix_list) (pv 1) (pv 2) (fun _ _ => rfl)) pa_nil)) (pa_cons (pv 2) pa_nil))))) pa_nil))) (pss_cons (ps_setLc (i := 4) (own := [("coming", 10)]) rfl sc_run.nd rfl rfl (sw_true rfl rfl rfl (by decide +kernel)) (pi_list (pv 1)) (blkOk_by (N := N_run) (sc := defScope s_run) (by decide +kernel)) (fun _ _ _ _ _ => (pg_name (i := 10) sc_run.nd rfl (Or.inl rfl))) (fun _ _ _ _ _ => pts_nil) (fun _ _ _ _ _ => pe_int)) (pss_cons (ps_set (i := 5) sc_run.nd rfl (Or.inl rfl) (pe_lst pa_nil)) (pss_cons (ps_set (i := 6) sc_run.nd rfl (Or.inl rfl) (pe_lst pa_nil)) (pss_cons (ps_set (i := 7) sc_run.nd rfl (Or.inl rfl) pe_int) (pss_cons (ps_set (i := 8) sc_run.nd rfl (Or.inl rfl) pe_int) (pss_cons (ps_while PassesOwn.never (PW.pt (pw_or (pt_cmpR op_lt (pv 8) (pe_callB call_len_seq (by rfl) (f_len T) (by decide +kernel) (pa_cons (pv 1) pa_nil)) (nomark _)) (pw_or1 (pt_cmpR (op_neD hr.units) (pv 5) (pe_lst pa_nil) (nomark _))))) (Evl.pss_cut (ps_if (pt_cmpR (op_eqD hr.units) (pv 5) (pe_lst pa_nil) (nomark _)) (pss_one (ps_set (i := 7) sc_run.nd rfl (Or.inl rfl) (pe_callB (call_max2 rfl) (by rfl) (f_max T) (by decide +kernel) (pa_cons (pv 7) (pa_cons (pe_ix ix_tup (pe_ix ix_list (pv 3) (pv 8) (fun _ _ => rfl)) pe_int (fun _ _ => rfl)) pa_nil))))) pss_nil) (pss_cons (ps_while PassesOwn.never (PW.pt (pw_and (pt_cmpR op_lt (pv 8) (pe_callB call_len_seq (by rfl) (f_len T) (by decide +kernel) (pa_cons (pv 1) pa_nil)) (nomark _)) (pw_and1 (pt_cmpR op_le (pe_ix ix_tup (pe_ix ix_list (pv 3) (pv 8) (fun _ _ => rfl)) pe_int (fun _ _ => rfl)) (pv 7) (nomark _))))) (pss_cons (ps_expr (pe_bm PySem.F.plainAttrs_list PySem.F.slot_list_append PySem.F.type_list_append mt_append (pv 5) (pa_cons (pe_ix ix_tup (pe_ix ix_list (pv 3) (pv 8) (fun _ _ => rfl)) pe_int (fun _ _ => rfl)) pa_nil))) (pss_one (ps_aug (i := 8) sc_run.nd rfl (Or.inl rfl) pe_int ip_add)))) (pss_cons (ps_set (i := 2) sc_run.nd rfl (Or.inl rfl) (pe_meth (pv 0) (c_ByRank T) (m_ByRank_pick T) (ok_Order_pick T TB) (hr.mono (by decide)) (b_Order_pick T) .nil pass0 (pa_cons (pv 1) (pa_cons (pv 5) (pa_cons (pv 4) pa_nil))))) (pss_cons (ps_set (i := 9) sc_run.nd rfl (Or.inl rfl) (pe_meth (pv 0) (c_ByRank T) (m_ByRank_steady T) (ok_ByRank_steady T) (hr.mono (by decide)) (b_ByRank_steady T) .nil pass0 (pa_cons (pe_ix ix_list (pv 1) (pv 2) (fun _ _ => rfl)) (pa_cons (pe_ix ix_list (pv 4) (pv 2) (fun _ _ => rfl)) pa_nil)))) (Evl.pss_cut (ps_if (pt_cmpR op_lt (pv 8) (pe_callB call_len_seq (by rfl) (f_len T) (by decide +kernel) (pa_cons (pv 1) pa_nil)) (nomark _)) (pss_one (ps_set (i := 9) sc_run.nd rfl (Or.inl rfl) (pe_callB (call_min2 rfl) (by rfl) (f_min T) (by decide +kernel) (pa_cons (pv 9) (pa_cons (pe_op op_sub (pe_ix ix_tup (pe_ix ix_list (pv 3) (pv 8) (fun _ _ => rfl)) pe_int (fun _ _ => rfl)) (pv 7)) pa_nil))))) pss_nil) (pss_cons (ps_expr (pe_call (ok_put_on T) (hr.mono (by decide)) rfl (g_put_on T) (F_put_on T).kp (b_put_on T) .nil pass0 (pa_cons (pv 6) (pa_cons (pv 2) (pa_cons (pv 7) (pa_cons (pe_op op_add (pv 7) (pv 9)) pa_nil)))))) (pss_cons (ps_augS (pv 4) (pv 2) get_listQ (pv 9) ip_add set_list) (pss_cons (ps_aug (i := 7) sc_run.nd rfl (Or.inl rfl) (pv 9) ip_add) (pss_one (ps_if (pt_cmpR op_eq (pe_ix ix_list (pv 4) (pv 2) (fun _ _ => rfl)) (pe_ix ix_tup (pe_ix ix_list (pv 1) (pv 2) (fun _ _ => rfl)) pe_int (fun _ _ => rfl)) (nomark _)) (pss_one (ps_expr (pe_bm PySem.F.plainAttrs_list PySem.F.slot_list_remove PySem.F.type_list_remove mt_remove (pv 5) (pa_cons (pv 2) pa_nil)))) pss_nil))))))))))) (pss_one (ps_ret (pv 6))))))))))), ?_⟩
    obtain ⟨B, _, _, ws, row, rfl, eB, nB, hT, ⟨a, dx, dv, rfl, ha, D⟩, ⟨p, cs, rfl, hp0, pr⟩, G, R, k⟩ := h
    have few := R.few
    have lcs := paired_len pr
    have O : OrdV K B (.ref a) ws := ⟨a, dx, dv, rfl, ha, D⟩
    -- checked
    refine ⟨_, rfl, a, _, dx, _, _, rfl, eB _ _ ha, c_ByRank T, n_ByRank_duty T, rfl, _, rfl, _, _, ws, row, rfl, D.mono eB, ⟨p, cs, rfl, eB _ _ hp0, L2.Paired.mapP pr fun _ _ z => z.mono eB⟩, R, fun H1 e1 => ?_⟩
    have g1 : Gr B H B H1 := (Gr.refl eB).heap e1
    -- later
    refine ⟨_, rfl, p, _, rfl, .inl (SqL.of (g1.e _ _ hp0)), _, rfl, by omega, by omega, fun F nF => ?_⟩
    have nF0 : H F = none := Evl.fresh_back g1.eH nF
    have bF : B F = none := ex_none g1.e nF
    refine lc_range (fun j H' => ∃ (B1 : Hp) (vs : List V), Gr B H B1 H' ∧ B1 F = none ∧ H' F = some (.lst vs) ∧ Paired (LtV B1) vs (latL row j)) ⟨B, [], g1.heap (ex_up nF), bF, upd_same, .nil⟩ ?_ ?_
    · rintro j H2 hj ⟨B1, vs, g2, b1F, hF2, pl⟩
      have hj' : j < row.length := by omega
      obtain ⟨c, hc⟩ : ∃ c, row[j]? = some c := ⟨_, List.getElem?_eq_getElem hj'⟩
      obtain ⟨cv, hcv, hx⟩ := paired_at pr hc
      have ej : ((0 : Int) + (j : Int)) = ((j : Nat) : Int) := by omega
      have at_ : atI cs (0 + (j : Int)) = some cv := by
        rw [ej]
        exact atI_nat hcv
      have lv : vs.length = j := by
        rw [paired_len pl]
        unfold latL
        rw [List.length_map, List.length_range]
      refine ⟨rfl, _, rfl, _, rfl, _, _, _, _, rfl, rfl, SqL.of (g2.e _ _ (g2.eB _ _ hp0)), at_, _, c, rfl, hx.mono (g2.eB.trans g2.e), _, rfl, szn (n := 2) (by decide), fun t nt => ?_⟩
      have nFt : F ≠ t := ne_of_none hF2 nt
      refine ⟨vs, (upd_ne nFt).trans hF2, Evl.sz_lt (by omega), upd B1 t (.tup [.int (c.come + c.late), .int (0 + (j : Int))]), vs ++ [.ref t], (g2.new (o := .tup [.int (c.come + c.late), .int (0 + (j : Int))]) nt).write nF0 (by rw [upd_ne nFt]; exact b1F), by rw [upd_ne nFt]; exact b1F, upd_same, ?_⟩
      unfold latL
      rw [List.range_succ, List.map_append]
      refine paired_snoc (L2.Paired.mapP pl fun _ _ z => z.mono (ex_up (ex_none g2.e nt))) ⟨t, rfl, ?_⟩
      rw [upd_same, ej]
      show _ = some (HO.tup [V.int (rdAt row j), V.int (j : Nat)])
      unfold rdAt
      rw [hc]
      rfl
    rintro H2 ⟨B1, vs, g2, b1F, hF2, pl⟩
    rw [show ((cs.length : Nat) : Int).toNat = row.length by omega] at pl
    refine ⟨F, vs, kOf H2, rfl, SqL.of hF2, fun x hx => ?_, fun ys q srt stb nq => ?_⟩
    · obtain ⟨j, hj⟩ := List.getElem?_of_mem hx
      obtain ⟨y, _, hy⟩ := paired_back pl hj
      have hy2 := hy.mono g2.e
      rw [kOf_eq hy2]
      exact hy2
    obtain ⟨later, ply, pm⟩ := paired_shuffle stb.perm pl
    have L : LaterOk row later := later_ok pm (L2.Paired.mapP ply fun _ _ z => z.mono g2.e) srt
    have g3 := g2.new (o := .lst ys) nq
    have ply3 := L2.Paired.mapP ply fun _ _ z => z.mono (ex_up (o := .lst ys) (ex_none g2.e nq))
    have hq3 : upd B1 q (.lst ys) q = some (.lst ys) := upd_same
    generalize upd B1 q (.lst ys) = B3 at g3 ply3 hq3
    generalize upd H2 q (.lst ys) = H3 at g3 ⊢
    -- dones
    have hp3 := g3.e _ _ (g3.eB _ _ hp0)
    refine ⟨_, rfl, p, rfl, ⟨_, SqL.of hp3⟩, fun dl nd => ?_⟩
    refine lc_list (K := K) (a := p) (xs := cs) (fun j H' => Ex H3 H' ∧ H' dl = some (.lst ((List.replicate j (0 : Int)).map V.int))) ⟨ex_up nd, upd_same⟩ (fun j H' _ z => SqL.of (z.1 _ _ hp3)) ?_ ?_
    · rintro j x H4 hj ⟨e4, hd4⟩
      have lj := (List.getElem?_eq_some_iff.mp hj).1
      refine ⟨rfl, _, hd4, ?_, e4.mut nd, ?_⟩
      · rw [List.length_map, List.length_replicate]
        exact Evl.sz_lt (by omega)
      · rw [upd_same, List.replicate_succ', List.map_append]
        rfl
    rintro H4 ⟨e4, hd4⟩
    have ed0 : List.replicate cs.length (0 : Int) = row.map fun _ => 0 := by
      rw [lcs]
      apply List.ext_getElem?
      intro n
      rw [List.getElem?_map, List.getElem?_replicate]
      split
      · rename_i h
        rw [List.getElem?_eq_getElem h]
        rfl
      · rename_i h
        rw [List.getElem?_eq_none (by omega)]
        rfl
    rw [ed0] at hd4
    have nd0 : H dl = none := Evl.fresh_back g3.eH nd
    have bd : B3 dl = none := ex_none g3.e nd
    have g4 := g3.heap e4
    -- waiting, told
    refine ⟨by decide, fun wl nw => ⟨by decide, fun tl nt => ?_⟩⟩
    have nw0 : H wl = none := Evl.fresh_back g4.eH nw
    have bw : B3 wl = none := ex_none g4.e nw
    have g5 := g4.heap (ex_up (o := .lst []) nw)
    have nt0 : H tl = none := Evl.fresh_back g5.eH nt
    have bt : B3 tl = none := ex_none g5.e nt
    have g6 := g5.heap (ex_up (o := .lst []) nt)
    have ndw : dl ≠ wl := ne_of_none hd4 nw
    have ndt : dl ≠ tl := ne_of_none (ex_up nw _ _ hd4) nt
    have nwt : wl ≠ tl := ne_of_none upd_same nt
    have rs0 : RS K B H B3 (upd (upd H4 wl (.lst [])) tl (.lst [])) dl wl tl (st0 row).dones (st0 row).wait [] (st0 row).told :=
      ⟨(GrN.refl eB nB hT).gr g6, bd, bw, bt, (upd_ne ndt).trans ((upd_ne ndw).trans hd4), (upd_ne nwt).trans upd_same, upd_same, .nil⟩
    generalize upd (upd H4 wl (.lst [])) tl (.lst []) = H6 at rs0 ⊢
    have Rp := R.p
    have lly : ys.length = row.length := by rw [paired_len ply3, L.len]
    -- the bench
    refine Evl.s_while (fun m σ' H' => ∃ (s : Bn) (B' : Hp) (ts : List V) (y z : Option V), BReach ws row later s ∧ σ' = [some (.ref a), some (.ref p), y, some (.ref q), some (.ref dl), some (.ref wl), some (.ref tl), some (.int s.now), some (.int (s.many : Nat)), z, none] ∧ RS K B H B' H' dl wl tl s.dones s.wait ts s.told ∧ Ex B3 B' ∧ m = mu row s) (mu row (st0 row))
      ⟨st0 row, B3, [], _, _, .start, rfl, rs0, Evl.Ex.refl _, rfl⟩ ?_
    rintro m σ' H7 ⟨s, B7, ts, y, z, rch, rfl, rs, x7, rfl⟩
    have I := reach_inv Rp L rch
    have hp7 : H7 p = some (.lst cs) := rs.g.e _ _ (rs.g.eB _ _ hp0)
    have hq7 : B7 q = some (.lst ys) := x7 _ _ hq3
    have ply7 := L2.Paired.mapP ply3 fun _ _ z => z.mono x7
    refine ⟨decide ((s.many : Int) < (cs.length : Nat)) || !decide (nInts s.wait = []), ?_, ?_, ?_⟩
    · intro H8 e8 Q8 k8
      refine ⟨_, rfl, _, rfl, p, _, rfl, .inl (SqL.of (e8 _ _ hp7)), _, _, rfl, rfl, _, rfl, ?_⟩
      refine itc (fun c1 => ?_) (fun c1 => ?_)
      · have := k8 H8 (Evl.Ex.refl _)
        rw [c1] at this
        exact this
      · refine ⟨_, rfl, by decide, fun e ne => ⟨_, _, .lst (SqL.of (ex_up ne _ _ (e8 _ _ rs.hw))) (dp_ints _), .lst (SqL.of upd_same) .nil, PySem.W.ke_shaped_ints _, by decide +kernel, ?_⟩⟩
        rw [eqv_nilI]
        have := k8 _ (ex_up (o := .lst []) ne)
        rw [c1] at this
        exact ⟨_, rfl, this⟩
    · intro hb H8 e8
      have hcond : s.many < row.length ∨ s.wait ≠ [] := by
        rcases Bool.or_eq_true_iff.mp hb with z | z
        · have := of_decide_eq_true z
          exact .inl (by omega)
        · refine .inr fun e => ?_
          rw [e] at z
          cases z
      have rs8 := rs.ex e8
      refine ⟨_, fun _ _ q => q, ?_⟩
      obtain ⟨now1, en1⟩ : ∃ n : Int, n = if s.wait = [] then maxI s.now (later.getD s.many (0, 0)).1 else s.now := ⟨_, rfl⟩
      have lat : ∀ k, k < row.length → ∃ (x : Int × Nat) (t : Addr), later[k]? = some x ∧ ys[k]? = some (.ref t) ∧ B7 t = some (.tup [.int x.1, .int (x.2 : Nat)]) := fun k hk => by
        have hk2 : k < later.length := by rw [L.len]; exact hk
        obtain ⟨v, h1, t, rfl, h2⟩ := paired_at ply7 (List.getElem?_eq_getElem hk2)
        exact ⟨_, t, List.getElem?_eq_getElem hk2, h1, h2⟩
      refine ⟨fun σ' H' => σ' = [some (.ref a), some (.ref p), y, some (.ref q), some (.ref dl), some (.ref wl), some (.ref tl), some (.int now1), some (.int (s.many : Nat)), z, none] ∧ Ex H8 H', ?_, ?_⟩
      · refine ⟨_, rfl, by decide, fun e ne => ⟨_, _, .lst (SqL.of (ex_up ne _ _ rs8.hw)) (dp_ints _), .lst (SqL.of upd_same) .nil, PySem.W.ke_shaped_ints _, by decide +kernel, ?_⟩⟩
        rw [eqv_nilI]
        refine ⟨_, rfl, itc (fun c1 => ?_) (fun c1 => ?_)⟩
        · have w0 : s.wait = [] := List.map_eq_nil_iff.mp (of_decide_eq_true c1)
          have mn : s.many < row.length := hcond.resolve_right (fun z => z w0)
          obtain ⟨x, t, h1, h2, h3⟩ := lat s.many mn
          have rs9 := rs8.ex (ex_up (o := .lst []) ne)
          refine ⟨_, rfl, _, rfl, _, rfl, _, _, _, _, rfl, rfl, SqL.of (rs9.g.e _ _ hq7), atI_nat h2, _, _, _, _, rfl, rfl, SqT.of (rs9.g.e _ _ h3), rfl, _, _, rfl, ?_⟩
          refine ⟨?_, ex_up ne⟩
          have ex : later.getD s.many (0, 0) = x := by rw [List.getD_eq_getElem?_getD, h1]; rfl
          rw [en1, if_pos w0, ex]
          rfl
        · have w0 : ¬ s.wait = [] := fun z => by rw [z] at c1; cases c1
          refine ⟨?_, ex_up ne⟩
          rw [en1, if_neg w0]
      rintro σ' H9 ⟨rfl, e9⟩
      have rs9 := rs8.ex e9
      -- the arrivals
      refine Evl.s_while (fun m σ' H' => ∃ j : Nat, σ' = [some (.ref a), some (.ref p), y, some (.ref q), some (.ref dl), some (.ref wl), some (.ref tl), some (.int now1), some (.int ((s.many + j : Nat) : Int)), z, none] ∧
        RS K B H B7 H' dl wl tl s.dones (s.wait ++ ((later.drop s.many).take j).map (·.2)) ts s.told ∧ s.many + j ≤ row.length ∧ (∀ (k : Nat) (x : Int × Nat), s.many ≤ k → k < s.many + j → later[k]? = some x → x.1 ≤ now1) ∧ m = row.length - (s.many + j)) (row.length - s.many)
        ⟨0, rfl, by rw [List.take_zero, List.map_nil, List.append_nil]; exact rs9, by have := I.many; have := L.len; omega, fun k x h1 h2 => by omega, rfl⟩ ?_
      rintro m σ' H10 ⟨j, rfl, rs10, jn, arr, rfl⟩
      have hp10 : H10 p = some (.lst cs) := rs10.g.e _ _ (rs10.g.eB _ _ hp0)
      refine ⟨decide (((s.many + j : Nat) : Int) < (cs.length : Nat)) && (match later[s.many + j]? with | some x => decide (x.1 ≤ now1) | none => false), ?_, ?_, ?_⟩
      · intro H11 e11 Q11 k11
        refine ⟨_, rfl, _, rfl, p, _, rfl, .inl (SqL.of (e11 _ _ hp10)), _, _, rfl, rfl, _, rfl, ?_⟩
        refine itc (fun c1 => ?_) (fun c1 => ?_)
        · have lt := of_decide_eq_true c1
          obtain ⟨x, t, h1, h2, h3⟩ := lat (s.many + j) (by omega)
          refine ⟨_, rfl, _, rfl, _, _, _, _, rfl, rfl, SqL.of (e11 _ _ (rs10.g.e _ _ hq7)), atI_nat h2, _, _, _, _, rfl, rfl, SqT.of (e11 _ _ (rs10.g.e _ _ h3)), rfl, _, rfl, _, _, rfl, rfl, _, rfl, ?_⟩
          have := k11 H11 (Evl.Ex.refl _)
          rw [c1, h1] at this
          exact this
        · have := k11 H11 (Evl.Ex.refl _)
          rw [c1] at this
          exact this
      · intro hb2 H11 e11
        obtain ⟨c1, c2⟩ := Bool.and_eq_true_iff.mp hb2
        have lt := of_decide_eq_true c1
        obtain ⟨x, t, h1, h2, h3⟩ := lat (s.many + j) (by omega)
        rw [h1] at c2
        have xle := of_decide_eq_true c2
        have rs11 := rs10.ex e11
        refine ⟨_, fun _ _ q => q, ?_⟩
        refine ⟨_, rfl, .inl ⟨rfl, _, SqL.of rs11.hw⟩, _, rfl, _, rfl, _, _, _, _, rfl, rfl, SqL.of (rs11.g.e _ _ hq7), atI_nat h2, _, _, _, _, rfl, rfl, SqT.of (rs11.g.e _ _ h3), rfl, wl, _, _, rfl, rfl, rs11.hw, ?_, ?_⟩
        · have wlen : (s.wait ++ ((later.drop s.many).take j).map (·.2)).length ≤ 300 := by
            have wl1 : s.wait.length ≤ row.length := by
              refine nodup_lt row.length s.wait I.wnd fun v hv => ?_
              have z2 := I.warr v hv
              unfold arrived at z2
              obtain ⟨x, hx, e⟩ := List.mem_map.mp z2
              obtain ⟨k, hk⟩ := List.getElem?_of_mem (List.mem_of_mem_take hx)
              obtain ⟨c, h1, _⟩ := L.at_ k x hk
              rw [e] at h1
              exact (List.getElem?_eq_some_iff.mp h1).1
            rw [List.length_append, List.length_map, List.length_take]
            omega
          unfold nInts
          rw [List.length_map, List.length_map]
          exact Evl.sz_lt (by omega)
        have dj : (later.drop s.many)[j]? = some x := by rw [List.getElem?_drop]; exact h1
        have ew : (s.wait ++ ((later.drop s.many).take (j + 1)).map (·.2)) = (s.wait ++ ((later.drop s.many).take j).map (·.2)) ++ [x.2] := by
          rw [take_snoc dj, List.map_append, List.append_assoc]
          rfl
        have rs12 := rs11.setw nw0 ndw nwt (s.wait ++ ((later.drop s.many).take (j + 1)).map (·.2))
        rw [ew, nInts_app, List.map_append] at rs12
        refine ⟨_, rfl, _, _, rfl, rfl, row.length - (s.many + (j + 1)), by omega, j + 1, rfl, ?_, by omega, fun k x' k1 k2 k3 => ?_, rfl⟩
        · rw [ew]
          exact rs12
        · rcases Nat.lt_or_ge k (s.many + j) with z | z
          · exact arr k x' k1 z k3
          · have ek : k = s.many + j := by omega
            rw [ek, h1] at k3
            cases k3
            exact xle
      · intro hb2 H11 e11
        have rs11 := rs10.ex e11
        have hstop : ∀ x, later[s.many + j]? = some x → now1 < x.1 := fun x hx => by
          obtain ⟨l1, _⟩ := List.getElem?_eq_some_iff.mp hx
          have c1 : decide (((s.many + j : Nat) : Int) < (cs.length : Nat)) = true := decide_eq_true (by have := L.len; omega)
          rw [c1, hx] at hb2
          have := of_decide_eq_false (show decide (x.1 ≤ now1) = false from hb2)
          omega
        obtain ⟨many1, em1⟩ : ∃ m, m = s.many + j := ⟨_, rfl⟩
        obtain ⟨wait1, ew1⟩ : ∃ v, v = s.wait ++ ((later.drop s.many).take (many1 - s.many)).map (·.2) := ⟨_, rfl⟩
        have ejm : many1 - s.many = j := by omega
        have ew2 : s.wait ++ ((later.drop s.many).take j).map (·.2) = wait1 := by rw [ew1, ejm]
        rw [ew2] at rs11
        rw [← em1] at arr hstop ⊢
        have wrow : ∀ v ∈ wait1, ∃ c, row[v]? = some c := fun v hv => by
          have hm : ∃ (k : Nat) (x : Int × Nat), later[k]? = some x ∧ x.2 = v := by
            rw [ew1] at hv
            rcases List.mem_append.mp hv with z | z
            · have z2 := I.warr v z
              unfold arrived at z2
              obtain ⟨x, hx, e⟩ := List.mem_map.mp z2
              obtain ⟨k, hk⟩ := List.getElem?_of_mem (List.mem_of_mem_take hx)
              exact ⟨k, x, hk, e⟩
            · obtain ⟨x, hx, e⟩ := List.mem_map.mp z
              obtain ⟨k, hk⟩ := List.getElem?_of_mem (List.mem_of_mem_drop (List.mem_of_mem_take hx))
              exact ⟨k, x, hk, e⟩
          obtain ⟨k, x, hk, e⟩ := hm
          obtain ⟨c, h1, _⟩ := L.at_ k x hk
          rw [e] at h1
          exact ⟨c, h1⟩
        have wne : wait1 ≠ [] := by
          intro z
          rw [← ew2] at z
          obtain ⟨z1, z2⟩ := List.append_eq_nil_iff.mp z
          have mn := hcond.resolve_right (fun y => y z1)
          obtain ⟨x, t, h1, _, _⟩ := lat s.many mn
          have j0 : j = 0 := by
            have l := congrArg List.length z2
            rw [List.length_map, List.length_take, List.length_drop, List.length_nil] at l
            have := L.len
            omega
          have h4 := hstop x (by rw [em1, j0]; exact h1)
          have ex : later.getD s.many (0, 0) = x := by rw [List.getD_eq_getElem?_getD, h1]; rfl
          rw [en1, if_pos z1, ex] at h4
          have := le_maxI_r s.now x.1
          omega
        have wts : Waits ws row s.dones wait1 := fun v hv => by
          obtain ⟨c, hc⟩ := wrow v hv
          obtain ⟨d, hd⟩ := done_at I hc
          obtain ⟨_, _, _, i, u, h1, h2⟩ := Rp.cm v c hc
          exact ⟨c, d, i, u, hc, hd, h1, h2⟩
        refine ⟨_, rfl, a, dx, _, rfl, rs11.g.e _ _ (rs11.g.eB _ _ ha), rfl, _, rfl, _, rfl, _, rfl, B7, _, _, wl, dl, ws, row, s.dones, wait1, rfl, rs11.g.e, rs11.g.nt, rs11.g.tab, O.mono rs11.g.eB, ⟨p, cs, rfl, rs11.g.eB _ _ hp0, L2.Paired.mapP pr fun _ _ z => z.mono rs11.g.eB⟩, rs11.hw, rs11.hd, G, wne, wts, fun pl H12 hpl hleast x12 kp12 t12 => ?_⟩
        have rs12 := rs11.pick x12 kp12 t12
        obtain ⟨c, d, i, u, hc, hd, hi, hu⟩ := wts pl hpl
        obtain ⟨cv, hcv, qc, rfl, hqc⟩ := paired_at pr hc
        have edn : (s.dones.map V.int)[pl]? = some (.int d) := by rw [List.getElem?_map, hd]; rfl
        refine ⟨_, rfl, a, dx, _, rfl, rs12.g.e _ _ (rs12.g.eB _ _ ha), rfl, _, rfl, _, rfl, _, _, _, _, rfl, rfl, SqL.of (rs12.g.e _ _ (rs12.g.eB _ _ hp0)), atI_nat hcv, _, rfl, _, rfl, _, _, _, _, rfl, rfl, SqL.of rs12.hd, atI_nat edn, _, _, d, ws, c, i, u, rfl, (O.mono rs12.g.eB).mono rs12.g.e, ⟨qc, rfl, rs12.g.e _ _ (rs12.g.eB _ _ hqc)⟩, hi, hu, fun H13 e13 => ?_⟩
        have rs13 := rs12.ex e13
        obtain ⟨t, et⟩ : ∃ t : Int, t = match later[many1]? with | some x => minI (steadyI u c.len d) (x.1 - now1) | none => steadyI u c.len d := ⟨_, rfl⟩
        have lem : many1 ≤ later.length := by rw [L.len]; omega
        have Tn := turn_of (u := u) Rp L I hcond en1 (show s.many ≤ many1 by omega) lem arr hstop ew1 hpl hc hd et
        refine ⟨fun σ' H' => σ' = [some (.ref a), some (.ref p), some (.int (pl : Nat)), some (.ref q), some (.ref dl), some (.ref wl), some (.ref tl), some (.int now1), some (.int (many1 : Nat)), some (.int t), none] ∧ Ex H13 H', ?_, ?_⟩
        · refine ⟨_, rfl, _, rfl, p, _, rfl, .inl (SqL.of (rs13.g.e _ _ (rs13.g.eB _ _ hp0))), _, _, rfl, rfl, _, rfl, itc (fun c1 => ?_) (fun c1 => ?_)⟩
          · obtain ⟨x, tt, h1, h2, h3⟩ := lat many1 (by have := of_decide_eq_true c1; omega)
            rw [h1] at et
            have et2 : t = minI (steadyI u c.len d) (x.1 - now1) := et
            refine ⟨_, rfl, _, rfl, _, rfl, _, _, _, _, rfl, rfl, SqL.of (rs13.g.e _ _ hq7), atI_nat h2, _, _, _, _, rfl, rfl, SqT.of (rs13.g.e _ _ h3), rfl, _, rfl, _, _, rfl, rfl, _, _, rfl, ?_⟩
            exact ⟨by rw [et2]; rfl, Evl.Ex.refl _⟩
          · have e0 : later[many1]? = none := List.getElem?_eq_none (by have := of_decide_eq_false c1; have := L.len; omega)
            rw [e0] at et
            have et2 : t = steadyI u c.len d := et
            exact ⟨by rw [et2]; rfl, Evl.Ex.refl _⟩
        rintro σ' H14 ⟨rfl, e14⟩
        have rs14 := rs13.ex e14
        refine ⟨_, rfl, _, rfl, _, rfl, _, rfl, _, rfl, _, _, rfl, rfl, B7, tl, ts, s.told, pl, now1, now1 + t, rfl, rs14.g.e, rs14.bt, rs14.ht, rs14.pt, by have := told_small G Rp L rch; omega, fun B8 H15 ts' gx b8t h15t pt8 => ?_⟩
        have rs15 := rs14.sett nt0 ndt nwt gx b8t h15t pt8
        have x8 : Ex B3 B8 := x7.trans gx.eB
        have lpl : pl < s.dones.length := (List.getElem?_eq_some_iff.mp hd).1
        refine ⟨_, rfl, _, rfl, dl, _, pl, _, rfl, rfl, SqL.of rs15.hd, edn, _, rfl, _, _, rfl, rfl, dl, _, _, pl, rfl, rfl, rs15.hd, ixN_nat (by rw [List.length_map]; exact lpl), ?_⟩
        have es : (s.dones.map V.int).set pl (.int (d + t)) = (s.dones.set pl (d + t)).map V.int := by rw [List.map_set]
        rw [es]
        have rs16 := rs15.setd nd0 ndw ndt (s.dones.set pl (d + t))
        generalize upd H15 dl (.lst ((s.dones.set pl (d + t)).map V.int)) = H16 at rs16 ⊢
        refine ⟨_, rfl, _, rfl, _, _, rfl, rfl, ?_⟩
        have edn2 : ((s.dones.set pl (d + t)).map V.int)[pl]? = some (.int (d + t)) := by
          rw [List.getElem?_map, List.getElem?_set, if_pos rfl, if_pos lpl]
          rfl
        have rch' := rch.step (.mk s now1 many1 wait1 pl i c u d t hcond en1 (by omega) lem arr hstop ew1 hpl hleast hc hi hu hd et)
        have lt' := mu_lt (inv_step Rp L I (.mk s now1 many1 wait1 pl i c u d t hcond en1 (by omega) lem arr hstop ew1 hpl hleast hc hi hu hd et)) (sum_set s.dones pl d t hd) Tn.t1
        refine ⟨_, rfl, _, rfl, _, _, _, _, rfl, rfl, SqL.of rs16.hd, atI_nat edn2, _, rfl, _, rfl, _, _, _, _, rfl, rfl, SqL.of (rs16.g.e _ _ (rs16.g.eB _ _ hp0)), atI_nat hcv, _, _, _, _, rfl, rfl, SqT.of (rs16.g.e _ _ (rs16.g.eB _ _ hqc)), rfl, rfl, _, rfl, ?_⟩
        refine itc (fun c1 => ?_) (fun c1 => ?_)
        · have eq1 : d + t = c.len := V.int.inj (of_decide_eq_true c1)
          have lj0 : wait1.idxOf pl < wait1.length := List.idxOf_lt_length_iff.mpr hpl
          refine ⟨_, rfl, .inl ⟨rfl, _, SqL.of rs16.hw⟩, _, rfl, wl, nInts wait1, _, wait1.idxOf pl, rfl, rfl, rs16.hw, nInts_at (by rw [List.getElem?_eq_getElem lj0, List.getElem_idxOf lj0]), fun m hm hz => ?_, ?_⟩
          · unfold nInts at hz
            rw [List.getElem?_map] at hz
            have lm : m < wait1.length := by omega
            rw [List.getElem?_eq_getElem lm] at hz
            have e2 : wait1[m] = pl := by
              have hz2 : ((wait1[m] : Nat) : Int) = ((pl : Nat) : Int) := Option.some.inj hz
              omega
            have e3 := Tn.wnd.idxOf_getElem m lm
            rw [e2] at e3
            omega
          · have e4 : (nInts wait1).eraseIdx (wait1.idxOf pl) = nInts (wait1.erase pl) := by
              unfold nInts
              rw [erase_map, List.erase_eq_eraseIdx_of_idxOf rfl]
            rw [e4]
            have rs17 := rs16.setw nw0 ndw nwt (wait1.erase pl)
            refine ⟨_, lt', _, B8, ts', _, _, rch', rfl, ?_, x8, rfl⟩
            show RS K B H B8 _ dl wl tl (s.dones.set pl (d + t)) (if d + t = c.len then wait1.erase pl else wait1) ts' (bput s.told pl now1 (now1 + t))
            rw [if_pos eq1]
            exact rs17
        · have ne1 : ¬ d + t = c.len := fun z => absurd (congrArg V.int z) (of_decide_eq_false c1)
          refine ⟨_, lt', _, B8, ts', _, _, rch', rfl, ?_, x8, rfl⟩
          show RS K B H B8 _ dl wl tl (s.dones.set pl (d + t)) (if d + t = c.len then wait1.erase pl else wait1) ts' (bput s.told pl now1 (now1 + t))
          rw [if_neg ne1]
          exact rs16
    · intro hb H8 e8
      have hb' := Bool.or_eq_false_iff.mp hb
      have h1 := of_decide_eq_false hb'.1
      have h2 : nInts s.wait = [] := by simpa using hb'.2
      have h3 : s.wait = [] := List.map_eq_nil_iff.mp h2
      have rs8 := rs.ex e8
      exact ⟨_, rfl, k _ _ _ later s L rch (by omega) h3 (rs8.g.freeze nt0 rs8.bt rs8.ht (by intro _ z; cases z)) ⟨tl, ts, rfl, upd_same, L2.Paired.mapP rs8.pt fun _ _ z => z.mono (ex_up rs8.bt)⟩⟩
end
end Dty
set_option Elab.async false
set_option linter.all false
set_option maxRecDepth 100000
set_option maxHeartbeats 4000000
namespace Dty
open PySem PySem.Spec PyProof.Rows L2 Dq TL NdefX LamX
/-- the lines of all works -/
def LinesV (B : Hp) (v : V) (rs : List Int) : Prop := ∃ l, v = .ref l ∧ B l = some (.lst (rs.map V.int))
structure AllAns (ws : List Wk) (rs : List Int) : Prop where
  len : rs.length = ws.length
  at_ : ∀ (j : Nat) (u : Wk) (L : Int), ws[j]? = some u → rs[j]? = some L → Ans ws j u (some L)
theorem qy_suite {X : Cx} {k j : Nat} {a : Addr} {oe : Obj} {cls : Value} {d : Option Addr} {pn : List (Addr × Obj)} (hr : Room k X.A) (h : j ≤ k) (hz : L2N.Zn cls d oe) (hf : ∃ vs, oe.data = .fields vs) : Qy j (X.suite a ((a, oe) :: pn)) := by
  obtain ⟨vs, e⟩ := hf
  refine .inr ⟨⟨(a, oe), ⟨rfl, vs, e, hz.2.2 vs e⟩, List.mem_cons_self⟩, ?_⟩
  have r := hr.mono h
  exact ⟨r.dp, r.un⟩
section
variable {P : Program} {w : World} {K : PySem.W.Frag} {mg : Str → Option Value} {base : Heap}
abbrev N_NotKept_init : List Str := ["self", "at"]
theorem sc_NotKept_init : FnScope N_NotKept_init ["self", "at"] (defScope s_NotKept_init) := ⟨rfl, rfl, rfl, by decide +kernel, rfl, by decide +kernel, by decide +kernel⟩
abbrev N_paper : List Str := ["duty", "found", "at", "line"]
theorem sc_paper : FnScope N_paper ["duty"] (defScope s_paper) := ⟨rfl, rfl, rfl, by decide +kernel, rfl, by decide +kernel, by decide +kernel⟩
abbrev N_judge_ranks : List Str := ["duty", "lines", "e", "row", "place"]
theorem sc_judge_ranks : FnScope N_judge_ranks ["duty"] (defScope s_judge_ranks) := ⟨rfl, rfl, rfl, by decide +kernel, rfl, by decide +kernel, by decide +kernel⟩
abbrev N_Kept_init : List Str := ["self", "lines"]
theorem sc_Kept_init : FnScope N_Kept_init ["self", "lines"] (defScope s_Kept_init) := ⟨rfl, rfl, rfl, by decide +kernel, rfl, by decide +kernel, by decide +kernel⟩
abbrev N_Kept_kept : List Str := ["self"]
theorem sc_Kept_kept : FnScope N_Kept_kept ["self"] (defScope s_Kept_kept) := ⟨rfl, rfl, rfl, by decide +kernel, rfl, by decide +kernel, by decide +kernel⟩
abbrev N_Kept_told : List Str := ["self", "line"]
theorem sc_Kept_told : FnScope N_Kept_told ["self"] (defScope s_Kept_told) := ⟨rfl, rfl, rfl, by decide +kernel, rfl, by decide +kernel, by decide +kernel⟩
abbrev N_Verdict_kept : List Str := ["self"]
theorem sc_Verdict_kept : FnScope N_Verdict_kept ["self"] (defScope s_Verdict_kept) := ⟨rfl, rfl, rfl, by decide +kernel, rfl, by decide +kernel, by decide +kernel⟩
abbrev N_Broken_init : List Str := ["self", "row", "place", "turn"]
theorem sc_Broken_init : FnScope N_Broken_init ["self", "row", "place", "turn"] (defScope s_Broken_init) := ⟨rfl, rfl, rfl, by decide +kernel, rfl, by decide +kernel, by decide +kernel⟩
abbrev N_Broken_told : List Str := ["self"]
theorem sc_Broken_told : FnScope N_Broken_told ["self"] (defScope s_Broken_told) := ⟨rfl, rfl, rfl, by decide +kernel, rfl, by decide +kernel, by decide +kernel⟩
abbrev N_broken_by : List Str := ["duty", "row", "place"]
theorem sc_broken_by : FnScope N_broken_by ["duty", "row", "place"] (defScope s_broken_by) := ⟨rfl, rfl, rfl, by decide +kernel, rfl, by decide +kernel, by decide +kernel⟩
def sp_NotKept_init (K : PySem.W.Frag) : Sp := fun vs H Q _ => ∃ (a : Addr) (i : Int), vs = [.ref a, .int i] ∧ H a = some (exo a (He.ga K "NotKept") none) ∧ ∀ dx, H dx = none → dx ≠ a → Q .non (upd (upd H dx (exd dx [("at", .int i)])) a (exo a (He.ga K "NotKept") (some dx)))
theorem ok_NotKept_init (T : Says K mg) : FnOk P w K mg base CX0 1 (He.fAd K d_NotKept_init.at_) (fdOf K d_NotKept_init.at_) ["self", "at"] (sp_NotKept_init K) := by
  refine (F_NotKept_init T).ok sc_NotKept_init (fun vs H Q E h => ?_) (fun cdv A outer s H vs Q E hr h => ?_)
  · obtain ⟨_, _, rfl, _⟩ := h
    rfl
  · refine ⟨_, PSs.nox (pss_one (ps_ost (pv 0) (pv 1))), ?_⟩
    obtain ⟨a, i, rfl, ha, k⟩ := h
    exact ⟨_, rfl, _, rfl, a, _, rfl, oex T, n_NotKept_at T, .inl ⟨ha, k⟩⟩
def sp_paper (K : PySem.W.Frag) : Sp := fun vs H Q E => ∃ (B : Hp) (v : V) (ws : List Wk), vs = [v] ∧ Ex B H ∧ DtV K B v ws ∧ Good ws ∧ (∀ x rs B' H', Gr B H B' H' → AllAns ws rs → LinesV B' x rs → Q x H') ∧
  ∀ (i : Nat) (u : Wk) (dd : Addr) H', ws[i]? = some u → Ans ws i u none → Ex H H' → H' dd = some (.xd [("at", .int (i : Nat))]) → E (.ref (He.ga K "NotKept")) (some dd) H'
theorem ok_paper (T : Says K mg) : FnOk P w K mg base (L2N.CX P w) 6 (He.fAd K d_paper.at_) (fdOf K d_paper.at_) ["duty"] (sp_paper K) := by
  refine (F_paper T).ok sc_paper (fun vs H Q E h => ?_) (fun cdv A outer s H vs Q E hr h => ?_)
  · obtain ⟨_, _, _, rfl, _⟩ := h
    rfl
  · have tk := L2N.takes_of (X := cxOf (L2N.CX P w) P w K mg base N_paper "paper" (defScope s_paper) (He.fAd K d_paper.at_) cdv A outer s H E) rfl rfl rfl rfl
    refine ⟨_, (pss_cons (ps_set (i := 1) sc_paper.nd rfl (Or.inl rfl) (pe_lst pa_nil)) (pss_cons (ps_for PassesOwn.leaving rfl (pi_range1 (by rfl) (f_range T) (pa_cons (pe_meth0 (pv 0) (c_Duty T) (m_Duty_size T) (ok_Duty_size T).ok (hr.mono (by decide)) (b_Duty_size T) .nil pass0) pa_nil)) (pg_name (i := 2) sc_paper.nd rfl (Or.inl rfl)) (pss_cons (ps_set (i := 3) sc_paper.nd rfl (Or.inl rfl) (pe_call (ok_answer T).ok (hr.mono (by decide)) rfl (g_answer T) (F_answer T).kp (b_answer T) .nil pass0 (pa_cons (pv 0) (pa_cons (pv 2) pa_nil)))) (pss_cons (ps_if (pt_cmpR op_isN (pv 3) pe_non (nomark _)) (pss_one (L2N.ps_raise rfl tk (pmk_oexN (oex T) (exi T).1 (exi T).2 (ok_NotKept_init T) (hr.mono (by decide)) (b_NotKept_init T) pass0 rfl (g_NotKept T) (pa_cons (pv 2) pa_nil)))) pss_nil) (pss_one (ps_expr (pe_bm PySem.F.plainAttrs_list PySem.F.slot_list_append PySem.F.type_list_append mt_append (pv 1) (pa_cons (pv 3) pa_nil))))))) (pss_one (ps_ret (pv 1))))), ?_⟩
    obtain ⟨B, _, ws, rfl, eB, D, G, kq, ke⟩ := h
    obtain ⟨a, dx, wl, nd, xs, rfl, ha, hl, hp, hn⟩ := id D
    have few := G.few
    refine ⟨by decide, fun l nl => ?_⟩
    have bl : B l = none := ex_none eB nl
    refine ⟨_, rfl, a, dx, _, rfl, ex_up nl _ _ (eB _ _ ha), rfl, _, ws, rfl, (D.mono eB).mono (ex_up nl), _, rfl, by omega, by omega, ?_⟩
    refine for_range (fun j σ H' => ∃ (x y : Option V) (rs : List Int), σ = [some (.ref a), some (.ref l), x, y] ∧ Ex H H' ∧ H' l = some (.lst (rs.map V.int)) ∧ rs.length = j ∧ ∀ (i : Nat) (u : Wk) (L : Int), ws[i]? = some u → rs[i]? = some L → Ans ws i u (some L)) ⟨_, _, [], rfl, ex_up nl, upd_same, rfl, fun i u L _ z => by cases z⟩ ?_ ?_
    · rintro j σ H1 hj ⟨x, y, rs, rfl, e1, h1, lr, an⟩
      have hj' : j < ws.length := by omega
      obtain ⟨u, hu⟩ : ∃ u, ws[j]? = some u := ⟨_, List.getElem?_eq_getElem hj'⟩
      have ej : ((0 : Int) + (j : Int)) = ((j : Nat) : Int) := by omega
      refine ⟨_, rfl, _, rfl, _, ws, j, u, by rw [ej]; rfl, D.mono (eB.trans e1), G, hu, fun r H2 e2 ar => ?_⟩
      refine ⟨_, rfl, rfl, _, rfl, ?_⟩
      cases r with
      | none =>
        refine itT rfl ⟨_, rfl, by show 1 ≤ 1000; decide, fun q nq => ?_⟩
        refine ⟨q, _, rfl, upd_same, fun dd ndd ne => ⟨rfl, dd, _, upd_same, (upd_ne ne).trans upd_same, ?_, ?_⟩⟩
        · by_cases c : dd = q
          · exact absurd c ne
          · rw [upd_ne c] at ndd
            exact ndd
        · rw [ej]
          have ndd2 : H2 dd = none := by rw [upd_ne ne] at ndd; exact ndd
          refine ke j u dd _ hu ar (fun b o hb => ?_) upd_same
          have hb2 := e2 _ _ (e1 _ _ hb)
          have b1 : b ≠ q := ne_of_none hb2 nq
          have b2 : b ≠ dd := ne_of_none hb2 ndd2
          rw [upd_ne b2]
          unfold del
          rw [if_neg b1, upd_ne b1, upd_ne b2, upd_ne b1]
          exact hb2
      | some L =>
        refine itF rfl ⟨_, rfl, .inl ⟨rfl, _, SqL.of (e2 _ _ h1)⟩, _, rfl, l, _, _, rfl, rfl, e2 _ _ h1, ?_, ?_⟩
        · rw [List.length_map]
          exact Evl.sz_lt (by omega)
        · refine ⟨_, _, rs ++ [L], rfl, (e1.trans e2).mut nl, by rw [upd_same, List.map_append]; rfl, by rw [List.length_append, lr]; rfl, fun i u' L' hi hL => ?_⟩
          rcases Nat.lt_or_ge i rs.length with z | z
          · rw [List.getElem?_append_left z] at hL
            exact an i u' L' hi hL
          · have ei : i = j := by
              have := (List.getElem?_eq_some_iff.mp hL).1
              rw [List.length_append, List.length_singleton] at this
              omega
            subst ei
            rw [List.getElem?_append_right z, show i - rs.length = 0 by omega] at hL
            cases hL
            rw [hu] at hi
            cases hi
            exact ar
    · rintro σ H1 ⟨x, y, rs, rfl, e1, h1, lr, an⟩
      have g1 : Gr B H B H1 := (Gr.refl eB).heap e1
      exact ⟨_, rfl, kq _ rs _ _ (g1.freeze nl bl h1) ⟨by omega, an⟩ ⟨l, rfl, upd_same⟩⟩
def KeptV (K : PySem.W.Frag) (B : Hp) (x : V) (rs : List Int) : Prop := ∃ a dx l, x = .ref a ∧ B a = some (.ins (He.ga K "Kept") dx [("lines", .ref l)]) ∧ B l = some (.lst (rs.map V.int))
def brFs (l : Addr) (place : Nat) (turn : Int) : List (Str × V) := [("row", .ref l), ("place", .int (place : Nat)), ("turn", .int turn)]
def BrokenV (K : PySem.W.Frag) (B : Hp) (x : V) (row : List Cm) (place : Nat) (turn : Int) : Prop := ∃ a dx l cs, x = .ref a ∧ B a = some (.ins (He.ga K "Broken") dx (brFs l place turn)) ∧ B l = some (.lst cs) ∧ Paired (CmV B) cs row
def sp_Kept_init (K : PySem.W.Frag) : Sp := fun vs H Q _ => ∃ (B H0 : Hp) (x dx : Addr) (lv : V) (rs : List Int), vs = [.ref x, lv] ∧ Gr B H0 B H ∧ H0 x = none ∧ B x = none ∧ H x = some (.ins (He.ga K "Kept") dx []) ∧ LinesV B lv rs ∧ ∀ B' H', Gr B H0 B' H' → KeptV K B' (.ref x) rs → Q .non H'
theorem ok_Kept_init (T : Says K mg) : FnOk P w K mg base CX0 1 (He.fAd K d_Kept_init.at_) (fdOf K d_Kept_init.at_) ["self", "lines"] (sp_Kept_init K) := by
  refine (F_Kept_init T).ok sc_Kept_init (fun vs H Q E h => ?_) (fun cdv A outer s H vs Q E hr h => ?_)
  · obtain ⟨_, _, _, _, _, _, rfl, _⟩ := h
    rfl
  · refine ⟨_, PSs.nox (pss_one (ps_fld (pv 0) (pe_callTy call_list_of (by rfl) (f_list T) (by decide +kernel) (pa_cons (pv 1) pa_nil)) rfl)), ?_⟩
    obtain ⟨B, H0, x, dx, _, rs, rfl, g, nx, bx, hx, ⟨l0, rfl, hl0⟩, k⟩ := h
    refine ⟨_, rfl, l0, _, rfl, .inl (SqL.of (g.e _ _ hl0)), fun l nl => ?_⟩
    have nxl : x ≠ l := ne_of_none hx nl
    have bl : B l = none := ex_none g.e nl
    refine ⟨_, rfl, x, _, dx, [], rfl, (upd_ne nxl).trans hx, c_Kept T, n_Kept_lines T, (show 0 < 1000 by decide), ?_⟩
    have g1 := ((g.new (o := .lst (rs.map V.int)) nl).write (o := .ins (He.ga K "Kept") dx [("lines", .ref l)]) nx (by rw [upd_ne nxl]; exact bx)).freeze nx (by rw [upd_ne nxl]; exact bx) upd_same
    exact k _ _ g1 ⟨x, dx, l, rfl, upd_same, (upd_ne nxl.symm).trans upd_same⟩
theorem br_put2 {l : Addr} {p : Nat} : putF "place" (.int (p : Nat)) ([("row", .ref l)] : List (Str × V)) = ([("row", .ref l), ("place", .int (p : Nat))] : List (Str × V)) := putF_new (show ("place" : Str) ∉ (["row"] : List Str) by decide +kernel)
theorem br_put3 {l : Addr} {p : Nat} {t : Int} : putF "turn" (.int t) ([("row", .ref l), ("place", .int (p : Nat))] : List (Str × V)) = brFs l p t := putF_new (show ("turn" : Str) ∉ (["row", "place"] : List Str) by decide +kernel)
def sp_Broken_init (K : PySem.W.Frag) : Sp := fun vs H Q _ => ∃ (B H0 : Hp) (x dx : Addr) (rv : V) (row : List Cm) (p : Nat) (t : Int), vs = [.ref x, rv, .int (p : Nat), .int t] ∧ Gr B H0 B H ∧ H0 x = none ∧ B x = none ∧ H x = some (.ins (He.ga K "Broken") dx []) ∧ RowV B rv row ∧ ∀ B' H', Gr B H0 B' H' → BrokenV K B' (.ref x) row p t → Q .non H'
theorem ok_Broken_init (T : Says K mg) : FnOk P w K mg base CX0 1 (He.fAd K d_Broken_init.at_) (fdOf K d_Broken_init.at_) ["self", "row", "place", "turn"] (sp_Broken_init K) := by
  refine (F_Broken_init T).ok sc_Broken_init (fun vs H Q E h => ?_) (fun cdv A outer s H vs Q E hr h => ?_)
  · obtain ⟨_, _, _, _, _, _, _, _, rfl, _⟩ := h
    rfl
  · refine ⟨_, PSs.nox (pss_cons (ps_fld (pv 0) (pe_callTy call_list_of (by rfl) (f_list T) (by decide +kernel) (pa_cons (pv 1) pa_nil)) rfl) (pss_cons (ps_fld (pv 0) (pv 2) rfl) (pss_one (ps_fld (pv 0) (pv 3) rfl)))), ?_⟩
    obtain ⟨B, H0, x, dx, _, row, p, t, rfl, g, nx, bx, hx, ⟨l0, cs, rfl, hl0, pr⟩, k⟩ := h
    refine ⟨_, rfl, l0, _, rfl, .inl (SqL.of (g.e _ _ hl0)), fun l nl => ?_⟩
    have nxl : x ≠ l := ne_of_none hx nl
    have bl : B l = none := ex_none g.e nl
    have b1x : upd B l (.lst cs) x = none := by rw [upd_ne nxl]; exact bx
    refine ⟨_, rfl, x, _, dx, [], rfl, (upd_ne nxl).trans hx, c_Broken T, n_Broken_row T, (show 0 < 1000 by decide), ?_⟩
    have g1 := (g.new (o := .lst cs) nl).write (o := .ins (He.ga K "Broken") dx [("row", .ref l)]) nx b1x
    refine ⟨_, rfl, _, rfl, x, _, dx, _, rfl, upd_same, c_Broken T, n_Broken_place T, (show 1 < 1000 by decide), ?_⟩
    have g2 := g1.write (o := .ins (He.ga K "Broken") dx (putF "place" (.int (p : Nat)) ([("row", .ref l)] : List (Str × V)))) nx b1x
    refine ⟨_, rfl, _, rfl, x, _, dx, ([("row", .ref l), ("place", .int (p : Nat))] : List (Str × V)), rfl, (by rw [← br_put2]; exact upd_same), c_Broken T, n_Broken_turn T, (show 2 < 1000 by decide), ?_⟩
    rw [br_put3]
    have g3 := (g2.write (o := .ins (He.ga K "Broken") dx (brFs l p t)) nx b1x).freeze nx b1x upd_same
    refine k _ _ g3 ⟨x, dx, l, cs, rfl, upd_same, (upd_ne nxl.symm).trans upd_same, L2.Paired.mapP pr fun _ _ z => (z.mono (ex_up bl)).mono (ex_up b1x)⟩
def sp_broken_by (K : PySem.W.Frag) : Sp := fun vs H Q _ => ∃ (B : Hp) (v rv : V) (ws : List Wk) (row : List Cm) (p i : Nat) (c : Cm) (u : Wk), vs = [v, rv, .int (p : Nat)] ∧ Ex B H ∧ DtV K B v ws ∧ RowV B rv row ∧ row[p]? = some c ∧ c.who = (i : Nat) ∧ ws[i]? = some u ∧ ∀ x B' H', Gr B H B' H' → BrokenV K B' x row p (c.come + u.due) → Q x H'
theorem ok_broken_by (T : Says K mg) : FnOk P w K mg base CX0 3 (He.fAd K d_broken_by.at_) (fdOf K d_broken_by.at_) ["duty", "row", "place"] (sp_broken_by K) := by
  refine (F_broken_by T).ok sc_broken_by (fun vs H Q E h => ?_) (fun cdv A outer s H vs Q E hr h => ?_)
  · obtain ⟨_, _, _, _, _, _, _, _, _, rfl, _⟩ := h
    rfl
  · refine ⟨_, PSs.nox (pss_one (ps_ret (pe_make (k_Broken T) (ok_Broken_init T) (hr.mono (by decide)) rfl (g_Broken T) (b_Broken_init T) .nil pass0 (pa_cons (pv 1) (pa_cons (pv 2) (pa_cons (pe_call (ok_due_at T) (hr.mono (by decide)) rfl (g_due_at T) (F_due_at T).kp (b_due_at T) .nil pass0 (pa_cons (pv 0) (pa_cons (pe_ix ix_list (pv 1) (pv 2) (fun _ _ => rfl)) pa_nil))) pa_nil)))))), ?_⟩
    obtain ⟨B, _, _, ws, row, p, i, c, u, rfl, eB, D, ⟨l0, cs, rfl, hl0, pr⟩, hc, hi, hu, k⟩ := h
    obtain ⟨cv, hcv, hx⟩ := paired_at pr hc
    refine ⟨_, rfl, _, rfl, _, rfl, _, rfl, _, rfl, _, _, _, _, rfl, rfl, SqL.of (eB _ _ hl0), atI_nat hcv, _, _, ws, c, i, u, rfl, D.mono eB, hx.mono eB, hi, hu, ?_⟩
    intro x dx nx ndx ne
    have g1 := gr_make (o := .own x) (o' := .ins (He.ga K "Broken") dx []) (Gr.refl eB) nx ndx ne
    exact ⟨B, H, x, dx, .ref l0, row, p, _, rfl, g1, nx, ex_none eB nx, upd_same, ⟨l0, cs, rfl, hl0, pr⟩, fun B' H' g W => ⟨rfl, k _ B' H' g W⟩⟩
theorem hard_at (ws : List Wk) (a : Nat) (u : Wk) (r : Option Int) (o : Option (Nat × Int)) : (hardRow ws a u r o)[hardPlace o]? = some ⟨a, hardStart ws a o - u.late, u.late, u.len⟩ := by
  cases o with
  | none => rfl
  | some jn => rfl
def sp_judge_ranks (K : PySem.W.Frag) : Sp := fun vs H Q _ => ∃ (B : Hp) (v : V) (ws : List Wk), vs = [v] ∧ Ex B H ∧ DtV K B v ws ∧ Good ws ∧ (∀ x rs B' H', Gr B H B' H' → AllAns ws rs → KeptV K B' x rs → Q x H') ∧
  ∀ x (i : Nat) u o B' H', Gr B H B' H' → ws[i]? = some u → Ans ws i u none → Blk ws i o → BrokenV K B' x (hardRow ws i u none o) (hardPlace o) (hardStart ws i o - u.late + u.due) → Q x H'
theorem ok_judge_ranks (T : Says K mg) : FnOk P w K mg base CX0 7 (He.fAd K d_judge_ranks.at_) (fdOf K d_judge_ranks.at_) ["duty"] (sp_judge_ranks K) := by
  refine (F_judge_ranks T).ok sc_judge_ranks (fun vs H Q E h => ?_) (fun cdv A outer s H vs Q E hr h => ?_)
  · obtain ⟨_, _, _, rfl, _⟩ := h
    rfl
  · refine ⟨_, PSs.nox (pss_cons (ps_try_asE (n := "e") (i := 2) (c := .ref (He.ga K "NotKept")) rfl rfl sc_judge_ranks.nd rfl rfl ⟨rfl, by decide, .inl (g_NotKept T)⟩
        (pss_one (ps_ret (pe_make (k_Kept T) (ok_Kept_init T) (hr.mono (by decide)) rfl (g_Kept T) (b_Kept_init T) .nil pass0 (pa_cons (pv 1) pa_nil))))
        (fun W pn xe tk _ => pss_one (ps_set (i := 1) sc_judge_ranks.nd rfl (Or.inl rfl) (pe_callS (E := WE W) (ok_paper T) (hr.mono (by decide)) rfl (g_paper T) (F_paper T).kp (b_paper T) (fun σ => L2N.passAt tk σ) (pa_cons (pv 0) pa_nil))))
        (fun a oe cls d pn hz hf => pss_one (ps_asg (pe_callQ (ok_hardest T) (qy_suite hr (by decide) hz hf) rfl (g_hardest T) (F_hardest T).kp (b_hardest T) (pa_cons (pv 0) (pa_cons (pe_xf (xfc T) (n_NotKept_at T) hz.zc hf (pv 2)) pa_nil))) (show PG _ _ (gTup K 2 _) from pg_tupQ (Dq.Qy.x (k := 6) (qy_suite (X := (cxOf CX0 P w K mg base N_judge_ranks "judge_ranks" (defScope s_judge_ranks) (He.fAd K d_judge_ranks.at_) cdv A outer s H E).nox) (a := a) (oe := oe) (pn := pn) hr (Nat.le_refl 6) hz hf)) (pgs_cons (pg_name (i := 3) sc_judge_ranks.nd rfl (Or.inl rfl)) (pgs_cons (pg_name (i := 4) sc_judge_ranks.nd rfl (Or.inl rfl)) pgs_nil))))))
      (pss_one (ps_ret (pe_call (ok_broken_by T) (hr.mono (by decide)) rfl (g_broken_by T) (F_broken_by T).kp (b_broken_by T) .nil pass0 (pa_cons (pv 0) (pa_cons (pv 3) (pa_cons (pv 4) pa_nil))))))), ?_⟩
    obtain ⟨B, _, ws, rfl, eB, D, G, kk, kb⟩ := h
    refine ⟨_, rfl, B, _, ws, rfl, eB, D, G, fun x rs B1 H1 g1 al lv => ?_, fun i u dd H1 hu an e1 hdd => ?_⟩
    · refine ⟨_, rfl, ?_⟩
      intro y dx ny ndx ne
      have g2 := gr_make (o := .own y) (o' := .ins (He.ga K "Kept") dx []) (Gr.refl g1.e) ny ndx ne
      exact ⟨B1, H1, y, dx, x, rs, rfl, g2, ny, ex_none g1.e ny, upd_same, lv, fun B' H' g W => ⟨rfl, kk _ rs B' H' (g1.trans g) al W⟩⟩
    · refine ⟨x_NotKept T, fun a na => ?_⟩
      have eB1 := eB.trans e1
      refine ⟨_, rfl, _, rfl, rfl, rfl, dd, _, _, rfl, hdd, rfl, B, _, ws, i, u, rfl, eB1, D, G, hu, fun x B2 H2 r o ar bl g2 hv => ?_⟩
      obtain rfl := ans_uniq an ar
      obtain ⟨q, l, rfl, hq, rv⟩ := hv
      refine ⟨q, _, rfl, SqT.of (g2.e _ _ hq), rfl, _, _, rfl, _, _, rfl, rfl, ?_⟩
      refine ⟨_, rfl, _, rfl, _, rfl, B2, _, _, ws, _, hardPlace o, i, _, u, rfl, g2.e, D.mono g2.eB, rv, hard_at ws i u none o, rfl, hu, fun x B3 H3 g3 W => ?_⟩
      exact kb x i u o B3 H3 ((((Gr.refl eB).heap e1).trans g2).trans g3) hu an bl W
end
end Dty
set_option Elab.async false
set_option linter.all false
set_option maxRecDepth 100000
set_option maxHeartbeats 4000000
namespace Dty
open PySem
/-! ### the hardest row is a row -/
def flat (ws : List Wk) (S til : Int) (a : Nat) : List Cm := (List.range a).flatMap (hardOne ws S til)
theorem flat_succ (ws : List Wk) (S til : Int) (a : Nat) : flat ws S til (a + 1) = flat ws S til a ++ hardOne ws S til a := by
  unfold flat
  rw [List.range_succ, List.flatMap_append]
  simp
theorem mem_one {ws : List Wk} {S til : Int} {j : Nat} {c : Cm} (h : c ∈ hardOne ws S til j) : ∃ (w : Wk) (k : Nat), ws[j]? = some w ∧ c = earlyCm j w S k ∧ k < (ci w (til - S)).toNat := by
  unfold hardOne at h
  cases e : ws[j]? with
  | none =>
    rw [e] at h
    cases h
  | some w =>
    rw [e] at h
    obtain ⟨k, hk, rfl⟩ := List.mem_map.mp h
    exact ⟨w, k, rfl, rfl, List.mem_range.mp hk⟩
theorem mem_flat {ws : List Wk} {S til : Int} {a : Nat} {c : Cm} (h : c ∈ flat ws S til a) : ∃ (j : Nat) (w : Wk) (k : Nat), j < a ∧ ws[j]? = some w ∧ c = earlyCm j w S k ∧ k < (ci w (til - S)).toNat := by
  obtain ⟨j, hj, hc⟩ := List.mem_flatMap.mp h
  obtain ⟨w, k, e, z, l⟩ := mem_one hc
  exact ⟨j, w, k, List.mem_range.mp hj, e, z, l⟩
theorem early_rd (j : Nat) (w : Wk) (S : Int) (k : Nat) : rdC (earlyCm j w S k) = maxI S (S - w.late + k * w.gap) := by
  unfold rdC earlyCm maxI
  show S - w.late + k * w.gap + (if S - (S - w.late + k * w.gap) > 0 then S - (S - w.late + k * w.gap) else 0) = _
  split <;> split <;> omega
theorem one_len {ws : List Wk} {S til : Int} {n : Nat} (h : ∀ w ∈ ws, (ci w (til - S)).toNat ≤ n) (j : Nat) : (hardOne ws S til j).length ≤ n := by
  unfold hardOne
  cases e : ws[j]? with
  | none => exact Nat.zero_le _
  | some w =>
    show ((List.range _).map _).length ≤ n
    rw [List.length_map, List.length_range]
    exact h w (List.mem_of_getElem? e)
theorem flat_len {ws : List Wk} {S til : Int} {n : Nat} (h : ∀ w ∈ ws, (ci w (til - S)).toNat ≤ n) : ∀ a : Nat, (flat ws S til a).length ≤ n * a
  | 0 => Nat.zero_le _
  | a + 1 => by
    rw [flat_succ, List.length_append]
    have z1 := flat_len h a
    have z2 := one_len h a
    rw [Nat.mul_succ]
    omega
def spaced (ws : List Wk) (c d : Cm) : Prop := ∀ (i : Nat) (u : Wk), c.who = (i : Nat) → d.who = (i : Nat) → ws[i]? = some u → c.come + u.gap ≤ d.come
theorem one_spaced {ws : List Wk} (G : Good ws) (S til : Int) (j : Nat) : (hardOne ws S til j).Pairwise (spaced ws) := by
  unfold hardOne
  cases e : ws[j]? with
  | none => exact List.Pairwise.nil
  | some w =>
    show ((List.range _).map _).Pairwise _
    rw [List.pairwise_map]
    refine List.Pairwise.imp ?_ List.pairwise_lt_range
    intro k l kl i u hi _ hu
    have hi' : ((j : Nat) : Int) = (i : Nat) := hi
    have ej : j = i := by omega
    subst ej
    rw [e] at hu
    have ew : w = u := Option.some.inj hu
    subst ew
    have b := G.at e
    have := b.g1
    show S - w.late + k * w.gap + w.gap ≤ S - w.late + l * w.gap
    have z := Int.mul_le_mul_of_nonneg_right (show (k : Int) + 1 ≤ l by omega) (show 0 ≤ w.gap by omega)
    rw [Int.add_mul] at z
    omega
theorem flat_spaced {ws : List Wk} (G : Good ws) (S til : Int) : ∀ a : Nat, (flat ws S til a).Pairwise (spaced ws)
  | 0 => List.Pairwise.nil
  | a + 1 => by
    rw [flat_succ, List.pairwise_append]
    refine ⟨flat_spaced G S til a, one_spaced G S til a, fun c hc d hd i u hi hj _ => ?_⟩
    obtain ⟨j, w, k, lj, _, rfl, _⟩ := mem_flat hc
    obtain ⟨w', k', _, rfl, _⟩ := mem_one hd
    have hi' : ((j : Nat) : Int) = (i : Nat) := hi
    have hj' : ((a : Nat) : Int) = (i : Nat) := hj
    omega
theorem start_late {ws : List Wk} {a : Nat} {o : Option (Nat × Int)} {j : Nat} {w : Wk} (h : ws[j]? = some w) (l : j ≤ a) : w.late ≤ hardStart ws a o := by
  have m : w ∈ ws.take (a + 1) := by
    refine List.mem_of_getElem? (i := j) ?_
    rw [List.getElem?_take, if_pos (by omega)]
    exact h
  have z := late_le m
  cases o with
  | none => exact z
  | some x => exact Int.le_trans z (le_maxI_l _ _)
theorem start_le {ws : List Wk} (G : Good ws) {a : Nat} {o : Option (Nat × Int)} (bl : Blk ws a o) : 0 ≤ hardStart ws a o ∧ hardStart ws a o ≤ 8000000000000001 := by
  have z := lateMax_le G (us := ws.take (a + 1)) fun w h => List.mem_of_mem_take h
  have p := lateMax_pos (ws.take (a + 1))
  cases o with
  | none =>
    show 0 ≤ lateMax _ ∧ lateMax _ ≤ _
    omega
  | some x =>
    obtain ⟨j, n⟩ := x
    obtain ⟨_, v, t, s, e, h2, h3, _, _, _, h7⟩ := bl
    have b := G.at h2
    have hb := b.h2 (t, s, e) (by rw [h3]; exact List.mem_cons_self)
    simp only at hb
    have := b.l2
    refine ⟨Int.le_trans p (le_maxI_l _ _), maxI_le (by omega) (by omega)⟩
/-- what stands in the row -/
inductive InHard (ws : List Wk) (a : Nat) (u : Wk) (r : Option Int) (o : Option (Nat × Int)) : Cm → Prop
  | pre (j : Nat) (n : Int) (e : o = some (j, n)) : InHard ws a u r o ⟨j, hardStart ws a o - n, 0, lenAt ws j⟩
  | main : InHard ws a u r o ⟨a, hardStart ws a o - u.late, u.late, u.len⟩
  | early (j : Nat) (w : Wk) (k : Nat) (l : j < a) (e : ws[j]? = some w) (h : k < (ci w (spanOf u r)).toNat) : InHard ws a u r o (earlyCm j w (hardStart ws a o) k)
theorem in_hard {ws : List Wk} {a : Nat} {u : Wk} {r : Option Int} {o : Option (Nat × Int)} {c : Cm} (h : c ∈ hardRow ws a u r o) : InHard ws a u r o c := by
  unfold hardRow at h
  rcases List.mem_append.mp h with h | h
  · rcases List.mem_append.mp h with h | h
    · cases o with
      | none => cases h
      | some x =>
        obtain ⟨j, n⟩ := x
        have e : c = ⟨j, hardStart ws a (some (j, n)) - n, 0, lenAt ws j⟩ := List.mem_singleton.mp h
        subst e
        exact .pre j n rfl
    · have e := List.mem_singleton.mp h
      subst e
      exact .main
  · obtain ⟨j, w, k, l, e, rfl, hk⟩ := mem_flat (show c ∈ flat ws _ _ a from h)
    refine .early j w k l e ?_
    have z : hardStart ws a o + spanOf u r - hardStart ws a o = spanOf u r := by omega
    rw [z] at hk
    exact hk
theorem hard_numP {ws : List Wk} (G : Good ws) {i : Nat} {u : Wk} {r : Option Int} {o : Option (Nat × Int)} (hu : ws[i]? = some u) (an : Ans ws i u r) (bl : Blk ws i o) : RowQ ws (hardRow ws i u r o) ∧ (hardRow ws i u r o).length ≤ 20 ∧ 0 ≤ hardStart ws i o - u.late ∧ hardStart ws i o ≤ 8000000000000001 := by
  have bu := G.at hu
  obtain ⟨s0, s1⟩ := start_le G bl
  have ul := start_late (o := o) hu (Nat.le_refl _)
  obtain ⟨sp1, sp0⟩ := spanOf_le G hu an
  have mu := List.mem_of_getElem? hu
  have f4 : ∀ w ∈ ws, (ci w (spanOf u r)).toNat ≤ 4 := fun w hw => by
    have := G.four hw mu sp1
    omega
  have ia := (List.getElem?_eq_some_iff.mp hu).1
  have few := G.few
  have e0 : hardStart ws i o + spanOf u r - hardStart ws i o = spanOf u r := by omega
  have fl : (flat ws (hardStart ws i o) (hardStart ws i o + spanOf u r) i).length ≤ 4 * i := flat_len (n := 4) (fun w hw => by rw [e0]; exact f4 w hw) i
  have len20 : (hardRow ws i u r o).length ≤ 20 := by
    have pl : (hardPre ws i o).length ≤ 1 := by
      cases o with
      | none => exact Nat.zero_le _
      | some x => exact Nat.le_refl _
    unfold hardRow
    rw [List.length_append, List.length_append]
    show (hardPre ws i o).length + 1 + (flat ws _ _ i).length ≤ 20
    omega
  refine ⟨⟨fun p c hc => ?_, fun p q c d j w pq hp hq hc hd hw => ?_, by omega, fun z => ?_⟩, len20, by omega, s1⟩
  · cases in_hard (List.mem_of_getElem? hc) with
    | pre j n e =>
      subst e
      obtain ⟨lj, v, t, s, e, h2, h3, _, _, _, h7⟩ := bl
      have b := G.at h2
      have hb := b.h2 (t, s, e) (by rw [h3]; exact List.mem_cons_self)
      simp only at hb
      have ln : lenAt ws j = v.len := by unfold lenAt; rw [h2]
      have sn : n ≤ hardStart ws i (some (j, n)) := le_maxI_r _ _
      have := b.t1; have := b.l1
      refine ⟨?_, ?_, Int.le_refl _, ?_, j, v, rfl, h2, ?_, ?_⟩
      · show 0 ≤ hardStart ws i (some (j, n)) - n
        omega
      · show hardStart ws i (some (j, n)) - n < _
        omega
      · show 1 ≤ lenAt ws j
        omega
      · show 0 ≤ v.late
        omega
      · show lenAt ws j ≤ v.len
        omega
    | main =>
      have := bu.t1; have := bu.l1
      refine ⟨?_, ?_, bu.t1, bu.l1, i, u, rfl, hu, Int.le_refl _, Int.le_refl _⟩
      · show 0 ≤ hardStart ws i o - u.late
        omega
      · show hardStart ws i o - u.late < _
        omega
    | early j w k l e h =>
      have b := G.at e
      have wl := start_late (o := o) e (Nat.le_of_lt l)
      have k4 := f4 w (List.mem_of_getElem? e)
      have := b.t1; have := b.l1; have := b.g1; have := b.g2
      have kg0 := Int.mul_nonneg (show (0 : Int) ≤ k by omega) (show (0 : Int) ≤ w.gap by omega)
      have kg1 := Int.mul_le_mul_of_nonneg_right (show (k : Int) ≤ 3 by omega) (show (0 : Int) ≤ w.gap by omega)
      refine ⟨?_, ?_, le_maxI_l _ _, b.l1, j, w, rfl, e, ?_, Int.le_refl _⟩
      · show 0 ≤ hardStart ws i o - w.late + k * w.gap
        omega
      · show hardStart ws i o - w.late + k * w.gap < _
        omega
      · refine maxI_le b.t1 ?_
        omega
  · have pw : (hardRow ws i u r o).Pairwise (spaced ws) := by
      unfold hardRow
      rw [List.pairwise_append, List.pairwise_append]
      have hpre : ∀ c ∈ hardPre ws i o, ∃ (b : Nat), c.who = (b : Nat) ∧ i < b := fun c hc => by
        cases o with
        | none => cases hc
        | some x =>
          obtain ⟨b, n⟩ := x
          have e : c = ⟨b, hardStart ws i (some (b, n)) - n, 0, lenAt ws b⟩ := List.mem_singleton.mp hc
          subst e
          exact ⟨b, rfl, bl.1⟩
      refine ⟨⟨?_, List.pairwise_singleton _ _, fun c hc d hd k v hi hj _ => ?_⟩, flat_spaced G _ _ i, fun c hc d hd k v hi hj _ => ?_⟩
      · cases o with
        | none => exact List.Pairwise.nil
        | some x => exact List.pairwise_singleton _ _
      · obtain ⟨b, hb, lb⟩ := hpre c hc
        have ed := List.mem_singleton.mp hd
        subst ed
        have hj' : ((i : Nat) : Int) = (k : Nat) := hj
        omega
      · obtain ⟨j, w', k', lj, _, rfl, _⟩ := mem_flat hd
        have hj' : ((j : Nat) : Int) = (k : Nat) := hj
        rcases List.mem_append.mp hc with hc | hc
        · obtain ⟨b, hb, lb⟩ := hpre c hc
          omega
        · have ed := List.mem_singleton.mp hc
          subst ed
          have hi' : ((i : Nat) : Int) = (k : Nat) := hi
          omega
    rw [List.pairwise_iff_getElem] at pw
    obtain ⟨lp, ep⟩ := List.getElem?_eq_some_iff.mp hp
    obtain ⟨lq, eq⟩ := List.getElem?_eq_some_iff.mp hq
    have zz := pw p q lp lq pq
    rw [ep, eq] at zz
    exact zz j w hc hd hw
  · have := hard_at ws i u r o
    rw [z] at this
    cases this
theorem hd_hard {ws : List Wk} (G : Good ws) {i : Nat} {u : Wk} {r : Option Int} {o : Option (Nat × Int)} (hu : ws[i]? = some u) (bl : Blk ws i o) : Hd ws i u (hardRow ws i u r o) (hardStart ws i o) o := by
  obtain ⟨s0, s1⟩ := start_le G bl
  refine ⟨G, hu, s0, ⟨_, hard_at ws i u r o, rfl, ?_, rfl⟩, fun q c lq hc => ?_, bl, fun b n e => ?_⟩
  · show hardStart ws i o - u.late + u.late = hardStart ws i o
    omega
  · have hc' : c ∈ flat ws (hardStart ws i o) (hardStart ws i o + spanOf u r) i := by
      unfold hardRow at hc
      rw [List.getElem?_append_right] at hc
      · exact List.mem_of_getElem? hc
      · cases o with
        | none => exact lq
        | some x => exact lq
    obtain ⟨j, w, k, lj, e, rfl, _⟩ := mem_flat hc'
    refine ⟨j, w, rfl, e, lj, ?_⟩
    rw [early_rd]
    exact le_maxI_l _ _
  · subst e
    exact ⟨rfl, le_maxI_r _ _⟩
theorem drop_hard {ws : List Wk} {i : Nat} {u : Wk} {r : Option Int} {o : Option (Nat × Int)} : (hardRow ws i u r o).drop (hardPlace o + 1) = flat ws (hardStart ws i o) (hardStart ws i o + spanOf u r) i := by
  cases o with
  | none => rfl
  | some x => rfl
theorem sum_cut (L : Int) (n m : Nat) : ((List.range n).map fun k => if k < m then L else 0).sum = ((min n m : Nat) : Int) * L := by
  induction n with
  | zero => simp
  | succ n ih =>
    rw [List.range_succ, List.map_append, List.sum_append, ih]
    show _ + ((if n < m then L else 0) + 0) = _
    split
    · have e : min (n + 1) m = min n m + 1 := by omega
      rw [e]
      have e2 : ((min n m + 1 : Nat) : Int) = ((min n m : Nat) : Int) + 1 := by omega
      rw [e2, Int.add_mul]
      omega
    · have e : min (n + 1) m = min n m := by omega
      rw [e]
      omega
theorem ci_min {w : Wk} (b : Wb w) (x y : Int) : ((min (ci w y).toNat (ci w x).toNat : Nat) : Int) = ci w (min x y) := by
  have := ci_pos b x; have := ci_pos b y
  rcases Int.le_total x y with h | h
  · rw [Int.min_eq_left h]
    have := ci_mono b h
    omega
  · rw [Int.min_eq_right h]
    have := ci_mono b h
    omega
theorem one_sum {ws : List Wk} (G : Good ws) {j : Nat} {w : Wk} (e : ws[j]? = some w) (S y x : Int) : ((hardOne ws S (S + y) j).map fun c => if rdC c < S + x then c.len else 0).sum = ci w (min x y) * w.len := by
  have b := G.at e
  unfold hardOne
  rw [e]
  show (((List.range _).map (earlyCm j w S)).map _).sum = _
  rw [List.map_map]
  have ey : S + y - S = y := by omega
  have ex : S + x - S = x := by omega
  rw [ey]
  have k : ((fun c : Cm => if rdC c < S + x then c.len else 0) ∘ earlyCm j w S) = fun k : Nat => if k < (ci w x).toNat then w.len else 0 := by
    funext k
    show (if rdC (earlyCm j w S k) < S + x then w.len else 0) = _
    rw [early_rd]
    have t := early_test b S (S + x) k
    rw [ex] at t
    by_cases z : k < (ci w x).toNat
    · rw [if_pos z, if_pos (t.mpr z)]
    · rw [if_neg z, if_neg fun q => z (t.mp q)]
  rw [k, sum_cut, ci_min b]
theorem flat_sum {ws : List Wk} (G : Good ws) (S y x : Int) : ∀ a : Nat, a ≤ ws.length → ((flat ws S (S + y) a).map fun c => if rdC c < S + x then c.len else 0).sum = loadL (ws.take a) (min x y)
  | 0, _ => rfl
  | a + 1, h => by
    have e : ws[a]? = some ws[a] := List.getElem?_eq_getElem (by omega)
    rw [flat_succ, List.map_append, List.sum_append, flat_sum G S y x a (by omega), one_sum G e, List.take_succ, e]
    show _ = loadL (ws.take a ++ [ws[a]]) _
    rw [loadL_snoc]
/-- the plain law of one place -/
theorem hard_law {ws : List Wk} (G : Good ws) {i : Nat} {u : Wk} {r : Option Int} {o : Option (Nat × Int)} (hu : ws[i]? = some u) (an : Ans ws i u r) (bl : Blk ws i o) {later : List (Int × Nat)} {s : Bn} (L : LaterOk (hardRow ws i u r o) later) (h : BReach ws (hardRow ws i u r o) later s) (h1 : (hardRow ws i u r o).length ≤ s.many) (h2 : s.wait = []) :
    (∀ l, r = some l → lastOf s.told (hardPlace o) = hardStart ws i o + l) ∧ (r = none → hardStart ws i o - u.late + u.due < lastOf s.told (hardPlace o)) := by
  obtain ⟨R, _, _, _⟩ := hard_numP G hu an bl
  obtain ⟨_, x, x1, ex, eq⟩ := done_end R.p L (hd_hard G hu bl) h h1 h2
  have li := (List.getElem?_eq_some_iff.mp hu).1
  have es : x = load ws i u (min x (spanOf u r)) := by
    unfold strSum at eq
    rw [drop_hard, flat_sum G _ _ _ i (by omega)] at eq
    exact eq
  refine ⟨fun l e => ?_, fun e => ?_⟩
  · subst e
    obtain ⟨l1, l2, l3, l4⟩ := an
    have es : x = load ws i u (min x l) := es
    have xl : x = l := by
      rcases Int.le_total x l with z | z
      · rw [Int.min_eq_left z] at es
        have := l4 x x1 (by omega)
        omega
      · rw [Int.min_eq_right z] at es
        omega
    rw [ex, xl]
  · subst e
    have es : x = load ws i u (min x (maxI 0 (u.due - u.late))) := es
    rcases Int.lt_or_le (u.due - u.late) x with z | z
    · omega
    · exfalso
      have m : min x (maxI 0 (u.due - u.late)) = x := Int.min_eq_left (Int.le_trans z (le_maxI_r _ _))
      rw [m] at es
      have := an x x1 (by omega)
      omega
end Dty
set_option Elab.async false
set_option linter.all false
set_option maxRecDepth 100000
set_option maxHeartbeats 4000000
namespace Dty
open PySem PySem.Spec PyProof.Rows L2 Dq TL NdefX LamX
/-! ### lines of the desk -/
theorem part_lit {lit w t : Str} (h : lit = w ++ " ") (f : 32 ∉ tl w) : Txt.partition (lit ++ t) " " = (w, (" " : Str), t) := by
  rw [h]
  exact partition_app tl_blank f
theorem joinC (y a b : Str) (r : List Str) : Txt.join y (a :: b :: r) = a ++ y ++ Txt.join y (b :: r) := by
  rw [join_eq, join_eq]
  rfl
def keptText (rs : List Int) : Str := Txt.join " " ("kept" :: rs.map numI)
def brokenHead (p : Nat) (t : Int) : Str := "broken " ++ numI (p : Nat) ++ " " ++ numI t
def segText (g : Sg) : Str := numI (g.1 : Nat) ++ " " ++ numI g.2.1 ++ "-" ++ numI g.2.2
def toldText (told : List Sg) : Str := Txt.join "; " (told.map segText)
/-- the numbers of a stretch are small -/
structure SgOk (g : Sg) : Prop where
  p : (g.1 : Int) < big
  b0 : 0 ≤ g.2.1
  b1 : g.2.1 < big
  e0 : 0 ≤ g.2.2
  e1 : g.2.2 < big
theorem tok_in {row : List Cm} : ∀ (l : List Sg) (t : Int), TOk row t l → t ≤ endOf t l ∧ ∀ g ∈ l, t ≤ g.2.1 ∧ g.2.1 < g.2.2 ∧ g.2.2 ≤ endOf t l ∧ ∃ c, row[g.1]? = some c
  | [], t, _ => ⟨Int.le_refl _, fun g h => by cases h⟩
  | (p, b, e) :: r, t, h => by
    obtain ⟨⟨c, hc, _⟩, h2, h3, h4⟩ := h
    obtain ⟨k1, k2⟩ := tok_in r e h4
    have k1 : e ≤ endOf t ((p, b, e) :: r) := k1
    refine ⟨by omega, fun g hg => ?_⟩
    rcases List.mem_cons.mp hg with rfl | hg
    · exact ⟨h2, h3, k1, c, hc⟩
    · obtain ⟨m1, m2, m3, m4⟩ := k2 g hg
      exact ⟨by omega, m2, m3, m4⟩
/-- the clock stays small -/
theorem now_small {ws : List Wk} {row : List Cm} {later : List (Int × Nat)} (R : RowP ws row) (L : LaterOk row later) {M : Int} (M0 : 0 ≤ M) (hM : ∀ (p : Nat) (c : Cm), row[p]? = some c → rdC c ≤ M) {s : Bn} (h : BReach ws row later s) : s.now ≤ M + s.dones.sum := by
  induction h with
  | start =>
    show (0 : Int) ≤ M + (row.map fun _ => (0 : Int)).sum
    rw [sum_zero]
    omega
  | step h1 h2 ih =>
    have I := reach_inv R L h1
    cases h2 with
    | mk now1 many1 wait1 p i c u d t hcond hnow hm hm2 harr hstop hw hp hleast hc hi hu hd ht =>
      rename_i s
      have ss := sum_set s.dones p d t hd
      show now1 + t ≤ M + (s.dones.set p (d + t)).sum
      have s0 : 0 ≤ s.dones.sum := by
        have k : ∀ l : List Int, (∀ x ∈ l, 0 ≤ x) → 0 ≤ l.sum := by
          intro l
          induction l with
          | nil => intro _; exact Int.le_refl _
          | cons x r ihr =>
            intro hl
            have a := hl x List.mem_cons_self
            have b := ihr fun y hy => hl y (List.mem_cons_of_mem _ hy)
            show 0 ≤ x + r.sum
            omega
        refine k _ fun x hx => ?_
        obtain ⟨q, hq⟩ := List.getElem?_of_mem hx
        obtain ⟨lq, _⟩ := List.getElem?_eq_some_iff.mp hq
        rw [I.dlen] at lq
        exact (I.dok q _ x (List.getElem?_eq_getElem lq) hq).1
      have n1 : now1 ≤ M + s.dones.sum := by
        rw [hnow]
        split
        · refine maxI_le ih ?_
          rw [List.getD_eq_getElem?_getD]
          cases e : later[s.many]? with
          | none =>
            show (0 : Int) ≤ _
            omega
          | some x =>
            obtain ⟨c', h3, h4⟩ := L.at_ _ x e
            have := hM _ c' h3
            show x.1 ≤ _
            omega
        · exact ih
      omega
theorem segs_ok {ws : List Wk} (G : Good ws) {row : List Cm} {later : List (Int × Nat)} (R : RowQ ws row) (L : LaterOk row later) {s : Bn} (h : BReach ws row later s) : ∀ g ∈ s.told, SgOk g := by
  have I := reach_inv R.p L h
  have small : ∀ (p : Nat) (c : Cm), row[p]? = some c → rdC c ≤ 2000000000000000000 ∧ c.len ≤ 8000000000000001 := fun p c hc => by
    obtain ⟨h1, h1b, h2, h3, i, u, h4, h5, h6, h7⟩ := R.cm p c hc
    have b := G.at h5
    have := b.t2; have := b.g2; have := b.l2
    unfold rdC
    omega
  have n := now_small R.p L (M := 2000000000000000000) (by decide) (fun p c hc => (small p c hc).1) h
  have sl := sums_le row s.dones I.dlen fun p c d e1 e2 => (I.dok p c d e1 e2).2
  have ls : (row.map (·.len)).sum ≤ row.length * 8000000000000001 := by
    have k : ∀ l : List Cm, (∀ c ∈ l, c.len ≤ 8000000000000001) → (l.map (·.len)).sum ≤ l.length * 8000000000000001 := by
      intro l
      induction l with
      | nil => intro _; exact Int.le_refl _
      | cons x r ihr =>
        intro hl
        have a := hl x List.mem_cons_self
        have b := ihr fun y hy => hl y (List.mem_cons_of_mem _ hy)
        show x.len + (r.map (·.len)).sum ≤ ((r.length + 1 : Nat) : Int) * 8000000000000001
        omega
    refine k row fun c hc => ?_
    obtain ⟨p, hp⟩ := List.getElem?_of_mem hc
    exact (small p c hp).2
  have few := R.few
  obtain ⟨k1, k2⟩ := tok_in s.told 0 I.tok
  have te := I.tend
  have e : (big : Int) = 1180591620717411303424 := by decide
  intro g hg
  obtain ⟨m1, m2, m3, c, hc⟩ := k2 g hg
  have lp := (List.getElem?_eq_some_iff.mp hc).1
  exact ⟨by omega, by omega, by omega, by omega, by omega⟩
theorem seg_len {g : Sg} (o : SgOk g) : (segText g).length ≤ 200 := by
  unfold segText
  rw [len_app, len_app, len_app, len_app]
  have e1 : (" " : Str).length = 1 := by decide +kernel
  have e2 : ("-" : Str).length = 1 := by decide +kernel
  have := numI_len (i := (g.1 : Int)) (by omega) o.p; have := numI_len o.b0 o.b1; have := numI_len o.e0 o.e1
  omega
theorem gx_of_gr {B H B' H' : Hp} {p : Addr} {o : HO} (g : Gr B H B' H') (bp : B' p = none) : Gx p B H B' (upd H' p o) :=
  ⟨fun q w hq hw => by rw [upd_ne hq]; exact g.eH _ _ hw, g.eB, g.e.mut bp, g.hid, g.nt⟩
section
variable {P : Program} {w : World} {K : PySem.W.Frag} {mg : Str → Option Value} {base : Heap}
abbrev N_judged : List Str := ["duty", "kind", "verdict"]
theorem sc_judged : FnScope N_judged ["duty", "kind"] (defScope s_judged) := ⟨rfl, rfl, rfl, by decide +kernel, rfl, by decide +kernel, by decide +kernel⟩
abbrev N_said_of_name : List Str := ["duty", "word", "name", "row", "place"]
theorem sc_said_of_name : FnScope N_said_of_name ["duty", "word", "name"] (defScope s_said_of_name) := ⟨rfl, rfl, rfl, by decide +kernel, rfl, by decide +kernel, by decide +kernel⟩
abbrev N_said : List Str := ["duty", "word", "blank", "rest", "work", "at"]
theorem sc_said : FnScope N_said ["duty", "word", "blank", "rest"] (defScope s_said) := ⟨rfl, rfl, rfl, by decide +kernel, rfl, by decide +kernel, by decide +kernel⟩
abbrev N_order_of : List Str := ["duty", "word"]
theorem sc_order_of : FnScope N_order_of ["duty", "word"] (defScope s_order_of) := ⟨rfl, rfl, rfl, by decide +kernel, rfl, by decide +kernel, by decide +kernel⟩
abbrev N_said_of_run : List Str := ["duty", "word", "rest", "kind", "blank", "text", "row", "order", "late", "place", "stretch"]
theorem sc_said_of_run : FnScope N_said_of_run ["duty", "word", "rest"] (defScope s_said_of_run) := ⟨rfl, rfl, rfl, by decide +kernel, rfl, by decide +kernel, by decide +kernel⟩
abbrev N_Desk_init : List Str := ["self"]
theorem sc_Desk_init : FnScope N_Desk_init ["self"] (defScope s_Desk_init) := ⟨rfl, rfl, rfl, by decide +kernel, rfl, by decide +kernel, by decide +kernel⟩
abbrev N_Desk_say : List Str := ["self", "line", "word", "blank", "rest", "names"]
theorem sc_Desk_say : FnScope N_Desk_say ["self", "line"] (defScope s_Desk_say) := ⟨rfl, rfl, rfl, by decide +kernel, rfl, by decide +kernel, by decide +kernel⟩
def sp_Kept_kept (K : PySem.W.Frag) : Sp := fun vs H Q _ => ∃ v, vs = [v] ∧ Q (.bl true) H
theorem ok_Kept_kept (T : Says K mg) : FnOk P w K mg base CX0 1 (He.fAd K d_Kept_kept.at_) (fdOf K d_Kept_kept.at_) ["self"] (sp_Kept_kept K) := by
  refine (F_Kept_kept T).ok sc_Kept_kept (fun vs H Q E h => ?_) (fun cdv A outer s H vs Q E hr h => ?_)
  · obtain ⟨_, rfl, _⟩ := h
    rfl
  · refine ⟨_, PSs.nox (pss_one (ps_ret pe_bl)), ?_⟩
    obtain ⟨v, rfl, k⟩ := h
    exact k
def sp_Verdict_kept (K : PySem.W.Frag) : Sp := fun vs H Q _ => ∃ v, vs = [v] ∧ Q (.bl false) H
theorem ok_Verdict_kept (T : Says K mg) : FnOk P w K mg base CX0 1 (He.fAd K d_Verdict_kept.at_) (fdOf K d_Verdict_kept.at_) ["self"] (sp_Verdict_kept K) := by
  refine (F_Verdict_kept T).ok sc_Verdict_kept (fun vs H Q E h => ?_) (fun cdv A outer s H vs Q E hr h => ?_)
  · obtain ⟨_, rfl, _⟩ := h
    rfl
  · refine ⟨_, PSs.nox (pss_one (ps_ret pe_bl)), ?_⟩
    obtain ⟨v, rfl, k⟩ := h
    exact k
def sp_Kept_told (K : PySem.W.Frag) : Sp := fun vs H Q _ => ∃ (v : V) (rs : List Int), vs = [v] ∧ KeptV K H v rs ∧ rs.length ≤ 4 ∧ (∀ r ∈ rs, 0 ≤ r ∧ r < big) ∧ ∀ H', Ex H H' → Q (.str (keptText rs)) H'
theorem ok_Kept_told (T : Says K mg) : FnOk P w K mg base CX0 1 (He.fAd K d_Kept_told.at_) (fdOf K d_Kept_told.at_) ["self"] (sp_Kept_told K) := by
  refine (F_Kept_told T).ok sc_Kept_told (fun vs H Q E h => ?_) (fun cdv A outer s H vs Q E hr h => ?_)
  · obtain ⟨_, _, rfl, _⟩ := h
    rfl
  · refine ⟨_, PSs.nox (pss_one (ps_ret (pe_join pe_str (pe_op op_cat (pe_lst (pa_cons pe_str pa_nil)) (pe_lc (own := [("line", 1)]) rfl sc_Kept_told.nd (pi_list (pe_fld (pv 0) rfl)) (blkOk_by (N := N_Kept_told) (sc := defScope s_Kept_told) (by decide +kernel)) (fun _ _ _ _ _ => (pg_name (i := 1) sc_Kept_told.nd rfl (Or.inl rfl))) (fun _ _ _ _ _ => pts_nil) (fun _ _ _ _ _ => (pe_callTy call_str_int (by rfl) (f_str T) (by decide +kernel) (pa_cons (pv 1) pa_nil)))))))), ?_⟩
    obtain ⟨_, rs, rfl, ⟨a, dx, l, rfl, ha, hl⟩, few, sm, k⟩ := h
    refine ⟨⟨_, rfl⟩, szn (n := 1) (by decide), fun q nq => ?_⟩
    refine ⟨_, rfl, a, _, dx, _, _, rfl, ex_up nq _ _ ha, c_Kept T, n_Kept_lines T, rfl, l, rfl, ⟨_, SqL.of (ex_up nq _ _ hl)⟩, fun F nF => ?_⟩
    have nqF : q ≠ F := ne_of_none upd_same nF
    refine lc_list (K := K) (a := l) (xs := rs.map V.int) (fun j H' => Ex H H' ∧ H' q = some (.lst [.str "kept"]) ∧ H' F = some (.lst (((rs.take j).map numI).map V.str))) ⟨(ex_up nq).trans (ex_up nF), (upd_ne nqF).trans upd_same, upd_same⟩ (fun j H' _ z => SqL.of (z.1 _ _ hl)) ?_ ?_
    · rintro j x H2 hj ⟨e2, hq2, hF⟩
      rw [List.getElem?_map] at hj
      cases e : rs[j]? with
      | none =>
        rw [e] at hj
        cases hj
      | some r =>
        rw [e] at hj
        cases hj
        obtain ⟨r0, r1⟩ := sm r (List.mem_of_getElem? e)
        have nF0 : H F = none := Evl.fresh_back (ex_up nq) nF
        refine ⟨rfl, _, rfl, r, rfl, lg r0 r1, _, hF, ?_, e2.mut nF0, (upd_ne nqF).trans hq2, ?_⟩
        · rw [List.length_map, List.length_map, List.length_take]
          exact Evl.sz_lt (by omega)
        · rw [upd_same, take_snoc e, List.map_append, List.map_append]
          rfl
    rintro H2 ⟨e2, hq2, hF⟩
    rw [List.length_map, List.take_of_length_le (Nat.le_refl _)] at hF
    refine ⟨q, F, _, _, rfl, rfl, hq2, hF, ?_, fun t nt => ?_⟩
    · rw [List.length_map, List.length_map]
      exact Evl.sz_of (by show 1 + _ ≤ _; omega)
    refine ⟨_, t, "kept" :: rs.map numI, rfl, rfl, .inl (SqL.of upd_same), ?_, k _ (e2.trans (ex_up nt))⟩
    refine join_room (by decide +kernel) (by rw [List.length_cons, List.length_map]; omega) fun x hx => ?_
    rcases List.mem_cons.mp hx with rfl | hx
    · decide +kernel
    · obtain ⟨r, hr, rfl⟩ := List.mem_map.mp hx
      obtain ⟨r0, r1⟩ := sm r hr
      exact Nat.le_trans (numI_len r0 r1) (by decide)
def sp_Broken_told (K : PySem.W.Frag) : Sp := fun vs H Q _ => ∃ (v : V) (row : List Cm) (p : Nat) (t : Int), vs = [v] ∧ BrokenV K H v row p t ∧ (p : Int) < big ∧ 0 ≤ t ∧ t < big ∧ Q (.str (brokenHead p t)) H
theorem str_sz {a b : Str} (ha : a.length ≤ 10000) (hb : b.length ≤ 60000) : a.length + b.length ≤ sizeLine := Evl.sz_of (by omega)
theorem ok_Broken_told (T : Says K mg) : FnOk P w K mg base CX0 1 (He.fAd K d_Broken_told.at_) (fdOf K d_Broken_told.at_) ["self"] (sp_Broken_told K) := by
  refine (F_Broken_told T).ok sc_Broken_told (fun vs H Q E h => ?_) (fun cdv A outer s H vs Q E hr h => ?_)
  · obtain ⟨_, _, _, _, rfl, _⟩ := h
    rfl
  · refine ⟨_, PSs.nox (pss_one (ps_ret (pe_op op_add_str (pe_op op_add_str (pe_op op_add_str pe_str (pe_callTy call_str_int (by rfl) (f_str T) (by decide +kernel) (pa_cons (pe_fld (pv 0) rfl) pa_nil))) pe_str) (pe_callTy call_str_int (by rfl) (f_str T) (by decide +kernel) (pa_cons (pe_fld (pv 0) rfl) pa_nil))))), ?_⟩
    obtain ⟨_, row, p, t, rfl, ⟨a, dx, l, cs, rfl, ha, hl, pr⟩, p1, t0, t1, k⟩ := h
    have l1 := numI_len (i := (p : Int)) (by omega) p1
    have l2 := numI_len t0 t1
    have e1 : ("broken " : Str).length = 7 := by decide +kernel
    have e2 : (" " : Str).length = 1 := by decide +kernel
    have l1' : (Str.ofString (toString ((p : Nat) : Int))).length ≤ 60 := l1
    have l2' : (Str.ofString (toString t)).length ≤ 60 := l2
    refine ⟨_, rfl, a, _, dx, _, _, rfl, ha, c_Broken T, n_Broken_place T, rfl, _, rfl, lg (by omega) p1, _, _, rfl, rfl, Evl.sz_of (by omega), _, _, rfl, rfl, Evl.sz_of (by rw [len_app]; omega), ?_⟩
    refine ⟨_, rfl, a, _, dx, _, _, rfl, ha, c_Broken T, n_Broken_turn T, rfl, _, rfl, lg t0 t1, _, _, rfl, rfl, Evl.sz_of (by rw [len_app, len_app]; omega), k⟩
/-- what the judge says -/
structure BrkAt (ws : List Wk) (i : Nat) (o : Option (Nat × Int)) (u : Wk) : Prop where
  hu : ws[i]? = some u
  an : Ans ws i u none
  bl : Blk ws i o
def brokenText (ws : List Wk) (i : Nat) (o : Option (Nat × Int)) (u : Wk) : Str := brokenHead (hardPlace o) (hardStart ws i o - u.late + u.due) ++ ": " ++ rowText ws (hardRow ws i u none o)
theorem head_len {p : Nat} {t : Int} (p1 : (p : Int) < big) (t0 : 0 ≤ t) (t1 : t < big) : (brokenHead p t).length ≤ 200 := by
  have l1 := numI_len (i := (p : Int)) (by omega) p1
  have l2 := numI_len t0 t1
  have e1 : ("broken " : Str).length = 7 := by decide +kernel
  have e2 : (" " : Str).length = 1 := by decide +kernel
  unfold brokenHead
  rw [len_app, len_app, len_app]
  omega
/-- the hardest row may be shown and run -/
theorem hard_num {ws : List Wk} (G : Good ws) {i : Nat} {u : Wk} {r : Option Int} {o : Option (Nat × Int)} (hu : ws[i]? = some u) (an : Ans ws i u r) (bl : Blk ws i o) : RowQ ws (hardRow ws i u r o) ∧ (hardRow ws i u r o).length ≤ 20 ∧ 0 ≤ hardStart ws i o - u.late ∧ hardStart ws i o ≤ 8000000000000001 := by
  exact hard_numP G hu an bl
def sp_judged (K : PySem.W.Frag) : Sp := fun vs H Q _ => ∃ (B : Hp) (v : V) (ws : List Wk), vs = [v, .str "ranks"] ∧ Ex B H ∧ DtV K B v ws ∧ Good ws ∧ (∀ rs H', Ex H H' → AllAns ws rs → Q (.str (keptText rs)) H') ∧
  ∀ i o u H', Ex H H' → BrkAt ws i o u → Q (.str (brokenText ws i o u)) H'
theorem ok_judged (T : Says K mg) : FnOk P w K mg base CX0 8 (He.fAd K d_judged.at_) (fdOf K d_judged.at_) ["duty", "kind"] (sp_judged K) := by
  refine (F_judged T).ok sc_judged (fun vs H Q E h => ?_) (fun cdv A outer s H vs Q E hr h => ?_)
  · obtain ⟨_, _, _, rfl, _⟩ := h
    rfl
  · obtain ⟨B, v, ws, rfl, eB, D, G, kk, kb⟩ := h
    by_cases hall : ∃ rs, AllAns ws rs
    · refine ⟨_, PSs.nox (pss_cons (ps_if (pt_cmpR op_eq (pv 1) pe_str (nomark _)) (pss_one (ps_set (i := 2) sc_judged.nd rfl (Or.inl rfl) (pe_call (ok_judge_ranks T) (hr.mono (by decide)) rfl (g_judge_ranks T) (F_judge_ranks T).kp (b_judge_ranks T) .nil pass0 (pa_cons (pv 0) pa_nil)))) (pss_one ps_never)) (pss_cons (ps_if (pt_val (pe_meth0 (pv 2) (c_Kept T) (m_Kept_kept T) (ok_Kept_kept T) (hr.mono (by decide)) (b_Kept_kept T) .nil pass0)) (pss_one (ps_ret (pe_meth0 (pv 2) (c_Kept T) (m_Kept_told T) (ok_Kept_told T) (hr.mono (by decide)) (b_Kept_told T) .nil pass0))) pss_nil) (pss_one ps_never))), ?_⟩
      refine ⟨_, rfl, rfl, _, rfl, itT rfl ?_⟩
      refine ⟨_, rfl, B, _, ws, rfl, eB, D, G, fun x rs B1 H1 g1 al kv => ?_, fun x i u o B1 H1 g1 hu an _ _ => ?_⟩
      · obtain ⟨a, dx, l, rfl, ha, hl⟩ := id kv
        refine ⟨_, rfl, a, dx, _, rfl, g1.e _ _ ha, rfl, _, rfl, _, rfl, itT rfl ?_⟩
        refine ⟨_, rfl, a, dx, _, rfl, g1.e _ _ ha, rfl, _, rs, rfl, ⟨a, dx, l, rfl, g1.e _ _ ha, g1.e _ _ hl⟩, by rw [al.len]; exact G.few, fun r hr => ?_, fun H2 e2 => kk rs H2 (g1.eH.trans e2) al⟩
        obtain ⟨j, hj⟩ := List.getElem?_of_mem hr
        have lj := (List.getElem?_eq_some_iff.mp hj).1
        rw [al.len] at lj
        have an := al.at_ j _ r (List.getElem?_eq_getElem lj) hj
        have b := G.at (List.getElem?_eq_getElem lj)
        have := an.1; have := an.2.1; have := b.t1; have := b.d2; have := b.g2
        have e : (big : Int) = 1180591620717411303424 := by decide
        omega
      · exfalso
        obtain ⟨rs, al⟩ := hall
        obtain ⟨li, _⟩ := List.getElem?_eq_some_iff.mp hu
        rw [← al.len] at li
        have z := ans_uniq an (al.at_ i u _ hu (List.getElem?_eq_getElem li))
        cases z
    · refine ⟨_, PSs.nox (pss_cons (ps_if (pt_cmpR op_eq (pv 1) pe_str (nomark _)) (pss_one (ps_set (i := 2) sc_judged.nd rfl (Or.inl rfl) (pe_call (ok_judge_ranks T) (hr.mono (by decide)) rfl (g_judge_ranks T) (F_judge_ranks T).kp (b_judge_ranks T) .nil pass0 (pa_cons (pv 0) pa_nil)))) (pss_one ps_never)) (pss_cons (ps_if (pt_val (pe_meth0 (pv 2) (c_Broken T) (m_Broken_kept T) (ok_Verdict_kept T) (hr.mono (by decide)) (b_Verdict_kept T) .nil pass0)) (pss_one ps_never) pss_nil) (pss_one (ps_ret (pe_op op_add_str (pe_op op_add_str (pe_meth0 (pv 2) (c_Broken T) (m_Broken_told T) (ok_Broken_told T) (hr.mono (by decide)) (b_Broken_told T) .nil pass0) pe_str) (pe_call (ok_show_row T) (hr.mono (by decide)) rfl (g_show_row T) (F_show_row T).kp (b_show_row T) .nil pass0 (pa_cons (pv 0) (pa_cons (pe_fld (pv 2) rfl) pa_nil)))))))), ?_⟩
      refine ⟨_, rfl, rfl, _, rfl, itT rfl ?_⟩
      refine ⟨_, rfl, B, _, ws, rfl, eB, D, G, fun x rs B1 H1 g1 al kv => absurd ⟨rs, al⟩ hall, fun x i u o B1 H1 g1 hu an bl bv => ?_⟩
      obtain ⟨a, dx, l, cs, rfl, ha, hl, pr⟩ := id bv
      obtain ⟨R, l20, s0, s1⟩ := hard_num G hu an bl
      have b := G.at hu
      have := b.t1; have := b.d1; have := b.d2; have := b.g2
      have e : (big : Int) = 1180591620717411303424 := by decide
      have hp1 : ((hardPlace o : Nat) : Int) < big := by unfold hardPlace; split <;> omega
      refine ⟨_, rfl, a, dx, _, rfl, g1.e _ _ ha, rfl, _, rfl, _, rfl, itF rfl ?_⟩
      refine ⟨_, rfl, a, dx, _, rfl, g1.e _ _ ha, rfl, _, _, hardPlace o, _, rfl, ⟨a, dx, l, cs, rfl, g1.e _ _ ha, g1.e _ _ hl, L2.Paired.mapP pr fun _ _ z => z.mono g1.e⟩, hp1, by omega, by omega, ?_⟩
      have hl1 := head_len (p := hardPlace o) (t := hardStart ws i o - u.late + u.due) hp1 (by omega) (by omega)
      have e2 : (": " : Str).length = 2 := by decide +kernel
      refine ⟨_, _, rfl, rfl, Evl.sz_of (by omega), ?_⟩
      refine ⟨_, rfl, _, rfl, a, _, dx, _, _, rfl, g1.e _ _ ha, c_Broken T, n_Broken_row T, rfl, _, _, ws, _, rfl, (D.mono g1.eB).mono g1.e, ⟨l, cs, rfl, g1.e _ _ hl, L2.Paired.mapP pr fun _ _ z => z.mono g1.e⟩, G, by omega, R.ok G, fun H2 e2' => ?_⟩
      have rl := row_len G (row := hardRow ws i u none o) (by omega) (R.ok G)
      refine ⟨_, _, rfl, rfl, Evl.sz_of (by rw [len_app]; omega), ?_⟩
      exact kb i o u H2 (g1.eH.trans e2') ⟨hu, an, bl⟩
def hardText (ws : List Wk) (i : Nat) (u : Wk) (r : Option Int) (o : Option (Nat × Int)) : Str := numI (hardPlace o : Nat) ++ ": " ++ rowText ws (hardRow ws i u r o)
def sp_son_judge (K : PySem.W.Frag) : Sp := fun vs H Q _ => ∃ (B : Hp) (v : V) (ws : List Wk), vs = [v, .str "judge", .str "ranks"] ∧ Ex B H ∧ DtV K B v ws ∧ Good ws ∧ (∀ rs H', Ex H H' → AllAns ws rs → Q (.str (keptText rs)) H') ∧
  ∀ i o u H', Ex H H' → BrkAt ws i o u → Q (.str (brokenText ws i o u)) H'
theorem ok_said_of_name_judge (T : Says K mg) : FnOk P w K mg base CX0 9 (He.fAd K d_said_of_name.at_) (fdOf K d_said_of_name.at_) ["duty", "word", "name"] (sp_son_judge K) := by
  refine (F_said_of_name T).ok sc_said_of_name (fun vs H Q E h => ?_) (fun cdv A outer s H vs Q E hr h => ?_)
  · obtain ⟨_, _, _, rfl, _⟩ := h
    rfl
  · refine ⟨_, PSs.nox (pss_cons (ps_if (pt_cmpR op_eq (pv 1) pe_str (nomark _)) (pss_one (ps_ret (pe_call (ok_judged T) (hr.mono (by decide)) rfl (g_judged T) (F_judged T).kp (b_judged T) .nil pass0 (pa_cons (pv 0) (pa_cons (pv 2) pa_nil))))) pss_nil) (pss_cons (ps_if (pt_cmpR op_eq (pv 1) pe_str (nomark _)) (pss_one ps_never) pss_nil) (pss_cons (ps_if (pt_cmpR op_eq (pv 1) pe_str (nomark _)) (pss_cons ps_never (pss_one ps_never)) pss_nil) (pss_one ps_never)))), ?_⟩
    obtain ⟨B, _, ws, rfl, rest⟩ := h
    refine ⟨_, rfl, rfl, _, rfl, itT rfl ?_⟩
    exact ⟨_, rfl, _, rfl, B, _, ws, rfl, rest⟩
def sp_son_hard (K : PySem.W.Frag) : Sp := fun vs H Q _ => ∃ (B : Hp) (v : V) (ws : List Wk) (i : Nat) (u : Wk), vs = [v, .str "hardest", .str u.name] ∧ Ex B H ∧ DtV K B v ws ∧ Good ws ∧ ws[i]? = some u ∧ ∀ r o H', Ex H H' → Ans ws i u r → Blk ws i o → Q (.str (hardText ws i u r o)) H'
theorem ok_said_of_name_hard (T : Says K mg) : FnOk P w K mg base CX0 9 (He.fAd K d_said_of_name.at_) (fdOf K d_said_of_name.at_) ["duty", "word", "name"] (sp_son_hard K) := by
  refine (F_said_of_name T).ok sc_said_of_name (fun vs H Q E h => ?_) (fun cdv A outer s H vs Q E hr h => ?_)
  · obtain ⟨_, _, _, _, _, rfl, _⟩ := h
    rfl
  · refine ⟨_, PSs.nox (pss_cons (ps_if (pt_cmpR op_eq (pv 1) pe_str (nomark _)) (pss_one ps_never) pss_nil) (pss_cons (ps_if (pt_cmpR op_eq (pv 1) pe_str (nomark _)) (pss_one ps_never) pss_nil) (pss_cons (ps_if (pt_cmpR op_eq (pv 1) pe_str (nomark _)) (pss_cons (ps_asg (pe_call (ok_hardest T).ok (hr.mono (by decide)) rfl (g_hardest T) (F_hardest T).kp (b_hardest T) .nil pass0 (pa_cons (pv 0) (pa_cons (pe_meth (pv 0) (c_Duty T) (m_Duty_number_of T) (ok_Duty_number_of T) (hr.mono (by decide)) (b_Duty_number_of T) .nil pass0 (pa_cons (pv 2) pa_nil)) pa_nil))) (pg_tup rfl (pgs_cons (pg_name (i := 3) sc_said_of_name.nd rfl (Or.inl rfl)) (pgs_cons (pg_name (i := 4) sc_said_of_name.nd rfl (Or.inl rfl)) pgs_nil)))) (pss_one (ps_ret (pe_op op_add_str (pe_op op_add_str (pe_callTy call_str_int (by rfl) (f_str T) (by decide +kernel) (pa_cons (pv 4) pa_nil)) pe_str) (pe_call (ok_show_row T) (hr.mono (by decide)) rfl (g_show_row T) (F_show_row T).kp (b_show_row T) .nil pass0 (pa_cons (pv 0) (pa_cons (pv 3) pa_nil))))))) pss_nil) (pss_one ps_never)))), ?_⟩
    obtain ⟨B, _, ws, i, u, rfl, eB, D, G, hu, k⟩ := h
    obtain ⟨a, dx, wl, nd, xs, rfl, ha, hl, hp, hn⟩ := id D
    refine ⟨_, rfl, rfl, _, rfl, itF (decide_eq_false (fun z => absurd (V.str.inj z) (by decide +kernel))) ?_⟩
    refine ⟨_, rfl, rfl, _, rfl, itF (decide_eq_false (fun z => absurd (V.str.inj z) (by decide +kernel))) ?_⟩
    refine ⟨_, rfl, rfl, _, rfl, itT rfl ?_⟩
    refine ⟨_, rfl, _, rfl, a, dx, _, rfl, eB _ _ ha, rfl, _, rfl, _, ws, i, u, rfl, D.mono eB, G.nd, hu, B, _, ws, i, u, rfl, eB, D, G, hu, fun x B1 H1 r o an bl g1 hv => ?_⟩
    obtain ⟨q, l, rfl, hq, rv⟩ := hv
    obtain ⟨R, l20, s0, s1⟩ := hard_num G hu an bl
    have e : (big : Int) = 1180591620717411303424 := by decide
    have hp1 : ((hardPlace o : Nat) : Int) < big := by unfold hardPlace; split <;> omega
    have ln : (Str.ofString (toString ((hardPlace o : Nat) : Int))).length ≤ 60 := numI_len (i := ((hardPlace o : Nat) : Int)) (by omega) hp1
    have e2 : (": " : Str).length = 2 := by decide +kernel
    have rl := row_len G (row := hardRow ws i u r o) (by omega) (R.ok G)
    refine ⟨q, _, rfl, SqT.of (g1.e _ _ hq), rfl, _, _, rfl, _, _, rfl, rfl, ?_⟩
    refine ⟨_, rfl, _, rfl, lg (by omega) hp1, _, _, rfl, rfl, Evl.sz_of (by omega), _, rfl, _, rfl, _, _, ws, _, rfl, (D.mono g1.eB).mono g1.e, rv.mono g1.e, G, by omega, R.ok G, fun H2 e2' => ?_⟩
    exact ⟨_, _, rfl, rfl, Evl.sz_of (by rw [len_app]; omega), k r o H2 (g1.eH.trans e2') an bl⟩
end
end Dty
set_option Elab.async false
set_option linter.all false
set_option maxRecDepth 100000
set_option maxHeartbeats 4000000
namespace Dty
open PySem PySem.Spec PyProof.Rows L2 Dq TL NdefX LamX
theorem nstr {a b : Str} (h : ¬ a = b) : decide (V.str a = V.str b) = false := decide_eq_false fun z => h (V.str.inj z)
section
variable {P : Program} {w : World} {K : PySem.W.Frag} {mg : Str → Option Value} {base : Heap}
def sp_show_stretch : Sp := fun vs H Q _ => ∃ (v : V) (g : Sg), vs = [v] ∧ SgV H v g ∧ SgOk g ∧ Q (.str (segText g)) H
theorem ok_show_stretch (T : Says K mg) : FnOk P w K mg base CX0 1 (He.fAd K d_show_stretch.at_) (fdOf K d_show_stretch.at_) ["stretch"] sp_show_stretch := by
  refine (F_show_stretch T).ok sc_show_stretch (fun vs H Q E h => ?_) (fun cdv A outer s H vs Q E hr h => ?_)
  · obtain ⟨_, _, rfl, _⟩ := h
    rfl
  · refine ⟨_, PSs.nox (pss_one (ps_ret (pe_op op_add_str (pe_op op_add_str (pe_op op_add_str (pe_op op_add_str (pe_callTy call_str_int (by rfl) (f_str T) (by decide +kernel) (pa_cons (pe_ix ix_tup (pv 0) pe_int (fun _ _ => rfl)) pa_nil)) pe_str) (pe_callTy call_str_int (by rfl) (f_str T) (by decide +kernel) (pa_cons (pe_ix ix_tup (pv 0) pe_int (fun _ _ => rfl)) pa_nil))) pe_str) (pe_callTy call_str_int (by rfl) (f_str T) (by decide +kernel) (pa_cons (pe_ix ix_tup (pv 0) pe_int (fun _ _ => rfl)) pa_nil))))), ?_⟩
    obtain ⟨_, g, rfl, ⟨a, rfl, ha⟩, o, k⟩ := h
    have l1 : (Str.ofString (toString ((g.1 : Nat) : Int))).length ≤ 60 := numI_len (i := (g.1 : Int)) (by omega) o.p
    have l2 : (Str.ofString (toString g.2.1)).length ≤ 60 := numI_len o.b0 o.b1
    have l3 : (Str.ofString (toString g.2.2)).length ≤ 60 := numI_len o.e0 o.e1
    have e1 : (" " : Str).length = 1 := by decide +kernel
    have e2 : ("-" : Str).length = 1 := by decide +kernel
    refine ⟨_, rfl, _, _, _, _, rfl, rfl, SqT.of ha, rfl, _, rfl, lg (by omega) o.p, _, _, rfl, rfl, Evl.sz_of (by omega), ?_⟩
    refine ⟨_, rfl, _, _, _, _, rfl, rfl, SqT.of ha, rfl, _, rfl, lg o.b0 o.b1, _, _, rfl, rfl, Evl.sz_of (by rw [len_app]; omega), _, _, rfl, rfl, Evl.sz_of (by rw [len_app, len_app]; omega), ?_⟩
    exact ⟨_, rfl, _, _, _, _, rfl, rfl, SqT.of ha, rfl, _, rfl, lg o.e0 o.e1, _, _, rfl, rfl, Evl.sz_of (by rw [len_app, len_app, len_app]; omega), k⟩
def sp_order_of (K : PySem.W.Frag) : Sp := fun vs H Q _ => ∃ (B : Hp) (v : V) (ws : List Wk), vs = [v, .str "ranks"] ∧ Ex B H ∧ DtV K B v ws ∧ ∀ x B' H', Gr B H B' H' → OrdV K B' x ws → Q x H'
theorem ok_order_of (T : Says K mg) : FnOk P w K mg base CX0 3 (He.fAd K d_order_of.at_) (fdOf K d_order_of.at_) ["duty", "word"] (sp_order_of K) := by
  refine (F_order_of T).ok sc_order_of (fun vs H Q E h => ?_) (fun cdv A outer s H vs Q E hr h => ?_)
  · obtain ⟨_, _, _, rfl, _⟩ := h
    rfl
  · refine ⟨_, PSs.nox (pss_cons (ps_if (pt_cmpR op_eq (pv 1) pe_str (nomark _)) (pss_one (ps_ret (pe_make (k_ByRank T) (ok_Order_init T) (hr.mono (by decide)) rfl (g_ByRank T) (b_Order_init T) .nil pass0 (pa_cons (pv 0) pa_nil)))) pss_nil) (pss_cons ps_never (pss_one ps_never))), ?_⟩
    obtain ⟨B, v, ws, rfl, eB, D, k⟩ := h
    refine ⟨_, rfl, rfl, _, rfl, itT rfl ⟨_, rfl, ?_⟩⟩
    intro x dx nx ndx ne
    have bx := ex_none eB nx
    have g1 := gr_make (o := .own x) (o' := .ins (He.ga K "ByRank") dx []) (Gr.refl eB) nx ndx ne
    have g2 := (g1.write (o := .ins (He.ga K "ByRank") dx [("duty", v)]) nx bx).freeze nx bx upd_same
    exact ⟨x, dx, v, rfl, upd_same, rfl, k _ _ _ g2 ⟨x, dx, v, rfl, upd_same, D.mono (ex_up bx)⟩⟩
def sp_said_of_run (K : PySem.W.Frag) : Sp := fun vs H Q _ => ∃ (B : Hp) (v : V) (ws : List Wk) (row : List Cm), vs = [v, .str "run", .str (("ranks " : Str) ++ rowText ws row)] ∧ Ex B H ∧ NT B ∧ TabsN (tPick K) H ∧ DtV K B v ws ∧ Good ws ∧ RowQ ws row ∧
  ∀ B' H' later s, LaterOk row later → BReach ws row later s → row.length ≤ s.many → s.wait = [] → GrN K B H B' H' → Q (.str (toldText s.told)) H'
theorem ok_said_of_run (T : Says K mg) (TB : LamX.TabB base mg (cPick K).1 (cPick K).2) : FnOk P w K mg base CX0 9 (He.fAd K d_said_of_run.at_) (fdOf K d_said_of_run.at_) ["duty", "word", "rest"] (sp_said_of_run K) := by
  refine (F_said_of_run T).ok sc_said_of_run (fun vs H Q E h => ?_) (fun cdv A outer s H vs Q E hr h => ?_)
  · obtain ⟨_, _, _, _, rfl, _⟩ := h
    rfl
  · refine ⟨_, PSs.nox (pss_cons (ps_asg (pe_partition (pv 2) pe_str) (pg_tup rfl (pgs_cons (pg_name (i := 3) sc_said_of_run.nd rfl (Or.inl rfl)) (pgs_cons (pg_name (i := 4) sc_said_of_run.nd rfl (Or.inl rfl)) (pgs_cons (pg_name (i := 5) sc_said_of_run.nd rfl (Or.inl rfl)) pgs_nil))))) (pss_cons (ps_if (PW.pt (pw_or (pt_cmpR op_eq (pv 4) pe_str (nomark _)) (pw_or1 (pt_cmpR op_notIn_seq (pv 3) (pe_tup (pa_cons pe_str (pa_cons pe_str (pa_cons pe_str pa_nil)))) (by rfl))))) (pss_one ps_never) pss_nil) (pss_cons (ps_set (i := 6) sc_said_of_run.nd rfl (Or.inl rfl) (pe_call (ok_read_row T) (hr.mono (by decide)) rfl (g_read_row T) (F_read_row T).kp (b_read_row T) .nil pass0 (pa_cons (pv 0) (pa_cons (pv 5) pa_nil)))) (pss_cons (ps_set (i := 7) sc_said_of_run.nd rfl (Or.inl rfl) (pe_call (ok_order_of T) (hr.mono (by decide)) rfl (g_order_of T) (F_order_of T).kp (b_order_of T) .nil pass0 (pa_cons (pv 0) (pa_cons (pv 3) pa_nil)))) (pss_cons (ps_if (pt_cmpR op_eq (pv 1) pe_str (nomark _)) (pss_one (ps_ret (pe_join pe_str (pe_lc (own := [("stretch", 10)]) rfl sc_said_of_run.nd (pi_list (pe_call (ok_run T TB) (hr.mono (by decide)) rfl (g_run T) (F_run T).kp (b_run T) .nil pass0 (pa_cons (pv 7) (pa_cons (pv 6) pa_nil)))) (blkOk_by (N := N_said_of_run) (sc := defScope s_said_of_run) (by decide +kernel)) (fun _ _ _ _ _ => (pg_name (i := 10) sc_said_of_run.nd rfl (Or.inl rfl))) (fun _ _ _ _ _ => pts_nil) (fun _ _ _ _ _ => (pe_call (ok_show_stretch T) (hr.mono (by decide)) rfl (g_show_stretch T) (F_show_stretch T).kp (b_show_stretch T) .nil pass0 (pa_cons (pv 10) pa_nil))))))) pss_nil) (pss_cons ps_never (pss_cons ps_never (pss_one ps_never)))))))), ?_⟩
    obtain ⟨B, v, ws, row, rfl, eB, nB, hT, D, G, R, k⟩ := h
    have few := R.few
    have rl := row_len G few (R.ok G)
    have pt : Txt.partition (("ranks " : Str) ++ rowText ws row) " " = (("ranks" : Str), (" " : Str), rowText ws row) := part_lit (by decide +kernel) (by decide +kernel)
    have e6 : ("ranks " : Str).length = 6 := by decide +kernel
    refine ⟨_, rfl, ⟨_, rfl⟩, _, _, rfl, rfl, by decide +kernel, Evl.sz_of (by rw [len_app]; omega), fun p np => ?_⟩
    rw [pt]
    refine ⟨p, _, rfl, SqT.of upd_same, rfl, _, _, rfl, _, _, rfl, _, _, rfl, rfl, ?_⟩
    refine ⟨_, rfl, rfl, _, rfl, itF (nstr (show ¬ (" " : Str) = "" by decide +kernel)) ?_⟩
    refine ⟨_, rfl, szn (n := 3) (by decide), fun t nt => ⟨t, _, rfl, .inr (SqT.of upd_same), rfl, rfl, _, rfl, itF (show (!inV (V.str "ranks") [V.str "ranks", V.str "due", V.str "coming"]) = false by decide +kernel) ?_⟩⟩
    have e1 := (ex_up (o := .tup [V.str (("ranks" : Str), (" " : Str), rowText ws row).1, V.str (("ranks" : Str), (" " : Str), rowText ws row).2.1, V.str (("ranks" : Str), (" " : Str), rowText ws row).2.2]) np).trans (ex_up (o := .tup [V.str "ranks", V.str "due", V.str "coming"]) nt)
    refine ⟨_, rfl, _, rfl, B, v, ws, row, rfl, eB.trans e1, D, G, R.ne, few, R.ok G, fun x B1 H1 g1 rv => ?_⟩
    refine ⟨_, rfl, _, rfl, B1, v, ws, rfl, g1.e, D.mono g1.eB, fun x2 B2 H2 g2 ov => ?_⟩
    have gg : GrN K B H B2 H2 := (((GrN.refl eB nB hT).heap e1).gr g1).gr g2
    refine ⟨_, rfl, rfl, _, rfl, itT rfl ⟨⟨_, rfl⟩, _, rfl, _, rfl, B2, _, _, ws, row, rfl, gg.e, gg.nt, gg.tab, ov, rv.mono g2.eB, G, R, fun x3 B3 H3 later s L rch c1 c2 g3 sv => ?_⟩⟩
    obtain ⟨l, ts, rfl, hl, pr⟩ := sv
    have g4 := gg.trans g3
    have so := segs_ok G R L rch
    have fewS := told_small G R.p L rch
    refine ⟨l, rfl, ⟨_, SqL.of (g4.e _ _ hl)⟩, fun F nF => ?_⟩
    have hl3 := g4.e _ _ hl
    refine lc_list (K := K) (a := l) (xs := ts) (fun j H' => Ex H3 H' ∧ H' F = some (.lst (((s.told.take j).map segText).map V.str))) ⟨ex_up nF, upd_same⟩ (fun j H' _ z => SqL.of (z.1 _ _ hl3)) ?_ ?_
    · rintro j y H4 hj ⟨e4, hF⟩
      obtain ⟨g, hg, hx⟩ := paired_back pr hj
      refine ⟨rfl, _, rfl, _, g, rfl, hx.mono (g4.e.trans e4), so g (List.mem_of_getElem? hg), _, hF, ?_, e4.mut nF, ?_⟩
      · rw [List.length_map, List.length_map, List.length_take]
        exact Evl.sz_lt (by omega)
      · rw [upd_same, take_snoc hg, List.map_append, List.map_append]
        rfl
    rintro H4 ⟨e4, hF⟩
    rw [paired_len pr, List.take_of_length_le (Nat.le_refl _)] at hF
    refine ⟨_, F, _, rfl, rfl, .inl (SqL.of hF), ?_, k _ _ later s L rch c1 c2 (g4.heap e4)⟩
    refine join_room (by decide +kernel) (by rw [List.length_map]; omega) fun x hx => ?_
    obtain ⟨g, hg, rfl⟩ := List.mem_map.mp hx
    exact Nat.le_trans (seg_len (so g hg)) (by decide)
/-! ### said, in its three uses -/
def sp_said_judge (K : PySem.W.Frag) : Sp := fun vs H Q _ => ∃ (B : Hp) (v : V) (ws : List Wk), vs = [v, .str "judge", .str " ", .str "ranks"] ∧ Ex B H ∧ DtV K B v ws ∧ Good ws ∧ (∀ rs H', Ex H H' → AllAns ws rs → Q (.str (keptText rs)) H') ∧
  ∀ i o u H', Ex H H' → BrkAt ws i o u → Q (.str (brokenText ws i o u)) H'
theorem ok_said_judge (T : Says K mg) (TB : LamX.TabB base mg (cPick K).1 (cPick K).2) : FnOk P w K mg base CX0 10 (He.fAd K d_said.at_) (fdOf K d_said.at_) ["duty", "word", "blank", "rest"] (sp_said_judge K) := by
  refine (F_said T).ok sc_said (fun vs H Q E h => ?_) (fun cdv A outer s H vs Q E hr h => ?_)
  · obtain ⟨_, _, _, rfl, _⟩ := h
    rfl
  · refine ⟨_, PSs.nox (pss_cons (ps_if (pt_cmpR op_eq (pv 2) pe_str (nomark _)) (pss_cons ps_never (pss_cons ps_never (pss_one ps_never))) pss_nil) (pss_cons (ps_if (PW.pt (pw_or (pt_cmpR op_eq (pv 1) pe_str (nomark _)) (pw_or1 (pt_cmpR op_eq (pv 1) pe_str (nomark _))))) (pss_one ps_never) pss_nil) (pss_cons (ps_if (pt_cmpR op_eq (pv 1) pe_str (nomark _)) (pss_one ps_never) pss_nil) (pss_cons (ps_if (pt_cmpR op_in_sign pe_str (pv 3) (by rfl)) (pss_one ps_never) pss_nil) (pss_one (ps_ret (pe_call (ok_said_of_name_judge T) (hr.mono (by decide)) rfl (g_said_of_name T) (F_said_of_name T).kp (b_said_of_name T) .nil pass0 (pa_cons (pv 0) (pa_cons (pv 1) (pa_cons (pv 3) pa_nil)))))))))), ?_⟩
    obtain ⟨B, _, ws, rfl, rest⟩ := h
    refine ⟨_, rfl, rfl, _, rfl, itF (nstr (by decide +kernel)) ?_⟩
    refine ⟨_, rfl, rfl, _, rfl, itF (nstr (by decide +kernel)) ⟨_, rfl, rfl, _, rfl, itF (nstr (by decide +kernel)) ?_⟩⟩
    refine ⟨_, rfl, rfl, _, rfl, itF (nstr (by decide +kernel)) ?_⟩
    refine ⟨_, rfl, 32, _, rfl, rfl, _, rfl, itF (by decide +kernel) ?_⟩
    exact ⟨_, rfl, _, rfl, _, rfl, B, _, ws, rfl, rest⟩
def sp_said_hard (K : PySem.W.Frag) : Sp := fun vs H Q _ => ∃ (B : Hp) (v : V) (ws : List Wk) (i : Nat) (u : Wk), vs = [v, .str "hardest", .str " ", .str u.name] ∧ Ex B H ∧ DtV K B v ws ∧ Good ws ∧ ws[i]? = some u ∧ ∀ r o H', Ex H H' → Ans ws i u r → Blk ws i o → Q (.str (hardText ws i u r o)) H'
theorem ok_said_hard (T : Says K mg) (TB : LamX.TabB base mg (cPick K).1 (cPick K).2) : FnOk P w K mg base CX0 10 (He.fAd K d_said.at_) (fdOf K d_said.at_) ["duty", "word", "blank", "rest"] (sp_said_hard K) := by
  refine (F_said T).ok sc_said (fun vs H Q E h => ?_) (fun cdv A outer s H vs Q E hr h => ?_)
  · obtain ⟨_, _, _, _, _, rfl, _⟩ := h
    rfl
  · refine ⟨_, PSs.nox (pss_cons (ps_if (pt_cmpR op_eq (pv 2) pe_str (nomark _)) (pss_cons ps_never (pss_cons ps_never (pss_one ps_never))) pss_nil) (pss_cons (ps_if (PW.pt (pw_or (pt_cmpR op_eq (pv 1) pe_str (nomark _)) (pw_or1 (pt_cmpR op_eq (pv 1) pe_str (nomark _))))) (pss_one ps_never) pss_nil) (pss_cons (ps_if (pt_cmpR op_eq (pv 1) pe_str (nomark _)) (pss_one ps_never) pss_nil) (pss_cons (ps_if (pt_cmpR op_in_sign pe_str (pv 3) (by rfl)) (pss_one ps_never) pss_nil) (pss_one (ps_ret (pe_call (ok_said_of_name_hard T) (hr.mono (by decide)) rfl (g_said_of_name T) (F_said_of_name T).kp (b_said_of_name T) .nil pass0 (pa_cons (pv 0) (pa_cons (pv 1) (pa_cons (pv 3) pa_nil)))))))))), ?_⟩
    obtain ⟨B, _, ws, i, u, rfl, eB, D, G, hu, k⟩ := h
    refine ⟨_, rfl, rfl, _, rfl, itF (nstr (by decide +kernel)) ?_⟩
    refine ⟨_, rfl, rfl, _, rfl, itF (nstr (by decide +kernel)) ⟨_, rfl, rfl, _, rfl, itF (nstr (by decide +kernel)) ?_⟩⟩
    refine ⟨_, rfl, rfl, _, rfl, itF (nstr (by decide +kernel)) ?_⟩
    refine ⟨_, rfl, 32, _, rfl, rfl, _, rfl, itF (decide_eq_false fun z => (nm_plain (G.at hu).nm 32 z).1 rfl) ?_⟩
    exact ⟨_, rfl, _, rfl, _, rfl, B, _, ws, i, u, rfl, eB, D, G, hu, k⟩
def sp_said_run (K : PySem.W.Frag) : Sp := fun vs H Q _ => ∃ (B : Hp) (v : V) (ws : List Wk) (row : List Cm), vs = [v, .str "run", .str " ", .str (("ranks " : Str) ++ rowText ws row)] ∧ Ex B H ∧ NT B ∧ TabsN (tPick K) H ∧ DtV K B v ws ∧ Good ws ∧ RowQ ws row ∧
  ∀ B' H' later s, LaterOk row later → BReach ws row later s → row.length ≤ s.many → s.wait = [] → GrN K B H B' H' → Q (.str (toldText s.told)) H'
theorem ok_said_run (T : Says K mg) (TB : LamX.TabB base mg (cPick K).1 (cPick K).2) : FnOk P w K mg base CX0 10 (He.fAd K d_said.at_) (fdOf K d_said.at_) ["duty", "word", "blank", "rest"] (sp_said_run K) := by
  refine (F_said T).ok sc_said (fun vs H Q E h => ?_) (fun cdv A outer s H vs Q E hr h => ?_)
  · obtain ⟨_, _, _, _, rfl, _⟩ := h
    rfl
  · refine ⟨_, PSs.nox (pss_cons (ps_if (pt_cmpR op_eq (pv 2) pe_str (nomark _)) (pss_cons ps_never (pss_cons ps_never (pss_one ps_never))) pss_nil) (pss_cons (ps_if (PW.pt (pw_or (pt_cmpR op_eq (pv 1) pe_str (nomark _)) (pw_or1 (pt_cmpR op_eq (pv 1) pe_str (nomark _))))) (pss_one (ps_ret (pe_call (ok_said_of_run T TB) (hr.mono (by decide)) rfl (g_said_of_run T) (F_said_of_run T).kp (b_said_of_run T) .nil pass0 (pa_cons (pv 0) (pa_cons (pv 1) (pa_cons (pv 3) pa_nil)))))) pss_nil) (pss_cons ps_never (pss_cons ps_never (pss_one ps_never))))), ?_⟩
    obtain ⟨B, _, ws, row, rfl, rest⟩ := h
    refine ⟨_, rfl, rfl, _, rfl, itF (nstr (by decide +kernel)) ?_⟩
    refine ⟨_, rfl, rfl, _, rfl, itT rfl (itT rfl ?_)⟩
    exact ⟨_, rfl, _, rfl, _, rfl, B, _, ws, row, rfl, rest⟩
/-! ### the desk -/
abbrev dkO (K : PySem.W.Frag) (dx : Addr) (d : V) : HO := .ins (He.ga K "Desk") dx ([("duty", d)] : List (Str × V))
theorem Good.nil : Good [] := ⟨⟨1, by decide, by decide, fun w h => by cases h⟩, List.nodup_nil, Nat.zero_le _⟩
def sp_Desk_init (K : PySem.W.Frag) : Sp := fun vs H Q _ => ∃ (B H0 : Hp) (x dx : Addr), vs = [.ref x] ∧ Gr B H0 B H ∧ H0 x = none ∧ B x = none ∧ H x = some (.ins (He.ga K "Desk") dx []) ∧ ∀ d B' H', Gr B H0 B' H' → B' x = none → H' x = some (dkO K dx d) → DtV K B' d [] → Q .non H'
theorem ok_Desk_init (T : Says K mg) : FnOk P w K mg base CX0 5 (He.fAd K d_Desk_init.at_) (fdOf K d_Desk_init.at_) ["self"] (sp_Desk_init K) := by
  refine (F_Desk_init T).ok sc_Desk_init (fun vs H Q E h => ?_) (fun cdv A outer s H vs Q E hr h => ?_)
  · obtain ⟨_, _, _, _, rfl, _⟩ := h
    rfl
  · refine ⟨_, PSs.nox (pss_one (ps_fld (pv 0) (pe_make (k_Duty T) (ok_Duty_init T) (hr.mono (by decide)) rfl (g_Duty T) (b_Duty_init T) .nil pass0 (pa_cons (pe_lst pa_nil) pa_nil)) rfl)), ?_⟩
    obtain ⟨B, H0, x, dx, rfl, g, nx, bx, hx, k⟩ := h
    refine ⟨by decide, fun l nl => ?_⟩
    have g1 := g.heap (ex_up (o := .lst []) nl)
    have hl1 : upd H l (.lst []) l = some (.lst []) := upd_same
    have hx1 := ex_up (o := .lst []) nl _ _ hx
    generalize upd H l (.lst []) = H1 at g1 hl1 hx1 ⊢
    intro y dy ny ndy ne
    have g2 := gr_make (o := .own y) (o' := .ins (He.ga K "Duty") dy []) (Gr.refl g1.e) ny ndy ne
    have nly : l ≠ y := ne_of_none hl1 ny
    refine ⟨B, H1, y, dy, l, [], [], rfl, g2, ny, ex_none g1.e ny, upd_same, by rw [upd_ne nly]; exact ex_up ndy _ _ hl1, .nil, Good.nil, fun B' H' g3 D => ⟨rfl, ?_⟩⟩
    have hx3 := g3.eH _ _ hx1
    have b3 : B' x = none := g3.out bx hx1
    refine ⟨_, rfl, x, _, dx, [], rfl, hx3, c_Desk T, n_Desk_duty T, (show 0 < 1000 by decide), ?_⟩
    exact k _ B' _ ((g1.trans g3).write nx b3) b3 upd_same D
theorem dk_put {d d' : V} : putF "duty" d' ([("duty", d)] : List (Str × V)) = ([("duty", d')] : List (Str × V)) := by
  show (if ("duty" : Str) = "duty" then _ else _) = _
  rw [if_pos rfl]
/-- a line of words -/
def Desk (K : PySem.W.Frag) (B H : Hp) (p dx : Addr) (d : V) (ws : List Wk) : Prop := Ex B H ∧ B p = none ∧ H p = some (dkO K dx d) ∧ DtV K B d ws
theorem work_free {u : Wk} : Txt.partition (("work " : Str) ++ workText u) " " = (("work" : Str), (" " : Str), workText u) := part_lit (by decide +kernel) (by decide +kernel)
def sp_say_work (K : PySem.W.Frag) : Sp := fun vs H Q _ => ∃ (B : Hp) (p dx : Addr) (d : V) (ws : List Wk) (u : Wk), vs = [.ref p, .str (("work " : Str) ++ workText u)] ∧ Desk K B H p dx d ws ∧ ws.length ≤ 4 ∧ Good (ws ++ [u]) ∧
  ∀ d' B' H', Gx p B H B' H' → Desk K B' H' p dx d' (ws ++ [u]) → Q (.str "ok") H'
theorem ok_Desk_say_work (T : Says K mg) (TB : LamX.TabB base mg (cPick K).1 (cPick K).2) : FnOk P w K mg base CX0 8 (He.fAd K d_Desk_say.at_) (fdOf K d_Desk_say.at_) ["self", "line"] (sp_say_work K) := by
  refine (F_Desk_say T).ok sc_Desk_say (fun vs H Q E h => ?_) (fun cdv A outer s H vs Q E hr h => ?_)
  · obtain ⟨_, _, _, _, _, _, rfl, _⟩ := h
    rfl
  · refine ⟨_, PSs.nox (pss_cons (ps_if (pt_not (pt_val (pe_callB call_isi (by rfl) (f_isinstance T) (by decide +kernel) (pa_cons (pv 1) (pa_cons (pe_bltn (v := .ty "str") rfl (f_str T) (by decide +kernel) rfl) pa_nil))))) (pss_one ps_never) pss_nil) (pss_cons (ps_asg (pe_partition (pv 1) pe_str) (pg_tup rfl (pgs_cons (pg_name (i := 2) sc_Desk_say.nd rfl (Or.inl rfl)) (pgs_cons (pg_name (i := 3) sc_Desk_say.nd rfl (Or.inl rfl)) (pgs_cons (pg_name (i := 4) sc_Desk_say.nd rfl (Or.inl rfl)) pgs_nil))))) (pss_cons (ps_if (PW.pt (pw_and (pt_cmpR op_eq (pv 2) pe_str (nomark _)) (pw_and1 (pt_cmpR op_eq (pv 3) pe_str (nomark _))))) (pss_cons (ps_fld (pv 0) (pe_call (ok_with_work T) (hr.mono (by decide)) rfl (g_with_work T) (F_with_work T).kp (b_with_work T) .nil pass0 (pa_cons (pe_fld (pv 0) rfl) (pa_cons (pv 4) pa_nil))) rfl) (pss_one (ps_ret pe_str))) pss_nil) (pss_cons ps_never (pss_cons ps_never (pss_one ps_never)))))), ?_⟩
    obtain ⟨B, p, dx, d, ws, u, rfl, ⟨eB, bp, hp, D⟩, few, G', k⟩ := h
    have lw := work_len (G'.wb (List.mem_append_right _ List.mem_cons_self) : Wb u)
    have e5 : ("work " : Str).length = 5 := by decide +kernel
    refine ⟨_, rfl, ⟨_, _, .type "str", .type "str", true, rfl, .ty _, .base (.str _), kit_ty (by decide +kernel), _, rfl, itF rfl ?_⟩⟩
    refine ⟨_, rfl, ⟨_, rfl⟩, _, _, rfl, rfl, by decide +kernel, Evl.sz_of (by rw [len_app]; omega), fun t nt => ?_⟩
    rw [work_free]
    have npt : p ≠ t := ne_of_none hp nt
    refine ⟨t, _, rfl, SqT.of upd_same, rfl, _, _, rfl, _, _, rfl, _, _, rfl, rfl, ?_⟩
    have e1 := ex_up (o := .tup [V.str (("work" : Str), (" " : Str), workText u).1, V.str (("work" : Str), (" " : Str), workText u).2.1, V.str (("work" : Str), (" " : Str), workText u).2.2]) nt
    refine ⟨_, rfl, rfl, _, rfl, itT rfl ⟨_, rfl, rfl, _, rfl, itT rfl ?_⟩⟩
    refine ⟨_, rfl, p, _, dx, _, _, rfl, e1 _ _ hp, c_Desk T, n_Desk_duty T, rfl, _, rfl, B, d, ws, u, rfl, eB.trans e1, D, few, G', fun x B1 H1 g1 D1 => ?_⟩
    have hp1 := g1.eH _ _ (e1 _ _ hp)
    have b1 : B1 p = none := g1.out bp (e1 _ _ hp)
    refine ⟨_, rfl, p, _, dx, _, rfl, hp1, c_Desk T, n_Desk_duty T, (show 1 < 1000 by decide), ?_⟩
    rw [dk_put]
    exact k x B1 _ (gx_of_gr (((Gr.refl eB).heap e1).trans g1) b1) ⟨g1.e.mut b1, b1, upd_same, D1⟩
def sp_say_drop (K : PySem.W.Frag) : Sp := fun vs H Q _ => ∃ (B : Hp) (p dx : Addr) (d : V) (ws : List Wk) (i : Nat) (u : Wk), vs = [.ref p, .str (("drop " : Str) ++ u.name)] ∧ Desk K B H p dx d ws ∧ Good ws ∧ ws[i]? = some u ∧ Good (ws.take i ++ ws.drop (i + 1)) ∧
  ∀ d' B' H', Gx p B H B' H' → Desk K B' H' p dx d' (ws.take i ++ ws.drop (i + 1)) → Q (.str "ok") H'
theorem ok_Desk_say_drop (T : Says K mg) (TB : LamX.TabB base mg (cPick K).1 (cPick K).2) : FnOk P w K mg base CX0 8 (He.fAd K d_Desk_say.at_) (fdOf K d_Desk_say.at_) ["self", "line"] (sp_say_drop K) := by
  refine (F_Desk_say T).ok sc_Desk_say (fun vs H Q E h => ?_) (fun cdv A outer s H vs Q E hr h => ?_)
  · obtain ⟨_, _, _, _, _, _, _, rfl, _⟩ := h
    rfl
  · refine ⟨_, PSs.nox (pss_cons (ps_if (pt_not (pt_val (pe_callB call_isi (by rfl) (f_isinstance T) (by decide +kernel) (pa_cons (pv 1) (pa_cons (pe_bltn (v := .ty "str") rfl (f_str T) (by decide +kernel) rfl) pa_nil))))) (pss_one ps_never) pss_nil) (pss_cons (ps_asg (pe_partition (pv 1) pe_str) (pg_tup rfl (pgs_cons (pg_name (i := 2) sc_Desk_say.nd rfl (Or.inl rfl)) (pgs_cons (pg_name (i := 3) sc_Desk_say.nd rfl (Or.inl rfl)) (pgs_cons (pg_name (i := 4) sc_Desk_say.nd rfl (Or.inl rfl)) pgs_nil))))) (pss_cons (ps_if (PW.pt (pw_and (pt_cmpR op_eq (pv 2) pe_str (nomark _)) (pw_and1 (pt_cmpR op_eq (pv 3) pe_str (nomark _))))) (pss_cons ps_never (pss_one ps_never)) pss_nil) (pss_cons (ps_if (PW.pt (pw_and (pt_cmpR op_eq (pv 2) pe_str (nomark _)) (pw_and (pt_cmpR op_eq (pv 3) pe_str (nomark _)) (pw_and1 (pt_cmpR op_notIn_sign pe_str (pv 4) (by rfl)))))) (pss_cons (ps_fld (pv 0) (pe_call (ok_without_work T) (hr.mono (by decide)) rfl (g_without_work T) (F_without_work T).kp (b_without_work T) .nil pass0 (pa_cons (pe_fld (pv 0) rfl) (pa_cons (pv 4) pa_nil))) rfl) (pss_one (ps_ret pe_str))) pss_nil) (pss_cons ps_never (pss_one ps_never)))))), ?_⟩
    obtain ⟨B, p, dx, d, ws, i, u, rfl, ⟨eB, bp, hp, D⟩, G, hu, G', k⟩ := h
    have nm := (G.at hu).nm
    have := nm.2.1
    have e5 : ("drop " : Str).length = 5 := by decide +kernel
    have pt : Txt.partition (("drop " : Str) ++ u.name) " " = (("drop" : Str), (" " : Str), u.name) := part_lit (by decide +kernel) (by decide +kernel)
    refine ⟨_, rfl, ⟨_, _, .type "str", .type "str", true, rfl, .ty _, .base (.str _), kit_ty (by decide +kernel), _, rfl, itF rfl ?_⟩⟩
    refine ⟨_, rfl, ⟨_, rfl⟩, _, _, rfl, rfl, by decide +kernel, Evl.sz_of (by rw [len_app]; omega), fun t nt => ?_⟩
    rw [pt]
    have npt : p ≠ t := ne_of_none hp nt
    refine ⟨t, _, rfl, SqT.of upd_same, rfl, _, _, rfl, _, _, rfl, _, _, rfl, rfl, ?_⟩
    have e1 := ex_up (o := .tup [V.str (("drop" : Str), (" " : Str), u.name).1, V.str (("drop" : Str), (" " : Str), u.name).2.1, V.str (("drop" : Str), (" " : Str), u.name).2.2]) nt
    refine ⟨_, rfl, rfl, _, rfl, itF (nstr (show ¬ ("drop" : Str) = "work" by decide +kernel)) (itF rfl ?_)⟩
    refine ⟨_, rfl, rfl, _, rfl, itT rfl ⟨_, rfl, rfl, _, rfl, itT rfl ⟨_, rfl, 32, _, rfl, rfl, _, rfl, itT ?_ ?_⟩⟩⟩
    · rw [decide_eq_false fun z => (nm_plain nm 32 z).1 rfl]
      rfl
    refine ⟨_, rfl, p, _, dx, _, _, rfl, e1 _ _ hp, c_Desk T, n_Desk_duty T, rfl, _, rfl, B, d, ws, i, u, rfl, eB.trans e1, D, G, hu, G', fun x B1 H1 g1 D1 => ?_⟩
    have hp1 := g1.eH _ _ (e1 _ _ hp)
    have b1 : B1 p = none := g1.out bp (e1 _ _ hp)
    refine ⟨_, rfl, p, _, dx, _, rfl, hp1, c_Desk T, n_Desk_duty T, (show 1 < 1000 by decide), ?_⟩
    rw [dk_put]
    exact k x B1 _ (gx_of_gr (((Gr.refl eB).heap e1).trans g1) b1) ⟨g1.e.mut b1, b1, upd_same, D1⟩
end
end Dty
set_option Elab.async false
set_option linter.all false
set_option maxRecDepth 100000
set_option maxHeartbeats 4000000
namespace Dty
open PySem PySem.Spec PyProof.Rows L2 Dq TL NdefX LamX
section
variable {P : Program} {w : World} {K : PySem.W.Frag} {mg : Str → Option Value} {base : Heap}
/-! ### the desk, further -/
def rankText (ws' : List Wk) : Str := Txt.join " " ("rank" :: ws'.map (·.name))
theorem rank_part {ws' : List Wk} (ne : ws' ≠ []) : Txt.partition (rankText ws') " " = (("rank" : Str), (" " : Str), Txt.join " " (ws'.map (·.name))) := by
  unfold rankText
  match ws', ne with
  | x :: r, _ =>
    rw [List.map_cons, joinC]
    exact partition_app tl_blank (by decide +kernel)
def sp_say_rank (K : PySem.W.Frag) : Sp := fun vs H Q _ => ∃ (B : Hp) (p dx : Addr) (d : V) (ws ws' : List Wk), vs = [.ref p, .str (rankText ws')] ∧ Desk K B H p dx d ws ∧ Good ws ∧ ws'.Perm ws ∧ ws' ≠ [] ∧
  ∀ d' B' H', Gx p B H B' H' → Desk K B' H' p dx d' ws' → Q (.str "ok") H'
theorem ok_Desk_say_rank (T : Says K mg) (TB : LamX.TabB base mg (cPick K).1 (cPick K).2) : FnOk P w K mg base CX0 8 (He.fAd K d_Desk_say.at_) (fdOf K d_Desk_say.at_) ["self", "line"] (sp_say_rank K) := by
  refine (F_Desk_say T).ok sc_Desk_say (fun vs H Q E h => ?_) (fun cdv A outer s H vs Q E hr h => ?_)
  · obtain ⟨_, _, _, _, _, _, rfl, _⟩ := h
    rfl
  · refine ⟨_, PSs.nox (pss_cons (ps_if (pt_not (pt_val (pe_callB call_isi (by rfl) (f_isinstance T) (by decide +kernel) (pa_cons (pv 1) (pa_cons (pe_bltn (v := .ty "str") rfl (f_str T) (by decide +kernel) rfl) pa_nil))))) (pss_one ps_never) pss_nil) (pss_cons (ps_asg (pe_partition (pv 1) pe_str) (pg_tup rfl (pgs_cons (pg_name (i := 2) sc_Desk_say.nd rfl (Or.inl rfl)) (pgs_cons (pg_name (i := 3) sc_Desk_say.nd rfl (Or.inl rfl)) (pgs_cons (pg_name (i := 4) sc_Desk_say.nd rfl (Or.inl rfl)) pgs_nil))))) (pss_cons (ps_if (PW.pt (pw_and (pt_cmpR op_eq (pv 2) pe_str (nomark _)) (pw_and1 (pt_cmpR op_eq (pv 3) pe_str (nomark _))))) (pss_cons ps_never (pss_one ps_never)) pss_nil) (pss_cons (ps_if (PW.pt (pw_and (pt_cmpR op_eq (pv 2) pe_str (nomark _)) (pw_and (pt_cmpR op_eq (pv 3) pe_str (nomark _)) (pw_and1 (pt_cmpR op_notIn_sign pe_str (pv 4) (by rfl)))))) (pss_cons ps_never (pss_one ps_never)) pss_nil) (pss_cons (ps_if (pt_cmpR op_eq (pv 2) pe_str (nomark _)) (pss_cons (ps_set (i := 5) sc_Desk_say.nd rfl (Or.inl rfl) (pe_split (pv 4) pe_str)) (pss_cons (ps_if (pt_cmpR op_eq (pv 3) pe_str (nomark _)) (pss_one ps_never) pss_nil) (pss_cons (ps_fld (pv 0) (pe_call (ok_in_order T) (hr.mono (by decide)) rfl (g_in_order T) (F_in_order T).kp (b_in_order T) .nil pass0 (pa_cons (pe_fld (pv 0) rfl) (pa_cons (pv 5) pa_nil))) rfl) (pss_one (ps_ret pe_str))))) pss_nil) (pss_one ps_never)))))), ?_⟩
    obtain ⟨B, p, dx, d, ws, ws', rfl, ⟨eB, bp, hp, D⟩, G, pm, ne, k⟩ := h
    have G' := G.perm pm
    have few := G'.few
    have nms : ∀ x ∈ ws'.map (·.name), Plain x ∧ x.length ≤ 8 := fun x hx => by
      obtain ⟨u, hu, rfl⟩ := List.mem_map.mp hx
      exact ⟨nm_plain (G'.wb hu).nm, (G'.wb hu).nm.2.1⟩
    have e1' : (" " : Str).length = 1 := by decide +kernel
    have lj : (Txt.join " " (ws'.map (·.name))).length ≤ 100 := by
      have l := len_join " " (ws'.map (·.name))
      have sm := sum_le ((ws'.map (·.name)).map (·.length)) (c := 8) fun n hn => by
        obtain ⟨x, hx, rfl⟩ := List.mem_map.mp hn
        exact (nms x hx).2
      rw [List.length_map, List.length_map] at sm
      rw [e1', List.length_map] at l
      omega
    have lr : (rankText ws').length ≤ 200 := by
      unfold rankText
      match ws', ne, lj with
      | x :: r, _, lj =>
        rw [List.map_cons, joinC, len_app, len_app, e1']
        have e4 : ("rank" : Str).length = 4 := by decide +kernel
        rw [List.map_cons] at lj
        omega
    refine ⟨_, rfl, ⟨_, _, .type "str", .type "str", true, rfl, .ty _, .base (.str _), kit_ty (by decide +kernel), _, rfl, itF rfl ?_⟩⟩
    refine ⟨_, rfl, ⟨_, rfl⟩, _, _, rfl, rfl, by decide +kernel, Evl.sz_of (by omega), fun t nt => ?_⟩
    rw [rank_part ne]
    have npt : p ≠ t := ne_of_none hp nt
    refine ⟨t, _, rfl, SqT.of upd_same, rfl, _, _, rfl, _, _, rfl, _, _, rfl, rfl, ?_⟩
    have e1 := ex_up (o := .tup [V.str (("rank" : Str), (" " : Str), Txt.join " " (ws'.map (·.name))).1, V.str (("rank" : Str), (" " : Str), Txt.join " " (ws'.map (·.name))).2.1, V.str (("rank" : Str), (" " : Str), Txt.join " " (ws'.map (·.name))).2.2]) nt
    generalize upd H t (.tup [V.str (("rank" : Str), (" " : Str), Txt.join " " (ws'.map (·.name))).1, V.str (("rank" : Str), (" " : Str), Txt.join " " (ws'.map (·.name))).2.1, V.str (("rank" : Str), (" " : Str), Txt.join " " (ws'.map (·.name))).2.2]) = H1 at e1 ⊢
    refine ⟨_, rfl, rfl, _, rfl, itF (nstr (show ¬ ("rank" : Str) = "work" by decide +kernel)) (itF rfl ?_)⟩
    refine ⟨_, rfl, rfl, _, rfl, itF (nstr (show ¬ ("rank" : Str) = "drop" by decide +kernel)) (itF rfl ?_)⟩
    refine ⟨_, rfl, rfl, _, rfl, itT rfl ?_⟩
    refine ⟨_, rfl, ⟨_, rfl⟩, _, _, rfl, rfl, by decide +kernel, Evl.sz_of (by show (Txt.join " " (ws'.map (·.name))).length + 2 ≤ _; omega), fun q nq => ?_⟩
    rw [show Txt.split (("rank" : Str), (" " : Str), Txt.join " " (ws'.map (·.name))).2.2 " " = ws'.map (·.name) from split_words (by simpa using ne) fun x hx => (nms x hx).1]
    have e2 := e1.trans (ex_up (o := .lst ((ws'.map (·.name)).map V.str)) nq)
    refine ⟨_, rfl, rfl, _, rfl, itF (nstr (show ¬ (" " : Str) = "" by decide +kernel)) ?_⟩
    refine ⟨_, rfl, p, _, dx, _, _, rfl, e2 _ _ hp, c_Desk T, n_Desk_duty T, rfl, _, rfl, B, d, ws, ws', q, rfl, eB.trans e2, D, G, pm, upd_same, fun x B1 H2 g1 D1 => ?_⟩
    have hp1 := g1.eH _ _ (e2 _ _ hp)
    have b1 : B1 p = none := g1.out bp (e2 _ _ hp)
    refine ⟨_, rfl, p, _, dx, _, rfl, hp1, c_Desk T, n_Desk_duty T, (show 1 < 1000 by decide), ?_⟩
    rw [dk_put]
    exact k x B1 _ (gx_of_gr (((Gr.refl eB).heap e2).trans g1) b1) ⟨g1.e.mut b1, b1, upd_same, D1⟩
def sp_say_judge (K : PySem.W.Frag) : Sp := fun vs H Q _ => ∃ (B : Hp) (p dx : Addr) (d : V) (ws : List Wk), vs = [.ref p, .str "judge ranks"] ∧ Desk K B H p dx d ws ∧ Good ws ∧ (∀ rs H', Ex H H' → AllAns ws rs → Q (.str (keptText rs)) H') ∧
  ∀ i o u H', Ex H H' → BrkAt ws i o u → Q (.str (brokenText ws i o u)) H'
theorem ok_Desk_say_judge (T : Says K mg) (TB : LamX.TabB base mg (cPick K).1 (cPick K).2) : FnOk P w K mg base CX0 11 (He.fAd K d_Desk_say.at_) (fdOf K d_Desk_say.at_) ["self", "line"] (sp_say_judge K) := by
  refine (F_Desk_say T).ok sc_Desk_say (fun vs H Q E h => ?_) (fun cdv A outer s H vs Q E hr h => ?_)
  · obtain ⟨_, _, _, _, _, rfl, _⟩ := h
    rfl
  · refine ⟨_, PSs.nox (pss_cons (ps_if (pt_not (pt_val (pe_callB call_isi (by rfl) (f_isinstance T) (by decide +kernel) (pa_cons (pv 1) (pa_cons (pe_bltn (v := .ty "str") rfl (f_str T) (by decide +kernel) rfl) pa_nil))))) (pss_one ps_never) pss_nil) (pss_cons (ps_asg (pe_partition (pv 1) pe_str) (pg_tup rfl (pgs_cons (pg_name (i := 2) sc_Desk_say.nd rfl (Or.inl rfl)) (pgs_cons (pg_name (i := 3) sc_Desk_say.nd rfl (Or.inl rfl)) (pgs_cons (pg_name (i := 4) sc_Desk_say.nd rfl (Or.inl rfl)) pgs_nil))))) (pss_cons (ps_if (PW.pt (pw_and (pt_cmpR op_eq (pv 2) pe_str (nomark _)) (pw_and1 (pt_cmpR op_eq (pv 3) pe_str (nomark _))))) (pss_cons ps_never (pss_one ps_never)) pss_nil) (pss_cons (ps_if (PW.pt (pw_and (pt_cmpR op_eq (pv 2) pe_str (nomark _)) (pw_and (pt_cmpR op_eq (pv 3) pe_str (nomark _)) (pw_and1 (pt_cmpR op_notIn_sign pe_str (pv 4) (by rfl)))))) (pss_cons ps_never (pss_one ps_never)) pss_nil) (pss_cons (ps_if (pt_cmpR op_eq (pv 2) pe_str (nomark _)) (pss_cons ps_never (pss_cons ps_never (pss_cons ps_never (pss_one ps_never)))) pss_nil) (pss_one (ps_ret (pe_call (ok_said_judge T TB) (hr.mono (by decide)) rfl (g_said T) (F_said T).kp (b_said T) .nil pass0 (pa_cons (pe_fld (pv 0) rfl) (pa_cons (pv 2) (pa_cons (pv 3) (pa_cons (pv 4) pa_nil)))))))))))), ?_⟩
    obtain ⟨B, p, dx, d, ws, rfl, ⟨eB, bp, hp, D⟩, G, kk, kb⟩ := h
    have pt : Txt.partition ("judge ranks" : Str) " " = (("judge" : Str), (" " : Str), ("ranks" : Str)) := by decide +kernel
    refine ⟨_, rfl, ⟨_, _, .type "str", .type "str", true, rfl, .ty _, .base (.str _), kit_ty (by decide +kernel), _, rfl, itF rfl ?_⟩⟩
    refine ⟨_, rfl, ⟨_, rfl⟩, _, _, rfl, rfl, by decide +kernel, by decide +kernel, fun t nt => ?_⟩
    rw [pt]
    refine ⟨t, _, rfl, SqT.of upd_same, rfl, _, _, rfl, _, _, rfl, _, _, rfl, rfl, ?_⟩
    have e1 := ex_up (o := .tup [V.str (("judge" : Str), (" " : Str), ("ranks" : Str)).1, V.str (("judge" : Str), (" " : Str), ("ranks" : Str)).2.1, V.str (("judge" : Str), (" " : Str), ("ranks" : Str)).2.2]) nt
    generalize upd H t (.tup [V.str (("judge" : Str), (" " : Str), ("ranks" : Str)).1, V.str (("judge" : Str), (" " : Str), ("ranks" : Str)).2.1, V.str (("judge" : Str), (" " : Str), ("ranks" : Str)).2.2]) = H1 at e1 ⊢
    refine ⟨_, rfl, rfl, _, rfl, itF (nstr (show ¬ ("judge" : Str) = "work" by decide +kernel)) (itF rfl ?_)⟩
    refine ⟨_, rfl, rfl, _, rfl, itF (nstr (show ¬ ("judge" : Str) = "drop" by decide +kernel)) (itF rfl ?_)⟩
    refine ⟨_, rfl, rfl, _, rfl, itF (nstr (show ¬ ("judge" : Str) = "rank" by decide +kernel)) ?_⟩
    exact ⟨_, rfl, p, _, dx, _, _, rfl, e1 _ _ hp, c_Desk T, n_Desk_duty T, rfl, _, rfl, _, rfl, _, rfl, B, d, ws, rfl, eB.trans e1, D, G, fun rs H' x al => kk rs H' (e1.trans x) al, fun i o u H' x b => kb i o u H' (e1.trans x) b⟩
def sp_say_hard (K : PySem.W.Frag) : Sp := fun vs H Q _ => ∃ (B : Hp) (p dx : Addr) (d : V) (ws : List Wk) (i : Nat) (u : Wk), vs = [.ref p, .str (("hardest " : Str) ++ u.name)] ∧ Desk K B H p dx d ws ∧ Good ws ∧ ws[i]? = some u ∧ ∀ r o H', Ex H H' → Ans ws i u r → Blk ws i o → Q (.str (hardText ws i u r o)) H'
theorem ok_Desk_say_hard (T : Says K mg) (TB : LamX.TabB base mg (cPick K).1 (cPick K).2) : FnOk P w K mg base CX0 11 (He.fAd K d_Desk_say.at_) (fdOf K d_Desk_say.at_) ["self", "line"] (sp_say_hard K) := by
  refine (F_Desk_say T).ok sc_Desk_say (fun vs H Q E h => ?_) (fun cdv A outer s H vs Q E hr h => ?_)
  · obtain ⟨_, _, _, _, _, _, _, rfl, _⟩ := h
    rfl
  · refine ⟨_, PSs.nox (pss_cons (ps_if (pt_not (pt_val (pe_callB call_isi (by rfl) (f_isinstance T) (by decide +kernel) (pa_cons (pv 1) (pa_cons (pe_bltn (v := .ty "str") rfl (f_str T) (by decide +kernel) rfl) pa_nil))))) (pss_one ps_never) pss_nil) (pss_cons (ps_asg (pe_partition (pv 1) pe_str) (pg_tup rfl (pgs_cons (pg_name (i := 2) sc_Desk_say.nd rfl (Or.inl rfl)) (pgs_cons (pg_name (i := 3) sc_Desk_say.nd rfl (Or.inl rfl)) (pgs_cons (pg_name (i := 4) sc_Desk_say.nd rfl (Or.inl rfl)) pgs_nil))))) (pss_cons (ps_if (PW.pt (pw_and (pt_cmpR op_eq (pv 2) pe_str (nomark _)) (pw_and1 (pt_cmpR op_eq (pv 3) pe_str (nomark _))))) (pss_cons ps_never (pss_one ps_never)) pss_nil) (pss_cons (ps_if (PW.pt (pw_and (pt_cmpR op_eq (pv 2) pe_str (nomark _)) (pw_and (pt_cmpR op_eq (pv 3) pe_str (nomark _)) (pw_and1 (pt_cmpR op_notIn_sign pe_str (pv 4) (by rfl)))))) (pss_cons ps_never (pss_one ps_never)) pss_nil) (pss_cons (ps_if (pt_cmpR op_eq (pv 2) pe_str (nomark _)) (pss_cons ps_never (pss_cons ps_never (pss_cons ps_never (pss_one ps_never)))) pss_nil) (pss_one (ps_ret (pe_call (ok_said_hard T TB) (hr.mono (by decide)) rfl (g_said T) (F_said T).kp (b_said T) .nil pass0 (pa_cons (pe_fld (pv 0) rfl) (pa_cons (pv 2) (pa_cons (pv 3) (pa_cons (pv 4) pa_nil)))))))))))), ?_⟩
    obtain ⟨B, p, dx, d, ws, i, u, rfl, ⟨eB, bp, hp, D⟩, G, hu, k⟩ := h
    have pt : Txt.partition (("hardest " : Str) ++ u.name) " " = (("hardest" : Str), (" " : Str), u.name) := part_lit (by decide +kernel) (by decide +kernel)
    refine ⟨_, rfl, ⟨_, _, .type "str", .type "str", true, rfl, .ty _, .base (.str _), kit_ty (by decide +kernel), _, rfl, itF rfl ?_⟩⟩
    refine ⟨_, rfl, ⟨_, rfl⟩, _, _, rfl, rfl, by decide +kernel, Evl.sz_of (by rw [len_app]; have := (G.at hu).nm.2.1; have : ("hardest " : Str).length = 8 := (by decide +kernel); omega), fun t nt => ?_⟩
    rw [pt]
    refine ⟨t, _, rfl, SqT.of upd_same, rfl, _, _, rfl, _, _, rfl, _, _, rfl, rfl, ?_⟩
    have e1 := ex_up (o := .tup [V.str (("hardest" : Str), (" " : Str), u.name).1, V.str (("hardest" : Str), (" " : Str), u.name).2.1, V.str (("hardest" : Str), (" " : Str), u.name).2.2]) nt
    generalize upd H t (.tup [V.str (("hardest" : Str), (" " : Str), u.name).1, V.str (("hardest" : Str), (" " : Str), u.name).2.1, V.str (("hardest" : Str), (" " : Str), u.name).2.2]) = H1 at e1 ⊢
    refine ⟨_, rfl, rfl, _, rfl, itF (nstr (show ¬ ("hardest" : Str) = "work" by decide +kernel)) (itF rfl ?_)⟩
    refine ⟨_, rfl, rfl, _, rfl, itF (nstr (show ¬ ("hardest" : Str) = "drop" by decide +kernel)) (itF rfl ?_)⟩
    refine ⟨_, rfl, rfl, _, rfl, itF (nstr (show ¬ ("hardest" : Str) = "rank" by decide +kernel)) ?_⟩
    exact ⟨_, rfl, p, _, dx, _, _, rfl, e1 _ _ hp, c_Desk T, n_Desk_duty T, rfl, _, rfl, _, rfl, _, rfl, B, d, ws, i, u, rfl, eB.trans e1, D, G, hu, fun r o H' x an bl => k r o H' (e1.trans x) an bl⟩
def sp_say_run (K : PySem.W.Frag) : Sp := fun vs H Q _ => ∃ (B : Hp) (p dx : Addr) (d : V) (ws : List Wk) (row : List Cm), vs = [.ref p, .str (("run ranks " : Str) ++ rowText ws row)] ∧ Desk K B H p dx d ws ∧ Good ws ∧ NT B ∧ TabsN (tPick K) H ∧ RowQ ws row ∧ ∀ B' H' later s, LaterOk row later → BReach ws row later s → row.length ≤ s.many → s.wait = [] → GrN K B H B' H' → Q (.str (toldText s.told)) H'
theorem ok_Desk_say_run (T : Says K mg) (TB : LamX.TabB base mg (cPick K).1 (cPick K).2) : FnOk P w K mg base CX0 11 (He.fAd K d_Desk_say.at_) (fdOf K d_Desk_say.at_) ["self", "line"] (sp_say_run K) := by
  refine (F_Desk_say T).ok sc_Desk_say (fun vs H Q E h => ?_) (fun cdv A outer s H vs Q E hr h => ?_)
  · obtain ⟨_, _, _, _, _, _, rfl, _⟩ := h
    rfl
  · refine ⟨_, PSs.nox (pss_cons (ps_if (pt_not (pt_val (pe_callB call_isi (by rfl) (f_isinstance T) (by decide +kernel) (pa_cons (pv 1) (pa_cons (pe_bltn (v := .ty "str") rfl (f_str T) (by decide +kernel) rfl) pa_nil))))) (pss_one ps_never) pss_nil) (pss_cons (ps_asg (pe_partition (pv 1) pe_str) (pg_tup rfl (pgs_cons (pg_name (i := 2) sc_Desk_say.nd rfl (Or.inl rfl)) (pgs_cons (pg_name (i := 3) sc_Desk_say.nd rfl (Or.inl rfl)) (pgs_cons (pg_name (i := 4) sc_Desk_say.nd rfl (Or.inl rfl)) pgs_nil))))) (pss_cons (ps_if (PW.pt (pw_and (pt_cmpR op_eq (pv 2) pe_str (nomark _)) (pw_and1 (pt_cmpR op_eq (pv 3) pe_str (nomark _))))) (pss_cons ps_never (pss_one ps_never)) pss_nil) (pss_cons (ps_if (PW.pt (pw_and (pt_cmpR op_eq (pv 2) pe_str (nomark _)) (pw_and (pt_cmpR op_eq (pv 3) pe_str (nomark _)) (pw_and1 (pt_cmpR op_notIn_sign pe_str (pv 4) (by rfl)))))) (pss_cons ps_never (pss_one ps_never)) pss_nil) (pss_cons (ps_if (pt_cmpR op_eq (pv 2) pe_str (nomark _)) (pss_cons ps_never (pss_cons ps_never (pss_cons ps_never (pss_one ps_never)))) pss_nil) (pss_one (ps_ret (pe_call (ok_said_run T TB) (hr.mono (by decide)) rfl (g_said T) (F_said T).kp (b_said T) .nil pass0 (pa_cons (pe_fld (pv 0) rfl) (pa_cons (pv 2) (pa_cons (pv 3) (pa_cons (pv 4) pa_nil)))))))))))), ?_⟩
    obtain ⟨B, p, dx, d, ws, row, rfl, ⟨eB, bp, hp, D⟩, G, nB, hT, R, k⟩ := h
    have pt : Txt.partition (("run ranks " : Str) ++ rowText ws row) " " = (("run" : Str), (" " : Str), (("ranks " : Str) ++ rowText ws row)) := by
      rw [show (("run ranks " : Str) ++ rowText ws row) = ("run " : Str) ++ (("ranks " : Str) ++ rowText ws row) by rw [← str_assoc]; exact congrArg (· ++ rowText ws row) (by decide +kernel)]
      exact part_lit (by decide +kernel) (by decide +kernel)
    refine ⟨_, rfl, ⟨_, _, .type "str", .type "str", true, rfl, .ty _, .base (.str _), kit_ty (by decide +kernel), _, rfl, itF rfl ?_⟩⟩
    refine ⟨_, rfl, ⟨_, rfl⟩, _, _, rfl, rfl, by decide +kernel, Evl.sz_of (by rw [len_app]; have := row_len G R.few (R.ok G); have : ("run ranks " : Str).length = 10 := (by decide +kernel); omega), fun t nt => ?_⟩
    rw [pt]
    refine ⟨t, _, rfl, SqT.of upd_same, rfl, _, _, rfl, _, _, rfl, _, _, rfl, rfl, ?_⟩
    have e1 := ex_up (o := .tup [V.str (("run" : Str), (" " : Str), (("ranks " : Str) ++ rowText ws row)).1, V.str (("run" : Str), (" " : Str), (("ranks " : Str) ++ rowText ws row)).2.1, V.str (("run" : Str), (" " : Str), (("ranks " : Str) ++ rowText ws row)).2.2]) nt
    generalize upd H t (.tup [V.str (("run" : Str), (" " : Str), (("ranks " : Str) ++ rowText ws row)).1, V.str (("run" : Str), (" " : Str), (("ranks " : Str) ++ rowText ws row)).2.1, V.str (("run" : Str), (" " : Str), (("ranks " : Str) ++ rowText ws row)).2.2]) = H1 at e1 ⊢
    refine ⟨_, rfl, rfl, _, rfl, itF (nstr (show ¬ ("run" : Str) = "work" by decide +kernel)) (itF rfl ?_)⟩
    refine ⟨_, rfl, rfl, _, rfl, itF (nstr (show ¬ ("run" : Str) = "drop" by decide +kernel)) (itF rfl ?_)⟩
    refine ⟨_, rfl, rfl, _, rfl, itF (nstr (show ¬ ("run" : Str) = "rank" by decide +kernel)) ?_⟩
    exact ⟨_, rfl, p, _, dx, _, _, rfl, e1 _ _ hp, c_Desk T, n_Desk_duty T, rfl, _, rfl, _, rfl, _, rfl, B, d, ws, row, rfl, eB.trans e1, nB, hT.ext e1, D, G, R, fun B' H' later s L rch c1 c2 g => k B' H' later s L rch c1 c2 (((GrN.refl eB nB hT).heap e1).trans g)⟩
end
end Dty
set_option Elab.async false
set_option linter.all false
set_option maxRecDepth 100000
set_option maxHeartbeats 4000000
namespace Dty
open PySem PySem.Spec PyProof.Rows L2 Dq TL NdefX LamX
/-! ### the law's own lists -/
def PtV (B : Hp) (v : V) (u : Wk) : Prop := ∃ a l hs, v = .ref a ∧ B a = some (.lst [.str u.name, .int u.gap, .int u.len, .int u.due, .int u.late, .ref l]) ∧ B l = some (.lst hs) ∧ Paired (HoldV B) hs u.holds
theorem PtV.mono {B B' : Hp} (e : Ex B B') {v : V} {u : Wk} (h : PtV B v u) : PtV B' v u := by
  obtain ⟨a, l, hs, e1, e2, e3, e4⟩ := h
  exact ⟨a, l, hs, e1, e _ _ e2, e _ _ e3, L2.Paired.mapP e4 fun _ _ z => z.mono e⟩
abbrev SomeV := LsV PtV
section
variable {P : Program} {w : World} {K : PySem.W.Frag} {mg : Str → Option Value} {base : Heap}
abbrev N_l_row_read : List Str := ["_law_text_here", "_law_some", "_law_names_here", "_law_row", "_law_part", "_law_words", "_law_numbers", "_law_one", "_law_word"]
theorem sc_l_row_read : FnScope N_l_row_read ["_law_text_here", "_law_some"] (defScope s_l_row_read) := ⟨rfl, rfl, rfl, by decide +kernel, rfl, by decide +kernel, by decide +kernel⟩
abbrev N_l_legal : List Str := ["_law_row", "_law_some", "_law_lasts", "_law_at", "_law_come", "_law_late", "_law_length", "_law_one"]
theorem sc_l_legal : FnScope N_l_legal ["_law_row", "_law_some"] (defScope s_l_legal) := ⟨rfl, rfl, rfl, by decide +kernel, rfl, by decide +kernel, by decide +kernel⟩
def sp_l_text (K : PySem.W.Frag) : Sp := fun vs H Q _ => ∃ (v : V) (u : Wk), vs = [v] ∧ PtV H v u ∧ Wb u ∧ ∀ H', Ex H H' → Q (.str (workText u)) H'
theorem ok_l_text (T : Says K mg) : FnOk P w K mg base CX0 1 (He.fAd K d_l_text.at_) (fdOf K d_l_text.at_) ["_law_parts_here"] (sp_l_text K) := by
  refine (F_l_text T).ok sc_l_text (fun vs H Q E h => ?_) (fun cdv A outer s H vs Q E hr h => ?_)
  · obtain ⟨_, _, rfl, _⟩ := h
    rfl
  · refine ⟨_, PSs.nox (pss_cons (ps_set (i := 1) sc_l_text.nd rfl (Or.inl rfl) (pe_op op_cat (pe_lst (pa_cons (pe_ix ix_list (pv 0) pe_int (fun _ _ => rfl)) pa_nil)) (pe_lc (own := [("_law_number", 2)]) rfl sc_l_text.nd (pi_list (pe_slice sl_list (pv 0) (po_some pe_int) (po_some pe_int))) (blkOk_by (N := N_l_text) (sc := defScope s_l_text) (by decide +kernel)) (fun _ _ _ _ _ => (pg_name (i := 2) sc_l_text.nd rfl (Or.inl rfl))) (fun _ _ _ _ _ => pts_nil) (fun _ _ _ _ _ => (pe_callTy call_str_int (by rfl) (f_str T) (by decide +kernel) (pa_cons (pv 2) pa_nil)))))) (pss_one (ps_ret (pe_join pe_str (pe_op op_cat (pv 1) (pe_lc (own := [("_law_one", 3)]) rfl sc_l_text.nd (pi_list (pe_ix ix_list (pv 0) pe_int (fun _ _ => rfl))) (blkOk_by (N := N_l_text) (sc := defScope s_l_text) (by decide +kernel)) (fun _ _ _ _ _ => (pg_name (i := 3) sc_l_text.nd rfl (Or.inl rfl))) (fun _ _ _ _ _ => pts_nil) (fun _ _ _ _ _ => (pe_op op_add_str (pe_op op_add_str (pe_op op_add_str (pe_op op_add_str (pe_ix (show IxR _ (rIxT K) from ix_tup) (pv 3) pe_int (fun _ _ => rfl)) pe_str) (pe_callTy call_str_int (by rfl) (f_str T) (by decide +kernel) (pa_cons (pe_ix (show IxR _ (rIxT K) from ix_tup) (pv 3) pe_int (fun _ _ => rfl)) pa_nil))) pe_str) (pe_callTy call_str_int (by rfl) (f_str T) (by decide +kernel) (pa_cons (pe_ix (show IxR _ (rIxT K) from ix_tup) (pv 3) pe_int (fun _ _ => rfl)) pa_nil)))))))))), ?_⟩
    obtain ⟨_, u, rfl, ⟨a, l, hs, rfl, ha, hl, pr⟩, b, k⟩ := h
    obtain ⟨ms, en, et, hms, lms⟩ := work_nums b
    have at0 : atI [V.str u.name, .int u.gap, .int u.len, .int u.due, .int u.late, .ref l] ((0 : Nat) : Int) = some (.str u.name) := atI_nat rfl
    have at5 : atI [V.str u.name, .int u.gap, .int u.len, .int u.due, .int u.late, .ref l] ((5 : Nat) : Int) = some (.ref l) := atI_nat rfl
    refine ⟨_, rfl, _, _, _, _, rfl, rfl, SqL.of ha, at0, szn (n := 1) (by decide), fun p np => ?_⟩
    have e1 := ex_up (o := .lst [V.str u.name]) np
    have hp1 : upd H p (.lst [V.str u.name]) p = some (.lst [V.str u.name]) := upd_same
    generalize upd H p (.lst [V.str u.name]) = H1 at e1 hp1 ⊢
    refine ⟨_, rfl, 1, rfl, 5, rfl, a, _, rfl, SqL.of (e1 _ _ ha), fun q nq => ?_⟩
    have ecut : cutV [V.str u.name, .int u.gap, .int u.len, .int u.due, .int u.late, .ref l] (some 1) (some 5) = [V.int u.gap, .int u.len, .int u.due, .int u.late] := by
      rw [show (1 : Int) = ((1 : Nat) : Int) from rfl, show (5 : Int) = ((5 : Nat) : Int) from rfl, cut_part [V.str u.name, .int u.gap, .int u.len, .int u.due, .int u.late, .ref l] 1 5 (show 5 ≤ 6 by decide) (by decide)]
      rfl
    have ecut2 : [V.int u.gap, .int u.len, .int u.due, .int u.late] = (nInts ms).map V.int := by
      unfold nInts
      rw [← en]
      rfl
    rw [ecut, ecut2]
    have e2 := e1.trans (ex_up (o := .lst ((nInts ms).map V.int)) nq)
    have hp2 := ex_up (o := .lst ((nInts ms).map V.int)) nq _ _ hp1
    have hq2 : upd H1 q (.lst ((nInts ms).map V.int)) q = some (.lst ((nInts ms).map V.int)) := upd_same
    generalize upd H1 q (.lst ((nInts ms).map V.int)) = H2 at e2 hp2 hq2 ⊢
    refine ⟨q, rfl, ⟨_, SqL.of hq2⟩, fun F nF => ?_⟩
    refine lc_list (K := K) (a := q) (xs := (nInts ms).map V.int) (fun j H' => Ex H2 H' ∧ H' F = some (.lst (((ms.take j).map num).map V.str))) ⟨ex_up nF, upd_same⟩ (fun j H' _ z => SqL.of (z.1 _ _ hq2)) ?_ ?_
    · rintro j x H3 hj ⟨e3, hF⟩
      unfold nInts at hj
      rw [List.getElem?_map, List.getElem?_map] at hj
      cases e : ms[j]? with
      | none =>
        rw [e] at hj
        cases hj
      | some m =>
        rw [e] at hj
        cases hj
        have hm := hms m (List.mem_of_getElem? e)
        refine ⟨rfl, _, rfl, (m : Int), rfl, ?_, _, hF, ?_, e3.mut nF, ?_⟩
        · exact Nat.lt_of_lt_of_le (PySem.Flt.log2_lt_of (k := 200) (by decide) (Nat.lt_of_lt_of_le (show ((m : Int)).natAbs < 10 ^ 60 by omega) (by decide))) (by decide)
        · rw [List.length_map, List.length_map, List.length_take]
          exact Evl.sz_lt (by omega)
        · rw [upd_same, take_snoc e, List.map_append, List.map_append]
          rfl
    rintro H3 ⟨e3, hF⟩
    rw [List.length_map, show (nInts ms).length = ms.length by unfold nInts; rw [List.length_map], List.take_of_length_le (Nat.le_refl _), ← et] at hF
    refine ⟨p, F, _, _, rfl, rfl, e3 _ _ hp2, hF, szn (n := 5) (by decide), fun r nr => ?_⟩
    have e4 := (e2.trans e3).trans (ex_up (o := .lst ([V.str u.name] ++ ([numI u.gap, numI u.len, numI u.due, numI u.late]).map V.str)) nr)
    have hr4 : upd H3 r (.lst ([V.str u.name] ++ ([numI u.gap, numI u.len, numI u.due, numI u.late]).map V.str)) r = some (.lst ([u.name, numI u.gap, numI u.len, numI u.due, numI u.late].map V.str)) := upd_same
    generalize upd H3 r (.lst ([V.str u.name] ++ ([numI u.gap, numI u.len, numI u.due, numI u.late]).map V.str)) = H4 at e4 hr4 ⊢
    refine ⟨⟨_, rfl⟩, _, rfl, _, rfl, _, _, _, _, rfl, rfl, SqL.of (e4 _ _ ha), at5, l, rfl, ⟨_, SqL.of (e4 _ _ hl)⟩, fun G nG => ?_⟩
    refine lc_list (K := K) (a := l) (xs := hs) (fun j H' => Ex H4 H' ∧ H' G = some (.lst (((u.holds.take j).map holdText).map V.str))) ⟨ex_up nG, upd_same⟩ (fun j H' _ z => SqL.of (z.1 _ _ (e4 _ _ hl))) ?_ ?_
    · rintro j x H5 hj ⟨e5, hG⟩
      obtain ⟨h, hh, t, rfl, ht⟩ := paired_back pr hj
      have ht5 := e5 _ _ (e4 _ _ ht)
      have hb := b.h2 h (List.mem_of_getElem? hh)
      have := b.l2
      have eb : (big : Int) = 1180591620717411303424 := by decide
      have l0 := hb.1.2.1
      have l1 : (Str.ofString (toString h.2.1)).length ≤ 60 := numI_len hb.2.1 (by omega)
      have l2 : (Str.ofString (toString h.2.2)).length ≤ 60 := numI_len (show 0 ≤ h.2.2 by omega) (by omega)
      have c1 : (":" : Str).length = 1 := by decide +kernel
      have c2 : ("-" : Str).length = 1 := by decide +kernel
      have few := b.h1
      refine ⟨rfl, _, rfl, _, _, _, _, rfl, rfl, SqT.of ht5, rfl, _, _, rfl, rfl, Evl.sz_of (by omega), ?_⟩
      refine ⟨_, rfl, _, _, _, _, rfl, rfl, SqT.of ht5, rfl, _, rfl, lg hb.2.1 (by omega), _, _, rfl, rfl, Evl.sz_of (by rw [len_app]; omega), _, _, rfl, rfl, Evl.sz_of (by rw [len_app, len_app]; omega), ?_⟩
      refine ⟨_, rfl, _, _, _, _, rfl, rfl, SqT.of ht5, rfl, _, rfl, lg (by omega) (by omega), _, _, rfl, rfl, Evl.sz_of (by rw [len_app, len_app, len_app]; omega), _, hG, ?_, e5.mut nG, ?_⟩
      · rw [List.length_map, List.length_map, List.length_take]
        exact Evl.sz_lt (by omega)
      · rw [upd_same, take_snoc hh, List.map_append, List.map_append]
        rfl
    rintro H5 ⟨e5, hG⟩
    rw [paired_len pr, List.take_of_length_le (Nat.le_refl _)] at hG
    have wl := words_few b
    refine ⟨r, G, _, _, rfl, rfl, e5 _ _ hr4, hG, ?_, fun t nt => ?_⟩
    · have few := b.h1
      rw [List.length_map, List.length_map, List.length_map]
      exact Evl.sz_of (by show 5 + _ ≤ _; omega)
    refine ⟨_, t, workWords u, rfl, rfl, .inl (SqL.of (by rw [upd_same]; unfold workWords; rw [List.map_append])), ?_, k _ ((e4.trans e5).trans (ex_up nt))⟩
    exact join_room (by decide +kernel) (by omega) fun x hx => Nat.le_trans (word_len b x hx) (by decide)
theorem inV_strs {x : Str} : ∀ {xs : List Str}, x ∈ xs → inV (V.str x) (xs.map V.str) = true := by
  intro xs h
  unfold inV
  rw [List.any_eq_true]
  exact ⟨V.str x, List.mem_map.mpr ⟨x, h, rfl⟩, by simp [eqV]⟩
theorem flat_strs (xs : List Str) : (xs.map V.str).all flatV = true := by
  rw [List.all_eq_true]
  intro v hv
  obtain ⟨x, _, rfl⟩ := List.mem_map.mp hv
  rfl
theorem eq_strs {x y : Str} : eqV (V.str x) (V.str y) = decide (x = y) := by
  by_cases h : x = y <;> simp [eqV, h]
def sp_l_row_read (K : PySem.W.Frag) : Sp := fun vs H Q _ => ∃ (B : Hp) (sv : V) (ws : List Wk) (row : List Cm), vs = [.str (rowText ws row), sv] ∧ Ex B H ∧ SomeV B sv ws ∧ Good ws ∧ row ≠ [] ∧ row.length ≤ 100 ∧ (∀ c ∈ row, CmOk ws c) ∧ ∀ x B' H', Gr B H B' H' → RowV B' x row → Q x H'
theorem ok_l_row_read (T : Says K mg) : FnOk P w K mg base CX0 2 (He.fAd K d_l_row_read.at_) (fdOf K d_l_row_read.at_) ["_law_text_here", "_law_some"] (sp_l_row_read K) := by
  refine (F_l_row_read T).ok sc_l_row_read (fun vs H Q E h => ?_) (fun cdv A outer s H vs Q E hr h => ?_)
  · obtain ⟨_, _, _, _, rfl, _⟩ := h
    rfl
  · refine ⟨_, PSs.nox (pss_cons (ps_setLc (i := 2) (own := [("_law_one", 7)]) rfl sc_l_row_read.nd rfl rfl (sw_true rfl rfl rfl (by decide +kernel)) (pi_list (pv 1)) (blkOk_by (N := N_l_row_read) (sc := defScope s_l_row_read) (by decide +kernel)) (fun _ _ _ _ _ => (pg_name (i := 7) sc_l_row_read.nd rfl (Or.inl rfl))) (fun _ _ _ _ _ => pts_nil) (fun _ _ _ _ _ => (pe_ix (show IxR _ (rIxL K) from ix_list) (pv 7) pe_int (fun _ _ => rfl)))) (pss_cons (ps_set (i := 3) sc_l_row_read.nd rfl (Or.inl rfl) (pe_lst pa_nil)) (pss_cons (ps_for PassesOwn.never rfl (pi_list (pe_split (pv 0) pe_str)) (pg_name (i := 4) sc_l_row_read.nd rfl (Or.inl rfl)) (pss_cons (ps_set (i := 5) sc_l_row_read.nd rfl (Or.inl rfl) (pe_split (pv 4) pe_str)) (pss_cons (ps_setLc (i := 6) (own := [("_law_word", 8)]) rfl sc_l_row_read.nd rfl rfl (sw_true rfl rfl rfl (by decide +kernel)) (pi_list (pe_slice sl_list (pv 5) (po_some pe_int) po_none)) (blkOk_by (N := N_l_row_read) (sc := defScope s_l_row_read) (by decide +kernel)) (fun _ _ _ _ _ => (pg_name (i := 8) sc_l_row_read.nd rfl (Or.inl rfl))) (fun _ _ _ _ _ => pts_nil) (fun _ _ _ _ _ => (pe_call (ok_l_figure T) (hr.mono (by decide)) rfl (g__law_figure T) (F_l_figure T).kp (b_l_figure T) .nil pass0 (pa_cons (pv 8) pa_nil)))) (pss_cons (ps_if (PW.pt (pw_or (pt_cmpR op_ne (pe_callB call_len_seq (by rfl) (f_len T) (by decide +kernel) (pa_cons (pv 5) pa_nil)) pe_int (nomark _)) (pw_or (pt_cmpR op_notIn_seq (pe_ix ix_list (pv 5) pe_int (fun _ _ => rfl)) (pv 2) (by rfl)) (pw_or1 (pt_cmpR op_lt (pe_callB (cr_min rfl) (by rfl) (f_min T) (by decide +kernel) (pa_cons (pv 6) pa_nil)) pe_int (nomark _)))))) (pss_one (ps_ret pe_non)) pss_nil) (pss_one (ps_expr (pe_bm PySem.F.plainAttrs_list PySem.F.slot_list_append PySem.F.type_list_append mt_append (pv 3) (pa_cons (pe_tup (pa_cons (pe_bm PySem.F.plainAttrs_list PySem.F.slot_list_index PySem.F.type_list_index mt_index (pv 2) (pa_cons (pe_ix ix_list (pv 5) pe_int (fun _ _ => rfl)) pa_nil)) (pa_cons (pe_ix ix_list (pv 6) pe_int (fun _ _ => rfl)) (pa_cons (pe_ix ix_list (pv 6) pe_int (fun _ _ => rfl)) (pa_cons (pe_ix ix_list (pv 6) pe_int (fun _ _ => rfl)) pa_nil))))) pa_nil)))))))) (pss_one (ps_ret (pv 3)))))), ?_⟩
    obtain ⟨B, _, ws, row, rfl, eB, ⟨sl, ps, rfl, hsl, pr⟩, G, ne, lr, o, k⟩ := h
    have few := G.few
    have rl := row_len G lr o
    -- the names
    refine ⟨_, rfl, sl, rfl, ⟨_, SqL.of (eB _ _ hsl)⟩, fun F nF => ?_⟩
    refine lc_list (K := K) (a := sl) (xs := ps) (fun j H' => Ex H H' ∧ H' F = some (.lst (((ws.take j).map (·.name)).map V.str))) ⟨ex_up nF, upd_same⟩ (fun j H' _ z => SqL.of (z.1 _ _ (eB _ _ hsl))) ?_ ?_
    · rintro j x H2 hj ⟨e2, hF⟩
      obtain ⟨u, hu, a, l, hs, rfl, ha, _, _⟩ := paired_back pr hj
      have at0 : atI [V.str u.name, .int u.gap, .int u.len, .int u.due, .int u.late, .ref l] ((0 : Nat) : Int) = some (.str u.name) := atI_nat rfl
      refine ⟨rfl, _, rfl, _, _, _, _, rfl, rfl, SqL.of (e2 _ _ (eB _ _ ha)), at0, _, hF, ?_, e2.mut nF, ?_⟩
      · rw [List.length_map, List.length_map, List.length_take]
        exact Evl.sz_lt (by omega)
      · rw [upd_same, take_snoc hu, List.map_append, List.map_append]
        rfl
    rintro H2 ⟨e2, hF⟩
    rw [paired_len pr, List.take_of_length_le (Nat.le_refl _)] at hF
    refine ⟨by decide, fun D nD => ?_⟩
    have nD0 : H D = none := Evl.fresh_back e2 nD
    have bD : B D = none := ex_none eB nD0
    have e3 := e2.trans (ex_up (o := .lst []) nD)
    have hF3 := ex_up (o := .lst []) nD _ _ hF
    have hD3 : upd H2 D (.lst []) D = some (.lst []) := upd_same
    generalize upd H2 D (.lst []) = H3 at e3 hF3 hD3 ⊢
    refine ⟨_, rfl, ⟨_, rfl⟩, _, _, rfl, rfl, by decide +kernel, Evl.sz_of (by omega), fun p np => ?_⟩
    rw [row_split G ne o]
    have npD : D ≠ p := ne_of_none hD3 np
    have e4 := e3.trans (ex_up (o := .lst ((row.map (cmText ws)).map V.str)) np)
    have hF4 := ex_up (o := .lst ((row.map (cmText ws)).map V.str)) np _ _ hF3
    have hD4 := ex_up (o := .lst ((row.map (cmText ws)).map V.str)) np _ _ hD3
    have hp4 : upd H3 p (.lst ((row.map (cmText ws)).map V.str)) p = some (.lst ((row.map (cmText ws)).map V.str)) := upd_same
    generalize upd H3 p (.lst ((row.map (cmText ws)).map V.str)) = H4 at e4 hF4 hD4 hp4 ⊢
    have nFD : F ≠ D := fun z => by rw [z, nD] at hF; cases hF
    refine ⟨p, rfl, ⟨_, SqL.of hp4⟩, for_list (K := K) (a := p) (xs := (row.map (cmText ws)).map V.str) (fun j σ H' => ∃ (B1 : Hp) (vs : List V) (x y z : Option V), σ = [some (.str (rowText ws row)), some (.ref sl), some (.ref F), some (.ref D), x, y, z, none, none] ∧
      Gr B H B1 H' ∧ B1 D = none ∧ H' p = some (.lst ((row.map (cmText ws)).map V.str)) ∧ H' F = some (.lst ((ws.map (·.name)).map V.str)) ∧ H' D = some (.lst vs) ∧ Paired (CmV B1) vs (row.take j)) ⟨B, [], _, _, _, rfl, (Gr.refl eB).heap e4, bD, hp4, hF4, hD4, .nil⟩ (fun j σ H' _ ⟨_, _, _, _, _, _, _, _, q, _⟩ => SqL.of q) ?_ ?_⟩
    · rintro j x σ H5 hj ⟨B1, vs, x', y', z', rfl, g5, b1D, hp5, hF5, hD5, prr⟩
      rw [List.getElem?_map, List.getElem?_map] at hj
      cases e : row[j]? with
      | none =>
        rw [e] at hj
        cases hj
      | some c =>
        rw [e] at hj
        cases hj
        have oc := o c (List.mem_of_getElem? e)
        obtain ⟨m1, e1', h1, t1⟩ := numI_small oc.c0 oc.c1
        obtain ⟨m2, e2', h2, t2⟩ := numI_small oc.t0 oc.t1
        obtain ⟨m3, e3', h3, t3⟩ := numI_small oc.l0 oc.l1
        have lc := cm_len G oc
        obtain ⟨i, u, ew, hi⟩ := oc.at_
        have lv : vs.length ≤ 100 := by
          rw [paired_len prr, List.length_take]
          omega
        refine ⟨_, rfl, ⟨_, rfl⟩, _, _, rfl, rfl, by decide +kernel, Evl.sz_of (by omega), fun q nq => ?_⟩
        rw [cm_split G oc]
        have ewd : (cmWords ws c).map V.str = [.str u.name, .str (num m1), .str (num m2), .str (num m3)] := by
          rw [← t1, ← t2, ← t3, ← nameAt_eq ew hi]
          rfl
        rw [ewd]
        have g6 := g5.heap (ex_up (o := .lst [.str u.name, .str (num m1), .str (num m2), .str (num m3)]) nq)
        have x6 := ex_up (o := .lst [.str u.name, .str (num m1), .str (num m2), .str (num m3)]) nq
        have hq6 : upd H5 q (.lst [.str u.name, .str (num m1), .str (num m2), .str (num m3)]) q = some (.lst [.str u.name, .str (num m1), .str (num m2), .str (num m3)]) := upd_same
        have hD6 := x6 _ _ hD5
        have hF6 := x6 _ _ hF5
        have hp6 := x6 _ _ hp5
        generalize upd H5 q (.lst [.str u.name, .str (num m1), .str (num m2), .str (num m3)]) = H6 at g6 hq6 hD6 hF6 hp6 ⊢
        refine ⟨_, rfl, 1, rfl, q, _, rfl, SqL.of hq6, fun r nr => ?_⟩
        have ecut : cutV [V.str u.name, .str (num m1), .str (num m2), .str (num m3)] (some 1) none = [m1, m2, m3].map (fun m => V.str (num m)) := by
          rw [show (1 : Int) = ((1 : Nat) : Int) from rfl, cut_from]
          rfl
        rw [ecut]
        have x7 := ex_up (o := .lst ([m1, m2, m3].map (fun m => V.str (num m)))) nr
        have g7 := g6.heap x7
        have hr7 : upd H6 r (.lst ([m1, m2, m3].map (fun m => V.str (num m)))) r = some (.lst ([m1, m2, m3].map (fun m => V.str (num m)))) := upd_same
        have hq7 := x7 _ _ hq6
        have hD7 := x7 _ _ hD6
        have hF7 := x7 _ _ hF6
        have hp7 := x7 _ _ hp6
        generalize upd H6 r (.lst ([m1, m2, m3].map (fun m => V.str (num m)))) = H7 at g7 hr7 hq7 hD7 hF7 hp7 ⊢
        refine ⟨r, rfl, ⟨_, SqL.of hr7⟩, fun A1 nA => ?_⟩
        refine lc_list (K := K) (a := r) (xs := [m1, m2, m3].map (fun m => V.str (num m))) (fun j H' => Ex H7 H' ∧ H' A1 = some (.lst ((nInts ([m1, m2, m3].take j)).map V.int))) ⟨ex_up nA, upd_same⟩ (fun j H' _ z => SqL.of (z.1 _ _ hr7)) ?_ ?_
        · rintro j' x H8 hj ⟨e8, hA⟩
          rw [List.getElem?_map] at hj
          cases em : [m1, m2, m3][j']? with
          | none =>
            rw [em] at hj
            cases hj
          | some m =>
            rw [em] at hj
            cases hj
            have hm : m < 10 ^ 60 := by
              have := List.mem_of_getElem? em
              simp only [List.mem_cons, List.mem_nil_iff, or_false] at this
              rcases this with rfl | rfl | rfl <;> assumption
            have lj' := (List.getElem?_eq_some_iff.mp em).1
            refine ⟨rfl, _, rfl, num m, rfl, Nat.le_trans (ten60 hm) (by decide), fun z hz => ?_⟩
            have ez := hz m hm rfl
            subst ez
            refine ⟨_, hA, ?_, e8.mut nA, ?_⟩
            · unfold nInts
              rw [List.length_map, List.length_map, List.length_take]
              exact Evl.sz_lt (by simp at lj' ⊢; omega)
            · rw [upd_same, take_snoc em]
              unfold nInts
              rw [List.map_append, List.map_append]
              rfl
        rintro H8 ⟨e8, hA⟩
        have hA8 : H8 A1 = some (.lst ([(m1 : Int), m2, m3].map V.int)) := hA
        have g8 := g7.heap e8
        have hq8 := e8 _ _ hq7
        have hF8 := e8 _ _ hF7
        have hD8 := e8 _ _ hD7
        have at0 : atI [V.str u.name, .str (num m1), .str (num m2), .str (num m3)] ((0 : Nat) : Int) = some (.str u.name) := atI_nat rfl
        have nmem : u.name ∈ ws.map (·.name) := List.mem_map.mpr ⟨u, List.mem_of_getElem? hi, rfl⟩
        refine ⟨_, rfl, q, _, rfl, .inl (SqL.of hq8), rfl, _, rfl, itF rfl ?_⟩
        refine ⟨_, rfl, _, _, _, _, rfl, rfl, SqL.of hq8, at0, _, rfl, F, _, rfl, .inl (SqL.of hF8), rfl, flat_strs _, _, rfl, itF (by rw [inV_strs nmem]; rfl) ?_⟩
        refine ⟨_, rfl, A1, [(m1 : Int), m2, m3], rfl, SqL.of hA8, (show 0 < 3 by decide), fun m hm hg => ?_⟩
        have mpos : 0 ≤ m := by
          simp only [List.mem_cons, List.mem_nil_iff, or_false] at hm
          rcases hm with rfl | rfl | rfl <;> omega
        refine ⟨_, _, rfl, rfl, _, rfl, itF (decide_eq_false (by omega)) ?_⟩
        have a0 : atI ([(m1 : Int), m2, m3].map V.int) ((0 : Nat) : Int) = some (.int (m1 : Int)) := atI_nat rfl
        have a1 : atI ([(m1 : Int), m2, m3].map V.int) ((1 : Nat) : Int) = some (.int (m2 : Int)) := atI_nat rfl
        have a2 : atI ([(m1 : Int), m2, m3].map V.int) ((2 : Nat) : Int) = some (.int (m3 : Int)) := atI_nat rfl
        have ni : ((ws.map (·.name)).map V.str)[i]? = some (.str u.name) := by rw [List.getElem?_map, List.getElem?_map, hi]; rfl
        refine ⟨_, rfl, .inl ⟨rfl, _, SqL.of hD8⟩, _, rfl, .inl ⟨rfl, _, SqL.of hF8⟩, _, rfl, _, _, _, _, rfl, rfl, SqL.of hq8, at0, F, _, _, i, _, rfl, rfl, SqL.of hF8, rfl, flat_strs _, ni, by rw [eq_strs]; simp, fun m' z' hm' hz' => ?_, ?_⟩
        · rw [List.getElem?_map, List.getElem?_map] at hz'
          cases e9 : ws[m']? with
          | none =>
            rw [e9] at hz'
            cases hz'
          | some v =>
            rw [e9] at hz'
            cases hz'
            rw [eq_strs]
            have no := G.tail hi v (List.mem_of_getElem? (by rw [List.getElem?_take_of_lt hm']; exact e9))
            exact decide_eq_false no
        refine ⟨_, rfl, _, _, _, _, rfl, rfl, SqL.of hA8, a0, _, rfl, _, _, _, _, rfl, rfl, SqL.of hA8, a1, _, rfl, _, _, _, _, rfl, rfl, SqL.of hA8, a2, szn (n := 4) (by decide), fun t nt => ?_⟩
        have ntD : D ≠ t := ne_of_none hD8 nt
        have ntp : p ≠ t := ne_of_none (e8 _ _ hp7) nt
        have ntF : F ≠ t := ne_of_none hF8 nt
        refine ⟨D, _, _, rfl, rfl, (upd_ne ntD).trans hD8, Evl.sz_lt (by omega), ?_⟩
        refine ⟨_, vs ++ [.ref t], _, _, _, rfl, (g8.new (o := .tup [.int (i : Nat), .int (m1 : Int), .int (m2 : Int), .int (m3 : Int)]) nt).write nD0 (by rw [upd_ne ntD]; exact b1D), by rw [upd_ne ntD]; exact b1D, (upd_ne npD.symm).trans ((upd_ne ntp).trans (e8 _ _ hp7)), (upd_ne nFD).trans ((upd_ne ntF).trans hF8), upd_same, ?_⟩
        rw [take_snoc e]
        refine paired_snoc (L2.Paired.mapP prr fun _ _ z => z.mono (ex_up (ex_none g8.e nt))) ⟨t, rfl, ?_⟩
        rw [upd_same, ew, e1', e2', e3']
    · rintro σ H5 ⟨B1, vs, x', y', z', rfl, g5, b1D, hp5, hF5, hD5, prr⟩
      rw [List.length_map, List.length_map, List.take_of_length_le (Nat.le_refl _)] at prr
      exact ⟨_, rfl, k _ _ _ (g5.freeze nD0 b1D hD5) ⟨D, vs, rfl, upd_same, L2.Paired.mapP prr fun _ _ z => z.mono (ex_up b1D)⟩⟩
def sp_l_legal (K : PySem.W.Frag) : Sp := fun vs H Q _ => ∃ (rv sv : V) (ws : List Wk) (row : List Cm), vs = [rv, sv] ∧ RowV H rv row ∧ SomeV H sv ws ∧ Good ws ∧ RowQ ws row ∧ ∀ H', Ex H H' → Q (.bl true) H'
theorem pt_fields {B : Hp} {v : V} {u : Wk} (h : PtV B v u) : ∃ a l, v = .ref a ∧ B a = some (.lst [.str u.name, .int u.gap, .int u.len, .int u.due, .int u.late, .ref l]) := by
  obtain ⟨a, l, hs, e1, e2, _⟩ := h
  exact ⟨a, l, e1, e2⟩
theorem ok_l_legal (T : Says K mg) : FnOk P w K mg base CX0 1 (He.fAd K d_l_legal.at_) (fdOf K d_l_legal.at_) ["_law_row", "_law_some"] (sp_l_legal K) := by
  refine (F_l_legal T).ok sc_l_legal (fun vs H Q E h => ?_) (fun cdv A outer s H vs Q E hr h => ?_)
  · obtain ⟨_, _, _, _, rfl, _⟩ := h
    rfl
  · refine ⟨_, PSs.nox (pss_cons (ps_setLc (i := 2) (own := [("_law_one", 7)]) rfl sc_l_legal.nd rfl rfl (sw_true rfl rfl rfl (by decide +kernel)) (pi_list (pv 1)) (blkOk_by (N := N_l_legal) (sc := defScope s_l_legal) (by decide +kernel)) (fun _ _ _ _ _ => (pg_name (i := 7) sc_l_legal.nd rfl (Or.inl rfl))) (fun _ _ _ _ _ => pts_nil) (fun _ _ _ _ _ => (pe_op op_sub pe_int (pe_ix (show IxR _ (rIxL K) from ix_list) (pv 7) pe_int (fun _ _ => rfl))))) (pss_cons (ps_for PassesOwn.never rfl (pi_list (pv 0)) (pg_tup rfl (pgs_cons (pg_name (i := 3) sc_l_legal.nd rfl (Or.inl rfl)) (pgs_cons (pg_name (i := 4) sc_l_legal.nd rfl (Or.inl rfl)) (pgs_cons (pg_name (i := 5) sc_l_legal.nd rfl (Or.inl rfl)) (pgs_cons (pg_name (i := 6) sc_l_legal.nd rfl (Or.inl rfl)) pgs_nil))))) (pss_cons (ps_if (PW.pt (pw_or (pt_cmpR op_lt (pv 4) (pe_op op_add (pe_ix ix_list (pv 2) (pv 3) (fun _ _ => rfl)) (pe_ix ix_list (pe_ix ix_list (pv 1) (pv 3) (fun _ _ => rfl)) pe_int (fun _ _ => rfl))) (nomark _)) (pw_or (pt_cmpR op_gt (pv 5) (pe_ix ix_list (pe_ix ix_list (pv 1) (pv 3) (fun _ _ => rfl)) pe_int (fun _ _ => rfl)) (nomark _)) (pw_or1 (pt_not (pt_chain op_le op_le pe_int (pv 6) (pe_ix ix_list (pe_ix ix_list (pv 1) (pv 3) (fun _ _ => rfl)) pe_int (fun _ _ => rfl)))))))) (pss_one (ps_ret pe_bl)) pss_nil) (pss_one (ps_asg (pv 4) (pg_sub (pv 2) (pv 3) set_list))))) (pss_one (ps_ret (pe_cmpR op_le (pe_callB call_len_seq (by rfl) (f_len T) (by decide +kernel) (pa_cons (pv 0) pa_nil)) pe_int (nomark _)))))), ?_⟩
    obtain ⟨_, _, ws, row, rfl, ⟨p, cs, rfl, hp0, prow⟩, ⟨sl, ps, rfl, hsl, pr⟩, G, R, k⟩ := h
    have few := G.few
    have fewR := R.few
    refine ⟨_, rfl, sl, rfl, ⟨_, SqL.of hsl⟩, fun F nF => ?_⟩
    refine lc_list (K := K) (a := sl) (xs := ps) (fun j H' => Ex H H' ∧ H' F = some (.lst (((ws.take j).map fun u => 0 - u.gap).map V.int))) ⟨ex_up nF, upd_same⟩ (fun j H' _ z => SqL.of (z.1 _ _ hsl)) ?_ ?_
    · rintro j x H2 hj ⟨e2, hF⟩
      obtain ⟨u, hu, hx⟩ := paired_back pr hj
      obtain ⟨a, l, rfl, ha⟩ := pt_fields hx
      have at1 : atI [V.str u.name, .int u.gap, .int u.len, .int u.due, .int u.late, .ref l] ((1 : Nat) : Int) = some (.int u.gap) := atI_nat rfl
      refine ⟨rfl, _, rfl, _, _, _, _, rfl, rfl, SqL.of (e2 _ _ ha), at1, _, _, rfl, rfl, _, hF, ?_, e2.mut nF, ?_⟩
      · rw [List.length_map, List.length_map, List.length_take]
        exact Evl.sz_lt (by omega)
      · rw [upd_same, take_snoc hu, List.map_append, List.map_append]
        rfl
    rintro H2 ⟨e2, hF⟩
    rw [paired_len pr, List.take_of_length_le (Nat.le_refl _)] at hF
    refine ⟨_, rfl, p, rfl, ⟨_, SqL.of (e2 _ _ hp0)⟩, for_list (K := K) (a := p) (xs := cs) (fun j σ H' => ∃ (x y z t : Option V) (ls : List Int), σ = [some (.ref p), some (.ref sl), some (.ref F), x, y, z, t, none] ∧ Ex H H' ∧ H' F = some (.lst (ls.map V.int)) ∧ ls.length = ws.length ∧
      ∀ (i : Nat) (u : Wk) (L : Int), ws[i]? = some u → ls[i]? = some L → L = 0 - u.gap ∨ ∃ (q : Nat) (c : Cm), q < j ∧ row[q]? = some c ∧ c.who = (i : Nat) ∧ L = c.come) ⟨_, _, _, _, _, rfl, e2, hF, by rw [List.length_map], fun i u L h1 h2 => by rw [List.getElem?_map, h1] at h2; cases h2; exact .inl rfl⟩ (fun j σ H' _ ⟨_, _, _, _, _, _, z, _⟩ => SqL.of (z _ _ hp0)) ?_ ?_⟩
    · rintro j x σ H3 hj ⟨x', y', z', t', ls, rfl, e3, hF3, ll, old⟩
      obtain ⟨c, hc, q, rfl, hq⟩ := paired_back prow hj
      obtain ⟨h1, _, h2, h3, i, u, h4, h5, h6, h7⟩ := R.cm j c hc
      obtain ⟨li, _⟩ := List.getElem?_eq_some_iff.mp h5
      obtain ⟨L, hL⟩ : ∃ L, ls[i]? = some L := ⟨_, List.getElem?_eq_getElem (by omega)⟩
      have hLv : (ls.map V.int)[i]? = some (.int L) := by rw [List.getElem?_map, hL]; rfl
      obtain ⟨pv, hpv, hpt⟩ := paired_at pr h5
      obtain ⟨a, l, rfl, ha⟩ := pt_fields hpt
      have at1 : atI [V.str u.name, .int u.gap, .int u.len, .int u.due, .int u.late, .ref l] ((1 : Nat) : Int) = some (.int u.gap) := atI_nat rfl
      have at2 : atI [V.str u.name, .int u.gap, .int u.len, .int u.due, .int u.late, .ref l] ((2 : Nat) : Int) = some (.int u.len) := atI_nat rfl
      have at4 : atI [V.str u.name, .int u.gap, .int u.len, .int u.due, .int u.late, .ref l] ((4 : Nat) : Int) = some (.int u.late) := atI_nat rfl
      have ok : L + u.gap ≤ c.come := by
        rcases old i u L h5 hL with e | ⟨q', c', y1, y2, y3, y4⟩
        · omega
        · have := R.gap q' j c' c i u y1 y2 hc y3 h4 h5
          omega
      refine ⟨q, _, rfl, SqT.of (e3 _ _ hq), rfl, _, _, rfl, _, _, rfl, _, _, rfl, _, _, rfl, rfl, ?_⟩
      rw [h4]
      refine ⟨_, rfl, _, rfl, _, rfl, _, _, _, _, rfl, rfl, SqL.of hF3, atI_nat hLv, _, rfl, _, rfl, _, _, _, _, rfl, rfl, SqL.of (e3 _ _ hsl), atI_nat hpv, _, _, _, _, rfl, rfl, SqL.of (e3 _ _ ha), at1, _, _, rfl, rfl, _, _, rfl, rfl, _, rfl, itF (decide_eq_false (by omega)) ?_⟩
      refine ⟨_, rfl, _, rfl, _, rfl, _, _, _, _, rfl, rfl, SqL.of (e3 _ _ hsl), atI_nat hpv, _, _, _, _, rfl, rfl, SqL.of (e3 _ _ ha), at4, _, _, rfl, rfl, _, rfl, itF (decide_eq_false (by omega)) ?_⟩
      refine ⟨_, rfl, _, _, rfl, rfl, _, rfl, itT (decide_eq_true (by omega)) ?_⟩
      refine ⟨_, rfl, _, rfl, _, _, _, _, rfl, rfl, SqL.of (e3 _ _ hsl), atI_nat hpv, _, _, _, _, rfl, rfl, SqL.of (e3 _ _ ha), at2, _, _, rfl, rfl, _, rfl, ?_⟩
      refine itF (show (!decide (c.len ≤ u.len)) = false by rw [decide_eq_true h7]; rfl) ?_
      refine ⟨_, rfl, _, rfl, _, rfl, F, _, _, i, rfl, rfl, hF3, ixN_nat (by rw [List.length_map]; omega), ?_⟩
      have nF0 : H F = none := nF
      refine ⟨_, _, _, _, ls.set i c.come, rfl, e3.mut nF0, by rw [upd_same, List.map_set], by rw [List.length_set]; exact ll, fun i' u' L' g1 g2 => ?_⟩
      rw [List.getElem?_set] at g2
      split at g2
      · rename_i ei
        split at g2
        · cases g2
          exact .inr ⟨j, c, by omega, hc, by rw [← ei]; exact h4, rfl⟩
        · cases g2
      · rcases old i' u' L' g1 g2 with e | ⟨q', c', y1, y2, y3, y4⟩
        · exact .inl e
        · exact .inr ⟨q', c', by omega, y2, y3, y4⟩
    · rintro σ H3 ⟨x', y', z', t', ls, rfl, e3, hF3, ll, old⟩
      refine ⟨_, rfl, p, _, rfl, .inl (SqL.of (e3 _ _ hp0)), _, _, rfl, rfl, ?_⟩
      show Q (V.bl (decide (((cs.length : Nat) : Int) ≤ 100))) H3
      rw [decide_eq_true (show ((cs.length : Nat) : Int) ≤ 100 by rw [paired_len prow]; omega)]
      exact k H3 e3
end
end Dty
set_option Elab.async false
set_option linter.all false
set_option maxRecDepth 100000
set_option maxHeartbeats 4000000
namespace Dty
open PySem PySem.Spec PyProof.Rows L2 Dq TL NdefX LamX
/-! ### the told stretches, read back -/
theorem tok_take {row : List Cm} : ∀ (l : List Sg) (t : Int) (j : Nat), TOk row t l → TOk row t (l.take j)
  | _, _, 0, _ => trivial
  | [], _, _ + 1, _ => trivial
  | (p, b, e) :: r, t, j + 1, h => ⟨h.1, h.2.1, h.2.2.1, tok_take r e j h.2.2.2⟩
theorem seg_words {g : Sg} (o : SgOk g) : Txt.split (Txt.replace (segText g) "-" " ") " " = [numI (g.1 : Nat), numI g.2.1, numI g.2.2] := by
  have p0 : (0 : Int) ≤ (g.1 : Nat) := Int.natCast_nonneg _
  have hd : ("-" : Str) = ⟨#[45]⟩ := by decide +kernel
  have sp : Txt.split (segText g) "-" = [numI (g.1 : Nat) ++ " " ++ numI g.2.1, numI g.2.2] := by
    have e : segText g = Txt.join "-" [numI (g.1 : Nat) ++ " " ++ numI g.2.1, numI g.2.2] := by
      rw [join_eq]
      rfl
    rw [e]
    refine TL.split_join tl_dash (by decide +kernel) (by simp) fun x hx z => ?_
    simp only [List.mem_cons, List.mem_nil_iff, or_false] at hx
    rcases hx with rfl | rfl
    · rw [tl_append, tl_append, List.mem_append, List.mem_append, tl_blank] at z
      rcases z with (z | z) | z
      · have := numI_dig p0 z
        omega
      · simp at z
      · have := numI_dig o.b0 z
        omega
    · have := numI_dig o.e0 z
      omega
  have rp : Txt.replace (segText g) "-" " " = Txt.join " " [numI (g.1 : Nat), numI g.2.1, numI g.2.2] := by
    rw [hd, StrLaws.replace_one, ← hd, sp, joinC, joinC, join_eq]
    show Str.join " " [numI (g.1 : Nat) ++ " " ++ numI g.2.1, numI g.2.2] = numI (g.1 : Nat) ++ " " ++ (numI g.2.1 ++ " " ++ numI g.2.2)
    show numI (g.1 : Nat) ++ " " ++ numI g.2.1 ++ " " ++ numI g.2.2 = _
    rw [str_assoc (numI (g.1 : Nat) ++ " "), str_assoc (numI (g.1 : Nat) ++ " "), str_assoc (numI g.2.1)]
  rw [rp]
  refine split_words (by simp) fun x hx => ?_
  simp only [List.mem_cons, List.mem_nil_iff, or_false] at hx
  rcases hx with rfl | rfl | rfl
  · exact num_plain p0
  · exact num_plain o.b0
  · exact num_plain o.e0
theorem cntZ {c : Nat} : ∀ {l : List Nat}, c ∉ l → PyProof.Rows.cnt c l = 0
  | [], _ => rfl
  | n :: r, h => by
    rw [PyProof.Rows.cnt_cons, cntZ (l := r) fun z => h (List.mem_cons_of_mem _ z), if_neg fun z => h (by rw [z]; exact List.mem_cons_self)]
    rfl
theorem cntA (c : Nat) : ∀ (l m : List Nat), PyProof.Rows.cnt c (l ++ m) = PyProof.Rows.cnt c l + PyProof.Rows.cnt c m
  | [], m => by
    rw [List.nil_append, PyProof.Rows.cnt_nil]
    omega
  | n :: r, m => by
    rw [List.cons_append, PyProof.Rows.cnt_cons, PyProof.Rows.cnt_cons, cntA c r m]
    omega
theorem seg_count {g : Sg} (o : SgOk g) : Txt.count (segText g) "-" = 1 := by
  have p0 : (0 : Int) ≤ (g.1 : Nat) := Int.natCast_nonneg _
  have hd : ("-" : Str) = ⟨#[45]⟩ := by decide +kernel
  rw [hd, PyProof.Rows.count_cnt]
  show PyProof.Rows.cnt 45 (tl (segText g)) = 1
  unfold segText
  have z1 : PyProof.Rows.cnt 45 (tl (numI (g.1 : Nat))) = 0 := cntZ fun z => by have := numI_dig p0 z; omega
  have z2 : PyProof.Rows.cnt 45 (tl (numI g.2.1)) = 0 := cntZ fun z => by have := numI_dig o.b0 z; omega
  have z3 : PyProof.Rows.cnt 45 (tl (numI g.2.2)) = 0 := cntZ fun z => by have := numI_dig o.e0 z; omega
  have z4 : PyProof.Rows.cnt 45 [32] = 0 := cntZ (by simp)
  have z5 : PyProof.Rows.cnt 45 [45] = 1 := by
    rw [PyProof.Rows.cnt_cons, PyProof.Rows.cnt_nil, if_pos rfl]
    rfl
  rw [tl_append, tl_append, tl_append, tl_append, tl_blank, tl_dash, cntA, cntA, cntA, cntA, z1, z2, z3, z4, z5]
  rfl
theorem seg_free {g : Sg} (o : SgOk g) : 59 ∉ tl (segText g) := by
  have p0 : (0 : Int) ≤ (g.1 : Nat) := Int.natCast_nonneg _
  unfold segText
  rw [tl_append, tl_append, tl_append, tl_append, tl_blank, tl_dash]
  intro z
  simp only [List.mem_append, List.mem_singleton] at z
  rcases z with (((z | z) | z) | z) | z
  · have := numI_dig p0 z
    omega
  · cases z
  · have := numI_dig o.b0 z
    omega
  · cases z
  · have := numI_dig o.e0 z
    omega
theorem told_split {told : List Sg} (ne : told ≠ []) (o : ∀ g ∈ told, SgOk g) : Txt.split (toldText told) "; " = told.map segText :=
  TL.split_join tl_semi (by decide +kernel) (by simpa using ne) fun p hp => by
    obtain ⟨g, hg, rfl⟩ := List.mem_map.mp hp
    exact seg_free (o g hg)
theorem told_length {told : List Sg} (l : told.length ≤ 300) (o : ∀ g ∈ told, SgOk g) : (toldText told).length ≤ 70000 := by
  have s := sum_le ((told.map segText).map (·.length)) (c := 200) fun n hn => by
    obtain ⟨x, hx, rfl⟩ := List.mem_map.mp hn
    obtain ⟨g, hg, rfl⟩ := List.mem_map.mp hx
    exact seg_len (o g hg)
  have z := len_join "; " (told.map segText)
  rw [List.length_map, List.length_map] at s
  have e1 : ("; " : Str).length = 2 := by decide +kernel
  rw [e1, List.length_map] at z
  unfold toldText
  omega
def rngL (n : Nat) (f : Nat → Int) : List Int := (List.range n).map f
theorem rng_at {n p : Nat} {f : Nat → Int} (h : p < n) : (rngL n f)[p]? = some (f p) := by
  unfold rngL
  rw [List.getElem?_map, List.getElem?_range h]
  rfl
theorem rng_set {n p : Nat} {f g : Nat → Int} (h : ∀ q, q ≠ p → g q = f q) : (rngL n f).set p (g p) = rngL n g := by
  apply List.ext_getElem?
  intro i
  unfold rngL
  rw [List.getElem?_set, List.getElem?_map, List.getElem?_map, List.length_map, List.length_range]
  by_cases e : p = i
  · subst e
    rw [if_pos rfl]
    by_cases l : p < n
    · rw [if_pos l, List.getElem?_range l]
      rfl
    · rw [if_neg l, List.getElem?_eq_none (by rw [List.length_range]; omega)]
      rfl
  · rw [if_neg e]
    by_cases l : i < n
    · rw [List.getElem?_range l]
      show some (f i) = some (g i)
      rw [h i fun z => e z.symm]
    · rw [List.getElem?_eq_none (by rw [List.length_range]; omega)]
      rfl
def lnAt (row : List Cm) (p : Nat) : Int := match row[p]? with
  | some c => c.len
  | none => 0
theorem lens_rng (row : List Cm) : row.map (·.len) = rngL row.length (lnAt row) := by
  apply List.ext_getElem?
  intro i
  unfold rngL
  rw [List.getElem?_map, List.getElem?_map]
  by_cases l : i < row.length
  · rw [List.getElem?_range l, List.getElem?_eq_getElem l]
    show some _ = some (lnAt row i)
    unfold lnAt
    rw [List.getElem?_eq_getElem l]
  · rw [List.getElem?_eq_none (by omega), List.getElem?_eq_none (by rw [List.length_range]; omega)]
    rfl
theorem zero_rng (n : Nat) : List.replicate n (0 : Int) = rngL n fun _ => 0 := by
  apply List.ext_getElem?
  intro i
  unfold rngL
  rw [List.getElem?_replicate, List.getElem?_map]
  by_cases l : i < n
  · rw [if_pos l, List.getElem?_range l]
    rfl
  · rw [if_neg l, List.getElem?_eq_none (by rw [List.length_range]; omega)]
    rfl
theorem flat_one (n : Nat) (v : V) : (List.replicate n [v]).flatten = List.replicate n v := by
  induction n with
  | zero => rfl
  | succ k ih => rw [List.replicate_succ, List.flatten_cons, ih, List.replicate_succ]; rfl
section
variable {P : Program} {w : World} {K : PySem.W.Frag} {mg : Str → Option Value} {base : Heap}
abbrev N_l_ends : List Str := ["_law_text_here", "_law_row", "_law_ended", "_law_left", "_law_now", "_law_part", "_law_words", "_law_numbers", "_law_place", "_law_begin", "_law_until", "_law_coming", "_law_word"]
theorem sc_l_ends : FnScope N_l_ends ["_law_text_here", "_law_row"] (defScope s_l_ends) := ⟨rfl, rfl, rfl, by decide +kernel, rfl, by decide +kernel, by decide +kernel⟩
def sp_l_ends (K : PySem.W.Frag) : Sp := fun vs H Q _ => ∃ (rv : V) (row : List Cm) (told : List Sg), vs = [.str (toldText told), rv] ∧ RowV H rv row ∧ row.length ≤ 100 ∧ told ≠ [] ∧ told.length ≤ 300 ∧ (∀ g ∈ told, SgOk g) ∧ TOk row 0 told ∧ (∀ p c, row[p]? = some c → sumOf told p = c.len) ∧
  ∀ q H', H q = none → Ex H H' → H' q = some (.lst ((rngL row.length (lastOf told)).map V.int)) → Q (.ref q) H'
theorem ok_l_ends (T : Says K mg) : FnOk P w K mg base CX0 2 (He.fAd K d_l_ends.at_) (fdOf K d_l_ends.at_) ["_law_text_here", "_law_row"] (sp_l_ends K) := by
  obtain ⟨oc, od, dV, kV, doc, pm, an, cdv, ct, osl, efd, lk, hcd, _, _⟩ := (F_l_ends T).ex
  rw [efd] at lk ⊢
  refine fn_ofT lk hcd sc_l_ends (by decide +kernel) (by decide) (fun vs H Q E h => ?_) (fun A outer s H vs Q E hr h => ?_)
  · obtain ⟨_, _, _, rfl, _⟩ := h
    rfl
  · refine ⟨_, (psst_cons (PST.of (ps_set (i := 2) sc_l_ends.nd rfl (Or.inl rfl) (pe_op op_rep (pe_lst (pa_cons pe_int pa_nil)) (pe_callB call_len_seq (by rfl) (f_len T) (by decide +kernel) (pa_cons (pv 1) pa_nil))))) (psst_cons (PST.of (ps_setLc (i := 3) (own := [("_law_coming", 11)]) rfl sc_l_ends.nd rfl rfl (sw_true rfl rfl rfl (by decide +kernel)) (pi_list (pv 1)) (blkOk_by (N := N_l_ends) (sc := defScope s_l_ends) (by decide +kernel)) (fun _ _ _ _ _ => (pg_name (i := 11) sc_l_ends.nd rfl (Or.inl rfl))) (fun _ _ _ _ _ => pts_nil) (fun _ _ _ _ _ => (pe_ix (show IxR _ (rIxT K) from ix_tup) (pv 11) pe_int (fun _ _ => rfl))))) (psst_cons (PST.of (ps_set (i := 4) sc_l_ends.nd rfl (Or.inl rfl) pe_int)) (psst_cons (pst_forT PassesOwn.leaving rfl (pi_list (pe_split (pv 0) pe_str)) (pg_name (i := 5) sc_l_ends.nd rfl (Or.inl rfl)) (psst_cons (pst_set (i := 6) sc_l_ends.nd rfl (Or.inl rfl) (pet_m1 PySem.F.slot_str_split PySem.F.type_str_split mt_split (CwR.pet_replC (pv 5)) pe_str)) (PSsT.of (pss_cons (ps_setLc (i := 7) (own := [("_law_word", 12)]) rfl sc_l_ends.nd rfl rfl (sw_true rfl rfl rfl (by decide +kernel)) (pi_list (pv 6)) (blkOk_by (N := N_l_ends) (sc := defScope s_l_ends) (by decide +kernel)) (fun _ _ _ _ _ => (pg_name (i := 12) sc_l_ends.nd rfl (Or.inl rfl))) (fun _ _ _ _ _ => pts_nil) (fun _ _ _ _ _ => (pe_call (ok_l_figure T) (hr.mono (by decide)) rfl (g__law_figure T) (F_l_figure T).kp (b_l_figure T) .nil pass0 (pa_cons (pv 12) pa_nil)))) (pss_cons (ps_if (PW.pt (pw_or (pt_cmpR op_ne (pe_callB call_len_seq (by rfl) (f_len T) (by decide +kernel) (pa_cons (pv 6) pa_nil)) pe_int (nomark _)) (pw_or (pt_cmpR op_ne (pe_m1 PySem.F.slot_str_count PySem.F.type_str_count mt_count (pv 5) pe_str) pe_int (nomark _)) (pw_or (pt_cmpR op_lt (pe_callB (cr_min rfl) (by rfl) (f_min T) (by decide +kernel) (pa_cons (pv 7) pa_nil)) pe_int (nomark _)) (pw_or1 (pt_cmpR op_ge (pe_ix ix_list (pv 7) pe_int (fun _ _ => rfl)) (pe_callB call_len_seq (by rfl) (f_len T) (by decide +kernel) (pa_cons (pv 1) pa_nil)) (nomark _))))))) (pss_one (ps_ret pe_non)) pss_nil) (pss_cons (ps_asg (pv 7) (pg_unl rfl (pgs_cons (pg_name (i := 8) sc_l_ends.nd rfl (Or.inl rfl)) (pgs_cons (pg_name (i := 9) sc_l_ends.nd rfl (Or.inl rfl)) (pgs_cons (pg_name (i := 10) sc_l_ends.nd rfl (Or.inl rfl)) pgs_nil))))) (pss_cons (ps_if (pt_not (pt_chain op_le op_lt (pe_callB (call_max2 rfl) (by rfl) (f_max T) (by decide +kernel) (pa_cons (pv 4) (pa_cons (pe_op op_add (pe_ix ix_tup (pe_ix ix_list (pv 1) (pv 8) (fun _ _ => rfl)) pe_int (fun _ _ => rfl)) (pe_ix ix_tup (pe_ix ix_list (pv 1) (pv 8) (fun _ _ => rfl)) pe_int (fun _ _ => rfl))) pa_nil))) (pv 9) (pv 10))) (pss_one (ps_ret pe_non)) pss_nil) (pss_cons (ps_set (i := 4) sc_l_ends.nd rfl (Or.inl rfl) (pv 10)) (pss_cons (ps_asg (pe_op op_sub (pe_ix ix_list (pv 3) (pv 8) (fun _ _ => rfl)) (pe_op op_sub (pv 10) (pv 9))) (pg_sub (pv 3) (pv 8) set_list)) (pss_one (ps_asg (pv 10) (pg_sub (pv 2) (pv 8) set_list)))))))))))) (PSsT.of (pss_cons (ps_if (pt_cmpR (op_neD hr.units) (pv 3) (pe_op op_rep (pe_lst (pa_cons pe_int pa_nil)) (pe_callB call_len_seq (by rfl) (f_len T) (by decide +kernel) (pa_cons (pv 1) pa_nil))) (nomark _)) (pss_one (ps_ret pe_non)) pss_nil) (pss_one (ps_ret (pv 2))))))))), ?_⟩
    obtain ⟨_, row, told, rfl, ⟨p, cs, rfl, hp0, pr⟩, fewR, ne, fewT, so, tok, sums, k⟩ := h
    have lcs := paired_len pr
    have tl0 := told_length fewT so
    refine ⟨by show 1 ≤ sizeLine; exact szn (by decide), fun z nz => ?_⟩
    refine ⟨_, rfl, p, _, rfl, .inl (SqL.of (ex_up nz _ _ hp0)), z, _, _, rfl, rfl, upd_same, by omega, by omega, ?_, fun q nq => ?_⟩
    · exact Evl.sz_of (by show 1 * _ ≤ _; omega)
    rw [flat_one, show ((cs.length : Nat) : Int).toNat = row.length by omega]
    have ez : (List.replicate row.length (V.int 0)) = (rngL row.length fun p => lastOf [] p).map V.int := by
      rw [show (rngL row.length fun p => lastOf [] p) = List.replicate row.length (0 : Int) from (zero_rng _).symm, List.map_replicate]
    rw [ez]
    have e1 := (ex_up (o := .lst [V.int 0]) nz).trans (ex_up (o := .lst ((rngL row.length fun p => lastOf [] p).map V.int)) nq)
    have nq0 : H q = none := Evl.fresh_back (ex_up nz) nq
    have hq1 : upd (upd H z (.lst [V.int 0])) q (.lst ((rngL row.length fun p => lastOf [] p).map V.int)) q = some (.lst ((rngL row.length fun p => lastOf [] p).map V.int)) := upd_same
    generalize upd (upd H z (.lst [V.int 0])) q (.lst ((rngL row.length fun p => lastOf [] p).map V.int)) = H1 at e1 hq1 ⊢
    refine ⟨_, rfl, p, rfl, ⟨_, SqL.of (e1 _ _ hp0)⟩, fun F nF => ?_⟩
    refine lc_list (K := K) (a := p) (xs := cs) (fun j H' => Ex H1 H' ∧ H' F = some (.lst (((row.take j).map (·.len)).map V.int))) ⟨ex_up nF, upd_same⟩ (fun j H' _ z => SqL.of (z.1 _ _ (e1 _ _ hp0))) ?_ ?_
    · rintro j x H2 hj ⟨e2, hF⟩
      obtain ⟨c, hc, t, rfl, ht⟩ := paired_back pr hj
      have at3 : atI [V.int c.who, .int c.come, .int c.late, .int c.len] ((3 : Nat) : Int) = some (.int c.len) := atI_nat rfl
      refine ⟨rfl, _, rfl, _, _, _, _, rfl, rfl, SqT.of (e2 _ _ (e1 _ _ ht)), at3, _, hF, ?_, e2.mut nF, ?_⟩
      · rw [List.length_map, List.length_map, List.length_take]
        exact Evl.sz_lt (by omega)
      · rw [upd_same, take_snoc hc, List.map_append, List.map_append]
        rfl
    rintro H2 ⟨e2, hF⟩
    rw [lcs, List.take_of_length_le (Nat.le_refl _), lens_rng] at hF
    have hF' : H2 F = some (.lst ((rngL row.length fun p => lnAt row p - sumOf [] p).map V.int)) := by
      rw [hF]
      congr 3
      unfold rngL
      apply List.map_congr_left
      intro i _
      show lnAt row i = lnAt row i - 0
      omega
    have hq2 := e2 _ _ hq1
    have nqF : q ≠ F := ne_of_none hq1 nF
    have nF0 : H F = none := Evl.fresh_back e1 nF
    refine ⟨_, rfl, ⟨_, rfl⟩, _, _, rfl, rfl, by decide +kernel, Evl.sz_of (by omega), fun t nt => ?_⟩
    rw [told_split ne so]
    have e3 := (e1.trans e2).trans (ex_up (o := .lst ((told.map segText).map V.str)) nt)
    have hF3 := ex_up (o := .lst ((told.map segText).map V.str)) nt _ _ hF'
    have hq3 := ex_up (o := .lst ((told.map segText).map V.str)) nt _ _ hq2
    have ht3 : upd H2 t (.lst ((told.map segText).map V.str)) t = some (.lst ((told.map segText).map V.str)) := upd_same
    have ntF : F ≠ t := ne_of_none hF' nt
    have ntq : q ≠ t := ne_of_none hq2 nt
    generalize upd H2 t (.lst ((told.map segText).map V.str)) = H3 at e3 hF3 hq3 ht3 ⊢
    refine ⟨t, rfl, ⟨_, SqL.of ht3⟩, for_list (K := K) (a := t) (xs := (told.map segText).map V.str) (fun j σ H' => ∃ (x1 x2 x3 x4 x5 x6 : Option V), σ = [some (.str (toldText told)), some (.ref p), some (.ref q), some (.ref F), some (.int (endOf 0 (told.take j))), x1, x2, x3, x4, x5, x6, none, none] ∧ Ex H H' ∧ H' t = some (.lst ((told.map segText).map V.str)) ∧
      H' F = some (.lst ((rngL row.length fun p => lnAt row p - sumOf (told.take j) p).map V.int)) ∧ H' q = some (.lst ((rngL row.length (lastOf (told.take j))).map V.int))) ⟨_, _, _, _, _, _, rfl, e3, ht3, hF3, hq3⟩ (fun j σ H' _ ⟨_, _, _, _, _, _, _, _, z, _⟩ => SqL.of z) ?_ ?_⟩
    · rintro j x σ H4 hj ⟨x1, x2, x3, x4, x5, x6, rfl, e4, ht4, hF4, hq4⟩
      rw [List.getElem?_map, List.getElem?_map] at hj
      cases eg : told[j]? with
      | none =>
        rw [eg] at hj
        cases hj
      | some g =>
        rw [eg] at hj
        cases hj
        have og := so g (List.mem_of_getElem? eg)
        have sl := seg_len og
        have e1c : (" " : Str).length = 1 := by decide +kernel
        have rlen := TK.replace_len (segText g) "-" " "
        rw [e1c] at rlen
        obtain ⟨m1, f1, h1, t1⟩ := numI_small (i := ((g.1 : Nat) : Int)) (by omega) og.p
        obtain ⟨m2, f2, h2, t2⟩ := numI_small og.b0 og.b1
        obtain ⟨m3, f3, h3, t3⟩ := numI_small og.e0 og.e1
        have tj := tok_take told 0 (j + 1) tok
        rw [take_snoc eg] at tj
        obtain ⟨_, ⟨c, hc, rdc⟩, eb, be⟩ := (tok_snoc (p := g.1) (b := g.2.1) (e := g.2.2) _ 0).mp tj
        have lp := (List.getElem?_eq_some_iff.mp hc).1
        obtain ⟨cv, hcv, ct, rfl, hct⟩ := paired_at pr hc
        refine ⟨_, rfl, _, rfl, by rw [e1c]; omega, ⟨_, rfl⟩, _, _, rfl, rfl, by decide +kernel, Evl.sz_of (by omega), fun r nr => ?_⟩
        rw [seg_words og, t1, t2, t3]
        have x5' := ex_up (o := .lst ([num m1, num m2, num m3].map V.str)) nr
        have e5 := e4.trans x5'
        have ht5 := x5' _ _ ht4
        have hF5 := x5' _ _ hF4
        have hq5 := x5' _ _ hq4
        have hr5 : upd H4 r (.lst ([num m1, num m2, num m3].map V.str)) r = some (.lst ([m1, m2, m3].map fun m => V.str (num m))) := upd_same
        generalize upd H4 r (.lst ([num m1, num m2, num m3].map V.str)) = H5 at e5 ht5 hF5 hq5 hr5 ⊢
        refine ⟨_, rfl, r, rfl, ⟨_, SqL.of hr5⟩, fun A1 nA => ?_⟩
        refine lc_list (K := K) (a := r) (xs := [m1, m2, m3].map (fun m => V.str (num m))) (fun j H' => Ex H5 H' ∧ H' A1 = some (.lst ((nInts ([m1, m2, m3].take j)).map V.int))) ⟨ex_up nA, upd_same⟩ (fun j H' _ z => SqL.of (z.1 _ _ hr5)) ?_ ?_
        · rintro j' x H8 hj ⟨e8, hA⟩
          rw [List.getElem?_map] at hj
          cases em : [m1, m2, m3][j']? with
          | none =>
            rw [em] at hj
            cases hj
          | some m =>
            rw [em] at hj
            cases hj
            have hm : m < 10 ^ 60 := by
              have := List.mem_of_getElem? em
              simp only [List.mem_cons, List.mem_nil_iff, or_false] at this
              rcases this with rfl | rfl | rfl <;> assumption
            have lj' := (List.getElem?_eq_some_iff.mp em).1
            refine ⟨rfl, _, rfl, num m, rfl, Nat.le_trans (ten60 hm) (by decide), fun z hz => ?_⟩
            have ez := hz m hm rfl
            subst ez
            refine ⟨_, hA, ?_, e8.mut nA, ?_⟩
            · unfold nInts
              rw [List.length_map, List.length_map, List.length_take]
              exact Evl.sz_lt (by simp at lj' ⊢; omega)
            · rw [upd_same, take_snoc em]
              unfold nInts
              rw [List.map_append, List.map_append]
              rfl
        rintro H8 ⟨e8, hA⟩
        have hA8 : H8 A1 = some (.lst ([((g.1 : Nat) : Int), g.2.1, g.2.2].map V.int)) := by
          rw [f1, f2, f3]
          exact hA
        have e9 := e5.trans e8
        have ht8 := e8 _ _ ht5
        have hF8 := e8 _ _ hF5
        have hq8 := e8 _ _ hq5
        have hr8 := e8 _ _ hr5
        have a0 : atI ([((g.1 : Nat) : Int), g.2.1, g.2.2].map V.int) ((0 : Nat) : Int) = some (.int ((g.1 : Nat) : Int)) := atI_nat rfl
        refine ⟨_, rfl, r, _, rfl, .inl (SqL.of hr8), rfl, _, rfl, itF rfl ?_⟩
        refine ⟨_, rfl, ⟨_, rfl⟩, _, _, rfl, rfl, rfl, _, rfl, itF (by rw [seg_count og]; decide +kernel) ?_⟩
        refine ⟨_, rfl, A1, [((g.1 : Nat) : Int), g.2.1, g.2.2], rfl, SqL.of hA8, (show 0 < 3 by decide), fun m hm hg => ?_⟩
        have mpos : 0 ≤ m := by
          have := og.b0; have := og.e0
          simp only [List.mem_cons, List.mem_nil_iff, or_false] at hm
          rcases hm with rfl | rfl | rfl <;> omega
        refine ⟨_, _, rfl, rfl, _, rfl, itF (decide_eq_false (by omega)) ?_⟩
        refine ⟨_, rfl, _, _, _, _, rfl, rfl, SqL.of hA8, a0, _, rfl, p, _, rfl, .inl (SqL.of (e9 _ _ hp0)), _, _, rfl, rfl, _, rfl, itF (decide_eq_false (by omega)) ?_⟩
        refine ⟨_, rfl, A1, _, rfl, SqL.of hA8, rfl, _, _, rfl, _, _, rfl, _, _, rfl, rfl, ?_⟩
        have at1 : atI [V.int c.who, .int c.come, .int c.late, .int c.len] ((1 : Nat) : Int) = some (.int c.come) := atI_nat rfl
        have at2 : atI [V.int c.who, .int c.come, .int c.late, .int c.len] ((2 : Nat) : Int) = some (.int c.late) := atI_nat rfl
        refine ⟨_, rfl, _, rfl, _, rfl, _, _, _, _, rfl, rfl, SqL.of (e9 _ _ hp0), atI_nat hcv, _, _, _, _, rfl, rfl, SqT.of (e9 _ _ hct), at1, _, rfl, _, rfl, _, _, _, _, rfl, rfl, SqL.of (e9 _ _ hp0), atI_nat hcv, _, _, _, _, rfl, rfl, SqT.of (e9 _ _ hct), at2, _, _, rfl, rfl, _, _, rfl, _, rfl, _, _, rfl, rfl, _, rfl, itT ?_ ?_⟩
        · refine decide_eq_true ?_
          show maxI (endOf 0 (told.take j)) (c.come + c.late) ≤ g.2.1
          exact maxI_le eb rdc
        refine ⟨_, rfl, _, _, rfl, rfl, _, rfl, itF (show (!decide (g.2.1 < g.2.2)) = false by rw [decide_eq_true be]; rfl) ?_⟩
        refine ⟨_, rfl, ?_⟩
        have lF : ((rngL row.length fun p => lnAt row p - sumOf (told.take j) p).map V.int)[g.1]? = some (.int (lnAt row g.1 - sumOf (told.take j) g.1)) := by
          rw [List.getElem?_map, rng_at lp]
          rfl
        refine ⟨_, rfl, _, rfl, _, _, _, _, rfl, rfl, SqL.of hF8, atI_nat lF, _, rfl, _, rfl, _, _, rfl, rfl, _, _, rfl, rfl, _, rfl, _, rfl, F, _, _, g.1, rfl, rfl, hF8, ixN_nat (by unfold rngL; rw [List.length_map, List.length_map, List.length_range]; exact lp), ?_⟩
        have hqF : ∀ ob : HO, upd H8 F ob q = some (.lst ((rngL row.length (lastOf (told.take j))).map V.int)) := fun _ => (upd_ne nqF).trans hq8
        refine ⟨_, rfl, _, rfl, _, rfl, q, _, _, g.1, rfl, rfl, hqF _, ixN_nat (by unfold rngL; rw [List.length_map, List.length_map, List.length_range]; exact lp), ?_⟩
        refine ⟨some (.str (segText g)), some (.ref r), some (.ref A1), some (.int ((g.1 : Nat) : Int)), some (.int g.2.1), some (.int g.2.2), ?_, (e9.mut nF0).mut nq0, (upd_ne ntq.symm).trans ((upd_ne ntF.symm).trans ht8), ?_, ?_⟩
        · rw [take_snoc eg, show endOf 0 (told.take j ++ [g]) = g.2.2 from end_snoc _ 0]
          rfl
        · rw [upd_ne nqF.symm, upd_same, take_snoc eg, ← List.map_set]
          congr 3
          have rs := rng_set (n := row.length) (p := g.1) (f := fun p => lnAt row p - sumOf (told.take j) p) (g := fun p => lnAt row p - sumOf (told.take j ++ [g]) p) fun q' hq' => by
            rw [sum_snoc, if_neg (fun z => hq' z.symm)]
            omega
          rw [← rs]
          congr 1
          show lnAt row g.1 - sumOf (told.take j) g.1 - (g.2.2 - g.2.1) = lnAt row g.1 - sumOf (told.take j ++ [g]) g.1
          rw [sum_snoc, if_pos rfl]
          omega
        · rw [upd_same, take_snoc eg, ← List.map_set]
          congr 3
          have rs := rng_set (n := row.length) (p := g.1) (f := lastOf (told.take j)) (g := lastOf (told.take j ++ [g])) fun q' hq' => by rw [last_snoc, if_neg (fun z => hq' z.symm)]
          rw [← rs, last_snoc, if_pos rfl]
    · rintro σ H4 ⟨x1, x2, x3, x4, x5, x6, rfl, e4, ht4, hF4, hq4⟩
      rw [List.length_map, List.length_map, List.take_of_length_le (Nat.le_refl _)] at hF4 hq4
      have hF0 : H4 F = some (.lst ((rngL row.length fun _ => 0).map V.int)) := by
        rw [hF4]
        congr 3
        unfold rngL
        apply List.map_congr_left
        intro i hi
        have li := List.mem_range.mp hi
        have hc : row[i]? = some row[i] := List.getElem?_eq_getElem li
        show lnAt row i - sumOf told i = 0
        unfold lnAt
        rw [hc, sums i _ hc]
        show row[i].len - row[i].len = 0
        omega
      refine ⟨_, rfl, szn (n := 1) (by decide), fun z2 nz2 => ⟨_, rfl, p, _, rfl, .inl (SqL.of (ex_up nz2 _ _ (e4 _ _ hp0))), z2, _, _, rfl, rfl, upd_same, by omega, by omega, Evl.sz_of (by show 1 * _ ≤ _; omega), fun w2 nw2 => ?_⟩⟩
      rw [flat_one, show ((cs.length : Nat) : Int).toNat = row.length by omega]
      have ez2 : (List.replicate row.length (V.int 0)) = (rngL row.length fun _ => 0).map V.int := by rw [← zero_rng, List.map_replicate]
      rw [ez2]
      have x9 := (ex_up (o := .lst [V.int 0]) nz2).trans (ex_up (o := .lst ((rngL row.length fun _ => 0).map V.int)) nw2)
      refine ⟨_, _, .lst (SqL.of (x9 _ _ hF0)) (dp_ints _), .lst (SqL.of upd_same) (dp_ints _), PySem.W.ke_shaped_ints _, PySem.W.ke_shaped_ints _, ?_⟩
      rw [show PyData.eqv (.list ((rngL row.length fun _ => 0).map PyData.int)) (.list ((rngL row.length fun _ => 0).map PyData.int)) = true from (eqv_int _ _).trans (decide_eq_true rfl)]
      exact ⟨_, rfl, itF rfl ⟨_, rfl, k q _ nq0 (e4.trans x9) (x9 _ _ hq4)⟩⟩
end
end Dty
set_option Elab.async false
set_option linter.all false
set_option maxRecDepth 100000
set_option maxHeartbeats 4000000
namespace Dty
open PySem PySem.Spec PyProof.Rows L2 Dq TL NdefX LamX
theorem tl_colon2 : tl (": " : Str) = [58, 32] := by decide +kernel
theorem hard_part {ws : List Wk} {i : Nat} {u : Wk} {r : Option Int} {o : Option (Nat × Int)} : Txt.partition (hardText ws i u r o) ": " = (numI (hardPlace o : Nat), (": " : Str), rowText ws (hardRow ws i u r o)) :=
  partition_app tl_colon2 fun z => by
    have := numI_dig (i := ((hardPlace o : Nat) : Int)) (by omega) z
    omega
/-- all is done at the end -/
theorem all_done {ws : List Wk} {row : List Cm} {later : List (Int × Nat)} (R : RowP ws row) (L : LaterOk row later) {s : Bn} (h : BReach ws row later s) (c1 : row.length ≤ s.many) (c2 : s.wait = []) : ∀ p c, row[p]? = some c → sumOf s.told p = c.len := by
  intro p c hc
  have I := reach_inv R L h
  obtain ⟨d, hd⟩ := done_at I hc
  obtain ⟨k, hk⟩ := at_place L hc
  have lk := (List.getElem?_eq_some_iff.mp hk).1
  rw [L.len] at lk
  have := I.fin p (in_arrived hk (by omega)) (by rw [c2]; exact fun z => by cases z) c d hc hd
  rw [I.tsum p d hd, this]
structure HardEnd (ws : List Wk) (i : Nat) (u : Wk) (r : Option Int) (o : Option (Nat × Int)) (z : Int) : Prop where
  ex : ∃ later s, LaterOk (hardRow ws i u r o) later ∧ BReach ws (hardRow ws i u r o) later s ∧ (hardRow ws i u r o).length ≤ s.many ∧ s.wait = [] ∧ z = lastOf s.told (hardPlace o)
section
variable {P : Program} {w : World} {K : PySem.W.Frag} {mg : Str → Option Value} {base : Heap}
abbrev N_l_hardest : List Str := ["_law_desk", "_law_some", "_law_at", "_law_told", "_law_head", "_law_colon", "_law_tail", "_law_place", "_law_row", "_law_ended"]
theorem sc_l_hardest : FnScope N_l_hardest ["_law_desk", "_law_some", "_law_at"] (defScope s_l_hardest) := ⟨rfl, rfl, rfl, by decide +kernel, rfl, by decide +kernel, by decide +kernel⟩
abbrev N_l_come_to : List Str := ["_law_desk", "_law_some", "_law_told", "_law_words", "_law_lines", "_law_late", "_law_at", "_law_found", "_law_row", "_law_place", "_law_end", "_law_word"]
theorem sc_l_come_to : FnScope N_l_come_to ["_law_desk", "_law_some"] (defScope s_l_come_to) := ⟨rfl, rfl, rfl, by decide +kernel, rfl, by decide +kernel, by decide +kernel⟩
abbrev N_l_turned : List Str := ["_law_desk", "_law_some", "_law_cell", "_law_at", "_law_after", "_law_one"]
theorem sc_l_turned : FnScope N_l_turned ["_law_desk", "_law_some", "_law_cell"] (defScope s_l_turned) := ⟨rfl, rfl, rfl, by decide +kernel, rfl, by decide +kernel, by decide +kernel⟩
abbrev N_law : List Str := ["_law_script", "_law_unit", "_law_many", "_law_names_here", "_law_desk", "_law_some", "_law_k", "_law_cell"]
theorem sc_law : FnScope N_law ["_law_script"] (defScope s_law) := ⟨rfl, rfl, rfl, by decide +kernel, rfl, by decide +kernel, by decide +kernel⟩
def sp_l_hardest (K : PySem.W.Frag) : Sp := fun vs H Q _ => ∃ (B : Hp) (p dx : Addr) (d sv : V) (ws : List Wk) (i : Nat) (u : Wk), vs = [.ref p, sv, .int (i : Nat)] ∧ Desk K B H p dx d ws ∧ NT B ∧ TabsN (tPick K) H ∧ SomeV B sv ws ∧ Good ws ∧ ws[i]? = some u ∧
  ∀ x B' H' r o z, Ans ws i u r → Blk ws i o → HardEnd ws i u r o z → GrN K B H B' H' → (∃ q l, x = .ref q ∧ B' q = some (.tup [l, .int (hardPlace o : Nat), .int z]) ∧ RowV B' l (hardRow ws i u r o)) → Q x H'
theorem ok_l_hardest (T : Says K mg) (TB : LamX.TabB base mg (cPick K).1 (cPick K).2) : FnOk P w K mg base CX0 12 (He.fAd K d_l_hardest.at_) (fdOf K d_l_hardest.at_) ["_law_desk", "_law_some", "_law_at"] (sp_l_hardest K) := by
  refine (F_l_hardest T).ok sc_l_hardest (fun vs H Q E h => ?_) (fun cdv A outer s H vs Q E hr h => ?_)
  · obtain ⟨_, _, _, _, _, _, _, _, rfl, _⟩ := h
    rfl
  · refine ⟨_, PSs.nox (pss_cons (ps_set (i := 3) sc_l_hardest.nd rfl (Or.inl rfl) (pe_meth (pv 0) (c_Desk T) (m_Desk_say T) (ok_Desk_say_hard T TB) (hr.mono (by decide)) (b_Desk_say T) .nil pass0 (pa_cons (pe_op op_add_str pe_str (pe_ix ix_list (pe_ix ix_list (pv 1) (pv 2) (fun _ _ => rfl)) pe_int (fun _ _ => rfl))) pa_nil))) (pss_cons (ps_if (pt_not (pt_val (pe_callB call_isi (by rfl) (f_isinstance T) (by decide +kernel) (pa_cons (pv 3) (pa_cons (pe_bltn (v := .ty "str") rfl (f_str T) (by decide +kernel) rfl) pa_nil))))) (pss_one ps_never) pss_nil) (pss_cons (ps_asg (pe_partition (pv 3) pe_str) (pg_tup rfl (pgs_cons (pg_name (i := 4) sc_l_hardest.nd rfl (Or.inl rfl)) (pgs_cons (pg_name (i := 5) sc_l_hardest.nd rfl (Or.inl rfl)) (pgs_cons (pg_name (i := 6) sc_l_hardest.nd rfl (Or.inl rfl)) pgs_nil))))) (pss_cons (ps_set (i := 7) sc_l_hardest.nd rfl (Or.inl rfl) (pe_call (ok_l_figure T) (hr.mono (by decide)) rfl (g__law_figure T) (F_l_figure T).kp (b_l_figure T) .nil pass0 (pa_cons (pv 4) pa_nil))) (pss_cons (ps_set (i := 8) sc_l_hardest.nd rfl (Or.inl rfl) (pe_call (ok_l_row_read T) (hr.mono (by decide)) rfl (g__law_row_read T) (F_l_row_read T).kp (b_l_row_read T) .nil pass0 (pa_cons (pv 6) (pa_cons (pv 1) pa_nil)))) (pss_cons (ps_if (PW.pt (pw_or (pt_cmpR op_isN (pv 8) pe_non (nomark _)) (pw_or (pt_not (pt_val (pe_call (ok_l_legal T) (hr.mono (by decide)) rfl (g__law_legal T) (F_l_legal T).kp (b_l_legal T) .nil pass0 (pa_cons (pv 8) (pa_cons (pv 1) pa_nil))))) (pw_or (pt_not (pt_chain op_le op_lt pe_int (pv 7) (pe_callB call_len_seq (by rfl) (f_len T) (by decide +kernel) (pa_cons (pv 8) pa_nil)))) (pw_or1 (pt_cmpR op_ne (pe_ix ix_tup (pe_ix ix_list (pv 8) (pv 7) (fun _ _ => rfl)) pe_int (fun _ _ => rfl)) (pv 2) (nomark _))))))) (pss_one ps_never) pss_nil) (pss_cons (ps_set (i := 3) sc_l_hardest.nd rfl (Or.inl rfl) (pe_meth (pv 0) (c_Desk T) (m_Desk_say T) (ok_Desk_say_run T TB) (hr.mono (by decide)) (b_Desk_say T) .nil pass0 (pa_cons (pe_op op_add_str pe_str (pv 6)) pa_nil))) (pss_cons (ps_if (pt_not (pt_val (pe_callB call_isi (by rfl) (f_isinstance T) (by decide +kernel) (pa_cons (pv 3) (pa_cons (pe_bltn (v := .ty "str") rfl (f_str T) (by decide +kernel) rfl) pa_nil))))) (pss_one ps_never) pss_nil) (pss_cons (ps_set (i := 9) sc_l_hardest.nd rfl (Or.inl rfl) (pe_call (ok_l_ends T) (hr.mono (by decide)) rfl (g__law_ends T) (F_l_ends T).kp (b_l_ends T) .nil pass0 (pa_cons (pv 3) (pa_cons (pv 8) pa_nil)))) (pss_cons (ps_if (pt_cmpR op_isN (pv 9) pe_non (nomark _)) (pss_one ps_never) pss_nil) (pss_one (ps_ret (pe_tup (pa_cons (pv 8) (pa_cons (pv 7) (pa_cons (pe_ix ix_list (pv 9) (pv 7) (fun _ _ => rfl)) pa_nil)))))))))))))))), ?_⟩
    obtain ⟨B, p, dx, d, _, ws, i, u, rfl, ⟨eB, bp, hp, D⟩, nB, hT, ⟨sl, ps, rfl, hsl, pr⟩, G, hu, k⟩ := h
    obtain ⟨pv, hpv, hpt⟩ := paired_at pr hu
    obtain ⟨a, l, rfl, ha⟩ := pt_fields hpt
    have at0 : atI [V.str u.name, .int u.gap, .int u.len, .int u.due, .int u.late, .ref l] ((0 : Nat) : Int) = some (.str u.name) := atI_nat rfl
    have nm := (G.at hu).nm.2.1
    have e8 : ("hardest " : Str).length = 8 := by decide +kernel
    have noD : ([("duty", d)] : List (Str × V)).lookup ("say" : Str) = none := by rfl
    refine ⟨_, rfl, p, dx, _, rfl, hp, noD, _, rfl, _, rfl, _, _, _, _, rfl, rfl, SqL.of (eB _ _ hsl), atI_nat hpv, _, _, _, _, rfl, rfl, SqL.of (eB _ _ ha), at0, _, _, rfl, rfl, Evl.sz_of (by omega), ?_⟩
    refine ⟨B, p, dx, d, ws, i, u, rfl, ⟨eB, bp, hp, D⟩, G, hu, fun r o H1 e1 an bl => ?_⟩
    obtain ⟨R, l20, s0, s1⟩ := hard_num G hu an bl
    have rok := R.ok G
    have rl := row_len G R.few rok
    have eb : (big : Int) = 1180591620717411303424 := by decide
    have hp1 : ((hardPlace o : Nat) : Int) < big := by unfold hardPlace; split <;> omega
    have ln : (numI ((hardPlace o : Nat) : Int)).length ≤ 60 := numI_len (by omega) hp1
    have e2c : (": " : Str).length = 2 := by decide +kernel
    have lh : (hardText ws i u r o).length ≤ 60000 := by
      unfold hardText
      rw [len_app, len_app]
      omega
    refine ⟨_, rfl, ⟨_, _, .type "str", .type "str", true, rfl, .ty _, .base (.str _), kit_ty (by decide +kernel), _, rfl, itF rfl ?_⟩⟩
    refine ⟨_, rfl, ⟨_, rfl⟩, _, _, rfl, rfl, by decide +kernel, Evl.sz_of (by omega), fun t nt => ?_⟩
    rw [hard_part]
    refine ⟨t, _, rfl, SqT.of upd_same, rfl, _, _, rfl, _, _, rfl, _, _, rfl, rfl, ?_⟩
    have e2 := e1.trans (ex_up (o := .tup [V.str (numI (hardPlace o : Nat), (": " : Str), rowText ws (hardRow ws i u r o)).1, V.str (numI (hardPlace o : Nat), (": " : Str), rowText ws (hardRow ws i u r o)).2.1, V.str (numI (hardPlace o : Nat), (": " : Str), rowText ws (hardRow ws i u r o)).2.2]) nt)
    generalize upd H1 t (.tup [V.str (numI (hardPlace o : Nat), (": " : Str), rowText ws (hardRow ws i u r o)).1, V.str (numI (hardPlace o : Nat), (": " : Str), rowText ws (hardRow ws i u r o)).2.1, V.str (numI (hardPlace o : Nat), (": " : Str), rowText ws (hardRow ws i u r o)).2.2]) = H2 at e2 ⊢
    obtain ⟨m, em, hm, tm⟩ := numI_small (i := ((hardPlace o : Nat) : Int)) (by omega) hp1
    refine ⟨_, rfl, numI (hardPlace o : Nat), rfl, Evl.sz_of (by omega), fun pl hpl => ?_⟩
    have epl : pl = ((hardPlace o : Nat) : Int) := by rw [em]; exact hpl m hm tm
    subst epl
    refine ⟨_, rfl, _, rfl, B, _, ws, _, rfl, eB.trans e2, ⟨sl, ps, rfl, hsl, pr⟩, G, R.ne, R.few, rok, fun x B3 H3 g3 rv => ?_⟩
    obtain ⟨rr, cs, rfl, hrr, prow⟩ := id rv
    have gg : GrN K B H B3 H3 := ((GrN.refl eB nB hT).heap e2).gr g3
    have lcs := paired_len prow
    refine ⟨_, rfl, rfl, _, rfl, itF rfl ?_⟩
    refine ⟨_, rfl, _, rfl, _, _, ws, _, rfl, rv.mono gg.e, ⟨sl, ps, rfl, gg.e _ _ (gg.eB _ _ hsl), L2.Paired.mapP pr fun _ _ z => (z.mono gg.eB).mono gg.e⟩, G, R, fun H4 e4 => ⟨_, rfl, itF rfl ?_⟩⟩
    have g4 := gg.heap e4
    have hat := hard_at ws i u r o
    have lpl := (List.getElem?_eq_some_iff.mp hat).1
    obtain ⟨cv, hcv, ct, rfl, hct⟩ := paired_at prow hat
    refine ⟨_, rfl, _, _, rfl, rfl, _, rfl, itT (decide_eq_true (by omega)) ?_⟩
    refine ⟨_, rfl, rr, _, rfl, .inl (SqL.of (g4.e _ _ hrr)), _, _, rfl, rfl, _, rfl, itF (show (!decide (((hardPlace o : Nat) : Int) < ((cs.length : Nat) : Int))) = false by rw [decide_eq_true (by omega)]; rfl) ?_⟩
    refine ⟨_, rfl, _, rfl, _, _, _, _, rfl, rfl, SqL.of (g4.e _ _ hrr), atI_nat hcv, _, _, _, _, rfl, rfl, SqT.of (g4.e _ _ hct), rfl, _, rfl, rfl, _, rfl, itF (by show (!decide (V.int ((i : Nat) : Int) = V.int ((i : Nat) : Int))) = false; rw [decide_eq_true rfl]; rfl) ?_⟩
    have e10 : ("run ranks " : Str).length = 10 := by decide +kernel
    have hp4 : H4 p = some (dkO K dx d) := g4.eH _ _ hp (fun _ z => nomatch z)
    have bp4 : B3 p = none := g4.hid p bp (by rw [hp]; exact fun z => nomatch z)
    refine ⟨_, rfl, p, dx, _, rfl, hp4, noD, _, rfl, _, _, rfl, rfl, Evl.sz_of (by show ("run ranks " : Str).length + (rowText ws (hardRow ws i u r o)).length ≤ _; omega), ?_⟩
    refine ⟨B3, p, dx, d, ws, _, rfl, ⟨g4.e, bp4, hp4, D.mono g4.eB⟩, G, g4.nt, g4.tab, R, fun B5 H5 later s' L rch c1 c2 g5 => ?_⟩
    have g6 := g4.trans g5
    have so := segs_ok G R L rch
    have fewS := told_small G R.p L rch
    have sums := all_done R.p L rch c1 c2
    have tne : s'.told ≠ [] := fun z => by
      have := sums _ _ hat
      rw [z] at this
      have h1 : (0 : Int) = u.len := this
      have := (G.at hu).l1
      omega
    refine ⟨_, rfl, ⟨_, _, .type "str", .type "str", true, rfl, .ty _, .base (.str _), kit_ty (by decide +kernel), _, rfl, itF rfl ?_⟩⟩
    refine ⟨_, rfl, _, rfl, _, _, s'.told, rfl, (rv.mono g5.eB).mono g5.e, R.few, tne, by omega, so, (reach_inv R.p L rch).tok, sums, fun q H7 nq e7 hq => ?_⟩
    have g7 := g6.heap e7
    refine ⟨_, rfl, rfl, _, rfl, itF rfl ?_⟩
    have lastE : ((rngL (hardRow ws i u r o).length (lastOf s'.told)).map V.int)[hardPlace o]? = some (.int (lastOf s'.told (hardPlace o))) := by
      rw [List.getElem?_map, rng_at lpl]
      rfl
    refine ⟨_, rfl, _, rfl, _, rfl, _, rfl, _, _, _, _, rfl, rfl, SqL.of hq, atI_nat lastE, szn (n := 3) (by decide), fun t2 nt2 => ?_⟩
    have g8 : Gr B5 H7 (upd B5 t2 (.tup [.ref rr, .int (hardPlace o : Nat), .int (lastOf s'.told (hardPlace o))])) (upd H7 t2 (.tup [.ref rr, .int (hardPlace o : Nat), .int (lastOf s'.told (hardPlace o))])) := (Gr.refl g7.e).new nt2
    exact k _ _ _ r o _ an bl ⟨later, s', L, rch, c1, c2, rfl⟩ (g7.gr g8) ⟨t2, .ref rr, rfl, upd_same, (rv.mono g5.eB).mono g8.eB⟩
end
end Dty
set_option Elab.async false
set_option linter.all false
set_option maxRecDepth 100000
set_option maxHeartbeats 4000000
namespace Dty
open PySem PySem.Spec PyProof.Rows L2 Dq TL NdefX LamX
theorem spl_sizes (S : List Nat) : ∀ (l : List Nat) (k : Nat) (acc : List Nat), (spl S k acc l).length ≤ l.length + 1 ∧ ∀ x ∈ spl S k acc l, x.length ≤ acc.length + l.length
  | [], k, acc => by
    rw [spl_nil]
    refine ⟨Nat.le_refl _, fun x hx => ?_⟩
    rw [List.mem_singleton.mp hx]
    exact Nat.le_refl _
  | c :: r, 0, acc => by
    by_cases h : pre S (c :: r) = true
    · rw [spl_hit h]
      obtain ⟨h1, h2⟩ := spl_sizes S r (S.length - 1) []
      refine ⟨?_, fun x hx => ?_⟩
      · rw [List.length_cons, List.length_cons]
        omega
      · rcases List.mem_cons.mp hx with rfl | hx
        · omega
        · have := h2 x hx
          rw [List.length_nil] at this
          rw [List.length_cons]
          omega
    · rw [spl_miss (by simpa using h)]
      obtain ⟨h1, h2⟩ := spl_sizes S r 0 (acc ++ [c])
      refine ⟨?_, fun x hx => ?_⟩
      · rw [List.length_cons]
        omega
      · have := h2 x hx
        rw [List.length_append, List.length_singleton] at this
        rw [List.length_cons]
        omega
  | c :: r, k + 1, acc => by
    obtain ⟨h1, h2⟩ := spl_sizes S r k acc
    refine ⟨?_, fun x hx => ?_⟩
    · show (spl S k acc r).length ≤ _
      rw [List.length_cons]
      omega
    · have := h2 x hx
      rw [List.length_cons]
      omega
/-- the first word of a text -/
theorem split_first {a b : Str} (h : 32 ∉ tl a) : ∃ rest, Txt.split (a ++ " " ++ b) " " = a :: rest ∧ rest.length ≤ b.length + 1 ∧ ∀ x ∈ rest, x.length ≤ b.length := by
  have e := split_spl (a ++ " " ++ b) " " (by rw [tl_blank]; simp) (kind_ok (by decide +kernel))
  rw [tl_append, tl_append, tl_blank, List.append_assoc, spl_part1 h, List.nil_append] at e
  obtain ⟨h1, h2⟩ := spl_sizes [32] (tl b) 0 []
  cases z : Txt.split (a ++ " " ++ b) " " with
  | nil =>
    rw [z] at e
    cases e
  | cons x r =>
    rw [z, List.map_cons] at e
    injection e with e1 e2
    have ex : x = a := ext_tl e1
    subst ex
    refine ⟨r, rfl, ?_, fun y hy => ?_⟩
    · have l := congrArg List.length e2
      rw [List.length_map] at l
      rw [l, len_tl]
      exact h1
    · have m := h2 (tl y) (by rw [← e2]; exact List.mem_map.mpr ⟨y, hy, rfl⟩)
      rw [len_tl, len_tl]
      rw [List.length_nil] at m
      omega
def Fig (x : Str) (i : Int) : Prop := ∀ n < 10 ^ 60, x = num n → i = n
theorem fig_num {i j : Int} (h0 : 0 ≤ i) (h : i < big) (f : Fig (numI i) j) : j = i := by
  obtain ⟨n, e, hn, en⟩ := numI_small h0 h
  rw [f n hn en, e]
theorem sIx_one (n : Nat) : HT.sIx (n + 1) 0 (some 1) = 1 := by
  have z := HT.sIx_nat (n + 1) 0 1
  rw [Nat.min_eq_left (by omega)] at z
  exact z
theorem cut_tl (x : V) (l : List V) : cutV (x :: l) (some 1) none = l := by
  unfold cutV
  rw [List.length_cons, sIx_one]
  show (l.take (l.length + 1 - 1)) = l
  rw [Nat.add_sub_cancel, List.take_length]
/-- what the judge says, cut in words -/
inductive ToldW (ws : List Wk) : List Str → Prop
  | kept (rs : List Int) (al : AllAns ws rs) (sm : ∀ r ∈ rs, 0 ≤ r ∧ r < big) : ToldW ws ("kept" :: rs.map numI)
  | broken (rest : List Str) (i : Nat) (o : Option (Nat × Int)) (u : Wk) (b : BrkAt ws i o u) : ToldW ws ("broken" :: rest)
structure ToldOk (ws : List Wk) (tx : Str) : Prop where
  w : ToldW ws (Txt.split tx " ")
  len : tx.length ≤ 90000
  few : (Txt.split tx " ").length ≤ 90000
  wl : ∀ x ∈ Txt.split tx " ", x.length ≤ 90000
theorem kept_plain : Plain "kept" := fun c hc => by
  rw [show tl ("kept" : Str) = [107, 101, 112, 116] by decide +kernel] at hc
  simp at hc
  omega
theorem kept_ok {ws : List Wk} (G : Good ws) {rs : List Int} (al : AllAns ws rs) : ToldOk ws (keptText rs) := by
  have sm : ∀ r ∈ rs, 0 ≤ r ∧ r < big := fun r hr => by
    obtain ⟨j, hj⟩ := List.getElem?_of_mem hr
    have lj := (List.getElem?_eq_some_iff.mp hj).1
    rw [al.len] at lj
    have an := al.at_ j _ r (List.getElem?_eq_getElem lj) hj
    have b := G.at (List.getElem?_eq_getElem lj)
    have := an.1; have := an.2.1; have := b.t1; have := b.d2; have := b.g2
    have e : (big : Int) = 1180591620717411303424 := by decide
    omega
  have sp : Txt.split (keptText rs) " " = (("kept" : Str) :: rs.map numI) := split_words (by simp) fun x hx => by
    rcases List.mem_cons.mp hx with rfl | hx
    · exact kept_plain
    · obtain ⟨r, hr, rfl⟩ := List.mem_map.mp hx
      exact num_plain (sm r hr).1
  have few := G.few
  have wl : ∀ x ∈ ("kept" : Str) :: rs.map numI, x.length ≤ 60 := fun x hx => by
    rcases List.mem_cons.mp hx with rfl | hx
    · decide +kernel
    · obtain ⟨r, hr, rfl⟩ := List.mem_map.mp hx
      exact numI_len (sm r hr).1 (sm r hr).2
  refine ⟨by rw [sp]; exact .kept rs al sm, ?_, ?_, fun x hx => ?_⟩
  · have s := sum_le ((("kept" : Str) :: rs.map numI).map (·.length)) (c := 60) fun n hn => by
      obtain ⟨x, hx, rfl⟩ := List.mem_map.mp hn
      exact wl x hx
    have l := len_join " " (("kept" : Str) :: rs.map numI)
    have e1 : (" " : Str).length = 1 := by decide +kernel
    rw [List.length_map, List.length_cons, List.length_map, al.len] at s
    rw [e1, List.length_cons, List.length_map, al.len] at l
    unfold keptText
    omega
  · rw [sp, List.length_cons, List.length_map, al.len]
    omega
  · rw [sp] at hx
    have := wl x hx
    omega
theorem broken_ok {ws : List Wk} (G : Good ws) {i : Nat} {u : Wk} {o : Option (Nat × Int)} (b : BrkAt ws i o u) : ToldOk ws (brokenText ws i o u) := by
  obtain ⟨R, l20, s0, s1⟩ := hard_num G b.hu b.an b.bl
  have bu := G.at b.hu
  have := bu.t1; have := bu.d1; have := bu.d2; have := bu.g2
  have e : (big : Int) = 1180591620717411303424 := by decide
  have hp1 : ((hardPlace o : Nat) : Int) < big := by unfold hardPlace; split <;> omega
  have rl := row_len G (row := hardRow ws i u none o) (by omega) (R.ok G)
  have hl1 := head_len (p := hardPlace o) (t := hardStart ws i o - u.late + u.due) hp1 (by omega) (by omega)
  have e2 : (": " : Str).length = 2 := by decide +kernel
  have lt : (brokenText ws i o u).length ≤ 70000 := by
    unfold brokenText
    rw [len_app, len_app]
    omega
  have eb : ("broken " : Str) = "broken" ++ " " := by decide +kernel
  have sp : ∃ z, brokenText ws i o u = "broken" ++ " " ++ z := by
    unfold brokenText brokenHead
    rw [eb]
    refine ⟨numI (hardPlace o : Nat) ++ (" " ++ (numI (hardStart ws i o - u.late + u.due) ++ (": " ++ rowText ws (hardRow ws i u none o)))), ?_⟩
    apply ext_tl
    simp only [tl_append, List.append_assoc]
  obtain ⟨z, hz⟩ := sp
  obtain ⟨rest, k1, k2, k3⟩ := split_first (a := "broken") (b := z) (by decide +kernel)
  rw [hz, len_app, len_app] at lt
  have eB : ("broken" : Str).length = 6 := by decide +kernel
  have e1 : (" " : Str).length = 1 := by decide +kernel
  rw [hz]
  refine ⟨by rw [k1]; exact .broken rest i o u b, by rw [len_app, len_app]; omega, ?_, fun x hx => ?_⟩
  · rw [k1, List.length_cons]
    omega
  · rw [k1] at hx
    rcases List.mem_cons.mp hx with rfl | hx
    · omega
    · have := k3 x hx
      omega
theorem ite_y {b : Bool} {X Y : Prop} (hx : b = true → Y → X) (y : Y) : if b = true then X else Y := by
  cases b with
  | true => exact hx rfl y
  | false => exact y
theorem told_or {ws : List Wk} {hd : Str} {rest : List Str} (h : ToldW ws (hd :: rest)) : (hd = "kept" ∧ ∃ rs : List Int, rest = rs.map numI ∧ AllAns ws rs ∧ ∀ r ∈ rs, 0 ≤ r ∧ r < big) ∨ (hd = "broken" ∧ ∃ i o u, BrkAt ws i o u) := by
  cases h with
  | kept rs al sm => exact .inl ⟨rfl, rs, rfl, al, sm⟩
  | broken _ i o u b => exact .inr ⟨rfl, i, o, u, b⟩
section
variable {P : Program} {w : World} {K : PySem.W.Frag} {mg : Str → Option Value} {base : Heap}
def sp_say_judge2 (K : PySem.W.Frag) : Sp := fun vs H Q _ => ∃ (B : Hp) (p dx : Addr) (d : V) (ws : List Wk), vs = [.ref p, .str "judge ranks"] ∧ Desk K B H p dx d ws ∧ Good ws ∧ ∀ tx H', Ex H H' → ToldOk ws tx → Q (.str tx) H'
theorem ok_Desk_say_judge2 (T : Says K mg) (TB : LamX.TabB base mg (cPick K).1 (cPick K).2) : FnOk P w K mg base CX0 11 (He.fAd K d_Desk_say.at_) (fdOf K d_Desk_say.at_) ["self", "line"] (sp_say_judge2 K) := by
  refine (ok_Desk_say_judge T TB).imp fun vs H Q E h => ?_
  obtain ⟨B, p, dx, d, ws, rfl, D, G, k⟩ := h
  exact ⟨B, p, dx, d, ws, rfl, D, G, fun rs H' e al => k _ _ e (kept_ok G al), fun i o u H' e b => k _ _ e (broken_ok G b)⟩
def sp_l_come_to (K : PySem.W.Frag) : Sp := fun vs H Q _ => ∃ (B : Hp) (p dx : Addr) (d sv : V) (ws : List Wk), vs = [.ref p, sv] ∧ Desk K B H p dx d ws ∧ NT B ∧ TabsN (tPick K) H ∧ SomeV B sv ws ∧ Good ws ∧
  ∀ B' H', GrN K B H B' H' → Q (.bl true) H'
theorem ok_l_come_to (T : Says K mg) (TB : LamX.TabB base mg (cPick K).1 (cPick K).2) : FnOk P w K mg base CX0 13 (He.fAd K d_l_come_to.at_) (fdOf K d_l_come_to.at_) ["_law_desk", "_law_some"] (sp_l_come_to K) := by
  refine (F_l_come_to T).ok sc_l_come_to (fun vs H Q E h => ?_) (fun cdv A outer s H vs Q E hr h => ?_)
  · obtain ⟨_, _, _, _, _, _, rfl, _⟩ := h
    rfl
  · refine ⟨_, PSs.nox (pss_cons (ps_set (i := 2) sc_l_come_to.nd rfl (Or.inl rfl) (pe_meth (pv 0) (c_Desk T) (m_Desk_say T) (ok_Desk_say_judge2 T TB) (hr.mono (by decide)) (b_Desk_say T) .nil pass0 (pa_cons pe_str pa_nil))) (pss_cons (ps_if (pt_not (pt_val (pe_callB call_isi (by rfl) (f_isinstance T) (by decide +kernel) (pa_cons (pv 2) (pa_cons (pe_bltn (v := .ty "str") rfl (f_str T) (by decide +kernel) rfl) pa_nil))))) (pss_one ps_never) pss_nil) (pss_cons (ps_set (i := 3) sc_l_come_to.nd rfl (Or.inl rfl) (pe_split (pv 2) pe_str)) (pss_cons (ps_setLc (i := 4) (own := [("_law_word", 11)]) rfl sc_l_come_to.nd rfl rfl (sw_true rfl rfl rfl (by decide +kernel)) (pi_list (pe_slice sl_list (pv 3) (po_some pe_int) po_none)) (blkOk_by (N := N_l_come_to) (sc := defScope s_l_come_to) (by decide +kernel)) (fun _ _ _ _ _ => (pg_name (i := 11) sc_l_come_to.nd rfl (Or.inl rfl))) (fun _ _ _ _ _ => pts_nil) (fun _ _ _ _ _ => (pe_call (ok_l_figure T) (hr.mono (by decide)) rfl (g__law_figure T) (F_l_figure T).kp (b_l_figure T) .nil pass0 (pa_cons (pv 11) pa_nil)))) (pss_cons (ps_if (PW.pt (pw_or (PW.pt (pw_and (pt_cmpR op_eq (pe_ix ix_list (pv 3) pe_int (fun _ _ => rfl)) pe_str (nomark _)) (pw_and1 (pt_cmpR op_ne (pe_callB call_len_seq (by rfl) (f_len T) (by decide +kernel) (pa_cons (pv 4) pa_nil)) (pe_callB call_len_seq (by rfl) (f_len T) (by decide +kernel) (pa_cons (pv 1) pa_nil)) (nomark _))))) (pw_or1 (pt_cmpR op_notIn_seq (pe_ix ix_list (pv 3) pe_int (fun _ _ => rfl)) (pe_tup (pa_cons pe_str (pa_cons pe_str pa_nil))) (by rfl))))) (pss_one ps_never) pss_nil) (pss_cons (ps_set (i := 5) sc_l_come_to.nd rfl (Or.inl rfl) pe_int) (pss_cons (ps_for PassesOwn.never rfl (pi_range1 (by rfl) (f_range T) (pa_cons (pe_callB call_len_seq (by rfl) (f_len T) (by decide +kernel) (pa_cons (pv 1) pa_nil)) pa_nil)) (pg_name (i := 6) sc_l_come_to.nd rfl (Or.inl rfl)) (pss_cons (ps_set (i := 7) sc_l_come_to.nd rfl (Or.inl rfl) (pe_call (ok_l_hardest T TB) (hr.mono (by decide)) rfl (g__law_hardest T) (F_l_hardest T).kp (b_l_hardest T) .nil pass0 (pa_cons (pv 0) (pa_cons (pv 1) (pa_cons (pv 6) pa_nil))))) (pss_cons (ps_if (pt_cmpR op_isN (pv 7) pe_non (nomark _)) (pss_one ps_never) pss_nil) (pss_cons (ps_asg (pv 7) (pg_tup rfl (pgs_cons (pg_name (i := 8) sc_l_come_to.nd rfl (Or.inl rfl)) (pgs_cons (pg_name (i := 9) sc_l_come_to.nd rfl (Or.inl rfl)) (pgs_cons (pg_name (i := 10) sc_l_come_to.nd rfl (Or.inl rfl)) pgs_nil))))) (pss_cons (ps_if (PW.pt (pw_and (pt_cmpR op_eq (pe_ix ix_list (pv 3) pe_int (fun _ _ => rfl)) pe_str (nomark _)) (pw_and1 (pt_cmpR op_ne (pv 10) (pe_op op_add (pe_op op_add (pe_ix ix_tup (pe_ix ix_list (pv 8) (pv 9) (fun _ _ => rfl)) pe_int (fun _ _ => rfl)) (pe_ix ix_tup (pe_ix ix_list (pv 8) (pv 9) (fun _ _ => rfl)) pe_int (fun _ _ => rfl))) (pe_ix ix_list (pv 4) (pv 6) (fun _ _ => rfl))) (nomark _))))) (pss_one ps_never) pss_nil) (pss_one (ps_if (pt_cmpR op_gt (pv 10) (pe_op op_add (pe_ix ix_tup (pe_ix ix_list (pv 8) (pv 9) (fun _ _ => rfl)) pe_int (fun _ _ => rfl)) (pe_ix ix_list (pe_ix ix_list (pv 1) (pv 6) (fun _ _ => rfl)) pe_int (fun _ _ => rfl))) (nomark _)) (pss_one (ps_set (i := 5) sc_l_come_to.nd rfl (Or.inl rfl) (pe_op op_add (pv 5) pe_int))) pss_nil))))))) (pss_one (ps_ret (pe_cmpR op_eq (pe_cmpR op_eq (pe_ix ix_list (pv 3) pe_int (fun _ _ => rfl)) pe_str (nomark _)) (pe_cmpR op_gt (pv 5) pe_int (nomark _)) (nomark _))))))))))), ?_⟩
    obtain ⟨B, p, dx, d, _, ws, rfl, ⟨eB, bp, hp, D⟩, nB, hT, ⟨sl, ps, rfl, hsl, pr⟩, G, k⟩ := h
    have noD : ([("duty", d)] : List (Str × V)).lookup ("say" : Str) = none := by rfl
    have few := G.few
    have lps := paired_len pr
    refine ⟨_, rfl, p, dx, _, rfl, hp, noD, ?_⟩
    refine ⟨B, p, dx, d, ws, rfl, ⟨eB, bp, hp, D⟩, G, fun tx H1 e1 tk => ?_⟩
    refine ⟨_, rfl, ⟨_, _, .type "str", .type "str", true, rfl, .ty _, .base (.str _), kit_ty (by decide +kernel), _, rfl, itF rfl ?_⟩⟩
    obtain ⟨tw, tlen, tfew, twl⟩ := tk
    refine ⟨_, rfl, ⟨_, rfl⟩, _, _, rfl, rfl, by decide +kernel, Evl.sz_of (by show tx.length + 2 ≤ _; omega), fun q nq => ?_⟩
    have e2 := e1.trans (ex_up (o := .lst ((Txt.split tx " ").map V.str)) nq)
    obtain ⟨hd, rest, ew⟩ : ∃ hd rest, Txt.split tx " " = hd :: rest := by
      generalize Txt.split tx " " = wd at tw
      cases tw with
      | kept rs => exact ⟨_, _, rfl⟩
      | broken rest => exact ⟨_, _, rfl⟩
    rw [ew] at tw tfew twl e2 ⊢
    rw [List.length_cons] at tfew
    refine ⟨_, rfl, _, rfl, q, _, rfl, SqL.of upd_same, fun c nc => ?_⟩
    rw [show cutV ((hd :: rest).map V.str) (some 1) none = rest.map V.str from cut_tl _ _]
    refine ⟨c, rfl, ⟨rest.map V.str, SqL.of upd_same⟩, fun F nF => ?_⟩
    have hq2 : ∀ H2, Ex (upd H1 q (.lst ((hd :: rest).map V.str))) H2 → H2 q = some (.lst ((hd :: rest).map V.str)) := fun H2 e => e _ _ upd_same
    have nqc : q ≠ c := ne_of_none upd_same nc
    have e3 := e2.trans (ex_up (o := .lst (rest.map V.str)) nc)
    have hqF : upd (upd H1 q (.lst ((hd :: rest).map V.str))) c (.lst (rest.map V.str)) q = some (.lst ((hd :: rest).map V.str)) := (upd_ne nqc).trans upd_same
    have hcF : upd (upd H1 q (.lst ((hd :: rest).map V.str))) c (.lst (rest.map V.str)) c = some (.lst (rest.map V.str)) := upd_same
    have nqF : q ≠ F := ne_of_none hqF nF
    have ncF : c ≠ F := ne_of_none hcF nF
    generalize upd (upd H1 q (.lst ((hd :: rest).map V.str))) c (.lst (rest.map V.str)) = H3 at e3 nF hqF hcF ⊢
    refine lc_list (K := K) (a := c) (xs := rest.map V.str) (fun j H' => Ex H H' ∧ H' q = some (.lst ((hd :: rest).map V.str)) ∧ H' c = some (.lst (rest.map V.str)) ∧ ∃ il : List Int, H' F = some (.lst (il.map V.int)) ∧ il.length = j ∧ ∀ (k : Nat) (x : Str) (i : Int), rest[k]? = some x → il[k]? = some i → Fig x i) ?_ (fun j H' _ z => SqL.of z.2.2.1) ?_ ?_
    · have nF0 : H F = none := Evl.fresh_back e3 nF
      exact ⟨e3.trans (ex_up nF), (upd_ne nqF).trans hqF, (upd_ne ncF).trans hcF, [], upd_same, rfl, fun k x i _ z => by cases z⟩
    · rintro j x H5 hj ⟨e5, hq5, hc5, il, hF, lil, fig⟩
      rw [List.getElem?_map] at hj
      cases ex : rest[j]? with
      | none =>
        rw [ex] at hj
        cases hj
      | some y =>
        rw [ex] at hj
        cases hj
        have my := twl y (List.mem_cons_of_mem _ (List.mem_of_getElem? ex))
        have nF0 : H F = none := Evl.fresh_back e3 nF
        refine ⟨rfl, _, rfl, y, rfl, Evl.sz_of (by omega), fun i hi => ?_⟩
        have lj := (List.getElem?_eq_some_iff.mp ex).1
        refine ⟨_, hF, ?_, ?_⟩
        · rw [List.length_map]
          exact Evl.sz_lt (by omega)
        · refine ⟨e5.mut nF0, (upd_ne nqF).trans hq5, (upd_ne ncF).trans hc5, il ++ [i], by rw [upd_same, List.map_append]; rfl, by rw [List.length_append, lil]; rfl, fun k' x' i' hk' hi' => ?_⟩
          rcases Nat.lt_or_ge k' il.length with z | z
          · rw [List.getElem?_append_left z] at hi'
            exact fig k' x' i' hk' hi'
          · have ek : k' = j := by
              have := (List.getElem?_eq_some_iff.mp hi').1
              rw [List.length_append, List.length_singleton] at this
              omega
            subst ek
            rw [List.getElem?_append_right z, show k' - il.length = 0 by omega] at hi'
            cases hi'
            rw [ex] at hk'
            cases hk'
            exact hi
    rintro H5 ⟨e5, hq5, hc5, il, hF, lil, fig⟩
    rw [List.length_map] at lil
    have at0 : atI ((hd :: rest).map V.str) ((0 : Nat) : Int) = some (.str hd) := atI_nat rfl
    have tor := told_or tw
    have nb : ¬ (("broken" : Str) = "kept") := by decide +kernel
    have nb2 : ¬ (("kept" : Str) = "broken") := by decide +kernel
    have ilk : hd = "kept" → ∃ rs : List Int, il = rs ∧ AllAns ws rs ∧ il.length = ws.length := fun hk => by
      rcases tor with ⟨_, rs, er, al, sm⟩ | ⟨hb, _⟩
      · have ll : il.length = rs.length := by rw [lil, er, List.length_map]
        refine ⟨rs, List.ext_getElem? fun k => ?_, al, by rw [ll, al.len]⟩
        cases e : rs[k]? with
        | none =>
          have := List.getElem?_eq_none_iff.mp e
          exact List.getElem?_eq_none (by omega)
        | some r =>
          have lk := (List.getElem?_eq_some_iff.mp e).1
          have lk2 : k < il.length := by omega
          obtain ⟨r0, r1⟩ := sm r (List.mem_of_getElem? e)
          have f := fig k (numI r) il[k] (by rw [er, List.getElem?_map, e]; rfl) (List.getElem?_eq_getElem lk2)
          rw [List.getElem?_eq_getElem lk2, fig_num r0 r1 f]
      · rw [hk] at hb
        exact absurd hb nb2
    refine ⟨_, rfl, _, _, _, _, rfl, rfl, SqL.of hq5, at0, rfl, _, rfl, ite_y (fun hb => ?_) ?_⟩
    · intro y
      have hk : hd = "kept" := V.str.inj (of_decide_eq_true hb)
      obtain ⟨rs, _, _, ll⟩ := ilk hk
      refine ⟨_, rfl, F, _, rfl, .inl (SqL.of hF), _, rfl, sl, _, rfl, .inl (SqL.of ((eB.trans e5) _ _ hsl)), rfl, _, rfl, itF ?_ y⟩
      show (!decide (V.int ((il.map V.int).length : Int) = V.int (ps.length : Int))) = false
      rw [List.length_map, ll, lps, decide_eq_true rfl]
      rfl
    refine ⟨_, rfl, _, _, _, _, rfl, rfl, SqL.of hq5, at0, szn (n := 2) (by decide), fun t nt => ?_⟩
    have e6 := e5.trans (ex_up (o := .tup [V.str "kept", V.str "broken"]) nt)
    have hq6 : upd H5 t (.tup [V.str "kept", V.str "broken"]) q = some (.lst ((hd :: rest).map V.str)) := (upd_ne (ne_of_none hq5 nt)).trans hq5
    have hF6 : upd H5 t (.tup [V.str "kept", V.str "broken"]) F = some (.lst (il.map V.int)) := (upd_ne (ne_of_none hF nt)).trans hF
    have inx : (!inV (.str hd) [V.str "kept", V.str "broken"]) = false := by
      rcases tor with ⟨h1, _⟩ | ⟨h1, _⟩
      · rw [h1]
        decide +kernel
      · rw [h1]
        decide +kernel
    refine ⟨t, _, rfl, .inr (SqT.of upd_same), rfl, rfl, _, rfl, itF inx ?_⟩
    generalize upd H5 t (.tup [V.str "kept", V.str "broken"]) = H6 at e6 hq6 hF6 ⊢
    refine ⟨_, rfl, sl, _, rfl, .inl (SqL.of ((eB.trans e6) _ _ hsl)), _, rfl, by omega, by omega, ?_⟩
    refine for_range (fun j σ H' => ∃ (m : Int) (y6 y7 y8 y9 y10 : Option V) (B' : Hp), σ = [some (.ref p), some (.ref sl), some (.str tx), some (.ref q), some (.ref F), some (.int m), y6, y7, y8, y9, y10, none] ∧ GrN K B H B' H' ∧ H' q = some (.lst ((hd :: rest).map V.str)) ∧ H' F = some (.lst (il.map V.int)) ∧ 0 ≤ m ∧ m ≤ j ∧ (hd = "kept" → m = 0) ∧ ∀ (i : Nat) (u : Wk), i < j → ws[i]? = some u → Ans ws i u none → 1 ≤ m) ⟨0, _, _, _, _, _, B, rfl, (GrN.refl eB nB hT).heap e6, hq6, hF6, Int.le_refl _, Int.le_refl _, fun _ => rfl, fun i u h => absurd h (Nat.not_lt_zero _)⟩ ?_ ?_
    · rintro j σ H7 hj ⟨m, y6, y7, y8, y9, y10, B7, rfl, g7, hq7, hF7, m0, m1, mk, mb⟩
      have hj' : j < ws.length := by omega
      obtain ⟨u, hu⟩ : ∃ u, ws[j]? = some u := ⟨_, List.getElem?_eq_getElem hj'⟩
      have ej : ((0 : Int) + (j : Int)) = ((j : Nat) : Int) := by omega
      have hp7 : H7 p = some (dkO K dx d) := g7.eH _ _ hp (fun _ z => nomatch z)
      have bp7 : B7 p = none := g7.hid p bp (by rw [hp]; exact fun z => nomatch z)
      refine ⟨_, rfl, _, rfl, _, rfl, B7, p, dx, d, _, ws, j, u, by rw [ej]; rfl, ⟨g7.e, bp7, hp7, D.mono g7.eB⟩, g7.nt, g7.tab, ⟨sl, ps, rfl, g7.eB _ _ hsl, L2.Paired.mapP pr fun _ _ z => z.mono g7.eB⟩, G, hu, fun x B8 H8 r o z an bl hz g8 hx => ?_⟩
      obtain ⟨q8, l8, rfl, hq8, rr, cs, rfl, hrr, prow⟩ := hx
      have g := g7.trans g8
      have hq9 : H8 q = some (.lst ((hd :: rest).map V.str)) := g8.eH _ _ hq7 (fun _ z => nomatch z)
      have hF9 : H8 F = some (.lst (il.map V.int)) := g8.eH _ _ hF7 (fun _ z => nomatch z)
      have hat := hard_at ws j u r o
      obtain ⟨cv, hcv, ct, rfl, hct⟩ := paired_at prow hat
      obtain ⟨later, s', L, rch, c1, c2, rfl⟩ := hz.ex
      obtain ⟨lawS, lawN⟩ := hard_law G hu an bl L rch c1 c2
      obtain ⟨pv, hpv, hpt⟩ := paired_at pr hu
      obtain ⟨a, l, rfl, ha⟩ := pt_fields hpt
      generalize lastOf s'.told (hardPlace o) = z at lawS lawN hq8 ⊢
      refine ⟨_, rfl, rfl, _, rfl, itF rfl ?_⟩
      refine ⟨_, rfl, q8, _, rfl, SqT.of (g8.e _ _ hq8), rfl, _, _, rfl, _, _, rfl, _, _, rfl, rfl, ?_⟩
      refine ⟨_, rfl, _, _, _, _, rfl, rfl, SqL.of hq9, at0, rfl, _, rfl, ite_y (fun hb y => ?_) ?_⟩
      · have hk : hd = "kept" := V.str.inj (of_decide_eq_true hb)
        obtain ⟨rs, er, al, ll⟩ := ilk hk
        have lj : j < il.length := by omega
        have ra := al.at_ j u il[j] hu (by rw [← er]; exact List.getElem?_eq_getElem lj)
        have zl := lawS il[j] (ans_uniq an ra)
        refine ⟨_, rfl, _, rfl, _, rfl, _, _, _, _, rfl, rfl, SqL.of (g8.e _ _ hrr), atI_nat hcv, _, _, _, _, rfl, rfl, SqT.of (g8.e _ _ hct), rfl, ?_⟩
        refine ⟨_, rfl, _, rfl, _, _, _, _, rfl, rfl, SqL.of (g8.e _ _ hrr), atI_nat hcv, _, _, _, _, rfl, rfl, SqT.of (g8.e _ _ hct), rfl, ?_⟩
        refine ⟨_, _, rfl, rfl, ?_⟩
        have hil : (il.map V.int)[j]? = some (.int il[j]) := by rw [List.getElem?_map, List.getElem?_eq_getElem lj]; rfl
        refine ⟨_, rfl, _, rfl, _, _, _, _, rfl, by rw [ej], SqL.of hF9, atI_nat hil, _, _, rfl, rfl, rfl, _, rfl, itF ?_ y⟩
        show (!decide (V.int z = V.int (hardStart ws j o - u.late + u.late + il[j]))) = false
        rw [show hardStart ws j o - u.late + u.late + il[j] = z by omega, decide_eq_true rfl]
        rfl
      refine ⟨_, rfl, _, rfl, _, rfl, _, _, _, _, rfl, rfl, SqL.of (g8.e _ _ hrr), atI_nat hcv, _, _, _, _, rfl, rfl, SqT.of (g8.e _ _ hct), rfl, ?_⟩
      have at3 : atI [V.str u.name, .int u.gap, .int u.len, .int u.due, .int u.late, .ref l] ((3 : Nat) : Int) = some (.int u.due) := atI_nat rfl
      refine ⟨_, rfl, _, rfl, _, _, _, _, rfl, by rw [ej], SqL.of ((eB.trans (Evl.Ex.refl _)) _ _ hsl |> fun z => g.e _ _ (g.eB _ _ hsl)), atI_nat hpv, _, _, _, _, rfl, rfl, SqL.of (g.e _ _ (g.eB _ _ ha)), at3, ?_⟩
      refine ⟨_, _, rfl, rfl, ?_⟩
      by_cases hzz : hardStart ws j o - u.late + u.due < z
      · refine ⟨_, _, rfl, rfl, _, rfl, itT (decide_eq_true hzz) ?_⟩
        refine ⟨_, rfl, _, _, rfl, rfl, ?_⟩
        refine ⟨m + 1, _, _, _, _, _, B8, rfl, g, hq9, hF9, by omega, by omega, fun hk => ?_, fun i v hi hv hn => by omega⟩
        exfalso
        obtain ⟨rs, er, al, ll⟩ := ilk hk
        have lj : j < il.length := by omega
        have ra := al.at_ j u il[j] hu (by rw [← er]; exact List.getElem?_eq_getElem lj)
        have zl := lawS il[j] (ans_uniq an ra)
        have := ra.2.1
        omega
      · refine ⟨_, _, rfl, rfl, _, rfl, itF (decide_eq_false hzz) ?_⟩
        refine ⟨m, _, _, _, _, _, B8, rfl, g, hq9, hF9, m0, by omega, mk, fun i v hi hv hn => ?_⟩
        rcases Nat.lt_or_ge i j with lt | ge
        · exact mb i v lt hv hn
        · have eij : i = j := by omega
          subst eij
          rw [hu] at hv
          cases hv
          exact absurd (lawN (ans_uniq an hn)) hzz
    · rintro σ H7 ⟨m, y6, y7, y8, y9, y10, B7, rfl, g7, hq7, hF7, m0, m1, mk, mb⟩
      refine ⟨_, rfl, _, _, _, _, rfl, rfl, SqL.of hq7, at0, rfl, _, rfl, _, _, rfl, rfl, rfl, ?_⟩
      have e : decide (V.bl (decide (V.str hd = V.str "broken")) = V.bl (decide ((0 : Int) < m))) = true := by
        refine decide_eq_true (congrArg V.bl ?_)
        rcases tor with ⟨hk, _⟩ | ⟨hb, i, o, u, b⟩
        · have z := mk hk
          rw [decide_eq_false (by rw [hk]; exact fun z => nb2 (V.str.inj z)), decide_eq_false (by omega)]
        · have li := (List.getElem?_eq_some_iff.mp b.hu).1
          have z := mb i u (by omega) b.hu b.an
          rw [decide_eq_true (by rw [hb]), decide_eq_true (by omega)]
      show Q (.bl (decide (V.bl (decide (V.str hd = V.str "broken")) = V.bl (decide ((0 : Int) < m))))) H7
      rw [e]
      exact k B7 H7 g7
end
end Dty
set_option Elab.async false
set_option linter.all false
set_option maxRecDepth 100000
set_option maxHeartbeats 4000000
namespace Dty
open PySem PySem.Spec PyProof.Rows L2 Dq TL NdefX LamX
/-! ### names -/
def sgn (c a : Int) (k j : Nat) : Int := c / 6720 + (j : Int) * (1 + c % 25) + (k : Int) * (if decide ((j : Int) = a) = true then 1 else 0)
def codeAt (c a : Int) (k j : Nat) : Nat := 97 + (sgn c a k j % 26).toNat
def codes (c a : Int) (k n : Nat) : List Nat := (List.range n).map (codeAt c a k)
theorem codes_succ (c a : Int) (k n : Nat) : codes c a k (n + 1) = codes c a k n ++ [codeAt c a k n] := by
  unfold codes
  rw [List.range_succ, List.map_append]
  rfl
theorem abc_at : ∀ m : Fin 26, ("abcdefghijklmnopqrstuvwxyz" : Str).cps.toList[m.val]? = some (97 + m.val) := by decide +kernel
theorem letter_at {i : Int} (h0 : 0 ≤ i) (h : i < 26) : atI ("abcdefghijklmnopqrstuvwxyz" : Str).cps.toList i = some (97 + i.toNat) := by
  have z := abc_at ⟨i.toNat, by omega⟩
  have y := atI_nat z
  have e : ((i.toNat : Nat) : Int) = i := by omega
  show atI _ i = _
  rw [← e]
  exact y
theorem codes_nm {c a : Int} {k n : Nat} {x : Str} (e : tl x = codes c a k n) (n1 : 1 ≤ n) (n8 : n ≤ 8) : Nm x := by
  have l : x.length = n := by
    rw [len_tl, e]
    unfold codes
    rw [List.length_map, List.length_range]
  refine ⟨by omega, by omega, fun y hy => ?_⟩
  rw [e] at hy
  obtain ⟨j, _, rfl⟩ := List.mem_map.mp hy
  have := Int.emod_nonneg (sgn c a k j) (show (26 : Int) ≠ 0 by decide)
  have := Int.emod_lt_of_pos (sgn c a k j) (show (0 : Int) < 26 by decide)
  unfold codeAt
  omega
theorem codes_inj {c : Int} {a k l n : Nat} (ha : a < n) (hk : k < 26) (hl : l < 26) (e : codes c (a : Nat) k n = codes c (a : Nat) l n) : k = l := by
  have z := congrArg (fun q => q[a]?) e
  simp only [codes, List.getElem?_map, List.getElem?_range ha, Option.map_some, Option.some.injEq, codeAt] at z
  have := Int.emod_nonneg (sgn c (a : Nat) k a) (show (26 : Int) ≠ 0 by decide)
  have := Int.emod_nonneg (sgn c (a : Nat) l a) (show (26 : Int) ≠ 0 by decide)
  have y : sgn c (a : Nat) k a % 26 = sgn c (a : Nat) l a % 26 := by omega
  unfold sgn at y
  simp only [decide_true, if_true] at y
  generalize c / 6720 + (a : Int) * (1 + c % 25) = b at y
  omega
structure NamesOk (ns : List Str) (n : Nat) : Prop where
  len : ns.length = n
  nm : ∀ x ∈ ns, Nm x
  nd : ns.Nodup
section
variable {P : Program} {w : World} {K : PySem.W.Frag} {mg : Str → Option Value} {base : Heap}
abbrev N_l_names : List Str := ["_law_cell", "_law_many", "_law_letters", "_law_size", "_law_at", "_law_names_here", "_law_k", "_law_name", "_law_j", "_law_sign"]
theorem sc_l_names : FnScope N_l_names ["_law_cell", "_law_many"] (defScope s_l_names) := ⟨rfl, rfl, rfl, by decide +kernel, rfl, by decide +kernel, by decide +kernel⟩
def sp_l_names (K : PySem.W.Frag) : Sp := fun vs H Q _ => ∃ (c : Int) (n : Nat), vs = [.int c, .int (n : Nat)] ∧ n ≤ 20 ∧ ∀ (p : Addr) (ns : List Str) (H' : Hp), H p = none → Ex H H' → H' p = some (.lst (ns.map V.str)) → NamesOk ns n → Q (.ref p) H'
theorem ok_l_names (T : Says K mg) : FnOk P w K mg base CX0 1 (He.fAd K d_l_names.at_) (fdOf K d_l_names.at_) ["_law_cell", "_law_many"] (sp_l_names K) := by
  refine (F_l_names T).ok sc_l_names (fun vs H Q E h => ?_) (fun cdv A outer s H vs Q E hr h => ?_)
  · obtain ⟨_, _, rfl, _⟩ := h
    rfl
  · refine ⟨_, PSs.nox (pss_cons (ps_set (i := 2) sc_l_names.nd rfl (Or.inl rfl) pe_str) (pss_cons (ps_set (i := 3) sc_l_names.nd rfl (Or.inl rfl) (pe_op op_add pe_int (pe_op op_mod (pv 0) pe_int))) (pss_cons (ps_set (i := 4) sc_l_names.nd rfl (Or.inl rfl) (pe_op op_mod (pe_op op_mod (pe_op op_fdiv (pv 0) pe_int) pe_int) (pv 3))) (pss_cons (ps_set (i := 5) sc_l_names.nd rfl (Or.inl rfl) (pe_lst pa_nil)) (pss_cons (ps_for PassesOwn.never rfl (pi_range1 (by rfl) (f_range T) (pa_cons (pv 1) pa_nil)) (pg_name (i := 6) sc_l_names.nd rfl (Or.inl rfl)) (pss_cons (ps_set (i := 7) sc_l_names.nd rfl (Or.inl rfl) pe_str) (pss_cons (ps_for PassesOwn.never rfl (pi_range1 (by rfl) (f_range T) (pa_cons (pv 3) pa_nil)) (pg_name (i := 8) sc_l_names.nd rfl (Or.inl rfl)) (pss_cons (ps_set (i := 9) sc_l_names.nd rfl (Or.inl rfl) (pe_op op_add (pe_op op_add (pe_op op_fdiv (pv 0) pe_int) (pe_op op_mul (pv 8) (pe_op op_add pe_int (pe_op op_mod (pv 0) pe_int)))) (pe_op op_mul (pv 6) (pe_callTy call_int1 (by rfl) (f_int T) (by decide +kernel) (pa_cons (pe_cmpR op_eq (pv 8) (pv 4) (nomark _)) pa_nil))))) (pss_one (ps_set (i := 7) sc_l_names.nd rfl (Or.inl rfl) (pe_op op_add_str (pv 7) (pe_ix ix_str (pv 2) (pe_op op_mod (pv 9) pe_int) (fun _ _ => rfl))))))) (pss_one (ps_expr (pe_bm PySem.F.plainAttrs_list PySem.F.slot_list_append PySem.F.type_list_append mt_append (pv 5) (pa_cons (pv 7) pa_nil))))))) (pss_one (ps_ret (pv 5)))))))), ?_⟩
    obtain ⟨c, n, rfl, n20, k⟩ := h
    have c80 := Int.emod_nonneg c (show (8 : Int) ≠ 0 by decide)
    have c81 := Int.emod_lt_of_pos c (show (0 : Int) < 8 by decide)
    obtain ⟨sz, hsz⟩ : ∃ sz : Nat, (1 + c % 8 : Int) = (sz : Nat) := ⟨(1 + c % 8).toNat, by omega⟩
    have a0 := Int.emod_nonneg (c / 8 % 840) (show (1 + c % 8 : Int) ≠ 0 by omega)
    have a1 := Int.emod_lt_of_pos (c / 8 % 840) (show (0 : Int) < 1 + c % 8 by omega)
    refine ⟨_, rfl, _, _, rfl, rfl, (show (0 : Int) < 8 by decide), _, _, rfl, rfl, ?_⟩
    refine ⟨_, rfl, _, _, rfl, rfl, ⟨by decide, by decide⟩, _, _, rfl, rfl, (show (0 : Int) < 840 by decide), _, rfl, _, _, rfl, rfl, (show (0 : Int) < 1 + c % 8 by omega), ?_⟩
    refine ⟨by decide, fun L nL => ?_⟩
    generalize ha : c / 8 % 840 % (1 + c % 8) = a at a0 a1 ⊢
    rw [hsz] at a1 ⊢
    refine ⟨_, rfl, _, rfl, by omega, by omega, ?_⟩
    refine for_range (fun i σ H' => ∃ (ns : List Str) (y6 y7 y8 y9 : Option V), σ = [some (.int c), some (.int (n : Nat)), some (.str "abcdefghijklmnopqrstuvwxyz"), some (.int (sz : Nat)), some (.int a), some (.ref L), y6, y7, y8, y9] ∧ Ex H H' ∧ H' L = some (.lst (ns.map V.str)) ∧ ns.length = i ∧ ∀ (j : Nat) (x : Str), ns[j]? = some x → tl x = codes c a j sz) ⟨[], _, _, _, _, by rw [← ha, ← hsz]; rfl, ex_up nL, upd_same, rfl, fun j x z => by cases z⟩ ?_ ?_
    · rintro i σ H1 hi ⟨ns, y6, y7, y8, y9, rfl, e1, hL, ln, al⟩
      refine ⟨_, rfl, _, rfl, by omega, by omega, ?_⟩
      refine for_range (fun j σ H' => ∃ (x : Str) (z8 z9 : Option V), σ = [some (.int c), some (.int (n : Nat)), some (.str "abcdefghijklmnopqrstuvwxyz"), some (.int (sz : Nat)), some (.int a), some (.ref L), some (.int (0 + (i : Int))), some (.str x), z8, z9] ∧ H' = H1 ∧ tl x = codes c a i j) ⟨"", _, _, rfl, rfl, (show tl ("" : Str) = [] by decide +kernel)⟩ ?_ ?_
      · rintro j σ H2 hj ⟨x, z8, z9, rfl, rfl, ex⟩
        have lx : x.length = j := by
          rw [len_tl, ex]
          unfold codes
          rw [List.length_map, List.length_range]
        have ei : (0 : Int) + (i : Int) = ((i : Nat) : Int) := by omega
        have ej : (0 : Int) + (j : Int) = ((j : Nat) : Int) := by omega
        refine ⟨_, rfl, _, _, rfl, rfl, ⟨by decide, by decide⟩, _, rfl, _, rfl, _, _, rfl, rfl, (show (0 : Int) < 25 by decide), _, _, rfl, rfl, _, _, rfl, rfl, .inl ⟨by omega, by omega⟩, _, _, rfl, rfl, ?_⟩
        refine ⟨_, rfl, _, rfl, _, rfl, rfl, .inr ⟨_, rfl, _, _, rfl, rfl, .inl ⟨by omega, by omega⟩, _, _, rfl, rfl, ?_⟩⟩
        have g0 := Int.emod_nonneg (sgn c a i j) (show (26 : Int) ≠ 0 by decide)
        have g1 := Int.emod_lt_of_pos (sgn c a i j) (show (0 : Int) < 26 by decide)
        have es : c / 6720 + (0 + (j : Int)) * (1 + c % 25) + (0 + (i : Int)) * (if decide (V.int (0 + (j : Int)) = V.int a) = true then 1 else 0) = sgn c a i j := by
          unfold sgn
          rw [ei, ej]
          congr 2
          by_cases q : (j : Int) = a
          · rw [if_pos (decide_eq_true (by rw [q])), if_pos (decide_eq_true q)]
          · rw [if_neg (by rw [decide_eq_false fun z => q (V.int.inj z)]; exact Bool.false_ne_true), if_neg (by rw [decide_eq_false q]; exact Bool.false_ne_true)]
        refine ⟨_, rfl, _, rfl, _, rfl, _, _, rfl, rfl, (show (0 : Int) < 26 by decide), _, _, _, rfl, rfl, by decide +kernel, (show atI _ ((c / 6720 + (0 + (j : Int)) * (1 + c % 25) + (0 + (i : Int)) * (if decide (V.int (0 + (j : Int)) = V.int a) = true then 1 else 0)) % 26) = _ from by rw [es]; exact letter_at g0 g1), _, _, rfl, rfl, Evl.sz_of (by show x.length + 1 ≤ _; omega), ?_⟩
        refine ⟨_, _, _, rfl, rfl, ?_⟩
        rw [tl_append, ex, codes_succ]
        rfl
      · rintro σ H2 ⟨x, z8, z9, rfl, rfl, ex⟩
        refine ⟨_, rfl, .inl ⟨rfl, _, SqL.of hL⟩, _, rfl, L, _, _, rfl, rfl, hL, ?_, ?_⟩
        · rw [List.length_map]
          exact Evl.sz_lt (by omega)
        refine ⟨ns ++ [x], _, _, _, _, rfl, e1.mut nL, by rw [upd_same, List.map_append]; rfl, by rw [List.length_append, ln]; rfl, fun j' y hy => ?_⟩
        rcases Nat.lt_or_ge j' ns.length with q | q
        · rw [List.getElem?_append_left q] at hy
          exact al j' y hy
        · have ej : j' = i := by
            have := (List.getElem?_eq_some_iff.mp hy).1
            rw [List.length_append, List.length_singleton] at this
            omega
          subst ej
          rw [List.getElem?_append_right q, show j' - ns.length = 0 by omega] at hy
          cases hy
          exact ex
    · rintro σ H1 ⟨ns, y6, y7, y8, y9, rfl, e1, hL, ln, al⟩
      refine ⟨_, rfl, k L ns H1 nL e1 hL ⟨by omega, fun x hx => ?_, ?_⟩⟩
      · obtain ⟨j, hj⟩ := List.getElem?_of_mem hx
        exact codes_nm (al j x hj) (by omega) (by omega)
      · rw [List.nodup_iff_pairwise_ne, List.pairwise_iff_getElem]
        intro i j hi hj ij z
        have ei := al i _ (List.getElem?_eq_getElem hi)
        have ej := al j _ (List.getElem?_eq_getElem hj)
        rw [z, ej] at ei
        have ea : a = ((a.toNat : Nat) : Int) := by omega
        rw [ea] at ei
        have := codes_inj (a := a.toNat) (by omega) (by omega) (by omega) ei
        omega
end
end Dty
set_option Elab.async false
set_option linter.all false
set_option maxRecDepth 100000
set_option maxHeartbeats 4000000
namespace Dty
open PySem PySem.Spec PyProof.Rows L2 Dq TL NdefX LamX
theorem eight {l : List Int} (h : l.length = 8) : ∃ x0 x1 x2 x3 x4 x5 x6 x7, l = [x0, x1, x2, x3, x4, x5, x6, x7] := by
  match l, h with
  | [x0, x1, x2, x3, x4, x5, x6, x7], _ => exact ⟨x0, x1, x2, x3, x4, x5, x6, x7, rfl⟩
theorem gap_ok {u r s : Int} (u1 : 1 ≤ u) (r0 : 0 ≤ r) (r1 : r < 5) (s0 : 0 ≤ s) (s1 : s < u) : 3 * u ≤ u * (3 + r) + s ∧ u * (3 + r) + s < 8 * u := by
  rcases (by omega : r = 0 ∨ r = 1 ∨ r = 2 ∨ r = 3 ∨ r = 4) with rfl | rfl | rfl | rfl | rfl <;> omega
theorem part_le {g t d : Int} (g0 : 0 ≤ g) (t0 : 0 ≤ t) (d0 : 0 < d) (h : t ≤ d) : 0 ≤ g * t / d ∧ g * t / d ≤ g := by
  refine ⟨Int.ediv_nonneg (Int.mul_nonneg g0 t0) (by omega), Int.ediv_le_of_le_mul d0 (Int.mul_le_mul_of_nonneg_left h g0)⟩
theorem part8 {g t : Int} (g0 : 0 ≤ g) (t0 : 0 ≤ t) (h : t ≤ 3) : 0 ≤ g * t / 8 ∧ 8 * (g * t / 8) ≤ 3 * g := by
  rcases (by omega : t = 0 ∨ t = 1 ∨ t = 2 ∨ t = 3) with rfl | rfl | rfl | rfl <;> omega
section
variable {P : Program} {w : World} {K : PySem.W.Frag} {mg : Str → Option Value} {base : Heap}
abbrev N_l_parts : List Str := ["_law_cell", "_law_unit", "_law_many", "_law_name", "_law_thing", "_law_xs", "_law_gap", "_law_length", "_law_due", "_law_late", "_law_holds", "_law_start"]
theorem sc_l_parts : FnScope N_l_parts ["_law_cell", "_law_unit", "_law_many", "_law_name", "_law_thing"] (defScope s_l_parts) := ⟨rfl, rfl, rfl, by decide +kernel, rfl, by decide +kernel, by decide +kernel⟩
def sp_l_parts (K : PySem.W.Frag) : Sp := fun vs H Q _ => ∃ (B : Hp) (c u : Int) (m : Nat) (nm th : Str), vs = [.int c, .int u, .int (m : Nat), .str nm, .str th] ∧ Ex B H ∧ 1 ≤ u ∧ u ≤ 1000000000000000 ∧ 1 ≤ m ∧ m ≤ 4 ∧ Nm nm ∧ Nm th ∧
  ∀ (p : Addr) (wk : Wk) (B' H' : Hp), Gr B H B' H' → PtV B' (.ref p) wk → Rok u wk → wk.name = nm → Q (.ref p) H'
theorem ok_l_parts (T : Says K mg) : FnOk P w K mg base CX0 2 (He.fAd K d_l_parts.at_) (fdOf K d_l_parts.at_) ["_law_cell", "_law_unit", "_law_many", "_law_name", "_law_thing"] (sp_l_parts K) := by
  refine (F_l_parts T).ok sc_l_parts (fun vs H Q E h => ?_) (fun cdv A outer s H vs Q E hr h => ?_)
  · obtain ⟨_, _, _, _, _, _, rfl, _⟩ := h
    rfl
  · refine ⟨_, PSs.nox (pss_cons (ps_set (i := 5) sc_l_parts.nd rfl (Or.inl rfl) (pe_call (ok_l_stream T) (hr.mono (by decide)) rfl (g__law_stream T) (F_l_stream T).kp (b_l_stream T) .nil pass0 (pa_cons (pv 0) (pa_cons pe_int pa_nil)))) (pss_cons (ps_set (i := 6) sc_l_parts.nd rfl (Or.inl rfl) (pe_op op_add (pe_op op_mul (pv 1) (pe_op op_add pe_int (pe_op op_mod (pe_ix ix_list (pv 5) pe_int (fun _ _ => rfl)) pe_int))) (pe_op op_mod (pe_ix ix_list (pv 5) pe_int (fun _ _ => rfl)) (pv 1)))) (pss_cons (ps_set (i := 7) sc_l_parts.nd rfl (Or.inl rfl) (pe_op op_add pe_int (pe_op op_fdiv (pe_op op_mul (pv 6) (pe_op op_add pe_int (pe_op op_mod (pe_ix ix_list (pv 5) pe_int (fun _ _ => rfl)) pe_int))) (pe_op op_add (pe_op op_mul pe_int (pv 2)) pe_int)))) (pss_cons (ps_set (i := 8) sc_l_parts.nd rfl (Or.inl rfl) (pe_op op_sub (pv 6) (pe_op op_fdiv (pe_op op_mul (pv 6) (pe_op op_mod (pe_ix ix_list (pv 5) pe_int (fun _ _ => rfl)) pe_int)) pe_int))) (pss_cons (ps_set (i := 9) sc_l_parts.nd rfl (Or.inl rfl) (pe_op op_fdiv (pe_op op_mul (pv 6) (pe_op op_mul (pe_op op_fdiv (pe_op op_mod (pe_ix ix_list (pv 5) pe_int (fun _ _ => rfl)) pe_int) pe_int) (pe_op op_mod (pe_op op_fdiv (pe_ix ix_list (pv 5) pe_int (fun _ _ => rfl)) pe_int) pe_int))) pe_int)) (pss_cons (ps_set (i := 10) sc_l_parts.nd rfl (Or.inl rfl) (pe_lst pa_nil)) (pss_cons (ps_if (PW.pt (pw_and (pt_cmpR op_eq (pe_op op_mod (pe_ix ix_list (pv 5) pe_int (fun _ _ => rfl)) pe_int) pe_int (nomark _)) (pw_and1 (pt_cmpR op_gt (pv 7) pe_int (nomark _))))) (pss_cons (ps_set (i := 11) sc_l_parts.nd rfl (Or.inl rfl) (pe_op op_mod (pe_op op_mul (pe_ix ix_list (pv 5) pe_int (fun _ _ => rfl)) (pe_ix ix_list (pv 5) pe_int (fun _ _ => rfl))) (pe_op op_sub (pv 7) pe_int))) (pss_one (ps_set (i := 10) sc_l_parts.nd rfl (Or.inl rfl) (pe_lst (pa_cons (pe_tup (pa_cons (pv 4) (pa_cons (pv 11) (pa_cons (pe_op op_add (pe_op op_add (pv 11) pe_int) (pe_op op_mod (pe_op op_mul (pe_ix ix_list (pv 5) pe_int (fun _ _ => rfl)) (pe_ix ix_list (pv 5) pe_int (fun _ _ => rfl))) (pe_op op_sub (pe_op op_sub (pv 7) pe_int) (pv 11)))) pa_nil)))) pa_nil))))) pss_nil) (pss_one (ps_ret (pe_lst (pa_cons (pv 3) (pa_cons (pv 6) (pa_cons (pv 7) (pa_cons (pv 8) (pa_cons (pv 9) (pa_cons (pv 10) pa_nil)))))))))))))))), ?_⟩
    obtain ⟨B, c, u, m, nm, th, rfl, eB, u0, u1, m0, m1, nmO, thO, k⟩ := h
    refine ⟨_, rfl, c, 8, rfl, by decide, fun p ns H1 np e1 hp hl hx => ?_⟩
    obtain ⟨x0, x1, x2, x3, x4, x5, x6, x7, rfl⟩ := eight hl
    have b0 := hx x0 (by simp); have b1 := hx x1 (by simp); have b2 := hx x2 (by simp); have b3 := hx x3 (by simp)
    have b4 := hx x4 (by simp); have b5 := hx x5 (by simp); have b6 := hx x6 (by simp); have b7 := hx x7 (by simp)
    have r0 := Int.emod_nonneg x1 (show u ≠ 0 by omega)
    have r1 := Int.emod_lt_of_pos x1 (show 0 < u by omega)
    obtain ⟨g1, g2⟩ := gap_ok u0 (r := x0 % 5) (by omega) (by omega) r0 r1
    refine ⟨_, rfl, _, rfl, _, _, _, _, rfl, rfl, SqL.of hp, rfl, _, _, rfl, rfl, (show (0 : Int) < 5 by decide), _, _, rfl, rfl, _, _, rfl, rfl, .inr ⟨by omega, by omega⟩, ?_⟩
    refine ⟨_, rfl, _, _, _, _, rfl, rfl, SqL.of hp, rfl, _, rfl, _, _, rfl, rfl, (show (0 : Int) < u by omega), _, _, rfl, rfl, ?_⟩
    show gName 6 (V.int (u * (3 + x0 % 5) + x1 % u)) _ _ _
    generalize u * (3 + x0 % 5) + x1 % u = gap at g1 g2 ⊢
    obtain ⟨l0, l1⟩ := part_le (g := gap) (t := 1 + x2 % 12) (d := 6 * (m : Int) + 6) (by omega) (by omega) (by omega) (by omega)
    obtain ⟨d0, d1⟩ := part8 (g := gap) (t := x3 % 4) (by omega) (by omega) (by omega)
    have tq : 0 ≤ x4 % 3 / 2 * (x4 / 3 % 4) ∧ x4 % 3 / 2 * (x4 / 3 % 4) ≤ 3 := by
      rcases (by omega : x4 % 3 / 2 = 0 ∨ x4 % 3 / 2 = 1) with e | e <;> rw [e] <;> omega
    obtain ⟨t0, t1⟩ := part8 (g := gap) (by omega) tq.1 tq.2
    refine ⟨_, rfl, _, rfl, _, _, _, _, rfl, rfl, SqL.of hp, rfl, _, _, rfl, rfl, (show (0 : Int) < 12 by decide), _, _, rfl, rfl, _, _, rfl, rfl, .inr ⟨by omega, by omega⟩, _, rfl, _, _, rfl, rfl, .inl ⟨by decide, by decide⟩, _, _, rfl, rfl, _, _, rfl, rfl, ⟨by omega, by omega⟩, _, _, rfl, rfl, ?_⟩
    show gName 7 (V.int (1 + gap * (1 + x2 % 12) / (6 * (m : Int) + 6))) _ _ _
    generalize gap * (1 + x2 % 12) / (6 * (m : Int) + 6) = ln at l0 l1 ⊢
    refine ⟨_, rfl, _, rfl, _, rfl, _, _, _, _, rfl, rfl, SqL.of hp, rfl, _, _, rfl, rfl, (show (0 : Int) < 4 by decide), _, _, rfl, rfl, .inr ⟨by omega, by omega⟩, _, _, rfl, rfl, ⟨by decide, by decide⟩, _, _, rfl, rfl, ?_⟩
    show gName 8 (V.int (gap - gap * (x3 % 4) / 8)) _ _ _
    generalize gap * (x3 % 4) / 8 = du at d0 d1 ⊢
    refine ⟨_, rfl, _, rfl, _, _, _, _, rfl, rfl, SqL.of hp, rfl, _, _, rfl, rfl, (show (0 : Int) < 3 by decide), _, _, rfl, rfl, ⟨by decide, by decide⟩, _, rfl, _, _, _, _, rfl, rfl, SqL.of hp, rfl, _, _, rfl, rfl, ⟨by decide, by decide⟩, _, _, rfl, rfl, (show (0 : Int) < 4 by decide), _, _, rfl, rfl, .inl ⟨by omega, by omega⟩, _, _, rfl, rfl, .inr ⟨by omega, by omega⟩, _, _, rfl, rfl, ⟨by decide, by decide⟩, ?_⟩
    show gName 9 (V.int (gap * (x4 % 3 / 2 * (x4 / 3 % 4)) / 8)) _ _ _
    generalize gap * (x4 % 3 / 2 * (x4 / 3 % 4)) / 8 = la at t0 t1 ⊢
    refine ⟨by decide, fun l nl => ?_⟩
    have rok : ∀ hs : List (Str × Int × Int), hs.length ≤ 1 → (∀ h ∈ hs, Nm h.1 ∧ 0 ≤ h.2.1 ∧ h.2.1 < h.2.2 ∧ h.2.2 < 1 + ln) → Rok u ⟨nm, gap, 1 + ln, gap - du, la, hs⟩ := fun hs h1 h2 => ⟨nmO, g1, g2, by show 1 ≤ 1 + ln; omega, by show 1 + ln ≤ gap + 1; omega, by show 1 ≤ gap - du; omega, by show gap - du ≤ gap; omega, t0, t1, h1, h2⟩
    have e2 := e1.trans (ex_up (o := .lst []) nl)
    have npl : p ≠ l := ne_of_none hp nl
    have hp2 : upd H1 l (.lst []) p = some (.lst ([x0, x1, x2, x3, x4, x5, x6, x7].map V.int)) := (upd_ne npl).trans hp
    refine ⟨_, rfl, _, _, _, _, rfl, rfl, SqL.of hp2, rfl, _, _, rfl, rfl, (show (0 : Int) < 2 by decide), rfl, _, rfl, ite_y (fun hb y => ?_) ?_⟩
    · by_cases c2 : (2 : Int) < 1 + ln
      · refine ⟨_, rfl, _, _, rfl, rfl, _, rfl, itT (decide_eq_true c2) ?_⟩
        have s0 := Int.emod_nonneg (x6 * x7) (show 1 + ln - 2 ≠ 0 by omega)
        have s1 := Int.emod_lt_of_pos (x6 * x7) (show 0 < 1 + ln - 2 by omega)
        refine ⟨_, rfl, _, _, _, _, rfl, rfl, SqL.of hp2, rfl, _, rfl, _, _, _, _, rfl, rfl, SqL.of hp2, rfl, _, _, rfl, rfl, .inl ⟨by omega, by omega⟩, _, rfl, _, _, rfl, rfl, _, _, rfl, rfl, (show 0 < 1 + ln - 2 by omega), ?_⟩
        show gName 11 (V.int (x6 * x7 % (1 + ln - 2))) _ _ _
        generalize x6 * x7 % (1 + ln - 2) = st at s0 s1 ⊢
        have z0 := Int.emod_nonneg (x7 * x5) (show 1 + ln - 1 - st ≠ 0 by omega)
        have z1 := Int.emod_lt_of_pos (x7 * x5) (show 0 < 1 + ln - 1 - st by omega)
        refine ⟨_, rfl, _, rfl, _, rfl, _, _, rfl, rfl, _, rfl, _, _, _, _, rfl, rfl, SqL.of hp2, rfl, _, rfl, _, _, _, _, rfl, rfl, SqL.of hp2, rfl, _, _, rfl, rfl, .inl ⟨by omega, by omega⟩, _, rfl, _, _, rfl, rfl, _, rfl, _, _, rfl, rfl, _, _, rfl, rfl, (show 0 < 1 + ln - 1 - st by omega), _, _, rfl, rfl, ?_⟩
        refine ⟨szn (n := 3) (by decide), fun t nt => ⟨szn (n := 1) (by decide), fun l2 nl2 => ?_⟩⟩
        have e3 := e2.trans (ex_up (o := .tup [.str th, .int st, .int (st + 1 + x7 * x5 % (1 + ln - 1 - st))]) nt)
        have e4 := e3.trans (ex_up (o := .lst [V.ref t]) nl2)
        refine ⟨_, rfl, _, rfl, _, rfl, _, rfl, _, rfl, _, rfl, szn (n := 6) (by decide), fun q nq => ?_⟩
        have g3 := ((((Gr.refl eB).heap e2).new (o := .tup [.str th, .int st, .int (st + 1 + x7 * x5 % (1 + ln - 1 - st))]) nt).new (o := .lst [V.ref t]) nl2).new (o := .lst [.str nm, .int gap, .int (1 + ln), .int (gap - du), .int la, .ref l2]) nq
        have m1 := ex_none (((Gr.refl eB).heap e2).new (o := .tup [.str th, .int st, .int (st + 1 + x7 * x5 % (1 + ln - 1 - st))]) nt).e nl2
        have m2 := ex_none ((((Gr.refl eB).heap e2).new (o := .tup [.str th, .int st, .int (st + 1 + x7 * x5 % (1 + ln - 1 - st))]) nt).new (o := .lst [V.ref t]) nl2).e nq
        refine k q ⟨nm, gap, 1 + ln, gap - du, la, [(th, st, st + 1 + x7 * x5 % (1 + ln - 1 - st))]⟩ _ _ g3 ⟨q, l2, [.ref t], rfl, upd_same, ex_up m2 _ _ upd_same, .cons ⟨t, rfl, ex_up m2 _ _ (ex_up m1 _ _ upd_same)⟩ .nil⟩ (rok _ (Nat.le_refl 1) fun h hh => ?_) rfl
        rw [List.mem_singleton.mp hh]
        exact ⟨thO, s0, by show st < st + 1 + x7 * x5 % (1 + ln - 1 - st); omega, by show st + 1 + x7 * x5 % (1 + ln - 1 - st) < 1 + ln; omega⟩
      · exact ⟨_, rfl, _, _, rfl, rfl, _, rfl, itF (decide_eq_false c2) y⟩
    refine ⟨_, rfl, _, rfl, _, rfl, _, rfl, _, rfl, _, rfl, szn (n := 6) (by decide), fun q nq => ?_⟩
    have g3 := (((Gr.refl eB).heap e1).new (o := .lst []) nl).new (o := .lst [.str nm, .int gap, .int (1 + ln), .int (gap - du), .int la, .ref l]) nq
    have m2 := ex_none (((Gr.refl eB).heap e1).new (o := .lst []) nl).e nq
    exact k q ⟨nm, gap, 1 + ln, gap - du, la, []⟩ _ _ g3 ⟨q, l, [], rfl, upd_same, ex_up m2 _ _ upd_same, .nil⟩ (rok _ (Nat.zero_le 1) fun h hh => by cases hh) rfl
end
end Dty
set_option Elab.async false
set_option linter.all false
set_option maxRecDepth 100000
set_option maxHeartbeats 4000000
namespace Dty
open PySem PySem.Spec PyProof.Rows L2 Dq TL NdefX LamX
theorem Good.sub {ws ws' : List Wk} (G : Good ws) (h : ws'.Sublist ws) : Good ws' := by
  obtain ⟨u, u0, u1, a⟩ := G.ok
  exact ⟨⟨u, u0, u1, fun w hw => a w (h.subset hw)⟩, G.nd.sublist (h.map _), Nat.le_trans h.length_le G.few⟩
theorem without_sub {α : Type} (l : List α) (i : Nat) : (l.take i ++ l.drop (i + 1)).Sublist l := by
  rw [← List.eraseIdx_eq_take_drop_succ]
  exact List.eraseIdx_sublist _ _
theorem without_perm {α : Type} {l : List α} {i : Nat} {x : α} (h : l[i]? = some x) : (l.take i ++ l.drop (i + 1) ++ [x]).Perm l := by
  obtain ⟨li, ex⟩ := List.getElem?_eq_some_iff.mp h
  have e : l = l.take i ++ x :: l.drop (i + 1) := by
    rw [← ex, ← List.drop_eq_getElem_cons li, List.take_append_drop]
  rw [List.append_assoc]
  conv => rhs; rw [e]
  exact List.Perm.append_left _ (List.perm_append_singleton _ _)
theorem turn_perm {α : Type} (l : List α) (i : Nat) : (l.drop i ++ l.take i).reverse.Perm l := by
  refine (List.reverse_perm _).trans ?_
  refine List.perm_append_comm.trans ?_
  rw [List.take_append_drop]
theorem paired_rev {α β : Type} {R : α → β → Prop} : ∀ {xs : List α} {ys : List β}, Paired R xs ys → Paired R xs.reverse ys.reverse
  | _, _, .nil => .nil
  | _, _, .cons r t => by
    rw [List.reverse_cons, List.reverse_cons]
    exact paired_app (paired_rev t) (.cons r .nil)
theorem Gx.tab {K : PySem.W.Frag} {p dx : Addr} {d : V} {B H B' H' : Hp} (g : Gx p B H B' H') (hp : H p = some (dkO K dx d)) (t : TabsN (tPick K) H) {o : HO} (hp' : H' p = some o) : TabsN (tPick K) H' := by
  have z := tab_write (o' := o) t hp (fun _ z => nomatch z) (fun _ _ z => nomatch z)
  refine z.ext fun q w hq => ?_
  by_cases c : q = p
  · subst c
    rw [upd_same] at hq
    cases hq
    exact hp'
  · rw [upd_ne c] at hq
    exact g.ex q w c hq
theorem Gx.heap {p : Addr} {B H B1 H1 H2 : Hp} (g : Gx p B H B1 H1) (e : Ex H1 H2) : Gx p B H B1 H2 := ⟨fun q o n h => e _ _ (g.ex q o n h), g.eB, g.e.trans e, g.hid, g.nt⟩
theorem Gx.pre {p : Addr} {B H H1 B2 H2 : Hp} (e : Ex H H1) (g : Gx p B H1 B2 H2) : Gx p B H B2 H2 := ⟨fun q o n h => g.ex q o n (e _ _ h), g.eB, g.e, fun q b h => g.hid q b (fun z => by cases w : H q with | none => exact h w | some o => rw [e _ _ w] at z; cases z), g.nt⟩
theorem Gx.trans {p : Addr} {B H B1 H1 B2 H2 : Hp} (g : Gx p B H B1 H1) (hp : H1 p ≠ none) (k : Gx p B1 H1 B2 H2) : Gx p B H B2 H2 :=
  ⟨fun q o n h => k.ex q o n (g.ex q o n h), g.eB.trans k.eB, k.e, fun q b h => k.hid q (g.hid q b h) (by
    by_cases c : q = p
    · rw [c]
      exact hp
    · cases w : H q with
      | none => exact absurd w h
      | some o =>
        rw [g.ex q o c w]
        exact fun z => nomatch z), fun q ps h => g.nt q ps (k.nt q ps h)⟩
theorem Gx.freeze {p a : Addr} {B H B1 H1 : Hp} {xs : List V} (g : Gx p B H B1 H1) (na : H a = none) (h1 : H1 a = some (.lst xs)) (b : B1 a = none) : Gx p B H (upd B1 a (.lst xs)) H1 := by
  refine ⟨g.ex, g.eB.trans (ex_up b), fun q w hq => ?_, fun q h1 h2 => ?_, fun q ps hz => ?_⟩
  · by_cases c : q = a
    · subst c
      rw [upd_same] at hq
      cases hq
      exact h1
    · rw [upd_ne c] at hq
      exact g.e _ _ hq
  · by_cases c : q = a
    · subst c
      exact absurd na h2
    · rw [upd_ne c]
      exact g.hid q h1 h2
  · by_cases c : q = a
    · subst c
      rw [upd_same] at hz
      cases hz
    · rw [upd_ne c] at hz
      exact g.nt q ps hz
section
variable {P : Program} {w : World} {K : PySem.W.Frag} {mg : Str → Option Value} {base : Heap}
def sp_l_turned (K : PySem.W.Frag) : Sp := fun vs H Q _ => ∃ (B : Hp) (p dx : Addr) (d sv : V) (ws : List Wk) (c : Int), vs = [.ref p, sv, .int c] ∧ Desk K B H p dx d ws ∧ SomeV B sv ws ∧ Good ws ∧ ws ≠ [] ∧
  ∀ a d' B' H' ws', Gx p B H B' H' → Desk K B' H' p dx d' ws' → SomeV B' (.ref a) ws' → Good ws' → ws' ≠ [] → Q (.ref a) H'
theorem ok_l_turned (T : Says K mg) (TB : LamX.TabB base mg (cPick K).1 (cPick K).2) : FnOk P w K mg base CX0 9 (He.fAd K d_l_turned.at_) (fdOf K d_l_turned.at_) ["_law_desk", "_law_some", "_law_cell"] (sp_l_turned K) := by
  refine (F_l_turned T).ok sc_l_turned (fun vs H Q E h => ?_) (fun cdv A outer s H vs Q E hr h => ?_)
  · obtain ⟨_, _, _, _, _, _, _, rfl, _⟩ := h
    rfl
  · refine ⟨_, PSs.nox (pss_cons (ps_set (i := 3) sc_l_turned.nd rfl (Or.inl rfl) (pe_op op_mod (pe_op op_fdiv (pv 2) pe_int) (pe_callB call_len_seq (by rfl) (f_len T) (by decide +kernel) (pa_cons (pv 1) pa_nil)))) (pss_cons (ps_if (pt_cmpR op_eq (pe_op op_mod (pv 2) pe_int) pe_int (nomark _)) (pss_cons (ps_set (i := 4) sc_l_turned.nd rfl (Or.inl rfl) (pe_revL (pe_op op_cat (pe_slice sl_list (pv 1) (po_some (pv 3)) po_none) (pe_slice sl_list (pv 1) po_none (po_some (pv 3)))))) (pss_cons (ps_if (pt_cmpR op_ne (pe_meth (pv 0) (c_Desk T) (m_Desk_say T) (ok_Desk_say_rank T TB) (hr.mono (by decide)) (b_Desk_say T) .nil pass0 (pa_cons (pe_join pe_str (pe_op op_cat (pe_lst (pa_cons pe_str pa_nil)) (pe_lc (own := [("_law_one", 5)]) rfl sc_l_turned.nd (pi_list (pv 4)) (blkOk_by (N := N_l_turned) (sc := defScope s_l_turned) (by decide +kernel)) (fun _ _ _ _ _ => (pg_name (i := 5) sc_l_turned.nd rfl (Or.inl rfl))) (fun _ _ _ _ _ => pts_nil) (fun _ _ _ _ _ => (pe_ix (show IxR _ (rIxL K) from ix_list) (pv 5) pe_int (fun _ _ => rfl)))))) pa_nil)) pe_str (nomark _)) (pss_one (ps_ret pe_non)) pss_nil) (pss_one (ps_ret (pv 4))))) pss_nil) (pss_cons (ps_if (PW.pt (pw_or (pt_cmpR op_ne (pe_meth (pv 0) (c_Desk T) (m_Desk_say T) (ok_Desk_say_drop T TB) (hr.mono (by decide)) (b_Desk_say T) .nil pass0 (pa_cons (pe_op op_add_str pe_str (pe_ix ix_list (pe_ix ix_list (pv 1) (pv 3) (fun _ _ => rfl)) pe_int (fun _ _ => rfl))) pa_nil)) pe_str (nomark _)) (pw_or1 (pt_cmpR op_ne (pe_meth (pv 0) (c_Desk T) (m_Desk_say T) (ok_Desk_say_work T TB) (hr.mono (by decide)) (b_Desk_say T) .nil pass0 (pa_cons (pe_op op_add_str pe_str (pe_call (ok_l_text T) (hr.mono (by decide)) rfl (g__law_text T) (F_l_text T).kp (b_l_text T) .nil pass0 (pa_cons (pe_ix ix_list (pv 1) (pv 3) (fun _ _ => rfl)) pa_nil))) pa_nil)) pe_str (nomark _))))) (pss_one (ps_ret pe_non)) pss_nil) (pss_one (ps_ret (pe_op op_cat (pe_op op_cat (pe_slice sl_list (pv 1) po_none (po_some (pv 3))) (pe_slice sl_list (pv 1) (po_some (pe_op op_add (pv 3) pe_int)) po_none)) (pe_lst (pa_cons (pe_ix ix_list (pv 1) (pv 3) (fun _ _ => rfl)) pa_nil)))))))), ?_⟩
    obtain ⟨B, p, dx, d, _, ws, c, rfl, ⟨eB, bp, hp, D⟩, ⟨sl, ps, rfl, hsl, pr⟩, G, ne, k⟩ := h
    have few := G.few
    have lps := paired_len pr
    have l0 : 0 < ws.length := List.length_pos_iff.mpr ne
    have a0 := Int.emod_nonneg (c / 3) (show (ps.length : Int) ≠ 0 by omega)
    have a1 := Int.emod_lt_of_pos (c / 3) (show (0 : Int) < (ps.length : Int) by omega)
    refine ⟨_, rfl, _, _, rfl, rfl, ⟨by decide, by decide⟩, _, rfl, sl, _, rfl, .inl (SqL.of (eB _ _ hsl)), _, _, rfl, rfl, (show (0 : Int) < (ps.length : Int) by omega), ?_⟩
    show gName 3 (V.int (c / 3 % (ps.length : Int))) _ _ _
    generalize c / 3 % (ps.length : Int) = ai at a0 a1 ⊢
    obtain ⟨i, rfl⟩ : ∃ i : Nat, ai = (i : Nat) := ⟨ai.toNat, by omega⟩
    have li : i < ws.length := by omega
    refine ⟨_, rfl, _, _, rfl, rfl, (show (0 : Int) < 3 by decide), rfl, _, rfl, ?_⟩
    by_cases c1 : V.int (c % 3) = V.int 1
    · refine itT (decide_eq_true c1) ?_
      refine ⟨_, rfl, _, rfl, _, rfl, sl, _, rfl, SqL.of (eB _ _ hsl), fun p1 n1 => ?_⟩
      have k1 := ex_up (o := .lst (cutV ps (some (i : Int)) none)) n1
      refine ⟨_, rfl, _, rfl, _, rfl, sl, _, rfl, SqL.of (k1 _ _ (eB _ _ hsl)), fun p2 n2 => ?_⟩
      have k2 := k1.trans (ex_up (o := .lst (cutV ps none (some (i : Int)))) n2)
      refine ⟨p1, p2, _, _, rfl, rfl, ex_up n2 _ _ upd_same, upd_same, Evl.sz_of (by have := cutV_length ps (some (i : Int)) none; have := cutV_length ps none (some (i : Int)); omega), fun p3 n3 => ?_⟩
      have k3 := k2.trans (ex_up (o := .lst (cutV ps (some (i : Int)) none ++ cutV ps none (some (i : Int)))) n3)
      refine ⟨p3, _, rfl, SqL.of upd_same, fun p4 n4 => ?_⟩
      have k4 := k3.trans (ex_up (o := .lst (cutV ps (some (i : Int)) none ++ cutV ps none (some (i : Int))).reverse) n4)
      have n40 : H p4 = none := Evl.fresh_back k3 n4
      have h4 : upd (upd (upd (upd H p1 (.lst (cutV ps (some (i : Int)) none))) p2 (.lst (cutV ps none (some (i : Int))))) p3 (.lst (cutV ps (some (i : Int)) none ++ cutV ps none (some (i : Int))))) p4 (.lst (cutV ps (some (i : Int)) none ++ cutV ps none (some (i : Int))).reverse) p4 = some (.lst (ps.drop i ++ ps.take i).reverse) := by
        rw [upd_same, cut_from, cut_upto]
      generalize upd (upd (upd (upd H p1 (.lst (cutV ps (some (i : Int)) none))) p2 (.lst (cutV ps none (some (i : Int))))) p3 (.lst (cutV ps (some (i : Int)) none ++ cutV ps none (some (i : Int))))) p4 (.lst (cutV ps (some (i : Int)) none ++ cutV ps none (some (i : Int))).reverse) = H4 at k4 h4 ⊢
      have pr4 : Paired (PtV B) (ps.drop i ++ ps.take i).reverse (ws.drop i ++ ws.take i).reverse := paired_rev (paired_app (paired_drop i pr) (paired_take i pr))
      have pm := turn_perm ws i
      generalize (ps.drop i ++ ps.take i).reverse = ps' at h4 pr4
      generalize (ws.drop i ++ ws.take i).reverse = ws' at pr4 pm
      have G' := G.perm pm
      have few' := G'.few
      have ne' : ws' ≠ [] := fun z => by
        have := pm.length_eq
        rw [z] at this
        have : 0 = ws.length := this
        omega
      have lp' := paired_len pr4
      refine ⟨_, rfl, p, dx, _, rfl, k4 _ _ hp, (by rfl), ⟨_, rfl⟩, szn (n := 1) (by decide), fun q nq => ?_⟩
      refine ⟨_, rfl, p4, rfl, ⟨ps', SqL.of (ex_up nq _ _ h4)⟩, fun F nF => ?_⟩
      have nqF : q ≠ F := ne_of_none upd_same nF
      have nF0 : H4 F = none := Evl.fresh_back (ex_up nq) nF
      refine lc_list (K := K) (a := p4) (xs := ps') (fun j H' => Ex H4 H' ∧ H' q = some (.lst [.str "rank"]) ∧ H' F = some (.lst (((ws'.take j).map (·.name)).map V.str))) ⟨(ex_up nq).trans (ex_up nF), (upd_ne nqF).trans upd_same, upd_same⟩ (fun j H' _ z => SqL.of (z.1 _ _ h4)) ?_ ?_
      · rintro j x H2 hj ⟨e2, hq2, hF⟩
        have lj := (List.getElem?_eq_some_iff.mp hj).1
        obtain ⟨u, hu⟩ : ∃ u, ws'[j]? = some u := ⟨_, List.getElem?_eq_getElem (by omega)⟩
        obtain ⟨x', hx', hpt⟩ := paired_at pr4 hu
        rw [hj] at hx'
        cases hx'
        obtain ⟨a, l, rfl, ha⟩ := pt_fields hpt
        refine ⟨rfl, _, rfl, _, _, _, _, rfl, rfl, SqL.of (e2 _ _ (k4 _ _ (eB _ _ ha))), rfl, _, hF, ?_, e2.mut nF0, (upd_ne nqF).trans hq2, ?_⟩
        · rw [List.length_map, List.length_map, List.length_take]
          exact Evl.sz_lt (by omega)
        · rw [upd_same, take_snoc hu, List.map_append, List.map_append]
          rfl
      rintro H2 ⟨e2, hq2, hF⟩
      rw [lp', List.take_of_length_le (Nat.le_refl _)] at hF
      refine ⟨q, F, _, _, rfl, rfl, hq2, hF, ?_, fun t nt => ?_⟩
      · rw [List.length_map, List.length_map]
        exact Evl.sz_of (by show 1 + _ ≤ _; omega)
      refine ⟨_, t, "rank" :: ws'.map (·.name), rfl, rfl, .inl (SqL.of upd_same), ?_, ?_⟩
      · refine join_room (by decide +kernel) (by rw [List.length_cons, List.length_map]; omega) fun x hx => ?_
        rcases List.mem_cons.mp hx with rfl | hx
        · decide +kernel
        · obtain ⟨r, hr, rfl⟩ := List.mem_map.mp hx
          have := (G'.wb hr).nm.2.1
          omega
      have e5 := k4.trans (e2.trans (ex_up (o := .lst (([V.str "rank"] : List V) ++ (ws'.map (·.name)).map V.str)) nt))
      refine ⟨B, p, dx, d, ws, ws', rfl, ⟨eB.trans e5, bp, e5 _ _ hp, D⟩, G, pm, ne', fun d' B' H' gx dk => ?_⟩
      have q4 := gx.ex p4 _ (fun z => by rw [z] at n40; rw [n40] at hp; cases hp) (e2.trans (ex_up nt) _ _ h4)
      have b4 : B' p4 = none := gx.hid p4 (by cases w : B p4 with | none => rfl | some o => rw [eB _ _ w] at n40; cases n40) (by rw [e2.trans (ex_up nt) _ _ h4]; exact fun z => nomatch z)
      have gx0 := Gx.pre e5 gx
      have gx1 := gx0.freeze n40 q4 b4
      have np4 : p ≠ p4 := fun z => by rw [← z] at n40; rw [n40] at hp; cases hp
      obtain ⟨dk0, dk1, dk2, dk3⟩ := dk
      refine ⟨rfl, _, rfl, itF (by decide +kernel) ?_⟩
      exact ⟨_, rfl, k p4 d' _ H' ws' gx1 ⟨gx1.e, (upd_ne np4).trans dk1, dk2, dk3.mono (ex_up b4)⟩ ⟨p4, ps', rfl, upd_same, L2.Paired.mapP pr4 fun _ _ z => z.mono gx1.eB⟩ G' ne'⟩
    · refine itF (decide_eq_false c1) ?_
      obtain ⟨u, hu⟩ : ∃ u, ws[i]? = some u := ⟨_, List.getElem?_eq_getElem li⟩
      obtain ⟨pv, hpv, hpt⟩ := paired_at pr hu
      obtain ⟨a, l, rfl, ha⟩ := pt_fields hpt
      have bu := G.at hu
      have nm := bu.nm.2.1
      have wl := work_len bu
      have noD : ([("duty", d)] : List (Str × V)).lookup ("say" : Str) = none := by rfl
      have e5 : ("drop " : Str).length = 5 := by decide +kernel
      have e6 : ("work " : Str).length = 5 := by decide +kernel
      refine ⟨_, rfl, p, dx, _, rfl, hp, noD, _, rfl, _, rfl, _, _, _, _, rfl, rfl, SqL.of (eB _ _ hsl), atI_nat hpv, _, _, _, _, rfl, rfl, SqL.of (eB _ _ ha), rfl, _, _, rfl, rfl, Evl.sz_of (by omega), ?_⟩
      have Gs := G.sub (without_sub ws i)
      have Gp := G.perm (without_perm hu)
      refine ⟨B, p, dx, d, ws, i, u, rfl, ⟨eB, bp, hp, D⟩, G, hu, Gs, fun d1 B1 H1 g1 dk => ?_⟩
      obtain ⟨x0, x1, x2, x3⟩ := dk
      refine ⟨rfl, _, rfl, itF (by decide +kernel) ?_⟩
      refine ⟨_, rfl, p, dx, _, rfl, x2, (by rfl), _, rfl, _, rfl, _, _, _, _, rfl, rfl, SqL.of (x0 _ _ (g1.eB _ _ hsl)), atI_nat hpv, ?_⟩
      refine ⟨_, u, rfl, (hpt.mono g1.eB).mono x0, bu, fun H2 e2 => ?_⟩
      refine ⟨_, _, rfl, rfl, Evl.sz_of (by omega), ?_⟩
      refine ⟨B1, p, dx, d1, _, u, rfl, ⟨x0.trans e2, x1, e2 _ _ x2, x3⟩, Gs.few, Gp, fun d2 B2 H3 g2 dk => ?_⟩
      obtain ⟨y0, y1, y2, y3⟩ := dk
      refine ⟨rfl, _, rfl, itF (by decide +kernel) ?_⟩
      have gg := g1.trans (by rw [x2]; exact fun z => nomatch z) (Gx.pre e2 g2)
      have hs3 := y0 _ _ (gg.eB _ _ hsl)
      refine ⟨_, rfl, _, rfl, _, rfl, sl, _, rfl, SqL.of hs3, fun p1 n1 => ?_⟩
      have k1 := ex_up (o := .lst (cutV ps none (some (i : Int)))) n1
      refine ⟨_, rfl, _, rfl, _, _, rfl, rfl, _, rfl, sl, _, rfl, SqL.of (k1 _ _ hs3), fun p2 n2 => ?_⟩
      have k2 := k1.trans (ex_up (o := .lst (cutV ps (some ((i : Int) + 1)) none)) n2)
      refine ⟨p1, p2, _, _, rfl, rfl, ex_up n2 _ _ upd_same, upd_same, Evl.sz_of (by have := cutV_length ps (some ((i : Int) + 1)) none; have := cutV_length ps none (some (i : Int)); omega), fun p3 n3 => ?_⟩
      have k3 := k2.trans (ex_up (o := .lst (cutV ps none (some (i : Int)) ++ cutV ps (some ((i : Int) + 1)) none)) n3)
      refine ⟨_, rfl, _, rfl, _, _, _, _, rfl, rfl, SqL.of (k3 _ _ hs3), atI_nat hpv, szn (n := 1) (by decide), fun p5 n5 => ?_⟩
      have k5 := k3.trans (ex_up (o := .lst [V.ref a]) n5)
      refine ⟨p3, p5, _, _, rfl, rfl, ex_up n5 _ _ upd_same, upd_same, Evl.sz_of (by have := cutV_length ps (some ((i : Int) + 1)) none; have := cutV_length ps none (some (i : Int)); rw [List.length_append]; show _ + 1 ≤ _; omega), fun p6 n6 => ?_⟩
      have k6 := k5.trans (ex_up (o := .lst ((cutV ps none (some (i : Int)) ++ cutV ps (some ((i : Int) + 1)) none) ++ [V.ref a])) n6)
      have n60 : H3 p6 = none := Evl.fresh_back k5 n6
      have eu : cutV ps none (some (i : Int)) ++ cutV ps (some ((i : Int) + 1)) none ++ [V.ref a] = ps.take i ++ ps.drop (i + 1) ++ [V.ref a] := by
        rw [cut_upto, show ((i : Int) + 1) = ((i + 1 : Nat) : Int) by omega, cut_from]
      have h6 : upd (upd (upd (upd (upd H3 p1 (.lst (cutV ps none (some (i : Int))))) p2 (.lst (cutV ps (some ((i : Int) + 1)) none))) p3 (.lst (cutV ps none (some (i : Int)) ++ cutV ps (some ((i : Int) + 1)) none))) p5 (.lst [V.ref a])) p6 (.lst ((cutV ps none (some (i : Int)) ++ cutV ps (some ((i : Int) + 1)) none) ++ [V.ref a])) p6 = some (.lst (ps.take i ++ ps.drop (i + 1) ++ [V.ref a])) := by
        rw [upd_same, eu]
      have npp : p ≠ p6 := fun z => by rw [← z] at n60; rw [n60] at y2; cases y2
      have nH : H p6 = none := by
        cases w : H p6 with
        | none => rfl
        | some o =>
          have := gg.ex p6 o (fun z => npp z.symm) w
          rw [n60] at this
          cases this
      have b6 : B2 p6 = none := by
        cases w : B2 p6 with
        | none => rfl
        | some o =>
          rw [y0 _ _ w] at n60
          cases n60
      have gz := (gg.heap k6).freeze nH h6 b6
      have prn : Paired (PtV B) (ps.take i ++ ps.drop (i + 1) ++ [V.ref a]) (ws.take i ++ ws.drop (i + 1) ++ [u]) := paired_app (paired_app (paired_take i pr) (paired_drop (i + 1) pr)) (.cons hpt .nil)
      exact k p6 d2 _ _ (ws.take i ++ ws.drop (i + 1) ++ [u]) gz ⟨gz.e, (upd_ne npp).trans y1, k6 _ _ y2, y3.mono (ex_up b6)⟩ ⟨p6, _, rfl, upd_same, L2.Paired.mapP prn fun _ _ z => z.mono gz.eB⟩ Gp (by simp)
end
end Dty
set_option Elab.async false
set_option linter.all false
set_option maxRecDepth 100000
set_option maxHeartbeats 4000000
namespace Dty
open PySem PySem.Spec PyProof.Rows L2 Dq TL NdefX LamX
theorem sqL_ext {K : PySem.W.Frag} {H H' : Hp} {a : Addr} {xs : List V} (e : Ex H H') (h : SqL K H a xs) : SqL K H' a xs :=
  h.imp (fun h => h.imp (e _ _) fun ⟨o, h⟩ => ⟨o, e _ _ h⟩) id
section
variable {P : Program} {w : World} {K : PySem.W.Frag} {mg : Str → Option Value} {base : Heap}
def sp_law (K : PySem.W.Frag) : Sp := fun vs H Q _ => ∃ (B : Hp) (a : Addr) (ns : List Int), vs = [.ref a] ∧ Ex B H ∧ NT B ∧ TabsN (tPick K) H ∧ SqL K B a (ns.map V.int) ∧ ∀ H', Q (.bl true) H'
theorem ok_law (T : Says K mg) (TB : LamX.TabB base mg (cPick K).1 (cPick K).2) : FnOk P w K mg base CX0 14 (He.fAd K d_law.at_) (fdOf K d_law.at_) ["_law_script"] (sp_law K) := by
  refine (F_law T).ok sc_law (fun vs H Q E h => ?_) (fun cdv A outer s H vs Q E hr h => ?_)
  · obtain ⟨_, _, _, rfl, _⟩ := h
    rfl
  · refine ⟨_, PSs.nox (pss_cons (ps_set (i := 1) sc_law.nd rfl (Or.inl rfl) (pe_op op_add pe_int (pe_op op_mod (pe_call (ok_l_cell_at T) (hr.mono (by decide)) rfl (g__law_cell_at T) (F_l_cell_at T).kp (b_l_cell_at T) .nil pass0 (pa_cons (pv 0) (pa_cons pe_int pa_nil))) (pe_op op_pow pe_int pe_int)))) (pss_cons (ps_if (pt_cmpR op_eq (pe_op op_mod (pe_call (ok_l_cell_at T) (hr.mono (by decide)) rfl (g__law_cell_at T) (F_l_cell_at T).kp (b_l_cell_at T) .nil pass0 (pa_cons (pv 0) (pa_cons pe_int pa_nil))) pe_int) pe_int (nomark _)) (pss_one (ps_set (i := 1) sc_law.nd rfl (Or.inl rfl) (pe_op op_add pe_int (pe_op op_mod (pe_call (ok_l_cell_at T) (hr.mono (by decide)) rfl (g__law_cell_at T) (F_l_cell_at T).kp (b_l_cell_at T) .nil pass0 (pa_cons (pv 0) (pa_cons pe_int pa_nil))) pe_int)))) pss_nil) (pss_cons (ps_set (i := 2) sc_law.nd rfl (Or.inl rfl) (pe_op op_add pe_int (pe_op op_mod (pe_op op_fdiv (pe_call (ok_l_cell_at T) (hr.mono (by decide)) rfl (g__law_cell_at T) (F_l_cell_at T).kp (b_l_cell_at T) .nil pass0 (pa_cons (pv 0) (pa_cons pe_int pa_nil))) pe_int) pe_int))) (pss_cons (ps_set (i := 3) sc_law.nd rfl (Or.inl rfl) (pe_call (ok_l_names T) (hr.mono (by decide)) rfl (g__law_names T) (F_l_names T).kp (b_l_names T) .nil pass0 (pa_cons (pe_call (ok_l_cell_at T) (hr.mono (by decide)) rfl (g__law_cell_at T) (F_l_cell_at T).kp (b_l_cell_at T) .nil pass0 (pa_cons (pv 0) (pa_cons pe_int pa_nil))) (pa_cons (pe_op op_add (pv 2) pe_int) pa_nil)))) (pss_cons (ps_set (i := 4) sc_law.nd rfl (Or.inl rfl) (pe_make0 (k_Desk T) (ok_Desk_init T) (hr.mono (by decide)) rfl (g_Desk T) (b_Desk_init T) .nil pass0)) (pss_cons (ps_set (i := 5) sc_law.nd rfl (Or.inl rfl) (pe_lst pa_nil)) (pss_cons (ps_for PassesOwn.never rfl (pi_range1 (by rfl) (f_range T) (pa_cons (pv 2) pa_nil)) (pg_name (i := 6) sc_law.nd rfl (Or.inl rfl)) (pss_cons (ps_expr (pe_bm PySem.F.plainAttrs_list PySem.F.slot_list_append PySem.F.type_list_append mt_append (pv 5) (pa_cons (pe_call (ok_l_parts T) (hr.mono (by decide)) rfl (g__law_parts T) (F_l_parts T).kp (b_l_parts T) .nil pass0 (pa_cons (pe_op op_add (pe_call (ok_l_cell_at T) (hr.mono (by decide)) rfl (g__law_cell_at T) (F_l_cell_at T).kp (b_l_cell_at T) .nil pass0 (pa_cons (pv 0) (pa_cons (pe_op op_add pe_int (pv 6)) pa_nil))) (pv 6)) (pa_cons (pv 1) (pa_cons (pv 2) (pa_cons (pe_ix ix_list (pv 3) (pv 6) (fun _ _ => rfl)) (pa_cons (pe_ix ix_list (pv 3) (pe_op op_add (pv 2) (pe_op op_mod (pv 6) pe_int)) (fun _ _ => rfl)) pa_nil)))))) pa_nil))) (pss_one (ps_if (pt_cmpR op_ne (pe_meth (pv 4) (c_Desk T) (m_Desk_say T) (ok_Desk_say_work T TB) (hr.mono (by decide)) (b_Desk_say T) .nil pass0 (pa_cons (pe_op op_add_str pe_str (pe_call (ok_l_text T) (hr.mono (by decide)) rfl (g__law_text T) (F_l_text T).kp (b_l_text T) .nil pass0 (pa_cons (pe_ix ix_list (pv 5) (pv 6) (fun _ _ => rfl)) pa_nil))) pa_nil)) pe_str (nomark _)) (pss_one (ps_ret pe_bl)) pss_nil)))) (pss_cons (ps_if (pt_not (pt_val (pe_call (ok_l_come_to T TB) (hr.mono (by decide)) rfl (g__law_come_to T) (F_l_come_to T).kp (b_l_come_to T) .nil pass0 (pa_cons (pv 4) (pa_cons (pv 5) pa_nil))))) (pss_one (ps_ret pe_bl)) pss_nil) (pss_cons (ps_set (i := 7) sc_law.nd rfl (Or.inl rfl) (pe_call (ok_l_cell_at T) (hr.mono (by decide)) rfl (g__law_cell_at T) (F_l_cell_at T).kp (b_l_cell_at T) .nil pass0 (pa_cons (pv 0) (pa_cons pe_int pa_nil)))) (pss_cons (ps_if (pt_cmpR op_eq (pe_op op_mod (pv 7) pe_int) pe_int (nomark _)) (pss_one (ps_ret pe_bl)) pss_nil) (pss_cons (ps_set (i := 5) sc_law.nd rfl (Or.inl rfl) (pe_call (ok_l_turned T TB) (hr.mono (by decide)) rfl (g__law_turned T) (F_l_turned T).kp (b_l_turned T) .nil pass0 (pa_cons (pv 4) (pa_cons (pv 5) (pa_cons (pv 7) pa_nil))))) (pss_one (ps_ret (pe_and (pe_cmpR op_notN (pv 5) pe_non (nomark _)) (pe_one (pe_call (ok_l_come_to T TB) (hr.mono (by decide)) rfl (g__law_come_to T) (F_l_come_to T).kp (b_l_come_to T) .nil pass0 (pa_cons (pv 4) (pa_cons (pv 5) pa_nil)))))))))))))))))), ?_⟩
    obtain ⟨B, a, ns, rfl, eB, nB, hT, hS, k⟩ := h
    have at_ : ∀ {H' : Hp}, Ex H H' → SqL K H' a (ns.map V.int) := fun e => sqL_ext (eB.trans e) hS
    have u0 := Int.emod_nonneg (ns.getD 1 0) (show (1000000000000000 : Int) ≠ 0 by decide)
    have u1 := Int.emod_lt_of_pos (ns.getD 1 0) (show (0 : Int) < 1000000000000000 by decide)
    have v0 := Int.emod_nonneg (ns.getD 1 0) (show (9 : Int) ≠ 0 by decide)
    have v1 := Int.emod_lt_of_pos (ns.getD 1 0) (show (0 : Int) < 9 by decide)
    refine ⟨_, rfl, a, ns, 1, rfl, at_ (Evl.Ex.refl _), _, _, rfl, rfl, ⟨by decide, by decide, by decide⟩, _, _, rfl, rfl, (show (0 : Int) < 10 ^ (15 : Int).toNat by decide), _, _, rfl, rfl, ?_⟩
    show gName 1 (V.int (1 + ns.getD 1 0 % 1000000000000000)) _ _ _
    refine ⟨_, rfl, a, ns, 2, rfl, at_ (Evl.Ex.refl _), _, _, rfl, rfl, (show (0 : Int) < 3 by decide), rfl, _, rfl, ?_⟩
    have b0 : 1 ≤ 1 + ns.getD 1 0 % 1000000000000000 := by omega
    have b1 : 1 + ns.getD 1 0 % 1000000000000000 ≤ 1000000000000000 := by omega
    generalize 1 + ns.getD 1 0 % 1000000000000000 = un at b0 b1 ⊢
    by_cases c1 : V.int (ns.getD 2 0 % 3) = V.int 1
    · refine itT (decide_eq_true c1) ?_
      refine ⟨_, rfl, a, ns, 1, rfl, at_ (Evl.Ex.refl _), _, _, rfl, rfl, (show (0 : Int) < 9 by decide), _, _, rfl, rfl, ?_⟩
      show gName 1 (V.int (1 + ns.getD 1 0 % 9)) _ _ _
      clear b0 b1
      have b0 : 1 ≤ 1 + ns.getD 1 0 % 9 := by omega
      have b1 : 1 + ns.getD 1 0 % 9 ≤ 1000000000000000 := by omega
      generalize 1 + ns.getD 1 0 % 9 = un at b0 b1 ⊢
      refine ⟨_, rfl, a, ns, 2, rfl, at_ (Evl.Ex.refl _), _, _, rfl, rfl, ⟨by decide, by decide⟩, _, _, rfl, rfl, (show (0 : Int) < 4 by decide), _, _, rfl, rfl, ?_⟩
      show gName 2 (V.int (1 + ns.getD 2 0 / 3 % 4)) _ _ _
      obtain ⟨m, hm⟩ : ∃ m : Nat, 1 + ns.getD 2 0 / 3 % 4 = (m : Nat) := ⟨(1 + ns.getD 2 0 / 3 % 4).toNat, by omega⟩
      have m0 : 1 ≤ m := by omega
      have m4 : m ≤ 4 := by omega
      rw [hm]
      refine ⟨_, rfl, a, ns, 0, rfl, at_ (Evl.Ex.refl _), _, rfl, _, _, rfl, rfl, ?_⟩
      refine ⟨_, m + 2, rfl, by omega, fun NL nl H1 nNL e1 hNL nok => ?_⟩
      have bNL : B NL = none := ex_none eB nNL
      have g1 := ((Gr.refl eB).heap e1).freeze nNL bNL hNL
      intro x dx nx ndx nxd
      have g2 := gr_make (o := .own x) (o' := .ins (He.ga K "Desk") dx []) (Gr.refl g1.e) nx ndx nxd
      refine ⟨_, _, x, dx, rfl, g2, nx, ex_none g1.e nx, upd_same, fun d B2 H2 g3 b2 hx2 D2 => ⟨rfl, ?_⟩⟩
      refine ⟨by decide, fun S nS => ?_⟩
      have g4 := g1.trans g3
      have nxS : x ≠ S := ne_of_none hx2 nS
      have bS : B2 S = none := ex_none g4.e nS
      have nB2 : NT B2 := fun q ps z => nB q ps (g4.nt q ps z)
      have hT2 : TabsN (tPick K) (upd H2 S (.lst [])) := (hT.ext g4.eH).ext (ex_up nS)
      have hNL2 : B2 NL = some (.lst (nl.map V.str)) := g3.eB _ _ upd_same
      have hS2 : SqL K B2 a (ns.map V.int) := sqL_ext g4.eB hS
      have mkG : ∀ ws : List Wk, (∀ w ∈ ws, Rok un w) → (∀ (i : Nat) (w : Wk), ws[i]? = some w → nl[i]? = some w.name) → ws.length ≤ 4 → Good ws := by
        intro ws rk3 nm3 lw
        refine ⟨⟨un, b0, b1, rk3⟩, ?_, lw⟩
        rw [List.nodup_iff_pairwise_ne, List.pairwise_iff_getElem]
        intro i j hi hj ij z
        rw [List.length_map] at hi hj
        rw [List.getElem_map, List.getElem_map] at z
        have z1 := nm3 i _ (List.getElem?_eq_getElem hi)
        have z2 := nm3 j _ (List.getElem?_eq_getElem hj)
        rw [z] at z1
        have q := nok.nd
        rw [List.nodup_iff_pairwise_ne, List.pairwise_iff_getElem] at q
        obtain ⟨l1, e1'⟩ := List.getElem?_eq_some_iff.mp z1
        obtain ⟨l2, e2'⟩ := List.getElem?_eq_some_iff.mp z2
        exact q i j l1 l2 ij (e1'.trans e2'.symm)
      have nlen := nok.len
      refine ⟨_, rfl, _, rfl, by omega, by omega, ?_⟩
      refine for_range (fun j σ H' => ∃ (y6 : Option V) (B' : Hp) (d' : V) (ws : List Wk) (ps : List V), σ = [some (.ref a), some (.int un), some (.int (m : Nat)), some (.ref NL), some (.ref x), some (.ref S), y6, none] ∧ Ex B2 B' ∧ Desk K B' H' x dx d' ws ∧ NT B' ∧ TabsN (tPick K) H' ∧ B' S = none ∧ H' S = some (.lst ps) ∧ Paired (PtV B') ps ws ∧ ws.length = j ∧ (∀ w ∈ ws, Rok un w) ∧ ∀ (i : Nat) (w : Wk), ws[i]? = some w → nl[i]? = some w.name) ⟨_, B2, d, [], [], rfl, Evl.Ex.refl _, ⟨g4.e.trans (ex_up nS), b2, (upd_ne nxS).trans hx2, D2⟩, nB2, hT2, bS, upd_same, .nil, rfl, fun w hw => (by cases hw), fun i w z => (by cases z)⟩ ?_ ?_
      · rintro j σ H3 hj ⟨y6, B3, d3, ws, ps, rfl, e3, ⟨x0, x1, x2, x3⟩, nB3, hT3, bS3, hS3, pr3, lw, rk3, nm3⟩
        have ej : (0 : Int) + (j : Int) = ((j : Nat) : Int) := by omega
        have lps := paired_len pr3
        have hNL3 : H3 NL = some (.lst (nl.map V.str)) := x0 _ _ (e3 _ _ hNL2)
        obtain ⟨nj, hnj⟩ : ∃ z, nl[j]? = some z := ⟨_, List.getElem?_eq_getElem (by omega)⟩
        obtain ⟨th, hth⟩ : ∃ z, nl[m + j % 2]? = some z := ⟨_, List.getElem?_eq_getElem (by omega)⟩
        have hnjV : (nl.map V.str)[j]? = some (.str nj) := by rw [List.getElem?_map, hnj]; rfl
        have hthV : (nl.map V.str)[m + j % 2]? = some (.str th) := by rw [List.getElem?_map, hth]; rfl
        have nmj := nok.nm nj (List.mem_of_getElem? hnj)
        have nmt := nok.nm th (List.mem_of_getElem? hth)
        have sq3 : SqL K H3 a (ns.map V.int) := sqL_ext x0 (sqL_ext e3 hS2)
        refine ⟨_, rfl, .inl ⟨rfl, _, SqL.of hS3⟩, ?_⟩
        refine ⟨_, rfl, _, rfl, _, _, rfl, rfl, a, ns, 4 + j, by rw [ej]; rfl, sq3, _, rfl, _, _, rfl, rfl, _, rfl, _, rfl, _, rfl, _, rfl, _, _, _, _, rfl, by rw [ej], SqL.of hNL3, atI_nat hnjV, ?_⟩
        refine ⟨_, rfl, _, rfl, _, rfl, _, _, rfl, rfl, (show (0 : Int) < 2 by decide), _, _, rfl, rfl, _, _, _, _, rfl, (show V.int ((m : Int) + (0 + (j : Int)) % 2) = V.int ((m + j % 2 : Nat) : Int) by rw [show ((m : Int) + (0 + (j : Int)) % 2) = ((m + j % 2 : Nat) : Int) by omega]), SqL.of hNL3, atI_nat hthV, ?_⟩
        refine ⟨B3, _, un, m, nj, th, rfl, x0, b0, b1, m0, m4, nmj, nmt, fun q wk B4 H4 g5 pt rok nme => ?_⟩
        have hS4 := g5.eH _ _ hS3
        have bS4 : B4 S = none := g5.out bS3 hS3
        have bx4 : B4 x = none := g5.out x1 x2
        refine ⟨S, _, _, rfl, rfl, hS4, Evl.sz_lt (by omega), ?_⟩
        have x4 : upd H4 S (.lst (ps ++ [V.ref q])) x = some (dkO K dx d3) := (upd_ne nxS).trans (g5.eH _ _ x2)
        have e5 : Ex B4 (upd H4 S (.lst (ps ++ [V.ref q]))) := g5.e.mut bS4
        have hT5 : TabsN (tPick K) (upd H4 S (.lst (ps ++ [V.ref q]))) := tab_write (hT3.ext g5.eH) hS4 (fun _ z => nomatch z) (fun _ _ z => nomatch z)
        have nB4 : NT B4 := fun q ps z => nB3 q ps (g5.nt q ps z)
        have pr4 : Paired (PtV B4) (ps ++ [V.ref q]) (ws ++ [wk]) := paired_app (L2.Paired.mapP pr3 fun _ _ z => z.mono g5.eB) (.cons pt .nil)
        have hlast : (ps ++ [V.ref q])[j]? = some (.ref q) := by rw [List.getElem?_append_right (by omega), show j - ps.length = 0 by omega]; rfl
        have rk4 : ∀ w ∈ ws ++ [wk], Rok un w := fun w hw => by
          rcases List.mem_append.mp hw with hw | hw
          · exact rk3 w hw
          · rw [List.mem_singleton.mp hw]
            exact rok
        have nm4 : ∀ (i : Nat) (w : Wk), (ws ++ [wk])[i]? = some w → nl[i]? = some w.name := fun i w hw => by
          rcases Nat.lt_or_ge i ws.length with z | z
          · rw [List.getElem?_append_left z] at hw
            exact nm3 i w hw
          · have ei : i = j := by
              have := (List.getElem?_eq_some_iff.mp hw).1
              rw [List.length_append, List.length_singleton] at this
              omega
            subst ei
            rw [List.getElem?_append_right z, show i - ws.length = 0 by omega] at hw
            cases hw
            rw [hnj, nme]
        have G4 := mkG (ws ++ [wk]) rk4 nm4 (by rw [List.length_append]; show ws.length + 1 ≤ 4; omega)
        have bw : Wb wk := G4.wb (by simp)
        have wl := work_len bw
        have e6 : ("work " : Str).length = 5 := by decide +kernel
        have hS5 : upd H4 S (.lst (ps ++ [V.ref q])) S = some (.lst (ps ++ [V.ref q])) := upd_same
        generalize upd H4 S (.lst (ps ++ [V.ref q])) = H5 at x4 e5 hT5 hS5 ⊢
        refine ⟨_, rfl, x, dx, _, rfl, x4, (by rfl), _, rfl, _, rfl, _, _, _, _, rfl, by rw [ej], SqL.of hS5, atI_nat hlast, ?_⟩
        refine ⟨_, wk, rfl, pt.mono e5, bw, fun H6 e6' => ?_⟩
        refine ⟨_, _, rfl, rfl, Evl.sz_of (by omega), ?_⟩
        refine ⟨B4, x, dx, d3, ws, wk, rfl, ⟨e5.trans e6', bx4, e6' _ _ x4, x3.mono g5.eB⟩, by omega, G4, fun d7 B7 H7 gx dk => ?_⟩
        refine ⟨rfl, _, rfl, itF (by decide +kernel) ?_⟩
        have nSx : S ≠ x := fun z => nxS z.symm
        refine ⟨_, B7, d7, ws ++ [wk], ps ++ [V.ref q], rfl, (e3.trans g5.eB).trans gx.eB, dk, fun q' ps' z => nB4 q' ps' (gx.nt q' ps' z), ?_, gx.hid S bS4 (by rw [e6' _ _ hS5]; exact fun z => nomatch z), gx.ex S _ nSx (e6' _ _ hS5), L2.Paired.mapP pr4 fun _ _ z => z.mono gx.eB, by rw [List.length_append, lw]; rfl, rk4, nm4⟩
        exact gx.tab (e6' _ _ x4) (hT5.ext e6') dk.2.2.1
      · rintro σ H3 ⟨y6, B3, d3, ws, ps, rfl, e3, ⟨x0, x1, x2, x3⟩, nB3, hT3, bS3, hS3, pr3, lw, rk3, nm3⟩
        have G := mkG ws rk3 nm3 (by omega)
        have B4S := ex_up (o := .lst ps) bS3
        have e4 : Ex (upd B3 S (.lst ps)) H3 := fun q w hq => by
          by_cases c : q = S
          · subst c
            rw [upd_same] at hq
            cases hq
            exact hS3
          · rw [upd_ne c] at hq
            exact x0 _ _ hq
        have nB4 : NT (upd B3 S (.lst ps)) := fun q ps' z => by
          by_cases c : q = S
          · subst c
            rw [upd_same] at z
            cases z
          · rw [upd_ne c] at z
            exact nB3 q ps' z
        have b4x : upd B3 S (.lst ps) x = none := (upd_ne nxS).trans x1
        have sv4 : SomeV (upd B3 S (.lst ps)) (.ref S) ws := ⟨S, ps, rfl, upd_same, L2.Paired.mapP pr3 fun _ _ z => z.mono B4S⟩
        have sq4 : SqL K (upd B3 S (.lst ps)) a (ns.map V.int) := sqL_ext B4S (sqL_ext e3 hS2)
        have D4 := x3.mono B4S
        generalize upd B3 S (.lst ps) = B4 at e4 nB4 b4x sv4 sq4 D4
        refine ⟨_, rfl, _, rfl, B4, x, dx, d3, _, ws, rfl, ⟨e4, b4x, x2, D4⟩, nB4, hT3, sv4, G, fun B5 H5 g5 => ⟨_, rfl, itF rfl ?_⟩⟩
        refine ⟨_, rfl, a, ns, 3, rfl, sqL_ext g5.e (sqL_ext g5.eB sq4), ?_⟩
        refine ⟨_, rfl, _, _, rfl, rfl, (show (0 : Int) < 3 by decide), rfl, _, rfl, ?_⟩
        by_cases c3 : V.int (ns.getD 3 0 % 3) = V.int 0
        · exact itT (decide_eq_true c3) (k _)
        · refine itF (decide_eq_false c3) ?_
          have x5 : H5 x = some (dkO K dx d3) := g5.eH _ _ x2 (fun _ z => nomatch z)
          have b5x : B5 x = none := g5.hid x b4x (by rw [x2]; exact fun z => nomatch z)
          have sv5 : SomeV B5 (.ref S) ws := by
            obtain ⟨sl, qs, ee, h1, h2⟩ := sv4
            exact ⟨sl, qs, ee, g5.eB _ _ h1, L2.Paired.mapP h2 fun _ _ z => z.mono g5.eB⟩
          have wne : ws ≠ [] := fun z => by
            rw [z] at lw
            have : 0 = m := lw
            omega
          refine ⟨_, rfl, _, rfl, _, rfl, B5, x, dx, d3, _, ws, _, rfl, ⟨g5.e, b5x, x5, D4.mono g5.eB⟩, sv5, G, wne, fun a' d' B6 H6 ws' gx dk sv G' ne' => ?_⟩
          have hT6 := gx.tab x5 g5.tab dk.2.2.1
          have nB6 : NT B6 := fun q ps' z => g5.nt q ps' (gx.nt q ps' z)
          refine ⟨_, rfl, rfl, _, rfl, itT rfl ?_⟩
          exact ⟨_, rfl, _, rfl, B6, x, dx, d', _, ws', rfl, dk, nB6, hT6, sv, G', fun B7 H7 g7 => k _⟩
    · refine itF (decide_eq_false c1) ?_
      refine ⟨_, rfl, a, ns, 2, rfl, at_ (Evl.Ex.refl _), _, _, rfl, rfl, ⟨by decide, by decide⟩, _, _, rfl, rfl, (show (0 : Int) < 4 by decide), _, _, rfl, rfl, ?_⟩
      show gName 2 (V.int (1 + ns.getD 2 0 / 3 % 4)) _ _ _
      obtain ⟨m, hm⟩ : ∃ m : Nat, 1 + ns.getD 2 0 / 3 % 4 = (m : Nat) := ⟨(1 + ns.getD 2 0 / 3 % 4).toNat, by omega⟩
      have m0 : 1 ≤ m := by omega
      have m4 : m ≤ 4 := by omega
      rw [hm]
      refine ⟨_, rfl, a, ns, 0, rfl, at_ (Evl.Ex.refl _), _, rfl, _, _, rfl, rfl, ?_⟩
      refine ⟨_, m + 2, rfl, by omega, fun NL nl H1 nNL e1 hNL nok => ?_⟩
      have bNL : B NL = none := ex_none eB nNL
      have g1 := ((Gr.refl eB).heap e1).freeze nNL bNL hNL
      intro x dx nx ndx nxd
      have g2 := gr_make (o := .own x) (o' := .ins (He.ga K "Desk") dx []) (Gr.refl g1.e) nx ndx nxd
      refine ⟨_, _, x, dx, rfl, g2, nx, ex_none g1.e nx, upd_same, fun d B2 H2 g3 b2 hx2 D2 => ⟨rfl, ?_⟩⟩
      refine ⟨by decide, fun S nS => ?_⟩
      have g4 := g1.trans g3
      have nxS : x ≠ S := ne_of_none hx2 nS
      have bS : B2 S = none := ex_none g4.e nS
      have nB2 : NT B2 := fun q ps z => nB q ps (g4.nt q ps z)
      have hT2 : TabsN (tPick K) (upd H2 S (.lst [])) := (hT.ext g4.eH).ext (ex_up nS)
      have hNL2 : B2 NL = some (.lst (nl.map V.str)) := g3.eB _ _ upd_same
      have hS2 : SqL K B2 a (ns.map V.int) := sqL_ext g4.eB hS
      have mkG : ∀ ws : List Wk, (∀ w ∈ ws, Rok un w) → (∀ (i : Nat) (w : Wk), ws[i]? = some w → nl[i]? = some w.name) → ws.length ≤ 4 → Good ws := by
        intro ws rk3 nm3 lw
        refine ⟨⟨un, b0, b1, rk3⟩, ?_, lw⟩
        rw [List.nodup_iff_pairwise_ne, List.pairwise_iff_getElem]
        intro i j hi hj ij z
        rw [List.length_map] at hi hj
        rw [List.getElem_map, List.getElem_map] at z
        have z1 := nm3 i _ (List.getElem?_eq_getElem hi)
        have z2 := nm3 j _ (List.getElem?_eq_getElem hj)
        rw [z] at z1
        have q := nok.nd
        rw [List.nodup_iff_pairwise_ne, List.pairwise_iff_getElem] at q
        obtain ⟨l1, e1'⟩ := List.getElem?_eq_some_iff.mp z1
        obtain ⟨l2, e2'⟩ := List.getElem?_eq_some_iff.mp z2
        exact q i j l1 l2 ij (e1'.trans e2'.symm)
      have nlen := nok.len
      refine ⟨_, rfl, _, rfl, by omega, by omega, ?_⟩
      refine for_range (fun j σ H' => ∃ (y6 : Option V) (B' : Hp) (d' : V) (ws : List Wk) (ps : List V), σ = [some (.ref a), some (.int un), some (.int (m : Nat)), some (.ref NL), some (.ref x), some (.ref S), y6, none] ∧ Ex B2 B' ∧ Desk K B' H' x dx d' ws ∧ NT B' ∧ TabsN (tPick K) H' ∧ B' S = none ∧ H' S = some (.lst ps) ∧ Paired (PtV B') ps ws ∧ ws.length = j ∧ (∀ w ∈ ws, Rok un w) ∧ ∀ (i : Nat) (w : Wk), ws[i]? = some w → nl[i]? = some w.name) ⟨_, B2, d, [], [], rfl, Evl.Ex.refl _, ⟨g4.e.trans (ex_up nS), b2, (upd_ne nxS).trans hx2, D2⟩, nB2, hT2, bS, upd_same, .nil, rfl, fun w hw => (by cases hw), fun i w z => (by cases z)⟩ ?_ ?_
      · rintro j σ H3 hj ⟨y6, B3, d3, ws, ps, rfl, e3, ⟨x0, x1, x2, x3⟩, nB3, hT3, bS3, hS3, pr3, lw, rk3, nm3⟩
        have ej : (0 : Int) + (j : Int) = ((j : Nat) : Int) := by omega
        have lps := paired_len pr3
        have hNL3 : H3 NL = some (.lst (nl.map V.str)) := x0 _ _ (e3 _ _ hNL2)
        obtain ⟨nj, hnj⟩ : ∃ z, nl[j]? = some z := ⟨_, List.getElem?_eq_getElem (by omega)⟩
        obtain ⟨th, hth⟩ : ∃ z, nl[m + j % 2]? = some z := ⟨_, List.getElem?_eq_getElem (by omega)⟩
        have hnjV : (nl.map V.str)[j]? = some (.str nj) := by rw [List.getElem?_map, hnj]; rfl
        have hthV : (nl.map V.str)[m + j % 2]? = some (.str th) := by rw [List.getElem?_map, hth]; rfl
        have nmj := nok.nm nj (List.mem_of_getElem? hnj)
        have nmt := nok.nm th (List.mem_of_getElem? hth)
        have sq3 : SqL K H3 a (ns.map V.int) := sqL_ext x0 (sqL_ext e3 hS2)
        refine ⟨_, rfl, .inl ⟨rfl, _, SqL.of hS3⟩, ?_⟩
        refine ⟨_, rfl, _, rfl, _, _, rfl, rfl, a, ns, 4 + j, by rw [ej]; rfl, sq3, _, rfl, _, _, rfl, rfl, _, rfl, _, rfl, _, rfl, _, rfl, _, _, _, _, rfl, by rw [ej], SqL.of hNL3, atI_nat hnjV, ?_⟩
        refine ⟨_, rfl, _, rfl, _, rfl, _, _, rfl, rfl, (show (0 : Int) < 2 by decide), _, _, rfl, rfl, _, _, _, _, rfl, (show V.int ((m : Int) + (0 + (j : Int)) % 2) = V.int ((m + j % 2 : Nat) : Int) by rw [show ((m : Int) + (0 + (j : Int)) % 2) = ((m + j % 2 : Nat) : Int) by omega]), SqL.of hNL3, atI_nat hthV, ?_⟩
        refine ⟨B3, _, un, m, nj, th, rfl, x0, b0, b1, m0, m4, nmj, nmt, fun q wk B4 H4 g5 pt rok nme => ?_⟩
        have hS4 := g5.eH _ _ hS3
        have bS4 : B4 S = none := g5.out bS3 hS3
        have bx4 : B4 x = none := g5.out x1 x2
        refine ⟨S, _, _, rfl, rfl, hS4, Evl.sz_lt (by omega), ?_⟩
        have x4 : upd H4 S (.lst (ps ++ [V.ref q])) x = some (dkO K dx d3) := (upd_ne nxS).trans (g5.eH _ _ x2)
        have e5 : Ex B4 (upd H4 S (.lst (ps ++ [V.ref q]))) := g5.e.mut bS4
        have hT5 : TabsN (tPick K) (upd H4 S (.lst (ps ++ [V.ref q]))) := tab_write (hT3.ext g5.eH) hS4 (fun _ z => nomatch z) (fun _ _ z => nomatch z)
        have nB4 : NT B4 := fun q ps z => nB3 q ps (g5.nt q ps z)
        have pr4 : Paired (PtV B4) (ps ++ [V.ref q]) (ws ++ [wk]) := paired_app (L2.Paired.mapP pr3 fun _ _ z => z.mono g5.eB) (.cons pt .nil)
        have hlast : (ps ++ [V.ref q])[j]? = some (.ref q) := by rw [List.getElem?_append_right (by omega), show j - ps.length = 0 by omega]; rfl
        have rk4 : ∀ w ∈ ws ++ [wk], Rok un w := fun w hw => by
          rcases List.mem_append.mp hw with hw | hw
          · exact rk3 w hw
          · rw [List.mem_singleton.mp hw]
            exact rok
        have nm4 : ∀ (i : Nat) (w : Wk), (ws ++ [wk])[i]? = some w → nl[i]? = some w.name := fun i w hw => by
          rcases Nat.lt_or_ge i ws.length with z | z
          · rw [List.getElem?_append_left z] at hw
            exact nm3 i w hw
          · have ei : i = j := by
              have := (List.getElem?_eq_some_iff.mp hw).1
              rw [List.length_append, List.length_singleton] at this
              omega
            subst ei
            rw [List.getElem?_append_right z, show i - ws.length = 0 by omega] at hw
            cases hw
            rw [hnj, nme]
        have G4 := mkG (ws ++ [wk]) rk4 nm4 (by rw [List.length_append]; show ws.length + 1 ≤ 4; omega)
        have bw : Wb wk := G4.wb (by simp)
        have wl := work_len bw
        have e6 : ("work " : Str).length = 5 := by decide +kernel
        have hS5 : upd H4 S (.lst (ps ++ [V.ref q])) S = some (.lst (ps ++ [V.ref q])) := upd_same
        generalize upd H4 S (.lst (ps ++ [V.ref q])) = H5 at x4 e5 hT5 hS5 ⊢
        refine ⟨_, rfl, x, dx, _, rfl, x4, (by rfl), _, rfl, _, rfl, _, _, _, _, rfl, by rw [ej], SqL.of hS5, atI_nat hlast, ?_⟩
        refine ⟨_, wk, rfl, pt.mono e5, bw, fun H6 e6' => ?_⟩
        refine ⟨_, _, rfl, rfl, Evl.sz_of (by omega), ?_⟩
        refine ⟨B4, x, dx, d3, ws, wk, rfl, ⟨e5.trans e6', bx4, e6' _ _ x4, x3.mono g5.eB⟩, by omega, G4, fun d7 B7 H7 gx dk => ?_⟩
        refine ⟨rfl, _, rfl, itF (by decide +kernel) ?_⟩
        have nSx : S ≠ x := fun z => nxS z.symm
        refine ⟨_, B7, d7, ws ++ [wk], ps ++ [V.ref q], rfl, (e3.trans g5.eB).trans gx.eB, dk, fun q' ps' z => nB4 q' ps' (gx.nt q' ps' z), ?_, gx.hid S bS4 (by rw [e6' _ _ hS5]; exact fun z => nomatch z), gx.ex S _ nSx (e6' _ _ hS5), L2.Paired.mapP pr4 fun _ _ z => z.mono gx.eB, by rw [List.length_append, lw]; rfl, rk4, nm4⟩
        exact gx.tab (e6' _ _ x4) (hT5.ext e6') dk.2.2.1
      · rintro σ H3 ⟨y6, B3, d3, ws, ps, rfl, e3, ⟨x0, x1, x2, x3⟩, nB3, hT3, bS3, hS3, pr3, lw, rk3, nm3⟩
        have G := mkG ws rk3 nm3 (by omega)
        have B4S := ex_up (o := .lst ps) bS3
        have e4 : Ex (upd B3 S (.lst ps)) H3 := fun q w hq => by
          by_cases c : q = S
          · subst c
            rw [upd_same] at hq
            cases hq
            exact hS3
          · rw [upd_ne c] at hq
            exact x0 _ _ hq
        have nB4 : NT (upd B3 S (.lst ps)) := fun q ps' z => by
          by_cases c : q = S
          · subst c
            rw [upd_same] at z
            cases z
          · rw [upd_ne c] at z
            exact nB3 q ps' z
        have b4x : upd B3 S (.lst ps) x = none := (upd_ne nxS).trans x1
        have sv4 : SomeV (upd B3 S (.lst ps)) (.ref S) ws := ⟨S, ps, rfl, upd_same, L2.Paired.mapP pr3 fun _ _ z => z.mono B4S⟩
        have sq4 : SqL K (upd B3 S (.lst ps)) a (ns.map V.int) := sqL_ext B4S (sqL_ext e3 hS2)
        have D4 := x3.mono B4S
        generalize upd B3 S (.lst ps) = B4 at e4 nB4 b4x sv4 sq4 D4
        refine ⟨_, rfl, _, rfl, B4, x, dx, d3, _, ws, rfl, ⟨e4, b4x, x2, D4⟩, nB4, hT3, sv4, G, fun B5 H5 g5 => ⟨_, rfl, itF rfl ?_⟩⟩
        refine ⟨_, rfl, a, ns, 3, rfl, sqL_ext g5.e (sqL_ext g5.eB sq4), ?_⟩
        refine ⟨_, rfl, _, _, rfl, rfl, (show (0 : Int) < 3 by decide), rfl, _, rfl, ?_⟩
        by_cases c3 : V.int (ns.getD 3 0 % 3) = V.int 0
        · exact itT (decide_eq_true c3) (k _)
        · refine itF (decide_eq_false c3) ?_
          have x5 : H5 x = some (dkO K dx d3) := g5.eH _ _ x2 (fun _ z => nomatch z)
          have b5x : B5 x = none := g5.hid x b4x (by rw [x2]; exact fun z => nomatch z)
          have sv5 : SomeV B5 (.ref S) ws := by
            obtain ⟨sl, qs, ee, h1, h2⟩ := sv4
            exact ⟨sl, qs, ee, g5.eB _ _ h1, L2.Paired.mapP h2 fun _ _ z => z.mono g5.eB⟩
          have wne : ws ≠ [] := fun z => by
            rw [z] at lw
            have : 0 = m := lw
            omega
          refine ⟨_, rfl, _, rfl, _, rfl, B5, x, dx, d3, _, ws, _, rfl, ⟨g5.e, b5x, x5, D4.mono g5.eB⟩, sv5, G, wne, fun a' d' B6 H6 ws' gx dk sv G' ne' => ?_⟩
          have hT6 := gx.tab x5 g5.tab dk.2.2.1
          have nB6 : NT B6 := fun q ps' z => g5.nt q ps' (gx.nt q ps' z)
          refine ⟨_, rfl, rfl, _, rfl, itT rfl ?_⟩
          exact ⟨_, rfl, _, rfl, B6, x, dx, d', _, ws', rfl, dk, nB6, hT6, sv, G', fun B7 H7 g7 => k _⟩
end
end Dty
set_option Elab.async false
set_option linter.all false
set_option maxRecDepth 100000
set_option maxHeartbeats 4000000
namespace Dty
open PySem PySem.Spec PyProof.Rows L2 Dq TL NdefX LamX
/-- the heap without its tables -/
def noTab (H : Hp) : Hp := fun q => match H q with
  | some (.tbl _) => none
  | o => o
theorem noTab_ex (H : Hp) : Ex (noTab H) H := fun q o h => by
  unfold noTab at h
  split at h
  · cases h
  · exact h
theorem noTab_nt (H : Hp) : NT (noTab H) := fun q ps h => by
  unfold noTab at h
  split at h
  · cases h
  · rename_i z
    exact z ps h
theorem noTab_at {H : Hp} {q : Addr} {o : HO} (h : H q = some o) (n : ∀ ps, o ≠ .tbl ps) : noTab H q = some o := by
  unfold noTab
  rw [h]
  split
  · rename_i ps z
    cases z
    exact absurd rfl (n ps)
  · rfl
theorem noTab_sq {K : PySem.W.Frag} {H : Hp} {a : Addr} {xs : List V} (h : SqL K H a xs) : SqL K (noTab H) a xs :=
  h.imp (fun h => h.imp (fun h => noTab_at h (fun _ z => nomatch z)) fun ⟨o, h⟩ => ⟨o, noTab_at h (fun _ z => nomatch z)⟩) id
theorem law_at {w : World} {mg : Str → Option Value} {fa0 : Addr} {h : Heap} (Y : hk.says w h) (G : h.Ns mainGlobals mg) (hmg : mg "law" = some (.ref fa0)) :
    ∃ K : PySem.W.Frag, K.In h ∧ LawAtS PySem.Challenge.rw_dutyproof_k99_whole_answers_come_to_by_t w K CX0 14 63 "_law_script" mg fa0 h := by
  obtain ⟨K, KX, c⟩ := Y
  have T : Says K mg := ⟨c.t.d, c.more, ⟨h, KX, G⟩⟩
  have hd := c.hd ("ByRank", some "pick") (List.mem_singleton.mpr rfl)
  have e := hmg.symm.trans (g_law T)
  cases e
  have b := FunD.bindsA (ps := ["_law_script"]) (F_law T) fun _ _ _ _ _ _ us hl => match us, hl with | [_], _ => rfl
  refine ⟨K, KX, fdOf K d_law.at_, [cPick K], sp_law K, fun p hp => ?_, fun p hp => ?_, fun p hp => ?_, fun s u => b s [u] rfl, fun H a ns hl _ hH hS => ?_, fun base X Gb hT => ok_law T (hT _ (List.mem_singleton.mpr rfl))⟩
  · rw [List.mem_singleton.mp hp]
    exact c.empty ("ByRank", some "pick") (List.mem_singleton.mpr rfl)
  · rw [List.mem_singleton.mp hp]
    exact c.out ("ByRank", some "pick") (List.mem_singleton.mpr rfl)
  · rw [List.mem_singleton.mp hp]
    exact PySem.W.codeHd_of_K KX hd
  · refine ⟨noTab H, a, ns, rfl, noTab_ex H, noTab_nt H, fun p hp => ?_, noTab_sq hS, fun _ => rfl⟩
    rw [List.mem_singleton.mp hp]
    exact TabN.nil (hH _ (List.mem_singleton.mpr rfl))
end Dty
open PySem PySem.W PySem.Calls PyProof.Rows
theorem PySem.Challenge.cw_dutyproof_k99_whole_answers_come_to_by_t_holds : PySem.Challenge.rw_dutyproof_k99_whole_answers_come_to_by_t.Holds := by
  w_on; o_law
  refine HandSHeadRun.head_any (r := Dty.Row) (q := view (Dty.Row).prog [132]) (H := Dty.hk) (ob := Dty.ob) (M := 20000) (loose := Dty.loose) (d := HandSHeadRun.topDef (Dty.Row).prog 132) (kwd := []) Dty.ob_eq
    (by kernel_rfl) (fun s => by kernel_rfl) Dty.run (by kernel_rfl) (by kernel_rfl) (by kernel_rfl) (by rfl) (by first | assumption | decide +kernel) (by decide +kernel) ⟨rfl, rfl, rfl, rfl, rfl, by decide +kernel⟩ ?hw ?hc
  case hw => w_witness2
  case hc =>
    refine LamX.walk_ofTsE (l := PySem.Challenge.rw_dutyproof_k99_whole_answers_come_to_by_t) (n := 63) (k := 14) (x := "_law_script") (CX := fun _ => L2.CX0) rfl (by decide) (by kernel_rfl) ⟨rfl, by decide, by decide⟩ ?F (fun _ _ _ _ _ z => z)
    intro w mg fa h Y G hmg0
    have hmg : mg ("law" : PySem.Str) = some (.ref fa) := by
      have e : (HandSHeadRun.topDef (Dty.Row).prog 132).name = ("law" : PySem.Str) := by kernel_rfl
      rw [← e]
      exact hmg0
    exact Dty.law_at Y G hmg
