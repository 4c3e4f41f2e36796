import PyProof.Rows.All
import Wide.All
import OpenK.AllK
import Wide.FinOn
import KE.KStateDown
import HandS.ForMost
import HandS.Defaults
import HandS.HeadEnd
import HandS.Head0
import HandS.Head1
import HandS.Head2
import HandS.HeadHook1
import HandS.HeadHook2
import HandS.HeadHook3
import HandS.HeadHook4
import PySem.Challenge.RW_outlast_k59_whole_comes_up
import HandS.TupAny
import HandS.SetFor
import HandS.Small
import HandS.More
import HandS.NoneIn
import HandS.Conv
import HandS.RaiseMore
import HandS.IsInst
import HandS.TupLe
import HandS.Evl
import KE.SortData
import KE.DataEq
import KE.KDictCopyH
import KE.KDictSum
import PyProof.Transfer
import HandS.Walk
import HandS.Zip
import HandS.Zip0
import PyProof.ZipIter
import PyProof.StrLawsTight
import PyProof.StrLawsChain
set_option Elab.async false
set_option linter.all false
set_option maxRecDepth 100000
set_option maxHeartbeats 4000000
namespace Ol
open PySem PySem.Spec PyProof.Rows L2

def top (i : Nat) : Stmt := PySem.Challenge.pw_outlast_k59_whole_comes_up.main.body.getD i (.Pass ⟨0, 0, 0, 0⟩)
abbrev s__wall : Stmt := top 0
abbrev s_is_number : Stmt := top 11
abbrev s_is_worth : Stmt := top 12
abbrev s_is_moment : Stmt := top 13
abbrev s_is_name : Stmt := top 14
abbrev s_kept : Stmt := top 15
abbrev s_as_number : Stmt := top 17
abbrev s_joined_by : Stmt := top 18
abbrev s_worth_of : Stmt := top 19
abbrev s_is_true : Stmt := top 23
abbrev s_block_of : Stmt := top 24
abbrev s_Run___init__ : Stmt := inClass (top 25) 0
abbrev s_Run_take : Stmt := inClass (top 25) 1
abbrev s_Run_take_done : Stmt := inClass (top 25) 2
abbrev s_Run_take_letter : Stmt := inClass (top 25) 3
abbrev s_Run_first_letter : Stmt := inClass (top 25) 4
abbrev s_Run_statement_here : Stmt := inClass (top 25) 5
abbrev s_Run_go_behind : Stmt := inClass (top 25) 6
abbrev s_Run_says : Stmt := inClass (top 25) 7
abbrev s_Run_go_on : Stmt := inClass (top 25) 8
abbrev s_Run_do_next : Stmt := inClass (top 25) 9
abbrev s_Run_do_look : Stmt := inClass (top 25) 10
abbrev s_Run_do_wait : Stmt := inClass (top 25) 11
abbrev s_Run_do_hear : Stmt := inClass (top 25) 12
abbrev s_Run_do_end : Stmt := inClass (top 25) 13
abbrev s_Run_do_plain : Stmt := inClass (top 25) 14
abbrev s_Run_new_ticket : Stmt := inClass (top 25) 15
abbrev s_Run_do_drop : Stmt := inClass (top 25) 16
abbrev s_Run_waits : Stmt := inClass (top 25) 17
abbrev s_Run_open_tickets : Stmt := inClass (top 25) 18
abbrev s_House___init__ : Stmt := inClass (top 29) 0
abbrev s_House_moment : Stmt := inClass (top 29) 1
abbrev s_House_inputs : Stmt := inClass (top 29) 2
abbrev s_House_runs : Stmt := inClass (top 29) 3
abbrev s_House_need_run : Stmt := inClass (top 29) 5
abbrev s_House_program_of : Stmt := inClass (top 29) 6
abbrev s_House_waits : Stmt := inClass (top 29) 7
abbrev s_House_taken : Stmt := inClass (top 29) 8
abbrev s_House_parent : Stmt := inClass (top 29) 9
abbrev s_House_is_there : Stmt := inClass (top 29) 10
abbrev s_House_is_open : Stmt := inClass (top 29) 11
abbrev s_House_open_orders : Stmt := inClass (top 29) 12
abbrev s_House_open_timers : Stmt := inClass (top 29) 13
abbrev s_House_next_due : Stmt := inClass (top 29) 14
abbrev s_House_new_run : Stmt := inClass (top 29) 15
abbrev s_House_first_row : Stmt := inClass (top 29) 16
abbrev s_House_take : Stmt := inClass (top 29) 17
abbrev s_House_follow : Stmt := inClass (top 29) 18
abbrev s_House_beget : Stmt := inClass (top 29) 19
abbrev s_House_send : Stmt := inClass (top 29) 20
abbrev s_show_part : Stmt := top 34
abbrev s_show_inputs : Stmt := top 35
abbrev s_number_in : Stmt := top 36
abbrev s_part_in : Stmt := top 37
abbrev s_input_in : Stmt := top 38
abbrev s_read_inputs : Stmt := top 39
abbrev s_keep_house : Stmt := top 40
abbrev s_come_up_house : Stmt := top 41
abbrev s__law_hand : Stmt := top 43
abbrev s__law_draw : Stmt := top 44
abbrev s__law_saying : Stmt := top 45
abbrev s__law_wanted : Stmt := top 46
abbrev s__law_plain : Stmt := top 47
abbrev s__law_statement : Stmt := top 48
abbrev s__law_block : Stmt := top 49
abbrev s__law_programs : Stmt := top 50
abbrev s__law_new : Stmt := top 51
abbrev s__law_there : Stmt := top 52
abbrev s__law_open : Stmt := top 53
abbrev s__law_made : Stmt := top 54
abbrev s__law_timers : Stmt := top 55
abbrev s__law_orders : Stmt := top 56
abbrev s__law_first : Stmt := top 57
abbrev s__law_follow : Stmt := top 58
abbrev s__law_in : Stmt := top 59
abbrev s__law_input : Stmt := top 60
abbrev s__law_all : Stmt := top 61
abbrev s__law_text : Stmt := top 62
abbrev s_law : Stmt := top 63
def d_is_number : He.DefD := ⟨("is_number", none), "is_number", "is_number", defArgs s_is_number, defBody s_is_number, defScope s_is_number, [], []⟩
def d_is_worth : He.DefD := ⟨("is_worth", none), "is_worth", "is_worth", defArgs s_is_worth, defBody s_is_worth, defScope s_is_worth, [], []⟩
def d_is_moment : He.DefD := ⟨("is_moment", none), "is_moment", "is_moment", defArgs s_is_moment, defBody s_is_moment, defScope s_is_moment, [], []⟩
def d_is_name : He.DefD := ⟨("is_name", none), "is_name", "is_name", defArgs s_is_name, defBody s_is_name, defScope s_is_name, [], []⟩
def d_kept : He.DefD := ⟨("kept", none), "kept", "kept", defArgs s_kept, defBody s_kept, defScope s_kept, [], []⟩
def d_as_number : He.DefD := ⟨("as_number", none), "as_number", "as_number", defArgs s_as_number, defBody s_as_number, defScope s_as_number, [], []⟩
def d_joined_by : He.DefD := ⟨("joined_by", none), "joined_by", "joined_by", defArgs s_joined_by, defBody s_joined_by, defScope s_joined_by, [], []⟩
def d_worth_of : He.DefD := ⟨("worth_of", none), "worth_of", "worth_of", defArgs s_worth_of, defBody s_worth_of, defScope s_worth_of, [], []⟩
def d_is_true : He.DefD := ⟨("is_true", none), "is_true", "is_true", defArgs s_is_true, defBody s_is_true, defScope s_is_true, [], []⟩
def d_block_of : He.DefD := ⟨("block_of", none), "block_of", "block_of", defArgs s_block_of, defBody s_block_of, defScope s_block_of, [], []⟩
def d_Run___init__ : He.DefD := ⟨("Run", some "__init__"), "__init__", "Run.__init__", defArgs s_Run___init__, defBody s_Run___init__, defScope s_Run___init__, [], []⟩
def d_Run_take : He.DefD := ⟨("Run", some "take"), "take", "Run.take", defArgs s_Run_take, defBody s_Run_take, defScope s_Run_take, [], []⟩
def d_Run_take_done : He.DefD := ⟨("Run", some "take_done"), "take_done", "Run.take_done", defArgs s_Run_take_done, defBody s_Run_take_done, defScope s_Run_take_done, [], []⟩
def d_Run_take_letter : He.DefD := ⟨("Run", some "take_letter"), "take_letter", "Run.take_letter", defArgs s_Run_take_letter, defBody s_Run_take_letter, defScope s_Run_take_letter, [], []⟩
def d_Run_first_letter : He.DefD := ⟨("Run", some "first_letter"), "first_letter", "Run.first_letter", defArgs s_Run_first_letter, defBody s_Run_first_letter, defScope s_Run_first_letter, [], []⟩
def d_Run_statement_here : He.DefD := ⟨("Run", some "statement_here"), "statement_here", "Run.statement_here", defArgs s_Run_statement_here, defBody s_Run_statement_here, defScope s_Run_statement_here, [], []⟩
def d_Run_go_behind : He.DefD := ⟨("Run", some "go_behind"), "go_behind", "Run.go_behind", defArgs s_Run_go_behind, defBody s_Run_go_behind, defScope s_Run_go_behind, [], []⟩
def d_Run_says : He.DefD := ⟨("Run", some "says"), "says", "Run.says", defArgs s_Run_says, defBody s_Run_says, defScope s_Run_says, [], []⟩
def d_Run_go_on : He.DefD := ⟨("Run", some "go_on"), "go_on", "Run.go_on", defArgs s_Run_go_on, defBody s_Run_go_on, defScope s_Run_go_on, [], []⟩
def d_Run_do_next : He.DefD := ⟨("Run", some "do_next"), "do_next", "Run.do_next", defArgs s_Run_do_next, defBody s_Run_do_next, defScope s_Run_do_next, [], []⟩
def d_Run_do_look : He.DefD := ⟨("Run", some "do_look"), "do_look", "Run.do_look", defArgs s_Run_do_look, defBody s_Run_do_look, defScope s_Run_do_look, [], []⟩
def d_Run_do_wait : He.DefD := ⟨("Run", some "do_wait"), "do_wait", "Run.do_wait", defArgs s_Run_do_wait, defBody s_Run_do_wait, defScope s_Run_do_wait, [], []⟩
def d_Run_do_hear : He.DefD := ⟨("Run", some "do_hear"), "do_hear", "Run.do_hear", defArgs s_Run_do_hear, defBody s_Run_do_hear, defScope s_Run_do_hear, [], []⟩
def d_Run_do_end : He.DefD := ⟨("Run", some "do_end"), "do_end", "Run.do_end", defArgs s_Run_do_end, defBody s_Run_do_end, defScope s_Run_do_end, [], []⟩
def d_Run_do_plain : He.DefD := ⟨("Run", some "do_plain"), "do_plain", "Run.do_plain", defArgs s_Run_do_plain, defBody s_Run_do_plain, defScope s_Run_do_plain, [], []⟩
def d_Run_new_ticket : He.DefD := ⟨("Run", some "new_ticket"), "new_ticket", "Run.new_ticket", defArgs s_Run_new_ticket, defBody s_Run_new_ticket, defScope s_Run_new_ticket, [], []⟩
def d_Run_do_drop : He.DefD := ⟨("Run", some "do_drop"), "do_drop", "Run.do_drop", defArgs s_Run_do_drop, defBody s_Run_do_drop, defScope s_Run_do_drop, [], []⟩
def d_Run_waits : He.DefD := ⟨("Run", some "waits"), "waits", "Run.waits", defArgs s_Run_waits, defBody s_Run_waits, defScope s_Run_waits, [], []⟩
def d_Run_open_tickets : He.DefD := ⟨("Run", some "open_tickets"), "open_tickets", "Run.open_tickets", defArgs s_Run_open_tickets, defBody s_Run_open_tickets, defScope s_Run_open_tickets, [], []⟩
def d_House___init__ : He.DefD := ⟨("House", some "__init__"), "__init__", "House.__init__", defArgs s_House___init__, defBody s_House___init__, defScope s_House___init__, [], []⟩
def d_House_moment : He.DefD := ⟨("House", some "moment"), "moment", "House.moment", defArgs s_House_moment, defBody s_House_moment, defScope s_House_moment, [], []⟩
def d_House_inputs : He.DefD := ⟨("House", some "inputs"), "inputs", "House.inputs", defArgs s_House_inputs, defBody s_House_inputs, defScope s_House_inputs, [], []⟩
def d_House_runs : He.DefD := ⟨("House", some "runs"), "runs", "House.runs", defArgs s_House_runs, defBody s_House_runs, defScope s_House_runs, [], []⟩
def d_House_need_run : He.DefD := ⟨("House", some "need_run"), "need_run", "House.need_run", defArgs s_House_need_run, defBody s_House_need_run, defScope s_House_need_run, [], []⟩
def d_House_program_of : He.DefD := ⟨("House", some "program_of"), "program_of", "House.program_of", defArgs s_House_program_of, defBody s_House_program_of, defScope s_House_program_of, [], []⟩
def d_House_waits : He.DefD := ⟨("House", some "waits"), "waits", "House.waits", defArgs s_House_waits, defBody s_House_waits, defScope s_House_waits, [], []⟩
def d_House_taken : He.DefD := ⟨("House", some "taken"), "taken", "House.taken", defArgs s_House_taken, defBody s_House_taken, defScope s_House_taken, [], []⟩
def d_House_parent : He.DefD := ⟨("House", some "parent"), "parent", "House.parent", defArgs s_House_parent, defBody s_House_parent, defScope s_House_parent, [], []⟩
def d_House_is_there : He.DefD := ⟨("House", some "is_there"), "is_there", "House.is_there", defArgs s_House_is_there, defBody s_House_is_there, defScope s_House_is_there, [], []⟩
def d_House_is_open : He.DefD := ⟨("House", some "is_open"), "is_open", "House.is_open", defArgs s_House_is_open, defBody s_House_is_open, defScope s_House_is_open, [], []⟩
def d_House_open_orders : He.DefD := ⟨("House", some "open_orders"), "open_orders", "House.open_orders", defArgs s_House_open_orders, defBody s_House_open_orders, defScope s_House_open_orders, [], []⟩
def d_House_open_timers : He.DefD := ⟨("House", some "open_timers"), "open_timers", "House.open_timers", defArgs s_House_open_timers, defBody s_House_open_timers, defScope s_House_open_timers, [], []⟩
def d_House_next_due : He.DefD := ⟨("House", some "next_due"), "next_due", "House.next_due", defArgs s_House_next_due, defBody s_House_next_due, defScope s_House_next_due, [], []⟩
def d_House_new_run : He.DefD := ⟨("House", some "new_run"), "new_run", "House.new_run", defArgs s_House_new_run, defBody s_House_new_run, defScope s_House_new_run, [], []⟩
def d_House_first_row : He.DefD := ⟨("House", some "first_row"), "first_row", "House.first_row", defArgs s_House_first_row, defBody s_House_first_row, defScope s_House_first_row, [], []⟩
def d_House_take : He.DefD := ⟨("House", some "take"), "take", "House.take", defArgs s_House_take, defBody s_House_take, defScope s_House_take, [], []⟩
def d_House_follow : He.DefD := ⟨("House", some "follow"), "follow", "House.follow", defArgs s_House_follow, defBody s_House_follow, defScope s_House_follow, [], []⟩
def d_House_beget : He.DefD := ⟨("House", some "beget"), "beget", "House.beget", defArgs s_House_beget, defBody s_House_beget, defScope s_House_beget, [], []⟩
def d_House_send : He.DefD := ⟨("House", some "send"), "send", "House.send", defArgs s_House_send, defBody s_House_send, defScope s_House_send, [], []⟩
def d_show_part : He.DefD := ⟨("show_part", none), "show_part", "show_part", defArgs s_show_part, defBody s_show_part, defScope s_show_part, [], []⟩
def d_show_inputs : He.DefD := ⟨("show_inputs", none), "show_inputs", "show_inputs", defArgs s_show_inputs, defBody s_show_inputs, defScope s_show_inputs, [], []⟩
def d_number_in : He.DefD := ⟨("number_in", none), "number_in", "number_in", defArgs s_number_in, defBody s_number_in, defScope s_number_in, [], []⟩
def d_part_in : He.DefD := ⟨("part_in", none), "part_in", "part_in", defArgs s_part_in, defBody s_part_in, defScope s_part_in, [], []⟩
def d_input_in : He.DefD := ⟨("input_in", none), "input_in", "input_in", defArgs s_input_in, defBody s_input_in, defScope s_input_in, [], []⟩
def d_read_inputs : He.DefD := ⟨("read_inputs", none), "read_inputs", "read_inputs", defArgs s_read_inputs, defBody s_read_inputs, defScope s_read_inputs, [], []⟩
def d_keep_house : He.DefD := ⟨("keep_house", none), "keep_house", "keep_house", defArgs s_keep_house, defBody s_keep_house, defScope s_keep_house, [], []⟩
def d_come_up_house : He.DefD := ⟨("come_up_house", none), "come_up_house", "come_up_house", defArgs s_come_up_house, defBody s_come_up_house, defScope s_come_up_house, [], []⟩
def d__law_hand : He.DefD := ⟨("_law_hand", none), "_law_hand", "_law_hand", defArgs s__law_hand, defBody s__law_hand, defScope s__law_hand, [], []⟩
def d__law_draw : He.DefD := ⟨("_law_draw", none), "_law_draw", "_law_draw", defArgs s__law_draw, defBody s__law_draw, defScope s__law_draw, [], []⟩
def d__law_saying : He.DefD := ⟨("_law_saying", none), "_law_saying", "_law_saying", defArgs s__law_saying, defBody s__law_saying, defScope s__law_saying, [], []⟩
def d__law_wanted : He.DefD := ⟨("_law_wanted", none), "_law_wanted", "_law_wanted", defArgs s__law_wanted, defBody s__law_wanted, defScope s__law_wanted, [], []⟩
def d__law_plain : He.DefD := ⟨("_law_plain", none), "_law_plain", "_law_plain", defArgs s__law_plain, defBody s__law_plain, defScope s__law_plain, [], []⟩
def d__law_statement : He.DefD := ⟨("_law_statement", none), "_law_statement", "_law_statement", defArgs s__law_statement, defBody s__law_statement, defScope s__law_statement, [], []⟩
def d__law_block : He.DefD := ⟨("_law_block", none), "_law_block", "_law_block", defArgs s__law_block, defBody s__law_block, defScope s__law_block, [], []⟩
def d__law_programs : He.DefD := ⟨("_law_programs", none), "_law_programs", "_law_programs", defArgs s__law_programs, defBody s__law_programs, defScope s__law_programs, [], []⟩
def d__law_new : He.DefD := ⟨("_law_new", none), "_law_new", "_law_new", defArgs s__law_new, defBody s__law_new, defScope s__law_new, [], []⟩
def d__law_there : He.DefD := ⟨("_law_there", none), "_law_there", "_law_there", defArgs s__law_there, defBody s__law_there, defScope s__law_there, [], []⟩
def d__law_open : He.DefD := ⟨("_law_open", none), "_law_open", "_law_open", defArgs s__law_open, defBody s__law_open, defScope s__law_open, [], []⟩
def d__law_made : He.DefD := ⟨("_law_made", none), "_law_made", "_law_made", defArgs s__law_made, defBody s__law_made, defScope s__law_made, [], []⟩
def d__law_timers : He.DefD := ⟨("_law_timers", none), "_law_timers", "_law_timers", defArgs s__law_timers, defBody s__law_timers, defScope s__law_timers, [], []⟩
def d__law_orders : He.DefD := ⟨("_law_orders", none), "_law_orders", "_law_orders", defArgs s__law_orders, defBody s__law_orders, defScope s__law_orders, [], []⟩
def d__law_first : He.DefD := ⟨("_law_first", none), "_law_first", "_law_first", defArgs s__law_first, defBody s__law_first, defScope s__law_first, [], []⟩
def d__law_follow : He.DefD := ⟨("_law_follow", none), "_law_follow", "_law_follow", defArgs s__law_follow, defBody s__law_follow, defScope s__law_follow, [], []⟩
def d__law_in : He.DefD := ⟨("_law_in", none), "_law_in", "_law_in", defArgs s__law_in, defBody s__law_in, defScope s__law_in, [], []⟩
def d__law_input : He.DefD := ⟨("_law_input", none), "_law_input", "_law_input", defArgs s__law_input, defBody s__law_input, defScope s__law_input, [], []⟩
def d__law_all : He.DefD := ⟨("_law_all", none), "_law_all", "_law_all", defArgs s__law_all, defBody s__law_all, defScope s__law_all, [], []⟩
def d__law_text : He.DefD := ⟨("_law_text", none), "_law_text", "_law_text", defArgs s__law_text, defBody s__law_text, defScope s__law_text, [], []⟩
def d_law : He.DefD := ⟨("law", none), "law", "law", defArgs s_law, defBody s_law, defScope s_law, [], []⟩
def fn : List He.DefD := [d_is_number, d_is_worth, d_is_moment, d_is_name, d_kept, d_as_number, d_joined_by, d_worth_of, d_is_true, d_block_of, d_Run___init__, d_Run_take, d_Run_take_done, d_Run_take_letter, d_Run_first_letter, d_Run_statement_here, d_Run_go_behind, d_Run_says, d_Run_go_on, d_Run_do_next, d_Run_do_look, d_Run_do_wait, d_Run_do_hear, d_Run_do_end, d_Run_do_plain, d_Run_new_ticket, d_Run_do_drop, d_Run_waits, d_Run_open_tickets, d_House___init__, d_House_moment, d_House_inputs, d_House_runs, d_House_need_run, d_House_program_of, d_House_waits, d_House_taken, d_House_parent, d_House_is_there, d_House_is_open, d_House_open_orders, d_House_open_timers, d_House_next_due, d_House_new_run, d_House_first_row, d_House_take, d_House_follow, d_House_beget, d_House_send, d_show_part, d_show_inputs, d_number_in, d_part_in, d_input_in, d_read_inputs, d_keep_house, d_come_up_house, d__law_hand, d__law_draw, d__law_saying, d__law_wanted, d__law_plain, d__law_statement, d__law_block, d__law_programs, d__law_new, d__law_there, d__law_open, d__law_made, d__law_timers, d__law_orders, d__law_first, d__law_follow, d__law_in, d__law_input, d__law_all, d__law_text, d_law]
def fa0 : List He.Fa := [.glo "is_number", .glo "is_worth", .glo "is_moment", .glo "is_name", .glo "kept", .glo "as_number", .glo "joined_by", .glo "worth_of", .glo "is_true", .glo "block_of", .glo "show_part", .glo "show_inputs", .glo "number_in", .glo "part_in", .glo "input_in", .glo "read_inputs", .glo "keep_house", .glo "come_up_house", .glo "_law_hand", .glo "_law_draw", .glo "_law_saying", .glo "_law_wanted", .glo "_law_plain", .glo "_law_statement", .glo "_law_block", .glo "_law_programs", .glo "_law_new", .glo "_law_there", .glo "_law_open", .glo "_law_made", .glo "_law_timers", .glo "_law_orders", .glo "_law_first", .glo "_law_follow", .glo "_law_in", .glo "_law_input", .glo "_law_all", .glo "_law_text", .glo "law", .glo "Run"]
def fa1 : List He.Fa := [.cls "Run", .mkr "Run", .noat "Run" "statements", .noat "Run" "mode", .noat "Run" "path", .noat "Run" "known", .noat "Run" "arg", .noat "Run" "today", .noat "Run" "made", .noat "Run" "not_done", .noat "Run" "answered", .noat "Run" "heard", .noat "Run" "awaited", .noat "Run" "outcome", .noat "Run" "orders", .noat "Run" "steps", .meth "Run" "take", .meth "Run" "take_done", .meth "Run" "take_letter", .meth "Run" "first_letter", .meth "Run" "statement_here", .meth "Run" "go_behind", .meth "Run" "says", .meth "Run" "go_on", .meth "Run" "do_next", .meth "Run" "do_look", .meth "Run" "do_wait", .meth "Run" "do_hear", .meth "Run" "do_end", .meth "Run" "do_plain", .meth "Run" "new_ticket", .meth "Run" "do_drop", .meth "Run" "waits", .meth "Run" "open_tickets", .glo "House", .cls "House", .mkr "House", .noat "House" "programs", .noat "House" "now", .noat "House" "came"]
def fa2 : List He.Fa := [.noat "House" "all_runs", .noat "House" "names_of", .noat "House" "begun_by", .noat "House" "happened", .noat "House" "orders", .noat "House" "timers", .meth "House" "moment", .meth "House" "inputs", .meth "House" "runs", .meth "House" "need_run", .meth "House" "program_of", .meth "House" "waits", .meth "House" "taken", .meth "House" "parent", .meth "House" "is_there", .meth "House" "is_open", .meth "House" "open_orders", .meth "House" "open_timers", .meth "House" "next_due", .meth "House" "new_run", .meth "House" "first_row", .meth "House" "take", .meth "House" "follow", .meth "House" "beget", .meth "House" "send", .free "len", .free "max", .free "min", .free "dict", .free "list", .free "tuple", .free "sorted", .free "range", .free "int", .free "str", .free "isinstance", .free "enumerate", .free "zip", .free "sum", .free "bool"]
def fa3 : List He.Fa := [.int "MOST" 1000000000, .int "LAST" 1000000000000, .int "LONGEST" 6, .int "MOST_STATEMENTS" 300, .int "MOST_MOMENT" 1000000000000, .int "MOST_TAKEN" 300, .int "MOST_FIGURES" 40, .str "LETTERS" "abcdefghijklmnopqrstuvwxyz", .str "FIGURES" "0123456789", .glo "OWN_WORDS", .glo "GONE", .glo "KINDS"]
def fa : List He.Fa := fa0 ++ fa1 ++ fa2 ++ fa3
def ownWords : List Str := ["order", "timer", "child", "send", "drop", "wait", "hear", "if", "else", "done", "while", "end", "none", "arg", "now", "answer", "not"]
def kinds : List (Str × List Str) := [("start", ["moment", "name", "worth"]), ("answer", ["moment", "number", "number", "worth"]), ("letter", ["moment", "number", "name", "worth"]), ("tick", ["moment"])]
/-- the tuple that the table at a holds under the text x, its items texts -/
def tabTup (K : PySem.W.Frag) (a : Addr) (x : Str) (vs : List Str) : Bool := match PySem.W.nsIn K a x with
  | some (some (.ref p)) => (match K.lookup p with
    | some ⟨.type c, _, .seq its _, _⟩ => decide (c = "tuple") && (decide (its.size ≤ sizeLine) && He.relAll (vs.map V.str) its.toList)
    | _ => false)
  | _ => false
def ex (K : PySem.W.Frag) : Bool := He.tupB K "OWN_WORDS" (ownWords.map He.Dv.str) && (He.tupB K "GONE" [.str "ended", .str "worn"] && (kinds.all fun q => tabTup K (He.ga K "KINDS") q.1 q.2))
def ts : List He.Tab := [(fun K => He.ga K "KINDS", ["start", "answer", "letter", "tick"])]

/-- what the top has written, as the defs use it -/
def Tx (w : World) (K : PySem.W.Frag) (mg : Str → Option Value) : Prop := ∃ h : Heap, K.In h ∧ h.Ns mainGlobals mg ∧ He.SaysT fa fn ts w K ∧ ex K = true
section
variable {w : World} {K : PySem.W.Frag} {mg : Str → Option Value} (T : Tx w K mg)
include T
theorem g_is_number : mg "is_number" = some (.ref (He.ga K "is_number")) := T.elim fun _ ⟨X, G, c, _⟩ => He.glo_ok X G (c.d.fact 0 rfl)
theorem g_is_worth : mg "is_worth" = some (.ref (He.ga K "is_worth")) := T.elim fun _ ⟨X, G, c, _⟩ => He.glo_ok X G (c.d.fact 1 rfl)
theorem g_is_moment : mg "is_moment" = some (.ref (He.ga K "is_moment")) := T.elim fun _ ⟨X, G, c, _⟩ => He.glo_ok X G (c.d.fact 2 rfl)
theorem g_is_name : mg "is_name" = some (.ref (He.ga K "is_name")) := T.elim fun _ ⟨X, G, c, _⟩ => He.glo_ok X G (c.d.fact 3 rfl)
theorem g_kept : mg "kept" = some (.ref (He.ga K "kept")) := T.elim fun _ ⟨X, G, c, _⟩ => He.glo_ok X G (c.d.fact 4 rfl)
theorem g_as_number : mg "as_number" = some (.ref (He.ga K "as_number")) := T.elim fun _ ⟨X, G, c, _⟩ => He.glo_ok X G (c.d.fact 5 rfl)
theorem g_joined_by : mg "joined_by" = some (.ref (He.ga K "joined_by")) := T.elim fun _ ⟨X, G, c, _⟩ => He.glo_ok X G (c.d.fact 6 rfl)
theorem g_worth_of : mg "worth_of" = some (.ref (He.ga K "worth_of")) := T.elim fun _ ⟨X, G, c, _⟩ => He.glo_ok X G (c.d.fact 7 rfl)
theorem g_is_true : mg "is_true" = some (.ref (He.ga K "is_true")) := T.elim fun _ ⟨X, G, c, _⟩ => He.glo_ok X G (c.d.fact 8 rfl)
theorem g_block_of : mg "block_of" = some (.ref (He.ga K "block_of")) := T.elim fun _ ⟨X, G, c, _⟩ => He.glo_ok X G (c.d.fact 9 rfl)
theorem g_show_part : mg "show_part" = some (.ref (He.ga K "show_part")) := T.elim fun _ ⟨X, G, c, _⟩ => He.glo_ok X G (c.d.fact 10 rfl)
theorem g_show_inputs : mg "show_inputs" = some (.ref (He.ga K "show_inputs")) := T.elim fun _ ⟨X, G, c, _⟩ => He.glo_ok X G (c.d.fact 11 rfl)
theorem g_number_in : mg "number_in" = some (.ref (He.ga K "number_in")) := T.elim fun _ ⟨X, G, c, _⟩ => He.glo_ok X G (c.d.fact 12 rfl)
theorem g_part_in : mg "part_in" = some (.ref (He.ga K "part_in")) := T.elim fun _ ⟨X, G, c, _⟩ => He.glo_ok X G (c.d.fact 13 rfl)
theorem g_input_in : mg "input_in" = some (.ref (He.ga K "input_in")) := T.elim fun _ ⟨X, G, c, _⟩ => He.glo_ok X G (c.d.fact 14 rfl)
theorem g_read_inputs : mg "read_inputs" = some (.ref (He.ga K "read_inputs")) := T.elim fun _ ⟨X, G, c, _⟩ => He.glo_ok X G (c.d.fact 15 rfl)
theorem g_keep_house : mg "keep_house" = some (.ref (He.ga K "keep_house")) := T.elim fun _ ⟨X, G, c, _⟩ => He.glo_ok X G (c.d.fact 16 rfl)
theorem g_come_up_house : mg "come_up_house" = some (.ref (He.ga K "come_up_house")) := T.elim fun _ ⟨X, G, c, _⟩ => He.glo_ok X G (c.d.fact 17 rfl)
theorem g__law_hand : mg "_law_hand" = some (.ref (He.ga K "_law_hand")) := T.elim fun _ ⟨X, G, c, _⟩ => He.glo_ok X G (c.d.fact 18 rfl)
theorem g__law_draw : mg "_law_draw" = some (.ref (He.ga K "_law_draw")) := T.elim fun _ ⟨X, G, c, _⟩ => He.glo_ok X G (c.d.fact 19 rfl)
theorem g__law_saying : mg "_law_saying" = some (.ref (He.ga K "_law_saying")) := T.elim fun _ ⟨X, G, c, _⟩ => He.glo_ok X G (c.d.fact 20 rfl)
theorem g__law_wanted : mg "_law_wanted" = some (.ref (He.ga K "_law_wanted")) := T.elim fun _ ⟨X, G, c, _⟩ => He.glo_ok X G (c.d.fact 21 rfl)
theorem g__law_plain : mg "_law_plain" = some (.ref (He.ga K "_law_plain")) := T.elim fun _ ⟨X, G, c, _⟩ => He.glo_ok X G (c.d.fact 22 rfl)
theorem g__law_statement : mg "_law_statement" = some (.ref (He.ga K "_law_statement")) := T.elim fun _ ⟨X, G, c, _⟩ => He.glo_ok X G (c.d.fact 23 rfl)
theorem g__law_block : mg "_law_block" = some (.ref (He.ga K "_law_block")) := T.elim fun _ ⟨X, G, c, _⟩ => He.glo_ok X G (c.d.fact 24 rfl)
theorem g__law_programs : mg "_law_programs" = some (.ref (He.ga K "_law_programs")) := T.elim fun _ ⟨X, G, c, _⟩ => He.glo_ok X G (c.d.fact 25 rfl)
theorem g__law_new : mg "_law_new" = some (.ref (He.ga K "_law_new")) := T.elim fun _ ⟨X, G, c, _⟩ => He.glo_ok X G (c.d.fact 26 rfl)
theorem g__law_there : mg "_law_there" = some (.ref (He.ga K "_law_there")) := T.elim fun _ ⟨X, G, c, _⟩ => He.glo_ok X G (c.d.fact 27 rfl)
theorem g__law_open : mg "_law_open" = some (.ref (He.ga K "_law_open")) := T.elim fun _ ⟨X, G, c, _⟩ => He.glo_ok X G (c.d.fact 28 rfl)
theorem g__law_made : mg "_law_made" = some (.ref (He.ga K "_law_made")) := T.elim fun _ ⟨X, G, c, _⟩ => He.glo_ok X G (c.d.fact 29 rfl)
theorem g__law_timers : mg "_law_timers" = some (.ref (He.ga K "_law_timers")) := T.elim fun _ ⟨X, G, c, _⟩ => He.glo_ok X G (c.d.fact 30 rfl)
theorem g__law_orders : mg "_law_orders" = some (.ref (He.ga K "_law_orders")) := T.elim fun _ ⟨X, G, c, _⟩ => He.glo_ok X G (c.d.fact 31 rfl)
theorem g__law_first : mg "_law_first" = some (.ref (He.ga K "_law_first")) := T.elim fun _ ⟨X, G, c, _⟩ => He.glo_ok X G (c.d.fact 32 rfl)
theorem g__law_follow : mg "_law_follow" = some (.ref (He.ga K "_law_follow")) := T.elim fun _ ⟨X, G, c, _⟩ => He.glo_ok X G (c.d.fact 33 rfl)
theorem g__law_in : mg "_law_in" = some (.ref (He.ga K "_law_in")) := T.elim fun _ ⟨X, G, c, _⟩ => He.glo_ok X G (c.d.fact 34 rfl)
theorem g__law_input : mg "_law_input" = some (.ref (He.ga K "_law_input")) := T.elim fun _ ⟨X, G, c, _⟩ => He.glo_ok X G (c.d.fact 35 rfl)
theorem g__law_all : mg "_law_all" = some (.ref (He.ga K "_law_all")) := T.elim fun _ ⟨X, G, c, _⟩ => He.glo_ok X G (c.d.fact 36 rfl)
theorem g__law_text : mg "_law_text" = some (.ref (He.ga K "_law_text")) := T.elim fun _ ⟨X, G, c, _⟩ => He.glo_ok X G (c.d.fact 37 rfl)
theorem g_law : mg "law" = some (.ref (He.ga K "law")) := T.elim fun _ ⟨X, G, c, _⟩ => He.glo_ok X G (c.d.fact 38 rfl)
theorem g_Run : mg "Run" = some (.ref (He.ga K "Run")) := T.elim fun _ ⟨X, G, c, _⟩ => He.glo_ok X G (c.d.fact 39 rfl)
theorem c_Run : Cls K (He.ga K "Run") := T.elim fun _ ⟨_, _, c, _⟩ => He.cls_ok (c.d.fact 40 rfl)
theorem mk_Run : Mk K (He.ga K "Run") (He.fAd K ("Run", some "__init__")) := T.elim fun _ ⟨_, _, c, _⟩ => He.mkr_ok (c.d.fact 41 rfl)
theorem n_Run_statements : NoAttr K (He.ga K "Run") "statements" := T.elim fun _ ⟨_, _, c, _⟩ => He.noat_ok (c.d.fact 42 rfl)
theorem n_Run_mode : NoAttr K (He.ga K "Run") "mode" := T.elim fun _ ⟨_, _, c, _⟩ => He.noat_ok (c.d.fact 43 rfl)
theorem n_Run_path : NoAttr K (He.ga K "Run") "path" := T.elim fun _ ⟨_, _, c, _⟩ => He.noat_ok (c.d.fact 44 rfl)
theorem n_Run_known : NoAttr K (He.ga K "Run") "known" := T.elim fun _ ⟨_, _, c, _⟩ => He.noat_ok (c.d.fact 45 rfl)
theorem n_Run_arg : NoAttr K (He.ga K "Run") "arg" := T.elim fun _ ⟨_, _, c, _⟩ => He.noat_ok (c.d.fact 46 rfl)
theorem n_Run_today : NoAttr K (He.ga K "Run") "today" := T.elim fun _ ⟨_, _, c, _⟩ => He.noat_ok (c.d.fact 47 rfl)
theorem n_Run_made : NoAttr K (He.ga K "Run") "made" := T.elim fun _ ⟨_, _, c, _⟩ => He.noat_ok (c.d.fact 48 rfl)
theorem n_Run_not_done : NoAttr K (He.ga K "Run") "not_done" := T.elim fun _ ⟨_, _, c, _⟩ => He.noat_ok (c.d.fact 49 rfl)
theorem n_Run_answered : NoAttr K (He.ga K "Run") "answered" := T.elim fun _ ⟨_, _, c, _⟩ => He.noat_ok (c.d.fact 50 rfl)
theorem n_Run_heard : NoAttr K (He.ga K "Run") "heard" := T.elim fun _ ⟨_, _, c, _⟩ => He.noat_ok (c.d.fact 51 rfl)
theorem n_Run_awaited : NoAttr K (He.ga K "Run") "awaited" := T.elim fun _ ⟨_, _, c, _⟩ => He.noat_ok (c.d.fact 52 rfl)
theorem n_Run_outcome : NoAttr K (He.ga K "Run") "outcome" := T.elim fun _ ⟨_, _, c, _⟩ => He.noat_ok (c.d.fact 53 rfl)
theorem n_Run_orders : NoAttr K (He.ga K "Run") "orders" := T.elim fun _ ⟨_, _, c, _⟩ => He.noat_ok (c.d.fact 54 rfl)
theorem n_Run_steps : NoAttr K (He.ga K "Run") "steps" := T.elim fun _ ⟨_, _, c, _⟩ => He.noat_ok (c.d.fact 55 rfl)
theorem m_Run_take : Meth K (He.ga K "Run") "take" (He.fAd K ("Run", some "take")) := T.elim fun _ ⟨_, _, c, _⟩ => He.meth_ok (c.d.fact 56 rfl)
theorem m_Run_take_done : Meth K (He.ga K "Run") "take_done" (He.fAd K ("Run", some "take_done")) := T.elim fun _ ⟨_, _, c, _⟩ => He.meth_ok (c.d.fact 57 rfl)
theorem m_Run_take_letter : Meth K (He.ga K "Run") "take_letter" (He.fAd K ("Run", some "take_letter")) := T.elim fun _ ⟨_, _, c, _⟩ => He.meth_ok (c.d.fact 58 rfl)
theorem m_Run_first_letter : Meth K (He.ga K "Run") "first_letter" (He.fAd K ("Run", some "first_letter")) := T.elim fun _ ⟨_, _, c, _⟩ => He.meth_ok (c.d.fact 59 rfl)
theorem m_Run_statement_here : Meth K (He.ga K "Run") "statement_here" (He.fAd K ("Run", some "statement_here")) := T.elim fun _ ⟨_, _, c, _⟩ => He.meth_ok (c.d.fact 60 rfl)
theorem m_Run_go_behind : Meth K (He.ga K "Run") "go_behind" (He.fAd K ("Run", some "go_behind")) := T.elim fun _ ⟨_, _, c, _⟩ => He.meth_ok (c.d.fact 61 rfl)
theorem m_Run_says : Meth K (He.ga K "Run") "says" (He.fAd K ("Run", some "says")) := T.elim fun _ ⟨_, _, c, _⟩ => He.meth_ok (c.d.fact 62 rfl)
theorem m_Run_go_on : Meth K (He.ga K "Run") "go_on" (He.fAd K ("Run", some "go_on")) := T.elim fun _ ⟨_, _, c, _⟩ => He.meth_ok (c.d.fact 63 rfl)
theorem m_Run_do_next : Meth K (He.ga K "Run") "do_next" (He.fAd K ("Run", some "do_next")) := T.elim fun _ ⟨_, _, c, _⟩ => He.meth_ok (c.d.fact 64 rfl)
theorem m_Run_do_look : Meth K (He.ga K "Run") "do_look" (He.fAd K ("Run", some "do_look")) := T.elim fun _ ⟨_, _, c, _⟩ => He.meth_ok (c.d.fact 65 rfl)
theorem m_Run_do_wait : Meth K (He.ga K "Run") "do_wait" (He.fAd K ("Run", some "do_wait")) := T.elim fun _ ⟨_, _, c, _⟩ => He.meth_ok (c.d.fact 66 rfl)
theorem m_Run_do_hear : Meth K (He.ga K "Run") "do_hear" (He.fAd K ("Run", some "do_hear")) := T.elim fun _ ⟨_, _, c, _⟩ => He.meth_ok (c.d.fact 67 rfl)
theorem m_Run_do_end : Meth K (He.ga K "Run") "do_end" (He.fAd K ("Run", some "do_end")) := T.elim fun _ ⟨_, _, c, _⟩ => He.meth_ok (c.d.fact 68 rfl)
theorem m_Run_do_plain : Meth K (He.ga K "Run") "do_plain" (He.fAd K ("Run", some "do_plain")) := T.elim fun _ ⟨_, _, c, _⟩ => He.meth_ok (c.d.fact 69 rfl)
theorem m_Run_new_ticket : Meth K (He.ga K "Run") "new_ticket" (He.fAd K ("Run", some "new_ticket")) := T.elim fun _ ⟨_, _, c, _⟩ => He.meth_ok (c.d.fact 70 rfl)
theorem m_Run_do_drop : Meth K (He.ga K "Run") "do_drop" (He.fAd K ("Run", some "do_drop")) := T.elim fun _ ⟨_, _, c, _⟩ => He.meth_ok (c.d.fact 71 rfl)
theorem m_Run_waits : Meth K (He.ga K "Run") "waits" (He.fAd K ("Run", some "waits")) := T.elim fun _ ⟨_, _, c, _⟩ => He.meth_ok (c.d.fact 72 rfl)
theorem m_Run_open_tickets : Meth K (He.ga K "Run") "open_tickets" (He.fAd K ("Run", some "open_tickets")) := T.elim fun _ ⟨_, _, c, _⟩ => He.meth_ok (c.d.fact 73 rfl)
theorem g_House : mg "House" = some (.ref (He.ga K "House")) := T.elim fun _ ⟨X, G, c, _⟩ => He.glo_ok X G (c.d.fact 74 rfl)
theorem c_House : Cls K (He.ga K "House") := T.elim fun _ ⟨_, _, c, _⟩ => He.cls_ok (c.d.fact 75 rfl)
theorem mk_House : Mk K (He.ga K "House") (He.fAd K ("House", some "__init__")) := T.elim fun _ ⟨_, _, c, _⟩ => He.mkr_ok (c.d.fact 76 rfl)
theorem n_House_programs : NoAttr K (He.ga K "House") "programs" := T.elim fun _ ⟨_, _, c, _⟩ => He.noat_ok (c.d.fact 77 rfl)
theorem n_House_now : NoAttr K (He.ga K "House") "now" := T.elim fun _ ⟨_, _, c, _⟩ => He.noat_ok (c.d.fact 78 rfl)
theorem n_House_came : NoAttr K (He.ga K "House") "came" := T.elim fun _ ⟨_, _, c, _⟩ => He.noat_ok (c.d.fact 79 rfl)
theorem n_House_all_runs : NoAttr K (He.ga K "House") "all_runs" := T.elim fun _ ⟨_, _, c, _⟩ => He.noat_ok (c.d.fact 80 rfl)
theorem n_House_names_of : NoAttr K (He.ga K "House") "names_of" := T.elim fun _ ⟨_, _, c, _⟩ => He.noat_ok (c.d.fact 81 rfl)
theorem n_House_begun_by : NoAttr K (He.ga K "House") "begun_by" := T.elim fun _ ⟨_, _, c, _⟩ => He.noat_ok (c.d.fact 82 rfl)
theorem n_House_happened : NoAttr K (He.ga K "House") "happened" := T.elim fun _ ⟨_, _, c, _⟩ => He.noat_ok (c.d.fact 83 rfl)
theorem n_House_orders : NoAttr K (He.ga K "House") "orders" := T.elim fun _ ⟨_, _, c, _⟩ => He.noat_ok (c.d.fact 84 rfl)
theorem n_House_timers : NoAttr K (He.ga K "House") "timers" := T.elim fun _ ⟨_, _, c, _⟩ => He.noat_ok (c.d.fact 85 rfl)
theorem m_House_moment : Meth K (He.ga K "House") "moment" (He.fAd K ("House", some "moment")) := T.elim fun _ ⟨_, _, c, _⟩ => He.meth_ok (c.d.fact 86 rfl)
theorem m_House_inputs : Meth K (He.ga K "House") "inputs" (He.fAd K ("House", some "inputs")) := T.elim fun _ ⟨_, _, c, _⟩ => He.meth_ok (c.d.fact 87 rfl)
theorem m_House_runs : Meth K (He.ga K "House") "runs" (He.fAd K ("House", some "runs")) := T.elim fun _ ⟨_, _, c, _⟩ => He.meth_ok (c.d.fact 88 rfl)
theorem m_House_need_run : Meth K (He.ga K "House") "need_run" (He.fAd K ("House", some "need_run")) := T.elim fun _ ⟨_, _, c, _⟩ => He.meth_ok (c.d.fact 89 rfl)
theorem m_House_program_of : Meth K (He.ga K "House") "program_of" (He.fAd K ("House", some "program_of")) := T.elim fun _ ⟨_, _, c, _⟩ => He.meth_ok (c.d.fact 90 rfl)
theorem m_House_waits : Meth K (He.ga K "House") "waits" (He.fAd K ("House", some "waits")) := T.elim fun _ ⟨_, _, c, _⟩ => He.meth_ok (c.d.fact 91 rfl)
theorem m_House_taken : Meth K (He.ga K "House") "taken" (He.fAd K ("House", some "taken")) := T.elim fun _ ⟨_, _, c, _⟩ => He.meth_ok (c.d.fact 92 rfl)
theorem m_House_parent : Meth K (He.ga K "House") "parent" (He.fAd K ("House", some "parent")) := T.elim fun _ ⟨_, _, c, _⟩ => He.meth_ok (c.d.fact 93 rfl)
theorem m_House_is_there : Meth K (He.ga K "House") "is_there" (He.fAd K ("House", some "is_there")) := T.elim fun _ ⟨_, _, c, _⟩ => He.meth_ok (c.d.fact 94 rfl)
theorem m_House_is_open : Meth K (He.ga K "House") "is_open" (He.fAd K ("House", some "is_open")) := T.elim fun _ ⟨_, _, c, _⟩ => He.meth_ok (c.d.fact 95 rfl)
theorem m_House_open_orders : Meth K (He.ga K "House") "open_orders" (He.fAd K ("House", some "open_orders")) := T.elim fun _ ⟨_, _, c, _⟩ => He.meth_ok (c.d.fact 96 rfl)
theorem m_House_open_timers : Meth K (He.ga K "House") "open_timers" (He.fAd K ("House", some "open_timers")) := T.elim fun _ ⟨_, _, c, _⟩ => He.meth_ok (c.d.fact 97 rfl)
theorem m_House_next_due : Meth K (He.ga K "House") "next_due" (He.fAd K ("House", some "next_due")) := T.elim fun _ ⟨_, _, c, _⟩ => He.meth_ok (c.d.fact 98 rfl)
theorem m_House_new_run : Meth K (He.ga K "House") "new_run" (He.fAd K ("House", some "new_run")) := T.elim fun _ ⟨_, _, c, _⟩ => He.meth_ok (c.d.fact 99 rfl)
theorem m_House_first_row : Meth K (He.ga K "House") "first_row" (He.fAd K ("House", some "first_row")) := T.elim fun _ ⟨_, _, c, _⟩ => He.meth_ok (c.d.fact 100 rfl)
theorem m_House_take : Meth K (He.ga K "House") "take" (He.fAd K ("House", some "take")) := T.elim fun _ ⟨_, _, c, _⟩ => He.meth_ok (c.d.fact 101 rfl)
theorem m_House_follow : Meth K (He.ga K "House") "follow" (He.fAd K ("House", some "follow")) := T.elim fun _ ⟨_, _, c, _⟩ => He.meth_ok (c.d.fact 102 rfl)
theorem m_House_beget : Meth K (He.ga K "House") "beget" (He.fAd K ("House", some "beget")) := T.elim fun _ ⟨_, _, c, _⟩ => He.meth_ok (c.d.fact 103 rfl)
theorem m_House_send : Meth K (He.ga K "House") "send" (He.fAd K ("House", some "send")) := T.elim fun _ ⟨_, _, c, _⟩ => He.meth_ok (c.d.fact 104 rfl)
theorem z_len : mg "len" = none := T.elim fun _ ⟨X, G, c, _⟩ => He.free_ok X G (c.d.fact 105 rfl)
theorem z_max : mg "max" = none := T.elim fun _ ⟨X, G, c, _⟩ => He.free_ok X G (c.d.fact 106 rfl)
theorem z_min : mg "min" = none := T.elim fun _ ⟨X, G, c, _⟩ => He.free_ok X G (c.d.fact 107 rfl)
theorem z_dict : mg "dict" = none := T.elim fun _ ⟨X, G, c, _⟩ => He.free_ok X G (c.d.fact 108 rfl)
theorem z_list : mg "list" = none := T.elim fun _ ⟨X, G, c, _⟩ => He.free_ok X G (c.d.fact 109 rfl)
theorem z_tuple : mg "tuple" = none := T.elim fun _ ⟨X, G, c, _⟩ => He.free_ok X G (c.d.fact 110 rfl)
theorem z_sorted : mg "sorted" = none := T.elim fun _ ⟨X, G, c, _⟩ => He.free_ok X G (c.d.fact 111 rfl)
theorem z_range : mg "range" = none := T.elim fun _ ⟨X, G, c, _⟩ => He.free_ok X G (c.d.fact 112 rfl)
theorem z_int : mg "int" = none := T.elim fun _ ⟨X, G, c, _⟩ => He.free_ok X G (c.d.fact 113 rfl)
theorem z_str : mg "str" = none := T.elim fun _ ⟨X, G, c, _⟩ => He.free_ok X G (c.d.fact 114 rfl)
theorem z_isinstance : mg "isinstance" = none := T.elim fun _ ⟨X, G, c, _⟩ => He.free_ok X G (c.d.fact 115 rfl)
theorem z_enumerate : mg "enumerate" = none := T.elim fun _ ⟨X, G, c, _⟩ => He.free_ok X G (c.d.fact 116 rfl)
theorem z_zip : mg "zip" = none := T.elim fun _ ⟨X, G, c, _⟩ => He.free_ok X G (c.d.fact 117 rfl)
theorem z_sum : mg "sum" = none := T.elim fun _ ⟨X, G, c, _⟩ => He.free_ok X G (c.d.fact 118 rfl)
theorem z_bool : mg "bool" = none := T.elim fun _ ⟨X, G, c, _⟩ => He.free_ok X G (c.d.fact 119 rfl)
theorem i_MOST : ∃ t, mg "MOST" = some (.int 1000000000 t) := T.elim fun _ ⟨X, G, c, _⟩ => He.int_ok X G (c.d.fact 120 rfl)
theorem i_LAST : ∃ t, mg "LAST" = some (.int 1000000000000 t) := T.elim fun _ ⟨X, G, c, _⟩ => He.int_ok X G (c.d.fact 121 rfl)
theorem i_LONGEST : ∃ t, mg "LONGEST" = some (.int 6 t) := T.elim fun _ ⟨X, G, c, _⟩ => He.int_ok X G (c.d.fact 122 rfl)
theorem i_MOST_STATEMENTS : ∃ t, mg "MOST_STATEMENTS" = some (.int 300 t) := T.elim fun _ ⟨X, G, c, _⟩ => He.int_ok X G (c.d.fact 123 rfl)
theorem i_MOST_MOMENT : ∃ t, mg "MOST_MOMENT" = some (.int 1000000000000 t) := T.elim fun _ ⟨X, G, c, _⟩ => He.int_ok X G (c.d.fact 124 rfl)
theorem i_MOST_TAKEN : ∃ t, mg "MOST_TAKEN" = some (.int 300 t) := T.elim fun _ ⟨X, G, c, _⟩ => He.int_ok X G (c.d.fact 125 rfl)
theorem i_MOST_FIGURES : ∃ t, mg "MOST_FIGURES" = some (.int 40 t) := T.elim fun _ ⟨X, G, c, _⟩ => He.int_ok X G (c.d.fact 126 rfl)
theorem i_LETTERS : ∃ t, mg "LETTERS" = some (.str "abcdefghijklmnopqrstuvwxyz" t) := T.elim fun _ ⟨X, G, c, _⟩ => He.str_ok X G (c.d.fact 127 rfl)
theorem i_FIGURES : ∃ t, mg "FIGURES" = some (.str "0123456789" t) := T.elim fun _ ⟨X, G, c, _⟩ => He.str_ok X G (c.d.fact 128 rfl)
theorem g_OWN_WORDS : mg "OWN_WORDS" = some (.ref (He.ga K "OWN_WORDS")) := T.elim fun _ ⟨X, G, c, _⟩ => He.glo_ok X G (c.d.fact 129 rfl)
theorem g_GONE : mg "GONE" = some (.ref (He.ga K "GONE")) := T.elim fun _ ⟨X, G, c, _⟩ => He.glo_ok X G (c.d.fact 130 rfl)
theorem g_KINDS : mg "KINDS" = some (.ref (He.ga K "KINDS")) := T.elim fun _ ⟨X, G, c, _⟩ => He.glo_ok X G (c.d.fact 131 rfl)
theorem F_is_number : ∃ fd, FunD K d_is_number.name d_is_number.qual d_is_number.params d_is_number.body d_is_number.scope [] [] (He.fAd K d_is_number.at_) fd := T.elim fun _ ⟨_, _, c, _⟩ => c.d.def_ 0 rfl
theorem F_is_worth : ∃ fd, FunD K d_is_worth.name d_is_worth.qual d_is_worth.params d_is_worth.body d_is_worth.scope [] [] (He.fAd K d_is_worth.at_) fd := T.elim fun _ ⟨_, _, c, _⟩ => c.d.def_ 1 rfl
theorem F_is_moment : ∃ fd, FunD K d_is_moment.name d_is_moment.qual d_is_moment.params d_is_moment.body d_is_moment.scope [] [] (He.fAd K d_is_moment.at_) fd := T.elim fun _ ⟨_, _, c, _⟩ => c.d.def_ 2 rfl
theorem F_is_name : ∃ fd, FunD K d_is_name.name d_is_name.qual d_is_name.params d_is_name.body d_is_name.scope [] [] (He.fAd K d_is_name.at_) fd := T.elim fun _ ⟨_, _, c, _⟩ => c.d.def_ 3 rfl
theorem F_kept : ∃ fd, FunD K d_kept.name d_kept.qual d_kept.params d_kept.body d_kept.scope [] [] (He.fAd K d_kept.at_) fd := T.elim fun _ ⟨_, _, c, _⟩ => c.d.def_ 4 rfl
theorem F_as_number : ∃ fd, FunD K d_as_number.name d_as_number.qual d_as_number.params d_as_number.body d_as_number.scope [] [] (He.fAd K d_as_number.at_) fd := T.elim fun _ ⟨_, _, c, _⟩ => c.d.def_ 5 rfl
theorem F_joined_by : ∃ fd, FunD K d_joined_by.name d_joined_by.qual d_joined_by.params d_joined_by.body d_joined_by.scope [] [] (He.fAd K d_joined_by.at_) fd := T.elim fun _ ⟨_, _, c, _⟩ => c.d.def_ 6 rfl
theorem F_worth_of : ∃ fd, FunD K d_worth_of.name d_worth_of.qual d_worth_of.params d_worth_of.body d_worth_of.scope [] [] (He.fAd K d_worth_of.at_) fd := T.elim fun _ ⟨_, _, c, _⟩ => c.d.def_ 7 rfl
theorem F_is_true : ∃ fd, FunD K d_is_true.name d_is_true.qual d_is_true.params d_is_true.body d_is_true.scope [] [] (He.fAd K d_is_true.at_) fd := T.elim fun _ ⟨_, _, c, _⟩ => c.d.def_ 8 rfl
theorem F_block_of : ∃ fd, FunD K d_block_of.name d_block_of.qual d_block_of.params d_block_of.body d_block_of.scope [] [] (He.fAd K d_block_of.at_) fd := T.elim fun _ ⟨_, _, c, _⟩ => c.d.def_ 9 rfl
theorem F_Run___init__ : ∃ fd, FunD K d_Run___init__.name d_Run___init__.qual d_Run___init__.params d_Run___init__.body d_Run___init__.scope [] [] (He.fAd K d_Run___init__.at_) fd := T.elim fun _ ⟨_, _, c, _⟩ => c.d.def_ 10 rfl
theorem F_Run_take : ∃ fd, FunD K d_Run_take.name d_Run_take.qual d_Run_take.params d_Run_take.body d_Run_take.scope [] [] (He.fAd K d_Run_take.at_) fd := T.elim fun _ ⟨_, _, c, _⟩ => c.d.def_ 11 rfl
theorem F_Run_take_done : ∃ fd, FunD K d_Run_take_done.name d_Run_take_done.qual d_Run_take_done.params d_Run_take_done.body d_Run_take_done.scope [] [] (He.fAd K d_Run_take_done.at_) fd := T.elim fun _ ⟨_, _, c, _⟩ => c.d.def_ 12 rfl
theorem F_Run_take_letter : ∃ fd, FunD K d_Run_take_letter.name d_Run_take_letter.qual d_Run_take_letter.params d_Run_take_letter.body d_Run_take_letter.scope [] [] (He.fAd K d_Run_take_letter.at_) fd := T.elim fun _ ⟨_, _, c, _⟩ => c.d.def_ 13 rfl
theorem F_Run_first_letter : ∃ fd, FunD K d_Run_first_letter.name d_Run_first_letter.qual d_Run_first_letter.params d_Run_first_letter.body d_Run_first_letter.scope [] [] (He.fAd K d_Run_first_letter.at_) fd := T.elim fun _ ⟨_, _, c, _⟩ => c.d.def_ 14 rfl
theorem F_Run_statement_here : ∃ fd, FunD K d_Run_statement_here.name d_Run_statement_here.qual d_Run_statement_here.params d_Run_statement_here.body d_Run_statement_here.scope [] [] (He.fAd K d_Run_statement_here.at_) fd := T.elim fun _ ⟨_, _, c, _⟩ => c.d.def_ 15 rfl
theorem F_Run_go_behind : ∃ fd, FunD K d_Run_go_behind.name d_Run_go_behind.qual d_Run_go_behind.params d_Run_go_behind.body d_Run_go_behind.scope [] [] (He.fAd K d_Run_go_behind.at_) fd := T.elim fun _ ⟨_, _, c, _⟩ => c.d.def_ 16 rfl
theorem F_Run_says : ∃ fd, FunD K d_Run_says.name d_Run_says.qual d_Run_says.params d_Run_says.body d_Run_says.scope [] [] (He.fAd K d_Run_says.at_) fd := T.elim fun _ ⟨_, _, c, _⟩ => c.d.def_ 17 rfl
theorem F_Run_go_on : ∃ fd, FunD K d_Run_go_on.name d_Run_go_on.qual d_Run_go_on.params d_Run_go_on.body d_Run_go_on.scope [] [] (He.fAd K d_Run_go_on.at_) fd := T.elim fun _ ⟨_, _, c, _⟩ => c.d.def_ 18 rfl
theorem F_Run_do_next : ∃ fd, FunD K d_Run_do_next.name d_Run_do_next.qual d_Run_do_next.params d_Run_do_next.body d_Run_do_next.scope [] [] (He.fAd K d_Run_do_next.at_) fd := T.elim fun _ ⟨_, _, c, _⟩ => c.d.def_ 19 rfl
theorem F_Run_do_look : ∃ fd, FunD K d_Run_do_look.name d_Run_do_look.qual d_Run_do_look.params d_Run_do_look.body d_Run_do_look.scope [] [] (He.fAd K d_Run_do_look.at_) fd := T.elim fun _ ⟨_, _, c, _⟩ => c.d.def_ 20 rfl
theorem F_Run_do_wait : ∃ fd, FunD K d_Run_do_wait.name d_Run_do_wait.qual d_Run_do_wait.params d_Run_do_wait.body d_Run_do_wait.scope [] [] (He.fAd K d_Run_do_wait.at_) fd := T.elim fun _ ⟨_, _, c, _⟩ => c.d.def_ 21 rfl
theorem F_Run_do_hear : ∃ fd, FunD K d_Run_do_hear.name d_Run_do_hear.qual d_Run_do_hear.params d_Run_do_hear.body d_Run_do_hear.scope [] [] (He.fAd K d_Run_do_hear.at_) fd := T.elim fun _ ⟨_, _, c, _⟩ => c.d.def_ 22 rfl
theorem F_Run_do_end : ∃ fd, FunD K d_Run_do_end.name d_Run_do_end.qual d_Run_do_end.params d_Run_do_end.body d_Run_do_end.scope [] [] (He.fAd K d_Run_do_end.at_) fd := T.elim fun _ ⟨_, _, c, _⟩ => c.d.def_ 23 rfl
theorem F_Run_do_plain : ∃ fd, FunD K d_Run_do_plain.name d_Run_do_plain.qual d_Run_do_plain.params d_Run_do_plain.body d_Run_do_plain.scope [] [] (He.fAd K d_Run_do_plain.at_) fd := T.elim fun _ ⟨_, _, c, _⟩ => c.d.def_ 24 rfl
theorem F_Run_new_ticket : ∃ fd, FunD K d_Run_new_ticket.name d_Run_new_ticket.qual d_Run_new_ticket.params d_Run_new_ticket.body d_Run_new_ticket.scope [] [] (He.fAd K d_Run_new_ticket.at_) fd := T.elim fun _ ⟨_, _, c, _⟩ => c.d.def_ 25 rfl
theorem F_Run_do_drop : ∃ fd, FunD K d_Run_do_drop.name d_Run_do_drop.qual d_Run_do_drop.params d_Run_do_drop.body d_Run_do_drop.scope [] [] (He.fAd K d_Run_do_drop.at_) fd := T.elim fun _ ⟨_, _, c, _⟩ => c.d.def_ 26 rfl
theorem F_Run_waits : ∃ fd, FunD K d_Run_waits.name d_Run_waits.qual d_Run_waits.params d_Run_waits.body d_Run_waits.scope [] [] (He.fAd K d_Run_waits.at_) fd := T.elim fun _ ⟨_, _, c, _⟩ => c.d.def_ 27 rfl
theorem F_Run_open_tickets : ∃ fd, FunD K d_Run_open_tickets.name d_Run_open_tickets.qual d_Run_open_tickets.params d_Run_open_tickets.body d_Run_open_tickets.scope [] [] (He.fAd K d_Run_open_tickets.at_) fd := T.elim fun _ ⟨_, _, c, _⟩ => c.d.def_ 28 rfl
theorem F_House___init__ : ∃ fd, FunD K d_House___init__.name d_House___init__.qual d_House___init__.params d_House___init__.body d_House___init__.scope [] [] (He.fAd K d_House___init__.at_) fd := T.elim fun _ ⟨_, _, c, _⟩ => c.d.def_ 29 rfl
theorem F_House_moment : ∃ fd, FunD K d_House_moment.name d_House_moment.qual d_House_moment.params d_House_moment.body d_House_moment.scope [] [] (He.fAd K d_House_moment.at_) fd := T.elim fun _ ⟨_, _, c, _⟩ => c.d.def_ 30 rfl
theorem F_House_inputs : ∃ fd, FunD K d_House_inputs.name d_House_inputs.qual d_House_inputs.params d_House_inputs.body d_House_inputs.scope [] [] (He.fAd K d_House_inputs.at_) fd := T.elim fun _ ⟨_, _, c, _⟩ => c.d.def_ 31 rfl
theorem F_House_runs : ∃ fd, FunD K d_House_runs.name d_House_runs.qual d_House_runs.params d_House_runs.body d_House_runs.scope [] [] (He.fAd K d_House_runs.at_) fd := T.elim fun _ ⟨_, _, c, _⟩ => c.d.def_ 32 rfl
theorem F_House_need_run : ∃ fd, FunD K d_House_need_run.name d_House_need_run.qual d_House_need_run.params d_House_need_run.body d_House_need_run.scope [] [] (He.fAd K d_House_need_run.at_) fd := T.elim fun _ ⟨_, _, c, _⟩ => c.d.def_ 33 rfl
theorem F_House_program_of : ∃ fd, FunD K d_House_program_of.name d_House_program_of.qual d_House_program_of.params d_House_program_of.body d_House_program_of.scope [] [] (He.fAd K d_House_program_of.at_) fd := T.elim fun _ ⟨_, _, c, _⟩ => c.d.def_ 34 rfl
theorem F_House_waits : ∃ fd, FunD K d_House_waits.name d_House_waits.qual d_House_waits.params d_House_waits.body d_House_waits.scope [] [] (He.fAd K d_House_waits.at_) fd := T.elim fun _ ⟨_, _, c, _⟩ => c.d.def_ 35 rfl
theorem F_House_taken : ∃ fd, FunD K d_House_taken.name d_House_taken.qual d_House_taken.params d_House_taken.body d_House_taken.scope [] [] (He.fAd K d_House_taken.at_) fd := T.elim fun _ ⟨_, _, c, _⟩ => c.d.def_ 36 rfl
theorem F_House_parent : ∃ fd, FunD K d_House_parent.name d_House_parent.qual d_House_parent.params d_House_parent.body d_House_parent.scope [] [] (He.fAd K d_House_parent.at_) fd := T.elim fun _ ⟨_, _, c, _⟩ => c.d.def_ 37 rfl
theorem F_House_is_there : ∃ fd, FunD K d_House_is_there.name d_House_is_there.qual d_House_is_there.params d_House_is_there.body d_House_is_there.scope [] [] (He.fAd K d_House_is_there.at_) fd := T.elim fun _ ⟨_, _, c, _⟩ => c.d.def_ 38 rfl
theorem F_House_is_open : ∃ fd, FunD K d_House_is_open.name d_House_is_open.qual d_House_is_open.params d_House_is_open.body d_House_is_open.scope [] [] (He.fAd K d_House_is_open.at_) fd := T.elim fun _ ⟨_, _, c, _⟩ => c.d.def_ 39 rfl
theorem F_House_open_orders : ∃ fd, FunD K d_House_open_orders.name d_House_open_orders.qual d_House_open_orders.params d_House_open_orders.body d_House_open_orders.scope [] [] (He.fAd K d_House_open_orders.at_) fd := T.elim fun _ ⟨_, _, c, _⟩ => c.d.def_ 40 rfl
theorem F_House_open_timers : ∃ fd, FunD K d_House_open_timers.name d_House_open_timers.qual d_House_open_timers.params d_House_open_timers.body d_House_open_timers.scope [] [] (He.fAd K d_House_open_timers.at_) fd := T.elim fun _ ⟨_, _, c, _⟩ => c.d.def_ 41 rfl
theorem F_House_next_due : ∃ fd, FunD K d_House_next_due.name d_House_next_due.qual d_House_next_due.params d_House_next_due.body d_House_next_due.scope [] [] (He.fAd K d_House_next_due.at_) fd := T.elim fun _ ⟨_, _, c, _⟩ => c.d.def_ 42 rfl
theorem F_House_new_run : ∃ fd, FunD K d_House_new_run.name d_House_new_run.qual d_House_new_run.params d_House_new_run.body d_House_new_run.scope [] [] (He.fAd K d_House_new_run.at_) fd := T.elim fun _ ⟨_, _, c, _⟩ => c.d.def_ 43 rfl
theorem F_House_first_row : ∃ fd, FunD K d_House_first_row.name d_House_first_row.qual d_House_first_row.params d_House_first_row.body d_House_first_row.scope [] [] (He.fAd K d_House_first_row.at_) fd := T.elim fun _ ⟨_, _, c, _⟩ => c.d.def_ 44 rfl
theorem F_House_take : ∃ fd, FunD K d_House_take.name d_House_take.qual d_House_take.params d_House_take.body d_House_take.scope [] [] (He.fAd K d_House_take.at_) fd := T.elim fun _ ⟨_, _, c, _⟩ => c.d.def_ 45 rfl
theorem F_House_follow : ∃ fd, FunD K d_House_follow.name d_House_follow.qual d_House_follow.params d_House_follow.body d_House_follow.scope [] [] (He.fAd K d_House_follow.at_) fd := T.elim fun _ ⟨_, _, c, _⟩ => c.d.def_ 46 rfl
theorem F_House_beget : ∃ fd, FunD K d_House_beget.name d_House_beget.qual d_House_beget.params d_House_beget.body d_House_beget.scope [] [] (He.fAd K d_House_beget.at_) fd := T.elim fun _ ⟨_, _, c, _⟩ => c.d.def_ 47 rfl
theorem F_House_send : ∃ fd, FunD K d_House_send.name d_House_send.qual d_House_send.params d_House_send.body d_House_send.scope [] [] (He.fAd K d_House_send.at_) fd := T.elim fun _ ⟨_, _, c, _⟩ => c.d.def_ 48 rfl
theorem F_show_part : ∃ fd, FunD K d_show_part.name d_show_part.qual d_show_part.params d_show_part.body d_show_part.scope [] [] (He.fAd K d_show_part.at_) fd := T.elim fun _ ⟨_, _, c, _⟩ => c.d.def_ 49 rfl
theorem F_show_inputs : ∃ fd, FunD K d_show_inputs.name d_show_inputs.qual d_show_inputs.params d_show_inputs.body d_show_inputs.scope [] [] (He.fAd K d_show_inputs.at_) fd := T.elim fun _ ⟨_, _, c, _⟩ => c.d.def_ 50 rfl
theorem F_number_in : ∃ fd, FunD K d_number_in.name d_number_in.qual d_number_in.params d_number_in.body d_number_in.scope [] [] (He.fAd K d_number_in.at_) fd := T.elim fun _ ⟨_, _, c, _⟩ => c.d.def_ 51 rfl
theorem F_part_in : ∃ fd, FunD K d_part_in.name d_part_in.qual d_part_in.params d_part_in.body d_part_in.scope [] [] (He.fAd K d_part_in.at_) fd := T.elim fun _ ⟨_, _, c, _⟩ => c.d.def_ 52 rfl
theorem F_input_in : ∃ fd, FunD K d_input_in.name d_input_in.qual d_input_in.params d_input_in.body d_input_in.scope [] [] (He.fAd K d_input_in.at_) fd := T.elim fun _ ⟨_, _, c, _⟩ => c.d.def_ 53 rfl
theorem F_read_inputs : ∃ fd, FunD K d_read_inputs.name d_read_inputs.qual d_read_inputs.params d_read_inputs.body d_read_inputs.scope [] [] (He.fAd K d_read_inputs.at_) fd := T.elim fun _ ⟨_, _, c, _⟩ => c.d.def_ 54 rfl
theorem F_keep_house : ∃ fd, FunD K d_keep_house.name d_keep_house.qual d_keep_house.params d_keep_house.body d_keep_house.scope [] [] (He.fAd K d_keep_house.at_) fd := T.elim fun _ ⟨_, _, c, _⟩ => c.d.def_ 55 rfl
theorem F_come_up_house : ∃ fd, FunD K d_come_up_house.name d_come_up_house.qual d_come_up_house.params d_come_up_house.body d_come_up_house.scope [] [] (He.fAd K d_come_up_house.at_) fd := T.elim fun _ ⟨_, _, c, _⟩ => c.d.def_ 56 rfl
theorem F__law_hand : ∃ fd, FunD K d__law_hand.name d__law_hand.qual d__law_hand.params d__law_hand.body d__law_hand.scope [] [] (He.fAd K d__law_hand.at_) fd := T.elim fun _ ⟨_, _, c, _⟩ => c.d.def_ 57 rfl
theorem F__law_draw : ∃ fd, FunD K d__law_draw.name d__law_draw.qual d__law_draw.params d__law_draw.body d__law_draw.scope [] [] (He.fAd K d__law_draw.at_) fd := T.elim fun _ ⟨_, _, c, _⟩ => c.d.def_ 58 rfl
theorem F__law_saying : ∃ fd, FunD K d__law_saying.name d__law_saying.qual d__law_saying.params d__law_saying.body d__law_saying.scope [] [] (He.fAd K d__law_saying.at_) fd := T.elim fun _ ⟨_, _, c, _⟩ => c.d.def_ 59 rfl
theorem F__law_wanted : ∃ fd, FunD K d__law_wanted.name d__law_wanted.qual d__law_wanted.params d__law_wanted.body d__law_wanted.scope [] [] (He.fAd K d__law_wanted.at_) fd := T.elim fun _ ⟨_, _, c, _⟩ => c.d.def_ 60 rfl
theorem F__law_plain : ∃ fd, FunD K d__law_plain.name d__law_plain.qual d__law_plain.params d__law_plain.body d__law_plain.scope [] [] (He.fAd K d__law_plain.at_) fd := T.elim fun _ ⟨_, _, c, _⟩ => c.d.def_ 61 rfl
theorem F__law_statement : ∃ fd, FunD K d__law_statement.name d__law_statement.qual d__law_statement.params d__law_statement.body d__law_statement.scope [] [] (He.fAd K d__law_statement.at_) fd := T.elim fun _ ⟨_, _, c, _⟩ => c.d.def_ 62 rfl
theorem F__law_block : ∃ fd, FunD K d__law_block.name d__law_block.qual d__law_block.params d__law_block.body d__law_block.scope [] [] (He.fAd K d__law_block.at_) fd := T.elim fun _ ⟨_, _, c, _⟩ => c.d.def_ 63 rfl
theorem F__law_programs : ∃ fd, FunD K d__law_programs.name d__law_programs.qual d__law_programs.params d__law_programs.body d__law_programs.scope [] [] (He.fAd K d__law_programs.at_) fd := T.elim fun _ ⟨_, _, c, _⟩ => c.d.def_ 64 rfl
theorem F__law_new : ∃ fd, FunD K d__law_new.name d__law_new.qual d__law_new.params d__law_new.body d__law_new.scope [] [] (He.fAd K d__law_new.at_) fd := T.elim fun _ ⟨_, _, c, _⟩ => c.d.def_ 65 rfl
theorem F__law_there : ∃ fd, FunD K d__law_there.name d__law_there.qual d__law_there.params d__law_there.body d__law_there.scope [] [] (He.fAd K d__law_there.at_) fd := T.elim fun _ ⟨_, _, c, _⟩ => c.d.def_ 66 rfl
theorem F__law_open : ∃ fd, FunD K d__law_open.name d__law_open.qual d__law_open.params d__law_open.body d__law_open.scope [] [] (He.fAd K d__law_open.at_) fd := T.elim fun _ ⟨_, _, c, _⟩ => c.d.def_ 67 rfl
theorem F__law_made : ∃ fd, FunD K d__law_made.name d__law_made.qual d__law_made.params d__law_made.body d__law_made.scope [] [] (He.fAd K d__law_made.at_) fd := T.elim fun _ ⟨_, _, c, _⟩ => c.d.def_ 68 rfl
theorem F__law_timers : ∃ fd, FunD K d__law_timers.name d__law_timers.qual d__law_timers.params d__law_timers.body d__law_timers.scope [] [] (He.fAd K d__law_timers.at_) fd := T.elim fun _ ⟨_, _, c, _⟩ => c.d.def_ 69 rfl
theorem F__law_orders : ∃ fd, FunD K d__law_orders.name d__law_orders.qual d__law_orders.params d__law_orders.body d__law_orders.scope [] [] (He.fAd K d__law_orders.at_) fd := T.elim fun _ ⟨_, _, c, _⟩ => c.d.def_ 70 rfl
theorem F__law_first : ∃ fd, FunD K d__law_first.name d__law_first.qual d__law_first.params d__law_first.body d__law_first.scope [] [] (He.fAd K d__law_first.at_) fd := T.elim fun _ ⟨_, _, c, _⟩ => c.d.def_ 71 rfl
theorem F__law_follow : ∃ fd, FunD K d__law_follow.name d__law_follow.qual d__law_follow.params d__law_follow.body d__law_follow.scope [] [] (He.fAd K d__law_follow.at_) fd := T.elim fun _ ⟨_, _, c, _⟩ => c.d.def_ 72 rfl
theorem F__law_in : ∃ fd, FunD K d__law_in.name d__law_in.qual d__law_in.params d__law_in.body d__law_in.scope [] [] (He.fAd K d__law_in.at_) fd := T.elim fun _ ⟨_, _, c, _⟩ => c.d.def_ 73 rfl
theorem F__law_input : ∃ fd, FunD K d__law_input.name d__law_input.qual d__law_input.params d__law_input.body d__law_input.scope [] [] (He.fAd K d__law_input.at_) fd := T.elim fun _ ⟨_, _, c, _⟩ => c.d.def_ 74 rfl
theorem F__law_all : ∃ fd, FunD K d__law_all.name d__law_all.qual d__law_all.params d__law_all.body d__law_all.scope [] [] (He.fAd K d__law_all.at_) fd := T.elim fun _ ⟨_, _, c, _⟩ => c.d.def_ 75 rfl
theorem F__law_text : ∃ fd, FunD K d__law_text.name d__law_text.qual d__law_text.params d__law_text.body d__law_text.scope [] [] (He.fAd K d__law_text.at_) fd := T.elim fun _ ⟨_, _, c, _⟩ => c.d.def_ 76 rfl
theorem F_law : ∃ fd, FunD K d_law.name d_law.qual d_law.params d_law.body d_law.scope [] [] (He.fAd K d_law.at_) fd := T.elim fun _ ⟨_, _, c, _⟩ => c.d.def_ 77 rfl
end
end Ol
namespace Ol
open PySem PySem.Spec PyProof.Rows L2

abbrev R : PySem.W.OpenRow := PySem.W.OpenLaw.row PySem.Challenge.rw_outlast_k59_whole_comes_up
abbrev qv : Program := PySem.W.view R.prog [63]
def names0 : List PySem.Str := ["_wall", "OutlastError", "NoLog", "NoRun", "MOST", "LAST", "LETTERS", "LONGEST", "OWN_WORDS", "is_number", "is_worth", "is_moment", "is_name", "kept", "as_number", "joined_by", "worth_of", "MOST_STATEMENTS", "MOST_MOMENT", "is_true", "block_of", "Run", "MOST_TAKEN", "GONE", "House", "FIGURES", "MOST_FIGURES", "KINDS", "show_part", "show_inputs"]
def names1 : List PySem.Str := ["number_in", "part_in", "input_in", "read_inputs", "keep_house", "come_up_house", "_law_hand", "_law_draw", "_law_saying", "_law_wanted", "_law_plain", "_law_statement", "_law_block", "_law_programs", "_law_new", "_law_there", "_law_open", "_law_made", "_law_timers", "_law_orders", "_law_first", "_law_follow", "_law_in", "_law_input", "_law_all", "_law_text"]
def names : List PySem.Str := names0 ++ names1
abbrev hk : PySem.W.Hook := He.hookX 5 fa fn ts [] ex
def ob (s : PySem.W.SharedT) : He.AlX := He.obsX 5 fa fn ts [] ex (HandSHeadRun.getT s)
theorem ob_eq (s : PySem.W.SharedT) : ob s = hk.obs s.abs := He.obsX_eq (HandSHeadRun.getT_eq s)
theorem run0 (w : World) : HandSHeadRun.RunEq R qv hk ob 4000 names (w.withFollow "special-get-raises" false) := by
  intro os
  kernel_rfl
theorem run1 (w : World) : HandSHeadRun.RunEq R qv hk ob 4000 names (w.withFollow "special-get-raises" true) := by
  intro os
  kernel_rfl
theorem run (w : World) : HandSHeadRun.RunEq R qv hk ob 4000 names w :=
  PySem.W.byRow2 "special-get-raises" (P := fun w => HandSHeadRun.RunEq R qv hk ob 4000 names w) run0 run1 w

end Ol
namespace Ol
open PySem PySem.Spec PyProof.Rows L2

/-! ### a def's promise kept, wherever it stands -/
def OkD (P : Program) (w : World) (K : PySem.W.Frag) (mg : Str → Option Value) (base : Heap) (d : He.DefD) (k : Nat) (ps : List Str) (sp : Sp) : Prop :=
  ∃ fd, FnOk P w K mg base CX0 k (He.fAd K d.at_) fd ps sp ∧ Binds K fd ps [] ∧ PySem.W.keepIn K (.ref (He.fAd K d.at_)) = true
theorem okD_mk {P : Program} {w : World} {K : PySem.W.Frag} {mg : Str → Option Value} {base : Heap} {d : He.DefD} {N ps : List Str} {k : Nat} {sp : Sp}
    (F : ∃ fd, FunD K d.name d.qual d.params d.body d.scope [] [] (He.fAd K d.at_) fd) (S : FnScope N ps d.scope)
    (hb : ∀ (kV doc pm : Value) (an : Option Addr) (cdv ct : Value) (us : List Value), us.length = ps.length → bindArgs (PySem.W.fnOf d.name d.qual d.params d.body d.scope .none kV doc pm an cdv ct) ⟨us, []⟩ = pure (ps.zip us))
    (len : ∀ vs H Q E, sp vs H Q E → vs.length = ps.length)
    (hbody : ∀ (cdv : Value) (f : Addr) (A : Around) (outer : List Env) (s : Shared) (H : Hp) (vs : List V) (Q : VK) (E : XK), Room k (A.deeper (envOfC d.qual d.scope s.heap.objs.size f cdv)) → sp vs H Q E →
      ∃ t, PSs (cxOf CX0 P w K mg base N d.qual d.scope f cdv A outer s H E).nox d.body t ∧ t { nx := fun _ H' => Q .non H', rt := Q } (start N vs) H) : OkD P w K mg base d (k + 1) ps sp := by
  obtain ⟨fd, F⟩ := F
  refine ⟨fd, F.ok S len fun cdv A outer s H vs Q E hr hsp => ?_, F.bindsN hb, F.kp⟩
  obtain ⟨t, h, q⟩ := hbody cdv _ A outer s H vs Q E hr hsp
  exact ⟨t, h.nox, q⟩
theorem OkD.weak {P : Program} {w : World} {K : PySem.W.Frag} {mg : Str → Option Value} {base : Heap} {d : He.DefD} {ps : List Str} {k : Nat} {sp sp' : Sp} (h : OkD P w K mg base d k ps sp) (e : ∀ vs H Q E, sp' vs H Q E → sp vs H Q E) : OkD P w K mg base d k ps sp' := by
  obtain ⟨fd, F, b, kp⟩ := h
  exact ⟨fd, ⟨fun vs H Q E q => F.len vs H Q E (e _ _ _ _ q), fun A outer s H args us vs Q E hr e0 hb r hsp => F.run A outer s H args us vs Q E hr e0 hb r (e _ _ _ _ hsp)⟩, b, kp⟩

def tF (sp : Sp) (t : TA) : TE := fun σ H Q => t σ H fun vs H1 => sp vs H1 Q E0
/-- the instance at a has no attribute m -/
def Ml (C : Addr) (H : Hp) (a : Addr) (m : Str) : Prop := ∃ dx fs, H a = some (.ins C dx fs) ∧ fs.lookup m = none
def tM (C : Addr) (m : Str) (sp : Sp) (ta : TE) (t : TA) : TE := fun σ H Q => ta σ H fun x H1 => ∃ a, x = .ref a ∧ Ml C H1 a m ∧ t σ H1 fun vs H2 => sp (.ref a :: vs) H2 Q E0
def tMk (C : Addr) (sp : Sp) (t : TA) : TE := fun σ H Q => t σ H fun vs H1 => ∀ x dx, H1 x = none → H1 dx = none → dx ≠ x →
  sp (.ref x :: vs) (upd (upd H1 dx (.own x)) x (.ins C dx [])) (fun v H2 => v = .non ∧ Q (.ref x) H2) E0
/-- the attribute f of the instance at a is v -/
def Fl (K : PySem.W.Frag) (H : Hp) (a : Addr) (f : Str) (v : V) : Prop := ∃ C dx fs, H a = some (.ins C dx fs) ∧ Cls K C ∧ NoAttr K C f ∧ fs.lookup f = some v
def tFl (K : PySem.W.Frag) (ta : TE) (f : Str) : TE := fun σ H Q => ta σ H fun x H1 => ∃ a v, x = .ref a ∧ Fl K H1 a f v ∧ Q v H1
/-- the heap behind a.f = v -/
def Sl (K : PySem.W.Frag) (H : Hp) (a : Addr) (f : Str) (v : V) (H' : Hp) : Prop := ∃ C dx fs, H a = some (.ins C dx fs) ∧ Cls K C ∧ NoAttr K C f ∧ fs.length < 1000 ∧ H' = upd H a (.ins C dx (putF f v fs))
def sFl (K : PySem.W.Frag) (ta tv : TE) (f : Str) : TS := fun D σ H => tv σ H fun y H1 => ta σ H1 fun x H2 => ∃ a H3, x = .ref a ∧ Sl K H2 a f y H3 ∧ D.nx σ H3
section
variable {X : Cx} {k : Nat} {d : He.DefD} {ps : List Str} {sp : Sp} {x m : Str} {p pos apos : Pos} {e o : Expr} {es : List Expr} {ta tv : TE} {t : TA} {C : Addr}
theorem pe_f (G : OkD X.prog X.w X.K X.mg X.base d k ps sp) (hr : Room k X.A) (hg : Gl X x) (hm : X.mg x = some (.ref (He.fAd X.K d.at_)))
    (ha : PA X (e :: es) t) (hdb : (x == ("__debug__" : Str)) = false := by decide) (he : starEach (e :: es) X.env = (false, eval e X.env) :: starEach es X.env := by rfl) (hpl : (backTo pos (starEach es X.env)).any (·.1) = false := by rfl) :
    PE X (.Call (.Name x p) (e :: es) [] pos) (tF sp t) := by
  obtain ⟨fd, F, b, kp⟩ := G
  have h := pe_call (p := p) (pos := pos) F hr hg hm kp b .nil pass0 ha hdb he hpl
  have e1 : tCall sp [] E0 t = tF sp t := by
    funext σ H Q
    show t σ H (fun vs H1 => sp (vs ++ []) H1 Q E0) = t σ H fun vs H1 => sp vs H1 Q E0
    simp only [List.append_nil]
  rw [← e1]
  exact h
theorem pe_m {pl : Sem Bool} (c : Cls X.K C) (hm : Meth X.K C m (He.fAd X.K d.at_)) (G : OkD X.prog X.w X.K X.mg X.base d k ps sp) (hr : Room k X.A) (he : PE X o ta) (ha : PA X (e :: es) t)
    (hst : starEach (e :: es) X.env = (false, eval e X.env) :: starEach es X.env := by rfl) (hpl : (backTo pos (starEach es X.env)).any (·.1) = false := by rfl)
    (ht : eval (.Call (.Attribute o m apos) (e :: es) [] pos) X.env = (do
      let ov ← eval o X.env
      standAt apos.atName
      let (f, first) ← holding [ov] (getMethod ov m pl)
      callWith pos f first (backTo pos (starEach (e :: es) X.env)) (backToKw pos (keywordEach [] X.env))) := by rfl) :
    PE X (.Call (.Attribute o m apos) (e :: es) [] pos) (tM C m sp ta t) := by
  obtain ⟨fd, F, b, kp⟩ := G
  have h := pe_meth (pos := pos) he c hm F hr b .nil pass0 ha hst hpl ht
  refine ⟨fun pins s σ H Q I q => h.run pins s σ H Q I ?_⟩
  have e1 : tMeth C m sp [] E0 ta t = fun σ H Q => ta σ H fun x H1 => ∃ a dx fs, x = .ref a ∧ H1 a = some (.ins C dx fs) ∧ fs.lookup m = none ∧ t σ H1 fun vs H2 => sp (x :: vs) H2 Q E0 := by
    funext σ H Q
    unfold tMeth
    simp only [List.append_nil]
  rw [e1]
  have e2 : (fun (x : V) (H1 : Hp) => ∃ a, x = .ref a ∧ Ml C H1 a m ∧ t σ H1 fun vs H2 => sp (.ref a :: vs) H2 Q E0) = fun x H1 => ∃ a dx fs, x = .ref a ∧ H1 a = some (.ins C dx fs) ∧ fs.lookup m = none ∧ t σ H1 fun vs H2 => sp (x :: vs) H2 Q E0 := by
    funext x H1
    refine propext ⟨fun ⟨a, e, ⟨dx, fs, h1, h2⟩, h3⟩ => ⟨a, dx, fs, e, h1, h2, by rw [e]; exact h3⟩, fun ⟨a, dx, fs, e, h1, h2, h3⟩ => ⟨a, e, ⟨dx, fs, h1, h2⟩, by rw [e] at h3; exact h3⟩⟩
  have q' : ta σ H (fun (x : V) (H1 : Hp) => ∃ a, x = .ref a ∧ Ml C H1 a m ∧ t σ H1 fun vs H2 => sp (.ref a :: vs) H2 Q E0) := q
  rw [e2] at q'
  exact q'
theorem pe_m0 {pl : Sem Bool} (c : Cls X.K C) (hm : Meth X.K C m (He.fAd X.K d.at_)) (G : OkD X.prog X.w X.K X.mg X.base d k ps sp) (hr : Room k X.A) (he : PE X o ta)
    (ht : eval (.Call (.Attribute o m apos) [] [] pos) X.env = (do
      let ov ← eval o X.env
      standAt apos.atName
      let (f, first) ← holding [ov] (getMethod ov m pl)
      callWith pos f first (backTo pos (starEach [] X.env)) (backToKw pos (keywordEach [] X.env))) := by rfl) :
    PE X (.Call (.Attribute o m apos) [] [] pos) (tM C m sp ta tNil) := by
  obtain ⟨fd, F, b, kp⟩ := G
  have h := pe_meth0 (pos := pos) he c hm F hr b .nil pass0 ht
  refine ⟨fun pins s σ H Q I q => h.run pins s σ H Q I ?_⟩
  have e2 : (fun (x : V) (H1 : Hp) => ∃ a, x = .ref a ∧ Ml C H1 a m ∧ tNil σ H1 fun vs H2 => sp (.ref a :: vs) H2 Q E0) = fun x H1 => ∃ a dx fs, x = .ref a ∧ H1 a = some (.ins C dx fs) ∧ fs.lookup m = none ∧ tNil σ H1 fun vs H2 => sp (x :: (vs ++ [])) H2 Q E0 := by
    funext x H1
    refine propext ⟨fun ⟨a, e, ⟨dx, fs, h1, h2⟩, h3⟩ => ⟨a, dx, fs, e, h1, h2, by rw [e]; exact h3⟩, fun ⟨a, dx, fs, e, h1, h2, h3⟩ => ⟨a, e, ⟨dx, fs, h1, h2⟩, by rw [e] at h3; exact h3⟩⟩
  have q' : ta σ H (fun (x : V) (H1 : Hp) => ∃ a, x = .ref a ∧ Ml C H1 a m ∧ tNil σ H1 fun vs H2 => sp (.ref a :: vs) H2 Q E0) := q
  rw [e2] at q'
  exact q'
theorem pe_mk (M : Mk X.K C (He.fAd X.K d.at_)) (G : OkD X.prog X.w X.K X.mg X.base d k ps sp) (hr : Room (k + 1) X.A) (hg : Gl X x) (hm : X.mg x = some (.ref C)) (ha : PA X (e :: es) t)
    (hdb : (x == ("__debug__" : Str)) = false := by decide) (he : starEach (e :: es) X.env = (false, eval e X.env) :: starEach es X.env := by rfl) (hpl : (backTo pos (starEach es X.env)).any (·.1) = false := by rfl) :
    PE X (.Call (.Name x p) (e :: es) [] pos) (tMk C sp t) := by
  obtain ⟨fd, F, b, kp⟩ := G
  have h := pe_make (p := p) (pos := pos) M F hr hg hm b .nil pass0 ha hdb he hpl
  have e1 : tMake C sp [] E0 t = tMk C sp t := by
    funext σ H Q
    unfold tMake tMk
    simp only [List.append_nil]
  rw [← e1]
  exact h
theorem pe_fl (he : PE X e ta) (hb : attributeBase e m X.env (eval e X.env) = eval e X.env := by rfl) : PE X (.Attribute e m pos) (tFl X.K ta m) := by
  have h := pe_fld (pos := pos) he hb
  refine ⟨fun pins s σ H Q I q => h.run pins s σ H Q I ?_⟩
  have e2 : (fun (x : V) (H1 : Hp) => ∃ a v, x = .ref a ∧ Fl X.K H1 a m v ∧ Q v H1) = fun x H1 => ∃ a C dx fs v, x = .ref a ∧ H1 a = some (.ins C dx fs) ∧ Cls X.K C ∧ NoAttr X.K C m ∧ fs.lookup m = some v ∧ Q v H1 := by
    funext x H1
    refine propext ⟨fun ⟨a, v, e, ⟨C, dx, fs, h1, h2, h3, h4⟩, h5⟩ => ⟨a, C, dx, fs, v, e, h1, h2, h3, h4, h5⟩, fun ⟨a, C, dx, fs, v, e, h1, h2, h3, h4, h5⟩ => ⟨a, v, e, ⟨C, dx, fs, h1, h2, h3, h4⟩, h5⟩⟩
  have q' : ta σ H (fun (x : V) (H1 : Hp) => ∃ a v, x = .ref a ∧ Fl X.K H1 a m v ∧ Q v H1) := q
  rw [e2] at q'
  exact q'
theorem ps_fl {value : Expr} {pos' : Pos} (ha : PE X o ta) (hv : PE X value tv) (hs : swapsWith value (some (.Attribute o m pos')) pos.line X.env = pure false := by rfl) : PS X (.Assign [.Attribute o m pos'] value pos) (sFl X.K ta tv m) := by
  have h := ps_fld ha hv hs
  refine ⟨fun pins s σ H D I q => h.run pins s σ H D I ?_⟩
  have e2 : (fun (y : V) (H1 : Hp) => ta σ H1 fun x H2 => ∃ a H3, x = .ref a ∧ Sl X.K H2 a m y H3 ∧ D.nx σ H3) = fun y H1 => ta σ H1 fun x H2 => ∃ a C dx fs, x = .ref a ∧ H2 a = some (.ins C dx fs) ∧ Cls X.K C ∧ NoAttr X.K C m ∧ fs.length < 1000 ∧ D.nx σ (upd H2 a (.ins C dx (putF m y fs))) := by
    funext y H1
    refine congrArg (ta σ H1) (funext fun x => funext fun H2 => ?_)
    refine propext ⟨fun ⟨a, H3, e, ⟨C, dx, fs, h1, h2, h3, h4, h5⟩, h6⟩ => ⟨a, C, dx, fs, e, h1, h2, h3, h4, by rw [← h5]; exact h6⟩, fun ⟨a, C, dx, fs, e, h1, h2, h3, h4, h5⟩ => ⟨a, _, e, ⟨C, dx, fs, h1, h2, h3, h4, rfl⟩, h5⟩⟩
  have q' : tv σ H (fun (y : V) (H1 : Hp) => ta σ H1 fun x H2 => ∃ a H3, x = .ref a ∧ Sl X.K H2 a m y H3 ∧ D.nx σ H3) := q
  rw [e2] at q'
  exact q'
/-- a.f += c -/
def sFlAdd (K : PySem.W.Frag) (ta : TE) (f : Str) (c : Int) : TS := fun D σ H => ta σ H fun x H1 => ∃ a i H2, x = .ref a ∧ Fl K H1 a f (.int i) ∧ Sl K H1 a f (.int (i + c)) H2 ∧ D.nx σ H2
theorem ps_flAdd {c : Int} {j : Nat} {tpos cpos : Pos} (ha : PE X o ta) : PS X (.AugAssign (.Attribute o m tpos) .Add (.Constant (.int c) j cpos) pos) (sFlAdd X.K ta m c) := by
  have h := ps_fldaug (pos := pos) (tpos := tpos) (f := m) ha (pe_int (X := X) (i := c) (j := j) (pos := cpos)) in_add
  refine ⟨fun pins s σ H D I q => h.run pins s σ H D I ?_⟩
  have q' : ta σ H (fun (x : V) (H1 : Hp) => ∃ a i H2, x = .ref a ∧ Fl X.K H1 a m (.int i) ∧ Sl X.K H1 a m (.int (i + c)) H2 ∧ D.nx σ H2) := q
  have e2 : (fun (x : V) (H1 : Hp) => ∃ a i H2, x = .ref a ∧ Fl X.K H1 a m (.int i) ∧ Sl X.K H1 a m (.int (i + c)) H2 ∧ D.nx σ H2) = fun x H1 => ∃ a C dx fs v, x = .ref a ∧ H1 a = some (.ins C dx fs) ∧ Cls X.K C ∧ NoAttr X.K C m ∧ fs.lookup m = some v ∧
      tC (.int c) σ H1 fun y H2 => rAdd v y H2 fun z H3 => ∃ dx' fs', H3 a = some (.ins C dx' fs') ∧ fs'.length < 1000 ∧ D.nx σ (upd H3 a (.ins C dx' (putF m z fs'))) := by
    funext x H1
    refine propext ⟨?_, ?_⟩
    · rintro ⟨a, i, H2, e, ⟨C, dx, fs, h1, h2, h3, h4⟩, ⟨C', dx', fs', g1, g2, g3, g4, g5⟩, h6⟩
      rw [h1] at g1
      injection g1 with g1
      injection g1 with g1 g1' g1''
      subst g1 g1' g1''
      exact ⟨a, C, dx, fs, _, e, h1, h2, h3, h4, i, c, rfl, rfl, dx, fs, h1, g4, by rw [← g5]; exact h6⟩
    · rintro ⟨a, C, dx, fs, v, e, h1, h2, h3, h4, i, j, ev, ej, dx', fs', h5, h6, h7⟩
      cases ej
      subst ev
      exact ⟨a, i, _, e, ⟨C, dx, fs, h1, h2, h3, h4⟩, ⟨C, dx', fs', h5, h2, h3, h6, rfl⟩, h7⟩
  rw [e2] at q'
  exact q'
end
end Ol
namespace Ol
open PySem PySem.Spec PyProof.Rows L2

/-! ### data of tuples -/
mutual
def TD (K : PySem.W.Frag) (H : Hp) : V → PyData → Prop
  | v, .none => v = .non
  | v, .bool b => v = .bl b
  | v, .int i => v = .int i
  | v, .str s => v = .str s
  | v, .tuple ds => ∃ a vs, v = .ref a ∧ SqT K H a vs ∧ TDs K H vs ds
  | _, .list _ => False
  | _, .dict _ => False
def TDs (K : PySem.W.Frag) (H : Hp) : List V → List PyData → Prop
  | vs, [] => vs = []
  | vs, d :: ds => ∃ v r, vs = v :: r ∧ TD K H v d ∧ TDs K H r ds
end
section
variable {K : PySem.W.Frag} {H H' : Hp}
/-- what never changes stands -/
def Fx (H H' : Hp) : Prop := ∀ b o, H b = some o → ((∃ xs, o = .tup xs) ∨ ∃ q xs, o = .frz q (.tup xs)) → H' b = some o
theorem Fx.refl (H : Hp) : Fx H H := fun _ _ h _ => h
theorem Fx.trans {H1 : Hp} (a : Fx H H1) (b : Fx H1 H') : Fx H H' := fun x o h k => b x o (a x o h k) k
theorem Same.fx (e : Same H H') : Fx H H' := fun b o h _ => e b o h
theorem Fx.t {a : Addr} {xs : List V} (e : Fx H H') (h : SqT K H a xs) : SqT K H' a xs := by
  rcases h with (h | ⟨o, h⟩) | h
  · exact .inl (.inl (e _ _ h (.inl ⟨_, rfl⟩)))
  · exact .inl (.inr ⟨o, e _ _ h (.inr ⟨_, _, rfl⟩)⟩)
  · exact .inr h
mutual
theorem TD.fx (e : Fx H H') : ∀ (d : PyData) (v : V), TD K H v d → TD K H' v d
  | .none, _, h => by simp only [TD] at h ⊢; exact h
  | .bool _, _, h => by simp only [TD] at h ⊢; exact h
  | .int _, _, h => by simp only [TD] at h ⊢; exact h
  | .str _, _, h => by simp only [TD] at h ⊢; exact h
  | .tuple ds, _, h => by
    simp only [TD] at h ⊢
    obtain ⟨a, vs, h1, h2, h3⟩ := h
    exact ⟨a, vs, h1, e.t h2, TDs.fx e ds vs h3⟩
  | .list _, _, h => by simp only [TD] at h
  | .dict _, _, h => by simp only [TD] at h
theorem TDs.fx (e : Fx H H') : ∀ (ds : List PyData) (vs : List V), TDs K H vs ds → TDs K H' vs ds
  | [], _, h => by simp only [TDs] at h ⊢; exact h
  | d :: ds, _, h => by
    simp only [TDs] at h ⊢
    obtain ⟨v, r, h1, h2, h3⟩ := h
    exact ⟨v, r, h1, TD.fx e d v h2, TDs.fx e ds r h3⟩
end
mutual
theorem TD.dp : ∀ (d : PyData) (v : V), TD K H v d → Dp K H v d
  | .none, _, h => by simp only [TD] at h; subst h; exact .non
  | .bool _, _, h => by simp only [TD] at h; subst h; exact .bl _
  | .int _, _, h => by simp only [TD] at h; subst h; exact .int _
  | .str _, _, h => by simp only [TD] at h; subst h; exact .str _
  | .tuple ds, _, h => by
    simp only [TD] at h
    obtain ⟨a, vs, h1, h2, h3⟩ := h
    subst h1
    exact .tup h2 (TDs.dp ds vs h3)
  | .list _, _, h => by simp only [TD] at h
  | .dict _, _, h => by simp only [TD] at h
theorem TDs.dp : ∀ (ds : List PyData) (vs : List V), TDs K H vs ds → DpAll K H vs ds
  | [], _, h => by simp only [TDs] at h; subst h; exact .nil
  | d :: ds, _, h => by
    simp only [TDs] at h
    obtain ⟨v, r, h1, h2, h3⟩ := h
    subst h1
    exact .cons (TD.dp d v h2) (TDs.dp ds r h3)
end
theorem td_none {v : V} : TD K H v .none ↔ v = .non := by simp only [TD]
theorem td_int {v : V} {i : Int} : TD K H v (.int i) ↔ v = .int i := by simp only [TD]
theorem td_str {v : V} {i : Str} : TD K H v (.str i) ↔ v = .str i := by simp only [TD]
theorem td_bool {v : V} {i : Bool} : TD K H v (.bool i) ↔ v = .bl i := by simp only [TD]
theorem td_tup {v : V} {ds : List PyData} : TD K H v (.tuple ds) ↔ ∃ a vs, v = .ref a ∧ SqT K H a vs ∧ TDs K H vs ds := by simp only [TD]
theorem tds_nil {vs : List V} : TDs K H vs [] ↔ vs = [] := by simp only [TDs]
theorem tds_cons {vs : List V} {d : PyData} {ds : List PyData} : TDs K H vs (d :: ds) ↔ ∃ v r, vs = v :: r ∧ TD K H v d ∧ TDs K H r ds := by simp only [TDs]
theorem TDs.mk {v : V} {vs : List V} {d : PyData} {ds : List PyData} (h : TD K H v d) (hs : TDs K H vs ds) : TDs K H (v :: vs) (d :: ds) := tds_cons.mpr ⟨v, vs, rfl, h, hs⟩
theorem TDs.nil : TDs K H [] [] := tds_nil.mpr rfl
theorem TDs.length : ∀ {ds : List PyData} {vs : List V}, TDs K H vs ds → vs.length = ds.length
  | [], _, h => by rw [tds_nil.mp h] <;> rfl
  | _ :: _, _, h => by
    obtain ⟨v, r, rfl, _, h3⟩ := tds_cons.mp h
    exact congrArg Nat.succ h3.length
theorem TDs.get : ∀ {ds : List PyData} {vs : List V} {i : Nat} {d : PyData}, TDs K H vs ds → ds[i]? = some d → ∃ v, vs[i]? = some v ∧ TD K H v d
  | [], _, i, _, _, e => by simp at e
  | _ :: _, _, 0, _, h, e => by
    obtain ⟨v, r, rfl, h2, _⟩ := tds_cons.mp h
    simp at e
    subst e
    exact ⟨v, rfl, h2⟩
  | _ :: _, _, i + 1, _, h, e => by
    obtain ⟨v, r, rfl, _, h3⟩ := tds_cons.mp h
    obtain ⟨u, h4, h5⟩ := TDs.get (i := i) h3 (by simpa using e)
    exact ⟨u, by simpa using h4, h5⟩
theorem TDs.getV : ∀ {ds : List PyData} {vs : List V} {i : Nat} {v : V}, TDs K H vs ds → vs[i]? = some v → ∃ d, ds[i]? = some d ∧ TD K H v d
  | [], _, i, _, h, e => by rw [tds_nil.mp h] at e; simp at e
  | d :: _, _, 0, _, h, e => by
    obtain ⟨v, r, rfl, h2, _⟩ := tds_cons.mp h
    simp at e
    subst e
    exact ⟨d, rfl, h2⟩
  | _ :: _, _, i + 1, _, h, e => by
    obtain ⟨v, r, rfl, _, h3⟩ := tds_cons.mp h
    obtain ⟨u, h4, h5⟩ := TDs.getV (i := i) h3 (by simpa using e)
    exact ⟨u, by simpa using h4, h5⟩
theorem TDs.append : ∀ {ds es : List PyData} {vs us : List V}, TDs K H vs ds → TDs K H us es → TDs K H (vs ++ us) (ds ++ es)
  | [], _, _, _, h, g => by rw [tds_nil.mp h]; exact g
  | _ :: _, _, _, _, h, g => by
    obtain ⟨v, r, rfl, h2, h3⟩ := tds_cons.mp h
    exact TDs.mk h2 (TDs.append h3 g)
theorem TDs.snoc {ds : List PyData} {vs : List V} {v : V} {d : PyData} (h : TDs K H vs ds) (g : TD K H v d) : TDs K H (vs ++ [v]) (ds ++ [d]) := h.append (TDs.mk g TDs.nil)
theorem TDs.take : ∀ (n : Nat) {ds : List PyData} {vs : List V}, TDs K H vs ds → TDs K H (vs.take n) (ds.take n)
  | 0, _, _, _ => by simp only [List.take_zero]; exact TDs.nil
  | _ + 1, [], _, h => by rw [tds_nil.mp h]; exact TDs.nil
  | n + 1, _ :: _, _, h => by
    obtain ⟨v, r, rfl, h2, h3⟩ := tds_cons.mp h
    exact TDs.mk h2 (TDs.take n h3)
theorem TDs.drop : ∀ (n : Nat) {ds : List PyData} {vs : List V}, TDs K H vs ds → TDs K H (vs.drop n) (ds.drop n)
  | 0, _, _, h => h
  | _ + 1, [], _, h => by rw [tds_nil.mp h]; exact TDs.nil
  | n + 1, _ :: _, _, h => by
    obtain ⟨v, r, rfl, h2, h3⟩ := tds_cons.mp h
    exact TDs.drop n h3
theorem TDs.eraseIdx {n : Nat} {ds : List PyData} {vs : List V} (h : TDs K H vs ds) : TDs K H (vs.eraseIdx n) (ds.eraseIdx n) := by
  rw [List.eraseIdx_eq_take_drop_succ, List.eraseIdx_eq_take_drop_succ]
  exact (h.take n).append (h.drop (n + 1))
/-- a new tuple -/
theorem TD.new {p : Addr} {vs : List V} {ds : List PyData} (h : H p = some (.tup vs)) (hs : TDs K H vs ds) : TD K H (.ref p) (.tuple ds) := td_tup.mpr ⟨p, vs, rfl, SqT.of h, hs⟩
theorem Same.new {p : Addr} {o : HO} (h : H p = none) : Same H (upd H p o) := fun b u e => by
  rw [upd_ne (ne_of_none e h)]
  exact e
theorem TD.newU {p : Addr} {vs : List V} {ds : List PyData} (h : H p = none) (hs : TDs K H vs ds) : TD K (upd H p (.tup vs)) (.ref p) (.tuple ds) := TD.new upd_same (TDs.fx (Same.fx (Same.new h)) _ _ hs)
theorem TDs.inj {K : PySem.W.Frag} {H : Hp} {vs : List V} {f : α → PyData} (g : α → V) {xs : List α} (hx : ∀ v x, TD K H v (f x) → v = g x) (h : TDs K H vs (xs.map f)) : vs = xs.map g := by
  induction xs generalizing vs with
  | nil => exact tds_nil.mp h
  | cons x xs ih =>
    obtain ⟨v, r, rfl, h2, h3⟩ := tds_cons.mp h
    rw [hx v x h2, ih h3] <;> rfl
theorem TDs.of {K : PySem.W.Frag} {H : Hp} {f : α → PyData} (g : α → V) {xs : List α} (hx : ∀ x, TD K H (g x) (f x)) : TDs K H (xs.map g) (xs.map f) := by
  induction xs with
  | nil => exact TDs.nil
  | cons x xs ih => exact TDs.mk (hx x) ih
end

/-! ### frames -/
/-- all but F stands; what never changes stands; F' is F or new -/
structure Upto (F : List Addr) (H H' : Hp) (F' : List Addr) : Prop where
  keep : ∀ b o, H b = some o → b ∉ F → H' b = some o
  fx : Fx H H'
  new : ∀ b, b ∈ F' → b ∈ F ∨ H b = none
theorem Upto.refl {F : List Addr} {H : Hp} : Upto F H H F := ⟨fun _ _ h _ => h, Fx.refl H, fun _ h => .inl h⟩
theorem Upto.trans {F F1 F2 : List Addr} {H H1 H2 : Hp} (a : Upto F H H1 F1) (b : Upto F1 H1 H2 F2) : Upto F H H2 F2 where
  keep := fun c o h n => b.keep c o (a.keep c o h n) fun m => by
    rcases a.new c m with m | m
    · exact n m
    · rw [h] at m; cases m
  fx := a.fx.trans b.fx
  new := fun c m => by
    rcases b.new c m with m | m
    · exact a.new c m
    · by_cases hc : c ∈ F
      · exact .inl hc
      · right
        cases h : H c with
        | none => rfl
        | some o =>
          rw [a.keep c o h hc] at m
          cases m
theorem Upto.same {F F1 : List Addr} {H H1 H2 : Hp} (a : Upto F H H1 F1) (b : Same H1 H2) : Upto F H H2 F1 := a.trans ⟨fun c o h _ => b c o h, Same.fx b, fun _ h => .inl h⟩
theorem Upto.ofSame {F : List Addr} {H H' : Hp} (e : Same H H') : Upto F H H' F := Upto.refl.same e
/-- more may change -/
theorem Upto.mono {F F1 G G1 : List Addr} {H H1 : Hp} (a : Upto F H H1 F1) (h1 : ∀ b ∈ F, b ∈ G) (h2 : ∀ b ∈ G1, b ∈ F1 ∨ b ∈ G) : Upto G H H1 G1 where
  keep := fun b o h n => a.keep b o h fun m => n (h1 b m)
  fx := a.fx
  new := fun b m => by
    rcases h2 b m with m | m
    · rcases a.new b m with m | m
      · exact .inl (h1 b m)
      · exact .inr m
    · exact .inl m
/-- an object of F is changed -/
theorem Upto.upd {F : List Addr} {H : Hp} {p : Addr} {o u : HO} (h : H p = some u) (hp : p ∈ F) (h1 : ∀ xs, u ≠ .tup xs) (h2 : ∀ q w, u ≠ .frz q w) : Upto F H (upd H p o) F where
  keep := fun b v e n => by rw [upd_ne (fun q => n (by rw [q]; exact hp))]; exact e
  fx := fun b v e k => by
    rw [upd_ne]
    · exact e
    · rintro rfl
      rw [h] at e
      cases e
      rcases k with ⟨xs, k⟩ | ⟨q, w, k⟩
      · exact h1 xs k
      · exact h2 q _ k
  new := fun _ m => .inl m
theorem Upto.free {F F1 : List Addr} {H H1 : Hp} (a : Upto F H H1 F1) {b : Addr} (h : H1 b = none) (hF : b ∉ F) : H b = none := by
  cases e : H b with
  | none => rfl
  | some o => rw [a.keep b o e hF] at h; cases h

/-! ### worths -/
abbrev W := Option Int
def wv : W → V
  | none => .non
  | some i => .int i
def wd : W → PyData
  | none => .none
  | some i => .int i
def vw : V → W
  | .int i => some i
  | _ => none
theorem vw_wv (w : W) : vw (wv w) = w := by cases w <;> rfl
theorem wv_inj {a b : W} (h : wv a = wv b) : a = b := by rw [← vw_wv a, h, vw_wv]
theorem td_wd {K : PySem.W.Frag} {H : Hp} {v : V} {w : W} : TD K H v (wd w) ↔ v = wv w := by
  cases w with
  | none => exact td_none
  | some i => exact td_int
theorem flat_wv (w : W) : flatV (wv w) = true := by cases w <;> rfl
theorem scal_wv (a b : W) : scal (wv a) (wv b) = true := by cases a <;> cases b <;> rfl
theorem wv_non (w : W) : decide (wv w = .non) = w.isNone := by cases w <;> rfl
theorem eqV_wv (a b : W) : eqV (wv a) (wv b) = decide (a = b) := by
  cases a with
  | none =>
    cases b with
    | none => rfl
    | some j => exact (decide_eq_false (fun q => nomatch q)).symm
  | some i =>
    cases b with
    | none => exact (decide_eq_false (fun q => nomatch q)).symm
    | some j =>
      show (i == j) = _
      rw [Bool.beq_eq_decide_eq]
      by_cases h : i = j
      · subst h; simp
      · rw [decide_eq_false h, decide_eq_false (fun q => h (Option.some.inj q))]
theorem inV_ws (a : W) (ws : List W) : inV (wv a) (ws.map wv) = decide (a ∈ ws) := by
  unfold inV
  rw [List.any_map]
  induction ws with
  | nil => rfl
  | cons b ws ih =>
    rw [List.any_cons, ih]
    show (eqV (wv b) (wv a) || decide (a ∈ ws)) = _
    rw [eqV_wv]
    by_cases h : b = a
    · subst h; simp
    · have h' : a ≠ b := fun q => h q.symm
      simp [h, h']
theorem all_flat_ws (ws : List W) : (ws.map wv).all flatV = true := by
  rw [List.all_map, List.all_eq_true]
  intro w _
  exact flat_wv w
theorem inV_ints (a : W) (ns : List Int) : inV (wv a) (ns.map V.int) = decide (a ∈ ns.map some) := by
  have e : ns.map V.int = (ns.map some).map wv := by rw [List.map_map]; rfl
  rw [e, inV_ws]
theorem all_flat_ints (ns : List Int) : (ns.map V.int).all flatV = true := by
  rw [List.all_map, List.all_eq_true]
  intro w _
  rfl
end Ol
namespace Ol
open PySem PySem.Spec PyProof.Rows L2

/-! ### tables -/
section
variable {κ : Type} {α β γ : Type} [DecidableEq κ]
def lk (l : List (κ × α)) (k : κ) : Option α := (l.find? fun p => decide (p.1 = k)).map (·.2)
def pt (l : List (κ × α)) (k : κ) (a : α) : List (κ × α) := if (l.any fun p => decide (p.1 = k)) = true then l.map (fun p => if p.1 = k then (p.1, a) else p) else l ++ [(k, a)]
def rm (l : List (κ × α)) (k : κ) : List (κ × α) := l.filter fun p => decide (p.1 ≠ k)
theorem lk_nil {k : κ} : lk ([] : List (κ × α)) k = none := rfl
theorem lk_cons {p : κ × α} {l : List (κ × α)} {k : κ} : lk (p :: l) k = if p.1 = k then some p.2 else lk l k := by
  unfold lk
  rw [List.find?_cons]
  by_cases h : p.1 = k
  · rw [decide_eq_true h, if_pos h] <;> rfl
  · rw [decide_eq_false h, if_neg h]
theorem lk_mem {l : List (κ × α)} {k : κ} {a : α} (h : lk l k = some a) : (k, a) ∈ l := by
  induction l with
  | nil => cases h
  | cons p l ih =>
    rw [lk_cons] at h
    by_cases e : p.1 = k
    · rw [if_pos e] at h
      cases h
      subst e
      exact List.mem_cons_self
    · rw [if_neg e] at h
      exact List.mem_cons_of_mem _ (ih h)
theorem any_lk (l : List (κ × α)) (k : κ) : (l.any fun p => decide (p.1 = k)) = (lk l k).isSome := by
  induction l with
  | nil => rfl
  | cons p l ih =>
    rw [lk_cons, List.any_cons]
    by_cases e : p.1 = k
    · rw [if_pos e, decide_eq_true e]; rfl
    · rw [if_neg e, decide_eq_false e, Bool.false_or, ih]
theorem pt_length (l : List (κ × α)) (k : κ) (a : α) : (pt l k a).length ≤ l.length + 1 := by
  unfold pt
  split
  · rw [List.length_map]; omega
  · rw [List.length_append]; exact Nat.le_refl _
theorem rm_length (l : List (κ × α)) (k : κ) : (rm l k).length ≤ l.length := List.length_filter_le _ _
theorem pt_mem {l : List (κ × α)} {k : κ} {a : α} {p : κ × α} (h : p ∈ pt l k a) : p = (k, a) ∨ p ∈ l := by
  unfold pt at h
  split at h
  · obtain ⟨q, hq, e⟩ := List.mem_map.mp h
    split at e
    · rename_i hk
      subst e
      exact .inl (by rw [hk])
    · subst e
      exact .inr hq
  · rcases List.mem_append.mp h with h | h
    · exact .inr h
    · rcases List.mem_cons.mp h with h | h
      · exact .inl h
      · cases h
theorem rm_mem {l : List (κ × α)} {k : κ} {p : κ × α} (h : p ∈ rm l k) : p ∈ l := (List.mem_filter.mp h).1
theorem lk_pt (l : List (κ × α)) (k j : κ) (a : α) : lk (pt l k a) j = if j = k then some a else lk l j := by
  unfold pt
  by_cases h : (l.any fun p => decide (p.1 = k)) = true
  · rw [if_pos h]
    induction l with
    | nil => cases h
    | cons p l ih =>
      rw [List.map_cons, lk_cons, lk_cons]
      by_cases e : p.1 = k
      · rw [if_pos e]
        by_cases j1 : p.1 = j
        · rw [if_pos j1, if_pos (by rw [← j1, e])]
        · rw [if_neg j1, if_neg j1]
          have j2 : ¬ j = k := fun q => j1 (by rw [e, q])
          rw [if_neg j2]
          by_cases h2 : (l.any fun p => decide (p.1 = k)) = true
          · rw [ih h2, if_neg j2]
          · clear ih h
            induction l with
            | nil => rfl
            | cons q l ih =>
              rw [List.any_cons] at h2
              have h3 : ¬ q.1 = k := fun z => h2 (by rw [decide_eq_true z, Bool.true_or])
              rw [List.map_cons, if_neg h3, lk_cons, lk_cons]
              rw [decide_eq_false h3, Bool.false_or] at h2
              rw [ih h2]
      · rw [if_neg e]
        have h2 : (l.any fun p => decide (p.1 = k)) = true := by
          rw [List.any_cons, decide_eq_false e, Bool.false_or] at h
          exact h
        rw [ih h2]
        by_cases j1 : p.1 = j
        · rw [if_pos j1, if_neg (fun q => e (by rw [j1, q])), if_pos j1]
        · rw [if_neg j1, if_neg j1]
  · rw [if_neg h]
    induction l with
    | nil =>
      show lk [(k, a)] j = _
      rw [lk_cons]
      by_cases j1 : k = j
      · rw [if_pos j1, if_pos j1.symm]
      · rw [if_neg j1, if_neg (fun q => j1 q.symm)]
    | cons p l ih =>
      rw [List.any_cons] at h
      have h3 : ¬ p.1 = k := fun z => h (by rw [decide_eq_true z, Bool.true_or])
      rw [decide_eq_false h3, Bool.false_or] at h
      rw [List.cons_append, lk_cons, lk_cons, ih h]
      by_cases j1 : p.1 = j
      · rw [if_pos j1, if_pos j1, if_neg (fun q => h3 (by rw [j1, q]))]
      · rw [if_neg j1, if_neg j1]
/-- two tables with the same keys, their values related -/
abbrev PK2 (R : α → β → Prop) : List (κ × α) → List (κ × β) → Prop := Paired fun p q => p.1 = q.1 ∧ R p.2 q.2
variable {R : α → β → Prop}
theorem PK2.look : ∀ {l : List (κ × α)} {m : List (κ × β)} (k : κ), PK2 R l m → (lk l k = none ∧ lk m k = none) ∨ ∃ a b, lk l k = some a ∧ lk m k = some b ∧ R a b
  | _, _, _, .nil => .inl ⟨rfl, rfl⟩
  | p :: l, q :: m, k, .cons h t => by
    rw [lk_cons, lk_cons]
    by_cases e : p.1 = k
    · rw [if_pos e, if_pos (h.1.symm.trans e)]
      exact .inr ⟨_, _, rfl, rfl, h.2⟩
    · rw [if_neg e, if_neg (fun z => e (h.1.trans z))]
      exact PK2.look k t
theorem PK2.len {l : List (κ × α)} {m : List (κ × β)} (h : PK2 R l m) : l.length = m.length := Paired.length h
theorem PK2.mono {R' : α → β → Prop} {l : List (κ × α)} {m : List (κ × β)} (h : PK2 R l m) (f : ∀ a b, R a b → R' a b) : PK2 R' l m := Paired.mapP h fun _ _ z => ⟨z.1, f _ _ z.2⟩
theorem PK2.keys : ∀ {l : List (κ × α)} {m : List (κ × β)}, PK2 R l m → l.map (·.1) = m.map (·.1)
  | _, _, .nil => rfl
  | _, _, .cons h t => by rw [List.map_cons, List.map_cons, h.1, PK2.keys t]
theorem PK2.any {l : List (κ × α)} {m : List (κ × β)} (h : PK2 R l m) (k : κ) : (l.any fun p => decide (p.1 = k)) = (m.any fun p => decide (p.1 = k)) := by
  rw [any_lk, any_lk]
  rcases PK2.look k h with ⟨e, f⟩ | ⟨a, b, e, f, _⟩ <;> rw [e, f] <;> rfl
theorem Paired.append {α β : Type} {F : α → β → Prop} : ∀ {l₁ l₃ : List α} {l₂ l₄ : List β}, Paired F l₁ l₂ → Paired F l₃ l₄ → Paired F (l₁ ++ l₃) (l₂ ++ l₄)
  | _, _, _, _, .nil, h => h
  | _, _, _, _, .cons r t, h => .cons r (Paired.append t h)
theorem PK2.map1 {a : α} {b : β} (k : κ) (hab : R a b) : ∀ {l : List (κ × α)} {m : List (κ × β)}, PK2 R l m → PK2 R (l.map (fun p => if p.1 = k then (p.1, a) else p)) (m.map (fun p => if p.1 = k then (p.1, b) else p))
  | _, _, .nil => .nil
  | p :: l, q :: m, .cons h t => by
    rw [List.map_cons, List.map_cons]
    refine .cons ?_ (PK2.map1 k hab t)
    by_cases e : p.1 = k
    · rw [if_pos e, if_pos (h.1.symm.trans e)]
      exact ⟨h.1, hab⟩
    · rw [if_neg e, if_neg (fun z => e (h.1.trans z))]
      exact h
theorem PK2.put {l : List (κ × α)} {m : List (κ × β)} (h : PK2 R l m) {a : α} {b : β} (k : κ) (hab : R a b) : PK2 R (pt l k a) (pt m k b) := by
  unfold pt
  rw [PK2.any h k]
  split
  · exact PK2.map1 k hab h
  · exact Paired.append h (.cons ⟨rfl, hab⟩ .nil)
theorem PK2.drop {k : κ} : ∀ {l : List (κ × α)} {m : List (κ × β)}, PK2 R l m → PK2 R (rm l k) (rm m k)
  | _, _, .nil => .nil
  | p :: l, q :: m, .cons h t => by
    unfold rm
    rw [List.filter_cons, List.filter_cons]
    by_cases e : p.1 = k
    · rw [if_neg (by rw [decide_eq_false (fun z => z e)]; decide), if_neg (by rw [decide_eq_false (fun z => z (h.1.symm.trans e))]; decide)]
      exact PK2.drop t
    · have e2 : q.1 ≠ k := fun z => e (h.1.trans z)
      rw [if_pos (decide_eq_true e), if_pos (decide_eq_true e2)]
      exact .cons h (PK2.drop t)
/-- a dict's content by a table: keys by f, values by g -/
def mk2 (f : κ → γ) (g : α → V) (l : List (κ × α)) : List (γ × V) := l.map fun p => (f p.1, g p.2)
variable [DecidableEq γ] {f : κ → γ} {g : α → V}
theorem mk2_length (l : List (κ × α)) : (mk2 f g l).length = l.length := List.length_map _
theorem valV_mk2 (hf : ∀ a b, f a = f b → a = b) (l : List (κ × α)) (k : κ) : valV (mk2 f g l) (f k) = (lk l k).map g := by
  induction l with
  | nil => rfl
  | cons p l ih =>
    rw [lk_cons]
    by_cases e : p.1 = k
    · rw [if_pos e]
      exact valV_pos (p := (f p.1, g p.2)) (by show f p.1 = f k; rw [e])
    · rw [if_neg e, ← ih]
      exact valV_neg (p := (f p.1, g p.2)) (fun z => e (hf _ _ z))
theorem putK_mk2 (hf : ∀ a b, f a = f b → a = b) (l : List (κ × α)) (k : κ) (a : α) : putK (mk2 f g l) (f k) (g a) = mk2 f g (pt l k a) := by
  unfold putK pt
  have e1 : ((mk2 f g l).any fun kv => decide (kv.1 = f k)) = l.any fun p => decide (p.1 = k) := by
    unfold mk2
    rw [List.any_map]
    congr 1
    funext p
    show decide (f p.1 = f k) = decide (p.1 = k)
    by_cases e : p.1 = k
    · rw [decide_eq_true e, decide_eq_true (by rw [e])]
    · rw [decide_eq_false e, decide_eq_false (fun z => e (hf _ _ z))]
  rw [e1]
  split
  · unfold mk2
    rw [List.map_map, List.map_map]
    congr 1
    funext p
    show (if f p.1 = f k then (f p.1, g a) else (f p.1, g p.2)) = _
    show _ = (fun p : κ × α => (f p.1, g p.2)) (if p.1 = k then (p.1, a) else p)
    by_cases e : p.1 = k
    · rw [if_pos e, if_pos (by rw [e])]
    · rw [if_neg e, if_neg (fun z => e (hf _ _ z))]
  · unfold mk2
    rw [List.map_append] <;> rfl
theorem dropK_mk2 (hf : ∀ a b, f a = f b → a = b) (l : List (κ × α)) (k : κ) : dropK (mk2 f g l) (f k) = mk2 f g (rm l k) := by
  unfold dropK rm mk2
  rw [List.filter_map]
  congr 1
  congr 1
  funext p
  show decide (f p.1 ≠ f k) = decide (p.1 ≠ k)
  by_cases e : p.1 = k
  · have e2 : f p.1 = f k := by rw [e]
    exact (decide_eq_false (p := f p.1 ≠ f k) (fun z => z e2)).trans (decide_eq_false (p := p.1 ≠ k) (fun z => z e)).symm
  · have e2 : f p.1 ≠ f k := fun z => e (hf _ _ z)
    exact (decide_eq_true (p := f p.1 ≠ f k) e2).trans (decide_eq_true (p := p.1 ≠ k) e).symm
end
theorem inr_inj (a b : Str) (h : (Sum.inr a : Key) = Sum.inr b) : a = b := Sum.inr.inj h
theorem inl_inj (a b : Int) (h : (Sum.inl a : Key) = Sum.inl b) : a = b := Sum.inl.inj h
/-- a pair of ints as a dict's key -/
def kII (p : Int × Int) : List Key := [Sum.inl p.1, Sum.inl p.2]
theorem kII_inj (a b : Int × Int) (h : kII a = kII b) : a = b := by
  unfold kII at h
  injection h with h1 h2
  injection h2 with h3 _
  exact Prod.ext (Sum.inl.inj h1) (Sum.inl.inj h3)
end Ol
namespace Ol
open PySem PySem.Spec PyProof.Rows L2
section
variable {X : Cx} {pos : Pos} {x : Str}
theorem pe_gint {i : Int} (hg : Gl X x) (h : ∃ t, X.mg x = some (.int i t)) (hd : (x == ("__debug__" : Str)) = false := by decide) : PE X (.Name x pos) (tC (.int i)) := by
  obtain ⟨t, h⟩ := h
  exact pe_glob hg h ⟨t, rfl⟩ hd
theorem pe_gstr {z : Str} (hg : Gl X x) (h : ∃ t, X.mg x = some (.str z t)) (hd : (x == ("__debug__" : Str)) = false := by decide) : PE X (.Name x pos) (tC (.str z)) := by
  obtain ⟨t, h⟩ := h
  exact pe_glob hg h ⟨t, rfl⟩ hd
theorem pe_gref {a : Addr} (hg : Gl X x) (h : X.mg x = some (.ref a)) (hd : (x == ("__debug__" : Str)) = false := by decide) : PE X (.Name x pos) (tC (.ref a)) := pe_glob hg h rfl hd
end
/-! ### d.get(k), k perhaps None -/
def tDGetN (td ty : TE) : TE := fun σ H Q => td σ H fun x H1 => ∃ a, x = .ref a ∧ IsD H1 a ∧ ty σ H1 fun y H2 => (∃ o, DGet H2 a y o ∧ Q (o.getD .non) H2) ∨ (y = .non ∧ (∃ kvs, Rd H2 a (.dK kvs)) ∧ Q .non H2)
section
variable {X : Cx} {pins : List (Addr × Obj)} {σ : L2.St} {H : Hp} {s : Shared} {a : Addr} {A : Around} {E : Value → Shared → Prop}
theorem d_getNone {Q : Value → Shared → Prop} {kvs : List (Key × V)} (I : Inv X pins σ H s) (e : Rd H a (.dK kvs)) (h : ∀ s', Inv X pins σ H s' → Q .none s') : wpAny (model X.prog X.w) A (call (.builtin "dict.get") [.ref a, .none]) Q E s := by
  obtain ⟨_, hd, vs, _, dd⟩ := dk_rd I.hok e
  obtain ⟨f, hm, hf⟩ := none_map dd
  refine call_meetsIn PySem.F.slot_dict_get dd.typeIs PySem.F.entry_dict_get (PySem.F.args_dict_get_2 _ _) (meets_dict_get (noneKind X.prog X.w) a (show (noneKind X.prog X.w).is none .none = true from rfl) hd) ⟨_, hm, ?_⟩
  rw [hf]
  exact h _ (I.tok _)
end
section
variable {X : Cx} {o e : Expr} {apos cpos : Pos} {td ty : TE}
theorem pe_dgetN (hu : X.A.units + 1 < cLine) (ho : PE X o td) (he : PE X e ty) (m : M1 X o "get" apos e cpos) : PE X (.Call (.Attribute o "get" apos) [e] [] cpos) (tDGetN td ty) := by
  refine ⟨fun pins s σ H Q I h => ?_⟩
  refine wpAny_Call_method m.base m.few m.line PySem.F.plainAttrs_dict PySem.F.slot_dict_get PySem.F.type_dict_get (thn (ho.run pins s σ H _ I h) fun u s1 ⟨x, H1, I1, rx, a, ex, d, q1⟩ => ?_)
  subst ex
  obtain rfl : u = Value.ref a := rx
  obtain ⟨t1, t2, _⟩ := isD_at I1 d
  refine ⟨t1, t2, ?_⟩
  rw [m.trees]
  refine Calls.callWith_builtin rfl (Calls.evalArgs_plain (Calls.spliced_cons (thn (he.run pins s1 σ H1 _ I1 q1) fun iv s2 ⟨y, H2, I2, ry, q2⟩ => Calls.spliced_nil ?_)))
  rcases q2 with ⟨ov, g, q2⟩ | ⟨ey, ⟨kvs, g⟩, q2⟩
  · exact d_get1 hu I2 g ry fun w' s3 I3 rw' => ⟨_, H2, I3, rw', q2⟩
  · subst ey
    obtain rfl : iv = Value.none := ry
    exact d_getNone I2 g fun s3 I3 => ⟨.non, H2, I3, rfl, q2⟩
end
/-! ### xs[-1] as what an augmented store reads -/
def rGetL (K : PySem.W.Frag) : V → V → Hp → VK → Prop := fun x y H Q => ∃ p xs i v, x = .ref p ∧ y = .int i ∧ i < 0 ∧ SqL K H p xs ∧ atI xs i = some v ∧ Q v H
section
variable {X : Cx}
theorem pget_list : PGet X (rGetL X.K) := by
  intro pins s σ H x y v u Q I rx ry h
  obtain ⟨p, xs, i, z, rfl, rfl, h0, hq, he, q⟩ := h
  cases rx
  obtain ⟨t, rfl⟩ := ry
  obtain ⟨its, r, pl, hz⟩ := I.list hq
  obtain ⟨j, h1, h2, h3, h4, h5⟩ := atI_get he
  obtain ⟨w, ew, rw'⟩ := r.get h2
  have hl := r.length
  have hn := line63
  have fin : EP X pins σ Q w s := ⟨z, H, I, rw', q⟩
  have hj : (i + (its.toArray.size : Int)).toNat = j := by
    rw [seqIndex_neg (by omega) h4] at h1
    rw [List.size_toArray, ← hl]
    exact Option.some.inj h1
  exact wpAny_getItem_list_neg pl.isList h0 (by rw [List.size_toArray] <;> omega) (by omega) (by rw [hj]; simpa using ew) fin
/-! ### str(None) -/
theorem call_str_W : CallR X (.type "str") (fun xs H Q => (xs = [.non] ∧ Q (.str "None") H) ∨ (∃ a, xs = [.str a] ∧ Q (.str a) H) ∨ ∃ i, xs = [.int i] ∧ i.natAbs.log2 < 1920 ∧ Q (.str (toString i)) H) := by
  intro pins s σ H xs us Q I r h
  rcases h with ⟨rfl, q⟩ | ⟨a, rfl, q⟩ | ⟨i, rfl, hz, q⟩
  · obtain ⟨u, rfl, hu⟩ := vals1 r
    cases (show u = Value.none from hu)
    exact PySem.P.str_of_none ⟨.str _, H, I.tok _, ⟨_, rfl⟩, q⟩
  · obtain ⟨u, rfl, t, rfl⟩ := vals1 r
    exact PySem.P.str_of_str ⟨.str a, H, I, ⟨t, rfl⟩, q⟩
  · obtain ⟨u, rfl, t, rfl⟩ := vals1 r
    exact PySem.P.str_of_int hz ⟨.str _, H, I.tok _, ⟨_, rfl⟩, q⟩
end
/-! ### list + list, read wherever they stand -/
section
open PySem.AutoSeq1
theorem list_add_sl (l : Addr) (items : Array Value) (n : Nat) (sl : Array (Option Value)) (b : Addr) (items2 : Array Value) (n2 : Nat) (sl2 : Array (Option Value)) (hc0 : items.size + items2.size ≤ sizeLine) :
    Meets (Builtin.«list.__add__» ⟨[.ref l, .ref b], []⟩) (fun _ R s => s.heap.get? l = some { cls := .type "list", dict := none, data := .seq items n, slots := sl } ∧ s.heap.get? b = some { cls := .type "list", dict := none, data := .seq items2 n2, slots := sl2 } ∧ R (.ok (.ret (Value.ref s.heap.objs.size))) { s with heap := s.heap.push { cls := Value.type "list", data := Data.seq (items ++ items2) }, toks := s.toks }) :=
  .of_wp fun prog w A R s h => by obtain ⟨hp, g, d, tk, os⟩ := s; obtain ⟨hl, hb, h⟩ := h; have f1 := AutoSeq1.idx_int; have f2 := AutoSeq1.sub_tuple_tuple; have f3 := AutoSeq1.sub_list_list; have f4 := AutoSeq1.sub_tuple_list; have f5 := AutoSeq1.sub_list_tuple; wp_walk using wpAny_loadPart' hl, wpAny_loadPart' hb; exact ⟨_, rfl, h⟩
end
def rCatL (K : PySem.W.Frag) : R2 := fun x y H Q => ∃ l b xs zs, x = .ref l ∧ y = .ref b ∧ SqL K H l xs ∧ SqL K H b zs ∧ xs.length + zs.length ≤ sizeLine ∧ ∀ p, H p = none → Q (.ref p) (upd H p (.lst (xs ++ zs)))
theorem op_catL {X : Cx} : OpR X (binaryOp .Add) (rCatL X.K) := by
  intro pins s σ H x y v u Q I rx ry h
  obtain ⟨l, b, xs, zs, rfl, rfl, hH, hB, hz, q⟩ := h
  cases rx
  cases ry
  obtain ⟨its, r, ⟨o, n, e, c, dn, dt⟩, hl⟩ := I.list hH
  obtain ⟨its2, r2, ⟨o2, n2, e2, c2, dn2, dt2⟩, hl2⟩ := I.list hB
  obtain ⟨oc, od, odt, osl⟩ := o
  obtain ⟨oc2, od2, odt2, osl2⟩ := o2
  simp only at c dn dt c2 dn2 dt2
  subst c dn dt c2 dn2 dt2
  have hs : its.toArray.size + its2.toArray.size ≤ sizeLine := by rw [List.size_toArray, List.size_toArray, ← r.length, ← r2.length]; exact hz
  refine PySem.concat_meets ⟨_, e, rfl⟩ ⟨_, e2, rfl⟩ noFill_list_add seq_list_add F.slot_list_add F.entry_list_add (F.args_list_add_2 _ _) (list_add_sl l its.toArray n osl b its2.toArray n2 osl2 hs) ⟨e, e2, ?_⟩
  have ea : its.toArray ++ its2.toArray = (its ++ its2).toArray := by simp
  rw [ea]
  exact ⟨.ref _, _, I.lnew (t' := s.toks) (r.append r2) (by rw [List.length_append]; exact hz), rfl, q _ I.fresh⟩
/-! ### sorted, of data of tuples, any length -/
def rSortD (K : PySem.W.Frag) {β : Type} (enc : β → PyData) : List V → Hp → VK → Prop := fun vs H Q => ∃ (a : Addr) (xs : List V) (bs : List β), vs = [.ref a] ∧ SqL K H a xs ∧ TDs K H xs (bs.map enc) ∧
  (∀ b b', PySem.W.alike (enc b) (enc b') = true) ∧ (∀ b, ∃ x r, enc b = .tuple (x :: r)) ∧ (∀ b, (enc b).depth ≤ 8) ∧
  ∀ p ys, H p = none → TDs K H ys ((bs.mergeSort (PySem.W.dataLe false enc)).map enc) → Q (.ref p) (upd H p (.lst ys))
theorem each_of {K : PySem.W.Frag} {H : Hp} {β : Type} {enc : β → PyData} : ∀ {bs : List β} {xs : List V} {us : List Value}, TDs K H xs (bs.map enc) → Vals xs us → PySem.W.EachIs (fun (u : Value) (b : β) => ∃ v, RelV v u ∧ TD K H v (enc b)) us bs
  | [], _, _, h, r => by
    have e := tds_nil.mp h
    subst e
    cases r
    exact .nil
  | b :: bs, _, _, h, r => by
    obtain ⟨v, t, rfl, h2, h3⟩ := tds_cons.mp h
    cases r with
    | cons rv rt => exact .cons ⟨v, rv, h2⟩ (each_of h3 rt)
theorem of_each {K : PySem.W.Frag} {H : Hp} {β : Type} {enc : β → PyData} : ∀ {bs : List β} {us : List Value}, PySem.W.EachIs (fun (u : Value) (b : β) => ∃ v, RelV v u ∧ TD K H v (enc b)) us bs → ∃ xs, TDs K H xs (bs.map enc) ∧ Vals xs us
  | _, _, .nil => ⟨[], TDs.nil, .nil⟩
  | _, _, .cons ⟨v, r, h⟩ t => by
    obtain ⟨xs, h1, h2⟩ := of_each t
    exact ⟨v :: xs, TDs.mk h h1, .cons r h2⟩
theorem cr_sortedD {X : Cx} {β : Type} {enc : β → PyData} (hu : X.A.units + 64 < cLine) : CallR X (.builtin "sorted") (rSortD X.K enc) := by
  intro pins s σ H vs us Q I r h
  obtain ⟨a, xs, bs, rfl, hs, hd, hal, hk, hdep, q⟩ := h
  obtain ⟨its, rv, hl, hz⟩ := I.list hs
  obtain ⟨u, rfl, rx⟩ := vals1 r
  obtain rfl : u = Value.ref a := rx
  have e := each_of hd rv
  have hlen : xs.length = bs.length := by rw [hd.length, List.length_map]
  have er : PySem.W.EachIs (fun v b => ∃ as, Reads s.heap v (enc b) as) its bs := e.mono fun v b ⟨x, h1, h2⟩ => Dp.reads I _ x v (TD.dp _ _ h2) h1
  refine PySem.W.sorted_data hl.isList e er (PySem.W.AllAlike.of hal) (PySem.W.Sortable.tuples hk) (by rw [← hlen]; exact hz) (fun b _ => by have := hdep b; omega) fun out ho eo => ?_
  obtain ⟨ys, h1, h2⟩ := of_each eo
  obtain ⟨ep, he'⟩ := PyProof.Rows.sortedAll_at s.heap its out.toArray
  have hyl : ys.length ≤ sizeLine := by rw [h2.length, ho, ← hlen]; exact hz
  exact ⟨.ref _, upd H (s.heap.objs.size + 1) (.lst ys), I.laid (t' := s.toks) (fun _ _ => PyProof.Rows.sortedAll_old) (Nat.le_succ _) ⟨hyl, out, ep, h2, he'⟩, rfl, q _ _ (I.hok.fresh (Nat.le_succ _)) h1⟩
end Ol
namespace Ol
open PySem PySem.Spec PyProof.Rows L2
/-! ### data that == compares -/
def Sd (n : Nat) (d : PyData) : Prop := d.canLay0 = true ∧ d.depth ≤ n
abbrev gs (x : Str) : Prop := PyData.canLay0 (.str x) = true
theorem sd_none {n : Nat} : Sd n .none := ⟨rfl, by simp [PyData.depth]⟩
theorem sd_int {n : Nat} {i : Int} : Sd n (.int i) := ⟨rfl, by simp [PyData.depth]⟩
theorem sd_str {n : Nat} {x : Str} (h : gs x) : Sd n (.str x) := ⟨h, by simp [PyData.depth]⟩
theorem sd_wd {n : Nat} {w : W} : Sd n (wd w) := by
  cases w with
  | none => exact sd_none
  | some i => exact sd_int
theorem sd_all {n : Nat} : ∀ {ds : List PyData}, (∀ d ∈ ds, Sd n d) → PyData.canLayAll0 ds = true ∧ PyData.depthAll ds ≤ n
  | [], _ => ⟨rfl, by simp [PyData.depthAll]⟩
  | d :: ds, h => by
    obtain ⟨h1, h2⟩ := h d List.mem_cons_self
    obtain ⟨h3, h4⟩ := sd_all (ds := ds) fun e he => h e (List.mem_cons_of_mem _ he)
    refine ⟨?_, ?_⟩
    · simp only [PyData.canLayAll0, h1, h3, Bool.and_self]
    · simp only [PyData.depthAll]
      exact Nat.max_le.mpr ⟨h2, h4⟩
theorem sd_tup {n : Nat} {ds : List PyData} (h : ∀ d ∈ ds, Sd n d) : Sd (n + 1) (.tuple ds) := by
  obtain ⟨h1, h2⟩ := sd_all h
  exact ⟨by simp only [PyData.canLay0, h1], by simp only [PyData.depth]; omega⟩
theorem sd_lst {n : Nat} {ds : List PyData} (h : ∀ d ∈ ds, Sd n d) : Sd (n + 1) (.list ds) := by
  obtain ⟨h1, h2⟩ := sd_all h
  exact ⟨by simp only [PyData.canLay0, h1], by simp only [PyData.depth]; omega⟩
theorem Sd.mono {n m : Nat} {d : PyData} (h : Sd n d) (le : n ≤ m) : Sd m d := ⟨h.1, Nat.le_trans h.2 le⟩
theorem Sd.shaped {n : Nat} {d : PyData} (h : Sd n d) (le : n ≤ 64 := by decide) : SeqAt.shaped d = true := by
  unfold SeqAt.shaped
  rw [h.1, decide_eq_true (Nat.le_trans h.2 le)]
  rfl
theorem Sd.refl {n : Nat} {d : PyData} (h : Sd n d) : PyData.eqv d d = true := SeqAt.eqv_refl_plain d (PyData.plain_of_canLay0 d h.1)
theorem all1 {p : PyData → Prop} {a : PyData} (h : p a) : ∀ d ∈ [a], p d := fun d hd => by simp at hd; rw [hd]; exact h
theorem all2 {p : PyData → Prop} {a b : PyData} (h : p a) (h2 : p b) : ∀ d ∈ [a, b], p d := fun d hd => by simp at hd; rcases hd with e | e <;> (rw [e]; assumption)
theorem all3 {p : PyData → Prop} {a b c : PyData} (h : p a) (h2 : p b) (h3 : p c) : ∀ d ∈ [a, b, c], p d := fun d hd => by simp at hd; rcases hd with e | e | e <;> (rw [e]; assumption)
theorem all4 {p : PyData → Prop} {a b c d : PyData} (h : p a) (h2 : p b) (h3 : p c) (h4 : p d) : ∀ x ∈ [a, b, c, d], p x := fun x hd => by simp at hd; rcases hd with e | e | e | e <;> (rw [e]; assumption)
theorem all5 {p : PyData → Prop} {a b c d f : PyData} (h : p a) (h2 : p b) (h3 : p c) (h4 : p d) (h5 : p f) : ∀ x ∈ [a, b, c, d, f], p x := fun x hd => by simp at hd; rcases hd with e | e | e | e | e <;> (rw [e]; assumption)
end Ol
namespace Ol
open PySem PySem.Spec PyProof.Rows L2

/-! ### sayings -/
inductive Op where
  | add | sub | mul | lt | eq
  deriving DecidableEq
def Op.s : Op → Str
  | .add => "+" | .sub => "-" | .mul => "*" | .lt => "<" | .eq => "="
inductive Say where
  | num (n : Int) | non | name (x : Str) | arg | now | ans (s : Say) | no (s : Say) | bin (o : Op) (a b : Say)
def Say.d : Say → PyData
  | .num n => .tuple [.str "number", .int n]
  | .non => .tuple [.str "none"]
  | .name x => .tuple [.str "name", .str x]
  | .arg => .tuple [.str "arg"]
  | .now => .tuple [.str "now"]
  | .ans s => .tuple [.str "answer", s.d]
  | .no s => .tuple [.str "not", s.d]
  | .bin o a b => .tuple [.str o.s, a.d, b.d]
def Say.dep : Say → Nat
  | .ans s => s.dep + 1
  | .no s => s.dep + 1
  | .bin _ a b => max a.dep b.dep + 1
  | _ => 0
/-- the bound of every worth -/
def BW : Int := 1099511627776
def WB (w : W) : Prop := ∀ i, w = some i → -BW ≤ i ∧ i ≤ BW
def Say.ok : Say → Prop
  | .num n => -BW ≤ n ∧ n ≤ BW
  | .ans s => s.ok
  | .no s => s.ok
  | .bin _ a b => a.ok ∧ b.ok
  | _ => True
def asN (w : W) : Int := w.getD 0
def keptI (n : Int) : Int := if (if n < 1000000000 then n else 1000000000) > 0 - 1000000000 then (if n < 1000000000 then n else 1000000000) else 0 - 1000000000
def joinW (o : Op) (a b : W) : W := some (match o with
  | .eq => if a = b then 1 else 0
  | .lt => if asN a < asN b then 1 else 0
  | .add => keptI (asN a + asN b)
  | .sub => keptI (asN a - asN b)
  | .mul => keptI (asN a * asN b))
structure SEnv where
  known : List (Str × W)
  arg : W
  now : Int
  ans : List (Int × W)
def worthOf (e : SEnv) : Say → W
  | .num n => some n
  | .non => none
  | .name x => (lk e.known x).getD none
  | .arg => e.arg
  | .now => some (keptI e.now)
  | .ans s => match worthOf e s with
    | some t => (lk e.ans t).getD none
    | none => none
  | .no s => some (if asN (worthOf e s) = 0 then 1 else 0)
  | .bin o a b => joinW o (worthOf e a) (worthOf e b)
structure SEnv.Ok (e : SEnv) : Prop where
  known : ∀ p ∈ e.known, WB p.2
  arg : WB e.arg
  ans : ∀ p ∈ e.ans, WB p.2
theorem wb_none : WB none := fun i h => nomatch h
theorem wb_some {i : Int} (h1 : -BW ≤ i) (h2 : i ≤ BW) : WB (some i) := fun j e => by cases e; exact ⟨h1, h2⟩
theorem keptI_b (n : Int) : -1000000000 ≤ keptI n ∧ keptI n ≤ 1000000000 := by
  unfold keptI
  split <;> split <;> omega
theorem asN_b {w : W} (h : WB w) : -BW ≤ asN w ∧ asN w ≤ BW := by
  cases w with
  | none => exact ⟨by decide, by decide⟩
  | some i => exact h i rfl
theorem wb_kept (n : Int) : WB (some (keptI n)) := by
  have := keptI_b n
  exact wb_some (by show -1099511627776 ≤ _; omega) (by show _ ≤ 1099511627776; omega)
theorem wb_01 (c : Prop) [Decidable c] : WB (some (if c then 1 else 0)) := by
  split <;> exact wb_some (by decide) (by decide)
theorem worthOf_b {e : SEnv} (h : e.Ok) : ∀ {s : Say}, s.ok → WB (worthOf e s)
  | .num n, q => wb_some q.1 q.2
  | .non, _ => wb_none
  | .name x, _ => by
    show WB ((lk e.known x).getD none)
    cases q : lk e.known x with
    | none => exact wb_none
    | some w => exact h.known _ (lk_mem q)
  | .arg, _ => h.arg
  | .now, _ => wb_kept _
  | .ans s, _ => by
    show WB (match worthOf e s with | some t => (lk e.ans t).getD none | none => none)
    cases worthOf e s with
    | none => exact wb_none
    | some t =>
      show WB ((lk e.ans t).getD none)
      cases q : lk e.ans t with
      | none => exact wb_none
      | some w => exact h.ans _ (lk_mem q)
  | .no s, _ => wb_01 _
  | .bin o a b, q => by
    cases o with
    | add => exact wb_kept _
    | sub => exact wb_kept _
    | mul => exact wb_kept _
    | lt => exact wb_01 _
    | eq => exact wb_01 _

/-! ### programs -/
inductive Stm where
  | set (x : Str) (s : Say) | order (x w : Str) (s : Say) | timer (x : Str) (s : Say) | child (x p : Str) (s : Say) | send (a : Say) (k : Str) (b : Say) | drop (s : Say)
  | wait (x : Str) (ss : List Say) | hear (x k : Str) | ite (s : Say) (a b : List Stm) | whl (s : Say) (b : List Stm) | fin (s : Say)
mutual
def Stm.d : Stm → PyData
  | .set x s => .tuple [.str "set", .str x, s.d]
  | .order x w s => .tuple [.str "order", .str x, .str w, s.d]
  | .timer x s => .tuple [.str "timer", .str x, s.d]
  | .child x p s => .tuple [.str "child", .str x, .str p, s.d]
  | .send a k b => .tuple [.str "send", a.d, .str k, b.d]
  | .drop s => .tuple [.str "drop", s.d]
  | .wait x ss => .tuple [.str "wait", .str x, .tuple (ss.map Say.d)]
  | .hear x k => .tuple [.str "hear", .str x, .str k]
  | .ite s a b => .tuple [.str "if", s.d, .tuple (blkD a), .tuple (blkD b)]
  | .whl s b => .tuple [.str "while", s.d, .tuple (blkD b)]
  | .fin s => .tuple [.str "end", s.d]
def blkD : List Stm → List PyData
  | [] => []
  | s :: r => s.d :: blkD r
end
/-- a saying that the program may hold -/
def Say.good (s : Say) : Prop := s.ok ∧ s.dep ≤ 3
mutual
def Stm.ok : Stm → Prop
  | .set _ s => s.good
  | .order _ w s => gs w ∧ s.good
  | .timer _ s => s.good
  | .child _ p s => gs p ∧ s.good
  | .send a k b => gs k ∧ a.good ∧ b.good
  | .drop s => s.good
  | .wait _ ss => ss.length ≤ 100 ∧ ∀ s ∈ ss, Say.good s
  | .hear _ k => gs k
  | .ite s a b => s.good ∧ blkOk a ∧ blkOk b
  | .whl s b => s.good ∧ blkOk b
  | .fin s => s.good
def blkOk : List Stm → Prop
  | [] => True
  | s :: r => s.ok ∧ blkOk r
end
theorem blkD_map : ∀ b : List Stm, blkD b = b.map Stm.d
  | [] => rfl
  | s :: r => by simp only [blkD, List.map_cons, blkD_map r]
theorem blkOk_mem : ∀ {b : List Stm} {s : Stm}, blkOk b → s ∈ b → s.ok
  | [], _, _, h => nomatch h
  | t :: r, s, h, m => by
    simp only [blkOk] at h
    rcases List.mem_cons.mp m with e | m
    · rw [e]; exact h.1
    · exact blkOk_mem h.2 m
theorem blkOk_of : ∀ {b : List Stm}, (∀ s ∈ b, Stm.ok s) → blkOk b
  | [], _ => by simp only [blkOk]
  | t :: r, h => by
    simp only [blkOk]
    exact ⟨h t List.mem_cons_self, blkOk_of fun s m => h s (List.mem_cons_of_mem _ m)⟩
/-- the block that an if or a while holds at a branch -/
def Stm.sub : Stm → Nat → Option (List Stm)
  | .ite _ a _, 0 => some a
  | .ite _ _ b, 1 => some b
  | .whl _ b, 0 => some b
  | _, _ => none
theorem Stm.sub_ok {s : Stm} {i : Nat} {b : List Stm} (h : s.ok) (e : s.sub i = some b) : blkOk b := by
  cases s with
  | ite s a c =>
    simp only [Stm.ok] at h
    match i with
    | 0 => cases e; exact h.2.1
    | 1 => cases e; exact h.2.2
    | i + 2 => cases e
  | whl s c =>
    simp only [Stm.ok] at h
    match i with
    | 0 => cases e; exact h.2
    | i + 1 => cases e
  | _ => cases e

/-! ### a run -/
inductive Mode where
  | new | on | wait | hear | ended | worn
  deriving DecidableEq
def Mode.s : Mode → Str
  | .new => "new" | .on => "on" | .wait => "wait" | .hear => "hear" | .ended => "ended" | .worn => "worn"
inductive Cmd where
  | order (t : Int) (w : Str) (a : W) | timer (t due : Int) | child (t : Int) (p : Str) (a : W) | send (r : W) (k : Str) (a : W) | drop (t : Int) | fin (a : W) | worn
def Cmd.d : Cmd → PyData
  | .order t w a => .tuple [.str "order", .int t, .str w, wd a]
  | .timer t due => .tuple [.str "timer", .int t, .int due]
  | .child t p a => .tuple [.str "child", .int t, .str p, wd a]
  | .send r k a => .tuple [.str "send", wd r, .str k, wd a]
  | .drop t => .tuple [.str "drop", .int t]
  | .fin a => .tuple [.str "end", wd a]
  | .worn => .tuple [.str "worn"]
inductive Hap where
  | begin (m : Int) (a : W) | done (m t : Int) (a : W) | letter (m : Int) (k : Str) (a : W)
def Hap.d : Hap → PyData
  | .begin m a => .tuple [.str "begin", .int m, wd a]
  | .done m t a => .tuple [.str "done", .int m, .int t, wd a]
  | .letter m k a => .tuple [.str "letter", .int m, .str k, wd a]
structure RS where
  prog : List Stm
  mode : Mode
  /-- the path, its last number ahead -/
  path : List Nat
  known : List (Str × W)
  arg : W
  today : Int
  made : Nat
  notDone : List Int
  answered : List (Int × W)
  heard : List (Str × List W)
  awaited : List Int
  outcome : W
  orders : List Cmd
  steps : Nat
def RS.init (p : List Stm) : RS := ⟨p, .new, [0], [], none, 0, 0, [], [], [], [], none, [], 0⟩
/-- the block in which the path's last number tells a statement -/
def blkR (p : List Stm) : List Nat → List Stm
  | _ :: b :: r => (((blkR p r)[r.headD 0]?).bind fun s => s.sub b).getD []
  | _ => p
def pathOk (p : List Stm) : List Nat → Prop
  | [] => False
  | [i] => i ≤ p.length
  | i :: b :: r => pathOk p r ∧ (∃ s blk, (blkR p r)[r.headD 0]? = some s ∧ s.sub b = some blk ∧ i ≤ blk.length)
def RS.block (r : RS) : List Stm := blkR r.prog r.path
def RS.here (r : RS) : Option Stm := r.block[r.path.headD 0]?
def RS.bump (r : RS) : RS := { r with path := (r.path.headD 0 + 1) :: r.path.tail }
def Stm.nm : Stm → Str
  | .wait x _ => x
  | .hear x _ => x
  | _ => Str.empty
def Stm.key : Stm → Str
  | .hear _ k => k
  | _ => Str.empty
def RS.hereName (r : RS) : Str := (r.here.map Stm.nm).getD Str.empty
def RS.hereKey (r : RS) : Str := (r.here.map Stm.key).getD Str.empty
/-- go_behind -/
def RS.behind (r : RS) (a : W) : RS := { r with known := pt r.known r.hereName a }.bump
def ansD (l : List (Int × W)) : List (Int × W) := l.foldl (fun acc p => pt acc p.1 p.2) []
def RS.env (r : RS) : SEnv := ⟨r.known, r.arg, r.today, ansD r.answered⟩
def RS.says (r : RS) (s : Say) : W := worthOf r.env s
def isTrueW (w : W) : Bool := decide (w ≠ none) && decide (w ≠ some 0)
/-- new_ticket -/
def RS.ticket (r : RS) (x : Str) : RS := { r with made := r.made + 1, notDone := r.notDone ++ [(r.made : Int)], known := pt r.known x (some (r.made : Int)) }
def RS.tell (r : RS) (c : Cmd) : RS := { r with orders := r.orders ++ [c] }
def RS.fin (r : RS) (a : W) : RS := { r with mode := .ended, outcome := a }.tell (.fin a)
/-- the list without the first k -/
def remI (k : Int) (l : List Int) : List Int := l.erase k
def RS.dropT (r : RS) (w : W) : RS := match w with
  | some t => if t ∈ r.notDone then { r with notDone := r.notDone.erase t }.tell (.drop t) else r
  | none => r
def RS.push (r : RS) (b : Nat) : RS := { r with path := 0 :: b :: r.path }
def RS.plain (r : RS) : Stm → RS
  | .set x s => { r with known := pt r.known x (r.says s) }
  | .send a k b => r.tell (.send (r.says a) k (r.says b))
  | .drop s => r.dropT (r.says s)
  | .timer x s => (r.ticket x).tell (.timer (r.made : Int) (min 1000000000000 (r.today + max 0 (asN (r.says s)))))
  | .order x w s => (r.ticket x).tell (.order (r.made : Int) w (r.says s))
  | .child x p s => (r.ticket x).tell (.child (r.made : Int) p (r.says s))
  | _ => r
/-- first_letter, and what it tells -/
def RS.letter (r : RS) (k : Str) : RS := match (lk r.heard k).getD [] with
  | _ :: [] => { r with heard := rm r.heard k }
  | _ :: l => { r with heard := pt r.heard k l }
  | [] => r
def RS.letterW (r : RS) (k : Str) : W := ((lk r.heard k).getD []).headD none
def RS.doHear (r : RS) (k : Str) : RS := if (lk r.heard k).isSome then (r.letter k).behind (r.letterW k) else { r with mode := .hear }
def RS.ready (r : RS) (ws : List W) : List Int := (r.answered.map (·.1)).filter fun t => decide (some t ∈ ws)
def RS.doWait (r : RS) (ss : List Say) : RS :=
  let ws := ss.map r.says
  let r1 := { r with awaited := r.notDone.filter fun t => decide (some t ∈ ws) }
  match r.ready ws with
  | t :: _ => r1.behind (some t)
  | [] => if r1.awaited ≠ [] then { r1 with mode := .wait } else r1.behind none
def RS.look (r : RS) (s : Say) (isIf : Bool) : RS := if isTrueW (r.says s) then r.push 0 else if isIf then r.push 1 else r.bump
def RS.next (r : RS) (s : Stm) : RS := if r.steps = 300 then { r with mode := .worn }.tell .worn else
  let r := { r with steps := r.steps + 1 }
  match s with
  | .ite c _ _ => r.look c true
  | .whl c _ => r.look c false
  | .wait _ ss => r.doWait ss
  | .hear _ k => r.doHear k
  | .fin c => r.fin (r.says c)
  | s => (r.plain s).bump
def Stm.isIf : Stm → Bool
  | .ite _ _ _ => true
  | _ => false
def RS.pop (r : RS) : RS :=
  let r1 := { r with path := r.path.drop 2 }
  if (r1.here.map Stm.isIf).getD false then r1.bump else r1
/-- a turn of go_on -/
def RS.turn (r : RS) : RS := match r.here with
  | some s => r.next s
  | none => if r.path.length = 1 then r.fin none else r.pop
def RS.loop : Nat → RS → RS
  | 0, r => r
  | n + 1, r => if r.mode = .on then RS.loop n r.turn else r
/-- what falls at each turn -/
def RS.mu (r : RS) : Nat := 3 * (301 - r.steps) + r.path.length
def RS.goOn (r : RS) : RS := let r1 := { r with mode := .on }; RS.loop (r1.mu + 1) r1
def RS.takeDone (r : RS) (t : Int) (a : W) : RS :=
  let r1 := { r with notDone := r.notDone.erase t, answered := r.answered ++ [(t, a)] }
  if r1.mode = .wait ∧ t ∈ r1.awaited then (r1.behind (some t)).goOn else r1
def RS.takeLetter (r : RS) (k : Str) (a : W) : RS :=
  let r1 := { r with heard := pt r.heard k ((lk r.heard k).getD [] ++ [a]) }
  if r1.mode = .hear ∧ r1.hereKey = k then ((r1.letter k).behind (r1.letterW k)).goOn else r1
def RS.take (r : RS) (h : Hap) : RS :=
  let r := { r with orders := [], steps := 0 }
  match h with
  | .begin m a => if r.mode = .new then { r with today := max r.today m, arg := a }.goOn else r
  | .done m t a => if (r.mode = .wait ∨ r.mode = .hear) ∧ t ∈ r.notDone then { r with today := max r.today m }.takeDone t a else r
  | .letter m k a => if r.mode = .wait ∨ r.mode = .hear then { r with today := max r.today m }.takeLetter k a else r
def RS.waits (r : RS) : PyData := match r.mode with
  | .wait => .tuple [.str "wait", .tuple (r.awaited.map .int)]
  | .hear => .tuple [.str "hear", .str r.hereKey]
  | .ended => .tuple [.str "ended", wd r.outcome]
  | m => .tuple [.str m.s]
def RS.gone (r : RS) : Bool := decide (r.mode = .ended) || decide (r.mode = .worn)
def RS.open (r : RS) : List Int := if r.gone then [] else r.notDone
end Ol
namespace Ol
open PySem PySem.Spec PyProof.Rows L2
local macro_rules | `(tactic| walk_at "len") => `(tactic| (intro vs H Q E h; first | (rcases h with ⟨hh, _⟩; rw [hh]; rfl) | (rcases h with ⟨_, hh, _⟩; rw [hh]; rfl) | (rcases h with ⟨_, _, hh, _⟩; rw [hh]; rfl) | (rcases h with ⟨_, _, _, hh, _⟩; rw [hh]; rfl) | (rcases h with ⟨_, _, _, _, hh, _⟩; rw [hh]; rfl) | (rcases h with ⟨_, _, _, _, _, hh, _⟩; rw [hh]; rfl) | (rcases h with ⟨_, _, _, _, _, _, hh, _⟩; rw [hh]; rfl) | (rcases h with ⟨_, _, _, _, _, _, _, hh, _⟩; rw [hh]; rfl) | (rcases h with ⟨_, _, _, _, _, _, _, _, hh, _⟩; rw [hh]; rfl) | (rcases h with ⟨_, _, _, _, _, _, _, _, _, hh, _⟩; rw [hh]; rfl) | (rcases h with ⟨_, _, _, _, _, _, _, _, _, _, hh, _⟩; rw [hh]; rfl) | (rcases h with ⟨_, _, _, _, _, _, _, _, _, _, _, hh, _⟩; rw [hh]; rfl) | (rcases h with ⟨_, _, _, _, _, _, _, _, _, _, _, _, hh, _⟩; rw [hh]; rfl) | (rcases h with ⟨_, _, _, _, _, _, _, _, _, _, _, _, _, hh, _⟩; rw [hh]; rfl) | (rcases h with ⟨_, _, _, _, _, _, _, _, _, _, _, _, _, _, hh, _⟩; rw [hh]; rfl) | (rcases h with ⟨_, _, _, _, _, _, _, _, _, _, _, _, _, _, _, hh, _⟩; rw [hh]; rfl) | (rcases h with ⟨_, _, _, _, _, _, _, _, _, _, _, _, _, _, _, _, hh, _⟩; rw [hh]; rfl) | (rcases h with ⟨_, _, _, _, _, _, _, _, _, _, _, _, _, _, _, _, _, hh, _⟩; rw [hh]; rfl) | (rcases h with ⟨_, _, _, _, _, _, _, _, _, _, _, _, _, _, _, _, _, _, hh, _⟩; rw [hh]; rfl) | (rcases h with ⟨_, _, _, _, _, _, _, _, _, _, _, _, _, _, _, _, _, _, _, hh, _⟩; rw [hh]; rfl)))
theorem ifF {c : Bool} {A B : Prop} (h : c = false) (k : B) : if c = true then A else B := by rw [h, if_neg Bool.false_ne_true]; exact k
theorem ifT {c : Bool} {A B : Prop} (h : c = true) (k : A) : if c = true then A else B := by rw [h, if_pos rfl]; exact k
def spKept : Sp := fun vs H Q _ => ∃ n : Int, vs = [.int n] ∧ Q (.int (keptI n)) H
def spAsN : Sp := fun vs H Q _ => ∃ a : W, vs = [wv a] ∧ Q (.int (asN a)) H
def spJoin : Sp := fun vs H Q _ => ∃ (o : Op) (a b : W), vs = [.str o.s, wv a, wv b] ∧ WB a ∧ WB b ∧ Q (wv (joinW o a b)) H
def spWorth (K : PySem.W.Frag) (n : Nat) : Sp := fun vs H Q _ => ∃ (s : Say) (sv : V) (an av : Addr) (e : SEnv), vs = [sv, .ref an, wv e.arg, .int e.now, .ref av] ∧ TD K H sv s.d ∧ s.dep ≤ n ∧ s.ok ∧ e.Ok ∧
  H an = some (.dK (mk2 Sum.inr wv e.known)) ∧ H av = some (.dK (mk2 Sum.inl wv e.ans)) ∧ Q (wv (worthOf e s)) H
def spTrue : Sp := fun vs H Q _ => ∃ a : W, vs = [wv a] ∧ Q (.bl (isTrueW a)) H
section
variable {P : Program} {w : World} {K : PySem.W.Frag} {mg : Str → Option Value} {base : Heap}
theorem sc_kept : FnScope ["number"] ["number"] (defScope s_kept) := ⟨rfl, rfl, rfl, by decide +kernel, rfl, by decide +kernel, by decide +kernel⟩
theorem ok_kept (T : Tx w K mg) : OkD P w K mg base d_kept 1 ["number"] (spKept) := by
  have sc := sc_kept
  refine okD_mk (F_kept T) sc (fun _ _ _ _ _ _ us hl => match us, hl with | [_], _ => rfl) ?len ?body
  case len => walk_at "len"
  intro cdv f A outer s H vs Q E hr h
  refine ⟨_, (pss_one (ps_ret (pe_callB (call_max2 rfl) (by rfl) (z_max T) (by decide +kernel) (pa_cons (pe_op op_sub pe_int (pe_gint (by rfl) (i_MOST T))) (pa_cons (pe_callB (call_min2 rfl) (by rfl) (z_min T) (by decide +kernel) (pa_cons (pe_gint (by rfl) (i_MOST T)) (pa_cons (pv 0) pa_nil))) pa_nil))))), ?_⟩
  obtain ⟨n, rfl, q⟩ := h
  exact ⟨_, _, rfl, rfl, _, rfl, _, _, rfl, _, _, rfl, q⟩
theorem sc_as_number : FnScope ["worth"] ["worth"] (defScope s_as_number) := ⟨rfl, rfl, rfl, by decide +kernel, rfl, by decide +kernel, by decide +kernel⟩
theorem ok_as_number (T : Tx w K mg) : OkD P w K mg base d_as_number 1 ["worth"] (spAsN) := by
  have sc := sc_as_number
  refine okD_mk (F_as_number T) sc (fun _ _ _ _ _ _ us hl => match us, hl with | [_], _ => rfl) ?len ?body
  case len => walk_at "len"
  intro cdv f A outer s H vs Q E hr h
  refine ⟨_, (pss_cons (ps_if (pt_cmp (pc_isN (pv 0))) (pss_one (ps_ret pe_int)) pss_nil)
    (pss_one (ps_ret (pv 0)))), ?_⟩
  obtain ⟨a, rfl, q⟩ := h
  cases a with
  | none => exact ⟨_, rfl, _, rfl, ifT rfl q⟩
  | some i => exact ⟨_, rfl, _, rfl, ifF rfl ⟨_, rfl, q⟩⟩
theorem sc_is_true : FnScope ["worth"] ["worth"] (defScope s_is_true) := ⟨rfl, rfl, rfl, by decide +kernel, rfl, by decide +kernel, by decide +kernel⟩
theorem ok_is_true (T : Tx w K mg) : OkD P w K mg base d_is_true 1 ["worth"] (spTrue) := by
  have sc := sc_is_true
  refine okD_mk (F_is_true T) sc (fun _ _ _ _ _ _ us hl => match us, hl with | [_], _ => rfl) ?len ?body
  case len => walk_at "len"
  intro cdv f A outer s H vs Q E hr h
  refine ⟨_, (pss_one (ps_ret (pe_and (pe_cmp (pc_notN (pv 0))) (pe_one (pe_cmpR op_ne (pv 0) pe_int (nomark _)))))), ?_⟩
  obtain ⟨a, rfl, q⟩ := h
  cases a with
  | none => exact ⟨_, rfl, _, rfl, ifF rfl q⟩
  | some i =>
    refine ⟨_, rfl, _, rfl, ifT rfl ⟨_, rfl, rfl, ?_⟩⟩
    have e : (!decide (V.int i = V.int 0)) = isTrueW (some i) := by
      by_cases h : i = 0
      · subst h; rfl
      · have e3 : isTrueW (some i) = true := by simp [isTrueW, h]
        rw [e3, decide_eq_false (fun z => h (V.int.inj z))]
        all_goals rfl
    show Q (.bl (!decide (V.int i = V.int 0))) H
    rw [e]
    exact q
theorem sc_joined_by : FnScope ["sign", "one", "other", "first", "second"] ["sign", "one", "other"] (defScope s_joined_by) := ⟨rfl, rfl, rfl, by decide +kernel, rfl, by decide +kernel, by decide +kernel⟩
theorem ok_joined_by (T : Tx w K mg) : OkD P w K mg base d_joined_by 2 ["sign", "one", "other"] (spJoin) := by
  have sc := sc_joined_by
  refine okD_mk (F_joined_by T) sc (fun _ _ _ _ _ _ us hl => match us, hl with | [_, _, _], _ => rfl) ?len ?body
  case len => walk_at "len"
  intro cdv f A outer s H vs Q E hr h
  refine ⟨_, (pss_cons (ps_if (pt_cmpR op_eq (pv 0) pe_str (nomark _)) (pss_one (ps_ret (pe_callTy call_int1 (by rfl) (z_int T) (by decide +kernel) (pa_cons (pe_cmpR op_eq (pv 1) (pv 2) (nomark _)) pa_nil)))) pss_nil)
    (pss_cons (ps_set (i := 3) sc.nd rfl (Or.inl rfl) (pe_f (ok_as_number T) (hr.mono (by decide)) (by rfl) (g_as_number T) (pa_cons (pv 1) pa_nil)))
    (pss_cons (ps_set (i := 4) sc.nd rfl (Or.inl rfl) (pe_f (ok_as_number T) (hr.mono (by decide)) (by rfl) (g_as_number T) (pa_cons (pv 2) pa_nil)))
    (pss_cons (ps_if (pt_cmpR op_eq (pv 0) pe_str (nomark _)) (pss_one (ps_ret (pe_callTy call_int1 (by rfl) (z_int T) (by decide +kernel) (pa_cons (pe_cmpR op_lt (pv 3) (pv 4) (nomark _)) pa_nil)))) pss_nil)
    (pss_cons (ps_if (pt_cmpR op_eq (pv 0) pe_str (nomark _)) (pss_one (ps_ret (pe_f (ok_kept T) (hr.mono (by decide)) (by rfl) (g_kept T) (pa_cons (pe_op op_add (pv 3) (pv 4)) pa_nil)))) pss_nil)
    (pss_cons (ps_if (pt_cmpR op_eq (pv 0) pe_str (nomark _)) (pss_one (ps_ret (pe_f (ok_kept T) (hr.mono (by decide)) (by rfl) (g_kept T) (pa_cons (pe_op op_sub (pv 3) (pv 4)) pa_nil)))) pss_nil)
    (pss_one (ps_ret (pe_f (ok_kept T) (hr.mono (by decide)) (by rfl) (g_kept T) (pa_cons (pe_op op_mul (pv 3) (pv 4)) pa_nil)))))))))), ?_⟩
  obtain ⟨o, a, b, rfl, ha, hb, q⟩ := h
  by_cases ho : o = .eq
  · subst ho
    refine ⟨_, rfl, rfl, _, rfl, ifT (by decide +kernel) ⟨_, rfl, _, rfl, scal_wv a b, .inr ⟨_, rfl, ?_⟩⟩⟩
    have e : (decide (wv a = wv b)) = decide (a = b) := by
      by_cases h : a = b
      · subst h; simp
      · rw [decide_eq_false h, decide_eq_false (fun z => h (wv_inj z))]
    rw [e]
    have e2 : (if decide (a = b) = true then (1 : Int) else 0) = if a = b then 1 else 0 := by simp only [decide_eq_true_eq]
    rw [e2]
    exact q
  have h1 : decide (V.str o.s = V.str "=") = false := by
    cases o with
    | eq => exact absurd rfl ho
    | _ => decide +kernel
  refine ⟨_, rfl, rfl, _, rfl, ifF h1 ?_⟩
  refine ⟨_, rfl, a, rfl, _, rfl, b, rfl, ?_⟩
  by_cases h2 : o = .lt
  · subst h2
    refine ⟨_, rfl, rfl, _, rfl, ifT (by decide +kernel) ⟨_, rfl, _, rfl, _, _, rfl, rfl, .inr ⟨_, rfl, ?_⟩⟩⟩
    have e2 : (if decide (asN a < asN b) = true then (1 : Int) else 0) = if asN a < asN b then 1 else 0 := by simp only [decide_eq_true_eq]
    show Q (.int (if decide (asN a < asN b) = true then (1 : Int) else 0)) H
    rw [e2]
    exact q
  have h3 : decide (V.str o.s = V.str "<") = false := by
    cases o with
    | lt => exact absurd rfl h2
    | _ => decide +kernel
  refine ⟨_, rfl, rfl, _, rfl, ifF h3 ?_⟩
  by_cases h4 : o = .add
  · subst h4
    exact ⟨_, rfl, rfl, _, rfl, ifT (by decide +kernel) ⟨_, rfl, _, rfl, _, _, rfl, rfl, _, rfl, q⟩⟩
  have h5 : decide (V.str o.s = V.str "+") = false := by
    cases o with
    | add => exact absurd rfl h4
    | _ => decide +kernel
  refine ⟨_, rfl, rfl, _, rfl, ifF h5 ?_⟩
  by_cases h6 : o = .sub
  · subst h6
    exact ⟨_, rfl, rfl, _, rfl, ifT (by decide +kernel) ⟨_, rfl, _, rfl, _, _, rfl, rfl, _, rfl, q⟩⟩
  have h7 : o = .mul := by
    cases o with
    | add => exact absurd rfl h4
    | sub => exact absurd rfl h6
    | mul => rfl
    | lt => exact absurd rfl h2
    | eq => exact absurd rfl ho
  subst h7
  have ba := asN_b ha
  have hc : CMul (asN a) (asN b) := by
    refine .inl ⟨?_, ?_⟩ <;> simp only [BW] at ba <;> omega
  exact ⟨_, rfl, rfl, _, rfl, ifF (by decide +kernel) ⟨_, rfl, _, rfl, _, _, rfl, rfl, hc, _, rfl, q⟩⟩
end
end Ol
namespace Ol
open PySem PySem.Spec PyProof.Rows L2
local macro_rules | `(tactic| walk_at "len") => `(tactic| (intro vs H Q E h; first | (rcases h with ⟨hh, _⟩; rw [hh]; rfl) | (rcases h with ⟨_, hh, _⟩; rw [hh]; rfl) | (rcases h with ⟨_, _, hh, _⟩; rw [hh]; rfl) | (rcases h with ⟨_, _, _, hh, _⟩; rw [hh]; rfl) | (rcases h with ⟨_, _, _, _, hh, _⟩; rw [hh]; rfl) | (rcases h with ⟨_, _, _, _, _, hh, _⟩; rw [hh]; rfl) | (rcases h with ⟨_, _, _, _, _, _, hh, _⟩; rw [hh]; rfl) | (rcases h with ⟨_, _, _, _, _, _, _, hh, _⟩; rw [hh]; rfl) | (rcases h with ⟨_, _, _, _, _, _, _, _, hh, _⟩; rw [hh]; rfl) | (rcases h with ⟨_, _, _, _, _, _, _, _, _, hh, _⟩; rw [hh]; rfl) | (rcases h with ⟨_, _, _, _, _, _, _, _, _, _, hh, _⟩; rw [hh]; rfl) | (rcases h with ⟨_, _, _, _, _, _, _, _, _, _, _, hh, _⟩; rw [hh]; rfl) | (rcases h with ⟨_, _, _, _, _, _, _, _, _, _, _, _, hh, _⟩; rw [hh]; rfl) | (rcases h with ⟨_, _, _, _, _, _, _, _, _, _, _, _, _, hh, _⟩; rw [hh]; rfl) | (rcases h with ⟨_, _, _, _, _, _, _, _, _, _, _, _, _, _, hh, _⟩; rw [hh]; rfl) | (rcases h with ⟨_, _, _, _, _, _, _, _, _, _, _, _, _, _, _, hh, _⟩; rw [hh]; rfl) | (rcases h with ⟨_, _, _, _, _, _, _, _, _, _, _, _, _, _, _, _, hh, _⟩; rw [hh]; rfl) | (rcases h with ⟨_, _, _, _, _, _, _, _, _, _, _, _, _, _, _, _, _, hh, _⟩; rw [hh]; rfl) | (rcases h with ⟨_, _, _, _, _, _, _, _, _, _, _, _, _, _, _, _, _, _, hh, _⟩; rw [hh]; rfl) | (rcases h with ⟨_, _, _, _, _, _, _, _, _, _, _, _, _, _, _, _, _, _, _, hh, _⟩; rw [hh]; rfl)))
section
variable {K : PySem.W.Frag} {H : Hp} {v : V} {a b c d : PyData}
theorem td1 (h : TD K H v (.tuple [a])) : ∃ p x, v = .ref p ∧ SqT K H p [x] ∧ TD K H x a := by
  obtain ⟨p, vs, rfl, h1, h2⟩ := td_tup.mp h
  obtain ⟨x, r, rfl, h3, h4⟩ := tds_cons.mp h2
  rw [tds_nil.mp h4] at h1
  exact ⟨p, x, rfl, h1, h3⟩
theorem td2 (h : TD K H v (.tuple [a, b])) : ∃ p x y, v = .ref p ∧ SqT K H p [x, y] ∧ TD K H x a ∧ TD K H y b := by
  obtain ⟨p, vs, rfl, h1, h2⟩ := td_tup.mp h
  obtain ⟨x, r, rfl, h3, h4⟩ := tds_cons.mp h2
  obtain ⟨y, r, rfl, h5, h6⟩ := tds_cons.mp h4
  rw [tds_nil.mp h6] at h1
  exact ⟨p, x, y, rfl, h1, h3, h5⟩
theorem td3 (h : TD K H v (.tuple [a, b, c])) : ∃ p x y z, v = .ref p ∧ SqT K H p [x, y, z] ∧ TD K H x a ∧ TD K H y b ∧ TD K H z c := by
  obtain ⟨p, vs, rfl, h1, h2⟩ := td_tup.mp h
  obtain ⟨x, r, rfl, h3, h4⟩ := tds_cons.mp h2
  obtain ⟨y, r, rfl, h5, h6⟩ := tds_cons.mp h4
  obtain ⟨z, r, rfl, h7, h8⟩ := tds_cons.mp h6
  rw [tds_nil.mp h8] at h1
  exact ⟨p, x, y, z, rfl, h1, h3, h5, h7⟩
theorem td4 (h : TD K H v (.tuple [a, b, c, d])) : ∃ p x y z u, v = .ref p ∧ SqT K H p [x, y, z, u] ∧ TD K H x a ∧ TD K H y b ∧ TD K H z c ∧ TD K H u d := by
  obtain ⟨p, vs, rfl, h1, h2⟩ := td_tup.mp h
  obtain ⟨x, r, rfl, h3, h4⟩ := tds_cons.mp h2
  obtain ⟨y, r, rfl, h5, h6⟩ := tds_cons.mp h4
  obtain ⟨z, r, rfl, h7, h8⟩ := tds_cons.mp h6
  obtain ⟨u, r, rfl, h9, h10⟩ := tds_cons.mp h8
  rw [tds_nil.mp h10] at h1
  exact ⟨p, x, y, z, u, rfl, h1, h3, h5, h7, h9⟩
end
section
variable {P : Program} {w : World} {K : PySem.W.Frag} {mg : Str → Option Value} {base : Heap}
theorem okD_false {d : He.DefD} {ps : List Str} (F : ∃ fd, FunD K d.name d.qual d.params d.body d.scope [] [] (He.fAd K d.at_) fd)
    (hb : ∀ (kV doc pm : Value) (an : Option Addr) (cdv ct : Value) (us : List Value), us.length = ps.length → bindArgs (PySem.W.fnOf d.name d.qual d.params d.body d.scope .none kV doc pm an cdv ct) ⟨us, []⟩ = pure (ps.zip us)) (k : Nat) : OkD P w K mg base d k ps fun _ _ _ _ => False := by
  obtain ⟨fd, F⟩ := F
  exact ⟨fd, ⟨fun _ _ _ _ h => h.elim, fun _ _ _ _ _ _ _ _ _ _ _ _ _ h => h.elim⟩, F.bindsN hb, F.kp⟩
theorem getD_mk2 {κ : Type} [DecidableEq κ] {f : κ → Key} (hf : ∀ a b, f a = f b → a = b) (l : List (κ × W)) (k : κ) : (valV (mk2 f wv l) (f k)).getD .non = wv ((lk l k).getD none) := by
  rw [valV_mk2 hf]
  cases lk l k <;> rfl
theorem sc_worth_of : FnScope ["saying", "names", "arg", "now", "answers", "word", "one"] ["saying", "names", "arg", "now", "answers"] (defScope s_worth_of) := ⟨rfl, rfl, rfl, by decide +kernel, rfl, by decide +kernel, by decide +kernel⟩
theorem st_worth_of (T : Tx w K mg) (k : Nat) (sp' : Sp) (n : Nat) (hn : ∀ m, n = m + 1 → ∀ vs H Q E, spWorth K m vs H Q E → sp' vs H Q E) (G : OkD P w K mg base d_worth_of (k + 2) ["saying", "names", "arg", "now", "answers"] sp') : OkD P w K mg base d_worth_of (k+3) ["saying", "names", "arg", "now", "answers"] (spWorth K n) := by
  have sc := sc_worth_of
  refine okD_mk (F_worth_of T) sc (fun _ _ _ _ _ _ us hl => match us, hl with | [_, _, _, _, _], _ => rfl) ?len ?body
  case len => walk_at "len"
  intro cdv f A outer s H vs Q E hr h
  refine ⟨_, (pss_cons (ps_set (i := 5) sc.nd rfl (Or.inl rfl) (pe_ix ix_tup (pv 0) pe_int (fun _ _ => rfl)))
    (pss_cons (ps_if (pt_cmpR op_eq (pv 5) pe_str (nomark _)) (pss_one (ps_ret (pe_ix ix_tup (pv 0) pe_int (fun _ _ => rfl)))) pss_nil)
    (pss_cons (ps_if (pt_cmpR op_eq (pv 5) pe_str (nomark _)) (pss_one (ps_ret pe_non)) pss_nil)
    (pss_cons (ps_if (pt_cmpR op_eq (pv 5) pe_str (nomark _)) (pss_one (ps_ret (pe_dget1 (hu_of hr) (pv 1) (pe_ix ix_tup (pv 0) pe_int (fun _ _ => rfl)) ⟨by rfl, by rfl, by rfl, by rfl⟩))) pss_nil)
    (pss_cons (ps_if (pt_cmpR op_eq (pv 5) pe_str (nomark _)) (pss_one (ps_ret (pv 2))) pss_nil)
    (pss_cons (ps_if (pt_cmpR op_eq (pv 5) pe_str (nomark _)) (pss_one (ps_ret (pe_f (ok_kept T) (hr.mono (by omega)) (by rfl) (g_kept T) (pa_cons (pv 3) pa_nil)))) pss_nil)
    (pss_cons (ps_set (i := 6) sc.nd rfl (Or.inl rfl) (pe_f G (hr.mono (by omega)) (by rfl) (g_worth_of T) (pa_cons (pe_ix ix_tup (pv 0) pe_int (fun _ _ => rfl)) (pa_cons (pv 1) (pa_cons (pv 2) (pa_cons (pv 3) (pa_cons (pv 4) pa_nil)))))))
    (pss_cons (ps_if (pt_cmpR op_eq (pv 5) pe_str (nomark _)) (pss_one (ps_ret (pe_dgetN (hu_of hr) (pv 4) (pv 6) ⟨by rfl, by rfl, by rfl, by rfl⟩))) pss_nil)
    (pss_cons (ps_if (pt_cmpR op_eq (pv 5) pe_str (nomark _)) (pss_one (ps_ret (pe_callTy call_int1 (by rfl) (z_int T) (by decide +kernel) (pa_cons (pe_cmpR op_eq (pe_f (ok_as_number T) (hr.mono (by omega)) (by rfl) (g_as_number T) (pa_cons (pv 6) pa_nil)) pe_int (nomark _)) pa_nil)))) pss_nil)
    (pss_one (ps_ret (pe_f (ok_joined_by T) (hr.mono (by omega)) (by rfl) (g_joined_by T) (pa_cons (pv 5) (pa_cons (pv 6) (pa_cons (pe_f G (hr.mono (by omega)) (by rfl) (g_worth_of T) (pa_cons (pe_ix ix_tup (pv 0) pe_int (fun _ _ => rfl)) (pa_cons (pv 1) (pa_cons (pv 2) (pa_cons (pv 3) (pa_cons (pv 4) pa_nil)))))) pa_nil))))))))))))))), ?_⟩
  obtain ⟨s, sv, an, av, e, rfl, hs, hd, hok, he, hk, ha, q⟩ := h
  have nil : ∀ {α : Type} {x y : α}, some x = some x := rfl
  cases s with
  | num i =>
    obtain ⟨p, x, y, rfl, ht, hx, hy⟩ := td2 hs
    cases td_str.mp hx; cases td_int.mp hy
    exact ⟨_, rfl, _, _, _, _, rfl, rfl, ht, rfl, _, rfl, rfl, _, rfl, ifT (by decide +kernel) ⟨_, rfl, _, _, _, _, rfl, rfl, ht, rfl, q⟩⟩
  | non =>
    obtain ⟨p, x, rfl, ht, hx⟩ := td1 hs
    cases td_str.mp hx
    exact ⟨_, rfl, _, _, _, _, rfl, rfl, ht, rfl, _, rfl, rfl, _, rfl, ifF (by decide +kernel) ⟨_, rfl, rfl, _, rfl, ifT (by decide +kernel) q⟩⟩
  | name z =>
    obtain ⟨p, x, y, rfl, ht, hx, hy⟩ := td2 hs
    cases td_str.mp hx; cases td_str.mp hy
    refine ⟨_, rfl, _, _, _, _, rfl, rfl, ht, rfl, _, rfl, rfl, _, rfl, ifF (by decide +kernel) ⟨_, rfl, rfl, _, rfl, ifF (by decide +kernel) ⟨_, rfl, rfl, _, rfl, ifT (by decide +kernel) ?_⟩⟩⟩
    refine ⟨_, rfl, an, rfl, .inl ⟨_, .inl hk⟩, _, rfl, _, _, _, _, rfl, rfl, ht, rfl, _, DGet.k (k := Sum.inr z) hk, ?_⟩
    rw [getD_mk2 inr_inj]
    exact q
  | arg =>
    obtain ⟨p, x, rfl, ht, hx⟩ := td1 hs
    cases td_str.mp hx
    exact ⟨_, rfl, _, _, _, _, rfl, rfl, ht, rfl, _, rfl, rfl, _, rfl, ifF (by decide +kernel) ⟨_, rfl, rfl, _, rfl, ifF (by decide +kernel) ⟨_, rfl, rfl, _, rfl, ifF (by decide +kernel) ⟨_, rfl, rfl, _, rfl, ifT (by decide +kernel) ⟨_, rfl, q⟩⟩⟩⟩⟩
  | now =>
    obtain ⟨p, x, rfl, ht, hx⟩ := td1 hs
    cases td_str.mp hx
    exact ⟨_, rfl, _, _, _, _, rfl, rfl, ht, rfl, _, rfl, rfl, _, rfl, ifF (by decide +kernel) ⟨_, rfl, rfl, _, rfl, ifF (by decide +kernel) ⟨_, rfl, rfl, _, rfl, ifF (by decide +kernel) ⟨_, rfl, rfl, _, rfl, ifF (by decide +kernel) ⟨_, rfl, rfl, _, rfl, ifT (by decide +kernel) ⟨_, rfl, _, rfl, q⟩⟩⟩⟩⟩⟩
  | ans s =>
    obtain ⟨p, x, y, rfl, ht, hx, hy⟩ := td2 hs
    cases td_str.mp hx
    obtain ⟨m, rfl⟩ : ∃ m, n = m + 1 := ⟨n - 1, by simp only [Say.dep] at hd; omega⟩
    refine ⟨_, rfl, _, _, _, _, rfl, rfl, ht, rfl, _, rfl, rfl, _, rfl, ifF (by decide +kernel) ⟨_, rfl, rfl, _, rfl, ifF (by decide +kernel) ⟨_, rfl, rfl, _, rfl, ifF (by decide +kernel) ⟨_, rfl, rfl, _, rfl, ifF (by decide +kernel) ⟨_, rfl, rfl, _, rfl, ifF (by decide +kernel) ?_⟩⟩⟩⟩⟩
    refine ⟨_, rfl, _, _, _, _, rfl, rfl, ht, rfl, _, rfl, _, rfl, _, rfl, _, rfl, hn m rfl _ _ _ _ ⟨s, y, an, av, e, rfl, hy, by simp only [Say.dep] at hd; omega, hok, he, hk, ha, ?_⟩⟩
    refine ⟨_, rfl, rfl, _, rfl, ifT (by decide +kernel) ⟨_, rfl, av, rfl, .inl ⟨_, .inl ha⟩, _, rfl, ?_⟩⟩
    have q' : Q (wv (match worthOf e s with | some t => (lk e.ans t).getD none | none => none)) H := q
    cases hw : worthOf e s with
    | none =>
      rw [hw] at q'
      exact .inr ⟨rfl, ⟨_, .inl ha⟩, q'⟩
    | some t =>
      rw [hw] at q'
      refine .inl ⟨_, DGet.k (k := Sum.inl t) ha, ?_⟩
      rw [getD_mk2 inl_inj]
      exact q'
  | no s =>
    obtain ⟨p, x, y, rfl, ht, hx, hy⟩ := td2 hs
    cases td_str.mp hx
    obtain ⟨m, rfl⟩ : ∃ m, n = m + 1 := ⟨n - 1, by simp only [Say.dep] at hd; omega⟩
    refine ⟨_, rfl, _, _, _, _, rfl, rfl, ht, rfl, _, rfl, rfl, _, rfl, ifF (by decide +kernel) ⟨_, rfl, rfl, _, rfl, ifF (by decide +kernel) ⟨_, rfl, rfl, _, rfl, ifF (by decide +kernel) ⟨_, rfl, rfl, _, rfl, ifF (by decide +kernel) ⟨_, rfl, rfl, _, rfl, ifF (by decide +kernel) ?_⟩⟩⟩⟩⟩
    refine ⟨_, rfl, _, _, _, _, rfl, rfl, ht, rfl, _, rfl, _, rfl, _, rfl, _, rfl, hn m rfl _ _ _ _ ⟨s, y, an, av, e, rfl, hy, by simp only [Say.dep] at hd; omega, hok, he, hk, ha, ?_⟩⟩
    refine ⟨_, rfl, rfl, _, rfl, ifF (by decide +kernel) ⟨_, rfl, rfl, _, rfl, ifT (by decide +kernel) ⟨_, rfl, worthOf e s, rfl, rfl, .inr ⟨_, rfl, ?_⟩⟩⟩⟩
    have e2 : (if decide (V.int (asN (worthOf e s)) = V.int 0) = true then (1 : Int) else 0) = if asN (worthOf e s) = 0 then 1 else 0 := by
      by_cases h0 : asN (worthOf e s) = 0
      · rw [h0]; rfl
      · rw [decide_eq_false (fun z => h0 (V.int.inj z)), if_neg h0]; rfl
    rw [e2]
    exact q
  | bin o a b =>
    obtain ⟨p, x, y, z, rfl, ht, hx, hy, hz⟩ := td3 hs
    cases td_str.mp hx
    obtain ⟨m, rfl⟩ : ∃ m, n = m + 1 := ⟨n - 1, by simp only [Say.dep] at hd; omega⟩
    have hd2 : a.dep ≤ m ∧ b.dep ≤ m := by simp only [Say.dep] at hd; omega
    have c1 : decide (V.str o.s = V.str "number") = false := by cases o <;> decide +kernel
    have c2 : decide (V.str o.s = V.str "none") = false := by cases o <;> decide +kernel
    have c3 : decide (V.str o.s = V.str "name") = false := by cases o <;> decide +kernel
    have c4 : decide (V.str o.s = V.str "arg") = false := by cases o <;> decide +kernel
    have c5 : decide (V.str o.s = V.str "now") = false := by cases o <;> decide +kernel
    have c6 : decide (V.str o.s = V.str "answer") = false := by cases o <;> decide +kernel
    have c7 : decide (V.str o.s = V.str "not") = false := by cases o <;> decide +kernel
    refine ⟨_, rfl, _, _, _, _, rfl, rfl, ht, rfl, _, rfl, rfl, _, rfl, ifF c1 ⟨_, rfl, rfl, _, rfl, ifF c2 ⟨_, rfl, rfl, _, rfl, ifF c3 ⟨_, rfl, rfl, _, rfl, ifF c4 ⟨_, rfl, rfl, _, rfl, ifF c5 ?_⟩⟩⟩⟩⟩
    refine ⟨_, rfl, _, _, _, _, rfl, rfl, ht, rfl, _, rfl, _, rfl, _, rfl, _, rfl, hn m rfl _ _ _ _ ⟨a, y, an, av, e, rfl, hy, hd2.1, hok.1, he, hk, ha, ?_⟩⟩
    refine ⟨_, rfl, rfl, _, rfl, ifF c6 ⟨_, rfl, rfl, _, rfl, ifF c7 ?_⟩⟩
    refine ⟨_, rfl, _, rfl, _, rfl, _, _, _, _, rfl, rfl, ht, rfl, _, rfl, _, rfl, _, rfl, _, rfl, hn m rfl _ _ _ _ ⟨b, z, an, av, e, rfl, hz, hd2.2, hok.2, he, hk, ha, ?_⟩⟩
    exact ⟨o, worthOf e a, worthOf e b, rfl, worthOf_b he hok.1, worthOf_b he hok.2, q⟩
theorem ok_worth_of_n (T : Tx w K mg) : ∀ n, OkD P w K mg base d_worth_of (n + 3) ["saying", "names", "arg", "now", "answers"] (spWorth K n)
  | 0 => st_worth_of T 0 (fun _ _ _ _ => False) 0 (fun _ h => by omega) (okD_false (F_worth_of T) (fun _ _ _ _ _ _ us hl => match us, hl with | [_, _, _, _, _], _ => rfl) _)
  | n + 1 => st_worth_of T (n + 1) (spWorth K n) (n + 1) (fun m e vs H Q E h => by cases e; exact h) (ok_worth_of_n T n)
theorem ok_worth_of (T : Tx w K mg) : OkD P w K mg base d_worth_of 6 ["saying", "names", "arg", "now", "answers"] (spWorth K 3) := ok_worth_of_n T 3
end
end Ol
namespace Ol
open PySem PySem.Spec PyProof.Rows L2
local macro_rules | `(tactic| walk_at "len") => `(tactic| (intro vs H Q E h; first | (rcases h with ⟨hh, _⟩; rw [hh]; rfl) | (rcases h with ⟨_, hh, _⟩; rw [hh]; rfl) | (rcases h with ⟨_, _, hh, _⟩; rw [hh]; rfl) | (rcases h with ⟨_, _, _, hh, _⟩; rw [hh]; rfl) | (rcases h with ⟨_, _, _, _, hh, _⟩; rw [hh]; rfl) | (rcases h with ⟨_, _, _, _, _, hh, _⟩; rw [hh]; rfl) | (rcases h with ⟨_, _, _, _, _, _, hh, _⟩; rw [hh]; rfl) | (rcases h with ⟨_, _, _, _, _, _, _, hh, _⟩; rw [hh]; rfl) | (rcases h with ⟨_, _, _, _, _, _, _, _, hh, _⟩; rw [hh]; rfl) | (rcases h with ⟨_, _, _, _, _, _, _, _, _, hh, _⟩; rw [hh]; rfl) | (rcases h with ⟨_, _, _, _, _, _, _, _, _, _, hh, _⟩; rw [hh]; rfl) | (rcases h with ⟨_, _, _, _, _, _, _, _, _, _, _, hh, _⟩; rw [hh]; rfl) | (rcases h with ⟨_, _, _, _, _, _, _, _, _, _, _, _, hh, _⟩; rw [hh]; rfl) | (rcases h with ⟨_, _, _, _, _, _, _, _, _, _, _, _, _, hh, _⟩; rw [hh]; rfl) | (rcases h with ⟨_, _, _, _, _, _, _, _, _, _, _, _, _, _, hh, _⟩; rw [hh]; rfl) | (rcases h with ⟨_, _, _, _, _, _, _, _, _, _, _, _, _, _, _, hh, _⟩; rw [hh]; rfl) | (rcases h with ⟨_, _, _, _, _, _, _, _, _, _, _, _, _, _, _, _, hh, _⟩; rw [hh]; rfl) | (rcases h with ⟨_, _, _, _, _, _, _, _, _, _, _, _, _, _, _, _, _, hh, _⟩; rw [hh]; rfl) | (rcases h with ⟨_, _, _, _, _, _, _, _, _, _, _, _, _, _, _, _, _, _, hh, _⟩; rw [hh]; rfl) | (rcases h with ⟨_, _, _, _, _, _, _, _, _, _, _, _, _, _, _, _, _, _, _, hh, _⟩; rw [hh]; rfl)))
/-! ### a run in the heap -/
def pathV (p : List Nat) : List V := p.reverse.map fun (i : Nat) => V.int (i : Int)
structure RA where
  dx : Addr
  pa : Addr
  kn : Addr
  nd : Addr
  an : Addr
  he : Addr
  aw : Addr
  orr : Addr
  vp : V
  anV : List V
  orV : List V
  hs : List (Str × Addr)
def RA.F (x : RA) (a : Addr) : List Addr := a :: x.pa :: x.kn :: x.nd :: x.an :: x.he :: x.aw :: x.orr :: x.hs.map (·.2)
def rf (r : RS) (x : RA) : List (Str × V) := [(("statements" : Str), x.vp), ("mode", .str r.mode.s), ("path", .ref x.pa), ("known", .ref x.kn), ("arg", wv r.arg), ("today", .int r.today), ("made", .int (r.made : Int)), ("not_done", .ref x.nd),
  ("answered", .ref x.an), ("heard", .ref x.he), ("awaited", .ref x.aw), ("outcome", wv r.outcome), ("orders", .ref x.orr), ("steps", .int (r.steps : Int))]
abbrev cR (K : PySem.W.Frag) : Addr := He.ga K "Run"
def pairD (p : Int × W) : PyData := .tuple [.int p.1, wd p.2]
structure RunAt (K : PySem.W.Frag) (H : Hp) (a : Addr) (r : RS) (x : RA) : Prop where
  ob : H a = some (.ins (cR K) x.dx (rf r x))
  pa : H x.pa = some (.lst (pathV r.path))
  kn : H x.kn = some (.dK (mk2 Sum.inr wv r.known))
  nd : H x.nd = some (.lst (r.notDone.map V.int))
  an : H x.an = some (.lst x.anV)
  he : H x.he = some (.dK (mk2 Sum.inr V.ref x.hs))
  aw : H x.aw = some (.lst (r.awaited.map V.int))
  orr : H x.orr = some (.lst x.orV)
  hl : PK2 (fun (ws : List W) b => H b = some (.lst (ws.map wv))) r.heard x.hs
  dj : (x.F a).Nodup
  tp : TD K H x.vp (.tuple (blkD r.prog))
  tan : TDs K H x.anV (r.answered.map pairD)
  tor : TDs K H x.orV (r.orders.map Cmd.d)
section
variable {r : RS} {x : RA} {v : V}
theorem rf_statements : (rf r x).lookup ("statements" : Str) = some x.vp := rfl
theorem rf_mode : (rf r x).lookup ("mode" : Str) = some (V.str r.mode.s) := rfl
theorem rf_path : (rf r x).lookup ("path" : Str) = some (V.ref x.pa) := rfl
theorem rf_known : (rf r x).lookup ("known" : Str) = some (V.ref x.kn) := rfl
theorem rf_arg : (rf r x).lookup ("arg" : Str) = some (wv r.arg) := rfl
theorem rf_today : (rf r x).lookup ("today" : Str) = some (V.int r.today) := rfl
theorem rf_made : (rf r x).lookup ("made" : Str) = some (V.int (r.made : Int)) := rfl
theorem rf_not_done : (rf r x).lookup ("not_done" : Str) = some (V.ref x.nd) := rfl
theorem rf_answered : (rf r x).lookup ("answered" : Str) = some (V.ref x.an) := rfl
theorem rf_heard : (rf r x).lookup ("heard" : Str) = some (V.ref x.he) := rfl
theorem rf_awaited : (rf r x).lookup ("awaited" : Str) = some (V.ref x.aw) := rfl
theorem rf_outcome : (rf r x).lookup ("outcome" : Str) = some (wv r.outcome) := rfl
theorem rf_orders : (rf r x).lookup ("orders" : Str) = some (V.ref x.orr) := rfl
theorem rf_steps : (rf r x).lookup ("steps" : Str) = some (V.int (r.steps : Int)) := rfl
theorem put_mode {m : Mode} : putF "mode" (V.str m.s) (rf r x) = rf { r with mode := m } x := rfl
theorem put_path {p : Addr} : putF "path" (V.ref p) (rf r x) = rf r { x with pa := p } := rfl
theorem put_arg {w : W} : putF "arg" (wv w) (rf r x) = rf { r with arg := w } x := rfl
theorem put_today {i : Int} : putF "today" (V.int i) (rf r x) = rf { r with today := i } x := rfl
theorem put_made {i : Nat} : putF "made" (V.int (i : Int)) (rf r x) = rf { r with made := i } x := rfl
theorem put_awaited {p : Addr} : putF "awaited" (V.ref p) (rf r x) = rf r { x with aw := p } := rfl
theorem put_outcome {w : W} : putF "outcome" (wv w) (rf r x) = rf { r with outcome := w } x := rfl
theorem put_orders {p : Addr} : putF "orders" (V.ref p) (rf r x) = rf r { x with orr := p } := rfl
theorem put_steps {i : Nat} : putF "steps" (V.int (i : Int)) (rf r x) = rf { r with steps := i } x := rfl
end

theorem PK2.monoM {κ α β : Type} {R R' : α → β → Prop} : ∀ {l : List (κ × α)} {m : List (κ × β)}, PK2 R l m → (∀ a q, q ∈ m → R a q.2 → R' a q.2) → PK2 R' l m
  | _, _, .nil, _ => .nil
  | _, _, .cons h t, f => .cons ⟨h.1, f _ _ List.mem_cons_self h.2⟩ (PK2.monoM t fun a q hq => f a q (List.mem_cons_of_mem _ hq))
theorem PK2.ofMem {κ α β : Type} {R : α → β → Prop} : ∀ {l : List (κ × α)} {m : List (κ × β)} {q : κ × β}, PK2 R l m → q ∈ m → ∃ a, (q.1, a) ∈ l ∧ R a q.2
  | _, _, _, .nil, h => nomatch h
  | _, _, q, .cons (a := p) h t, hq => by
    rcases List.mem_cons.mp hq with e | hq
    · subst e
      exact ⟨p.2, by rw [← h.1]; exact List.mem_cons_self, h.2⟩
    · obtain ⟨a, h1, h2⟩ := PK2.ofMem t hq
      exact ⟨a, List.mem_cons_of_mem _ h1, h2⟩
theorem nodup_set {α : Type} {p : α} : ∀ {l : List α} (i : Nat), l.Nodup → p ∉ l → (l.set i p).Nodup
  | [], _, h, _ => h
  | y :: l, 0, h, n => by
    rw [List.nodup_cons] at h
    exact List.nodup_cons.mpr ⟨fun z => n (List.mem_cons_of_mem _ z), h.2⟩
  | y :: l, i + 1, h, n => by
    rw [List.nodup_cons] at h
    refine List.nodup_cons.mpr ⟨fun z => ?_, nodup_set i h.2 fun z => n (List.mem_cons_of_mem _ z)⟩
    rcases List.mem_or_eq_of_mem_set z with z | z
    · exact h.1 z
    · exact n (by rw [z]; exact List.mem_cons_self)
/-- the parts that a change at the i-th place leaves -/
structure RunRest (K : PySem.W.Frag) (H : Hp) (a : Addr) (r : RS) (x : RA) (i : Nat) : Prop where
  ob : i ≠ 0 → H a = some (.ins (cR K) x.dx (rf r x))
  pa : i ≠ 1 → H x.pa = some (.lst (pathV r.path))
  kn : i ≠ 2 → H x.kn = some (.dK (mk2 Sum.inr wv r.known))
  nd : i ≠ 3 → H x.nd = some (.lst (r.notDone.map V.int))
  an : i ≠ 4 → H x.an = some (.lst x.anV)
  he : i ≠ 5 → H x.he = some (.dK (mk2 Sum.inr V.ref x.hs))
  aw : i ≠ 6 → H x.aw = some (.lst (r.awaited.map V.int))
  orr : i ≠ 7 → H x.orr = some (.lst x.orV)
  hl : i < 8 → PK2 (fun (ws : List W) b => H b = some (.lst (ws.map wv))) r.heard x.hs
  tp : TD K H x.vp (.tuple (blkD r.prog))
  tan : TDs K H x.anV (r.answered.map pairD)
  tor : TDs K H x.orV (r.orders.map Cmd.d)
section
variable {K : PySem.W.Frag} {H H' H0 : Hp} {F0 : List Addr} {a : Addr} {r : RS} {x : RA}
theorem RA.hsIx {q : Str × Addr} (h : q ∈ x.hs) : ∃ j, (x.F a)[j + 8]? = some q.2 := by
  obtain ⟨j, hj⟩ := List.getElem?_of_mem (List.mem_map.mpr ⟨q, h, rfl⟩ : q.2 ∈ x.hs.map (·.2))
  refine ⟨j, ?_⟩
  show (x.hs.map (·.2))[j]? = _
  exact hj
theorem RunAt.rest (R : RunAt K H a r x) (i : Nat) (hk : ∀ b o, H b = some o → (x.F a)[i]? ≠ some b → H' b = some o) (fx : Fx H H') : RunRest K H' a r x i where
  ob := fun h => hk _ _ R.ob fun e => h (nd_ix R.dj e (rfl : (x.F a)[0]? = some a))
  pa := fun h => hk _ _ R.pa fun e => h (nd_ix R.dj e (rfl : (x.F a)[1]? = some x.pa))
  kn := fun h => hk _ _ R.kn fun e => h (nd_ix R.dj e (rfl : (x.F a)[2]? = some x.kn))
  nd := fun h => hk _ _ R.nd fun e => h (nd_ix R.dj e (rfl : (x.F a)[3]? = some x.nd))
  an := fun h => hk _ _ R.an fun e => h (nd_ix R.dj e (rfl : (x.F a)[4]? = some x.an))
  he := fun h => hk _ _ R.he fun e => h (nd_ix R.dj e (rfl : (x.F a)[5]? = some x.he))
  aw := fun h => hk _ _ R.aw fun e => h (nd_ix R.dj e (rfl : (x.F a)[6]? = some x.aw))
  orr := fun h => hk _ _ R.orr fun e => h (nd_ix R.dj e (rfl : (x.F a)[7]? = some x.orr))
  hl := fun h => PK2.monoM R.hl fun ws q hq e => hk _ _ e fun e2 => by
    obtain ⟨j, hj⟩ := RA.hsIx (a := a) hq
    have := nd_ix R.dj e2 hj
    omega
  tp := TD.fx fx _ _ R.tp
  tan := TDs.fx fx _ _ R.tan
  tor := TDs.fx fx _ _ R.tor
theorem RunAt.thing (R : RunAt K H a r x) {b : Addr} (hb : b ∈ x.F a) : ∃ o, H b = some o ∧ (∀ xs, o ≠ .tup xs) ∧ ∀ q w, o ≠ .frz q w := by
  unfold RA.F at hb
  simp only [List.mem_cons] at hb
  rcases hb with e | e | e | e | e | e | e | e | e
  · rw [e]; exact ⟨_, R.ob, (fun _ q => nomatch q), (fun _ _ q => nomatch q)⟩
  · rw [e]; exact ⟨_, R.pa, (fun _ q => nomatch q), (fun _ _ q => nomatch q)⟩
  · rw [e]; exact ⟨_, R.kn, (fun _ q => nomatch q), (fun _ _ q => nomatch q)⟩
  · rw [e]; exact ⟨_, R.nd, (fun _ q => nomatch q), (fun _ _ q => nomatch q)⟩
  · rw [e]; exact ⟨_, R.an, (fun _ q => nomatch q), (fun _ _ q => nomatch q)⟩
  · rw [e]; exact ⟨_, R.he, (fun _ q => nomatch q), (fun _ _ q => nomatch q)⟩
  · rw [e]; exact ⟨_, R.aw, (fun _ q => nomatch q), (fun _ _ q => nomatch q)⟩
  · rw [e]; exact ⟨_, R.orr, (fun _ q => nomatch q), (fun _ _ q => nomatch q)⟩
  · obtain ⟨q, hq, e⟩ := List.mem_map.mp e
    obtain ⟨ws, _, h⟩ := PK2.ofMem R.hl hq
    rw [← e]
    exact ⟨_, h, (fun _ q => nomatch q), (fun _ _ q => nomatch q)⟩
theorem RunAt.notIn (R : RunAt K H a r x) {p : Addr} (hp : H p = none) : p ∉ x.F a := fun m => by
  obtain ⟨o, h, _⟩ := R.thing m
  rw [hp] at h
  cases h
/-- the run at a, from H0 with F0 on -/
def RunTo (K : PySem.W.Frag) (H0 : Hp) (F0 : List Addr) (H : Hp) (a : Addr) (r : RS) (x : RA) : Prop := RunAt K H a r x ∧ Upto F0 H0 H (x.F a)
theorem RunAt.to (R : RunAt K H a r x) : RunTo K H (x.F a) H a r x := ⟨R, Upto.refl⟩
theorem RunAt.keep (R : RunAt K H a r x) (hk : ∀ b o, H b = some o → b ∈ x.F a → H' b = some o) (fx : Fx H H') : RunAt K H' a r x := by
  have hk' : ∀ b o, H b = some o → (x.F a)[(x.F a).length]? ≠ some b → b ∈ x.F a → H' b = some o := fun b o h _ m => hk b o h m
  have m : ∀ {i b}, (x.F a)[i]? = some b → b ∈ x.F a := fun e => List.mem_of_getElem? e
  refine ⟨hk _ _ R.ob (m (i := 0) rfl), hk _ _ R.pa (m (i := 1) rfl), hk _ _ R.kn (m (i := 2) rfl), hk _ _ R.nd (m (i := 3) rfl), hk _ _ R.an (m (i := 4) rfl), hk _ _ R.he (m (i := 5) rfl), hk _ _ R.aw (m (i := 6) rfl), hk _ _ R.orr (m (i := 7) rfl),
    PK2.monoM R.hl fun ws q hq e => hk _ _ e ?_, R.dj, TD.fx fx _ _ R.tp, TDs.fx fx _ _ R.tan, TDs.fx fx _ _ R.tor⟩
  obtain ⟨j, hj⟩ := RA.hsIx (a := a) hq
  exact m hj
theorem RunAt.same (R : RunAt K H a r x) (e : Same H H') : RunAt K H' a r x := R.keep (fun b o h _ => e b o h) (Same.fx e)
theorem RunTo.same (T : RunTo K H0 F0 H a r x) (e : Same H H') : RunTo K H0 F0 H' a r x := ⟨T.1.same e, T.2.same e⟩
theorem RunTo.up (T : RunTo K H0 F0 H a r x) {p : Addr} {u o : HO} (i : Nat) (hp : (x.F a)[i]? = some p) (h : H p = some u) (h1 : ∀ xs, u ≠ .tup xs) (h2 : ∀ q w, u ≠ .frz q w) : RunRest K (upd H p o) a r x i ∧ Upto F0 H0 (upd H p o) (x.F a) :=
  have U : Upto (x.F a) H (upd H p o) (x.F a) := Upto.upd h (List.mem_of_getElem? hp) h1 h2
  ⟨T.1.rest i (fun b v e n => by rw [upd_ne (fun q => n (by rw [q]; exact hp))]; exact e) U.fx, T.2.trans U⟩
/-- scalars of the instance -/
theorem RunTo.sc (T : RunTo K H0 F0 H a r x) (r' : RS) (h1 : r'.path = r.path := by rfl) (h2 : r'.known = r.known := by rfl) (h3 : r'.notDone = r.notDone := by rfl) (h4 : r'.answered = r.answered := by rfl) (h5 : r'.heard = r.heard := by rfl)
    (h6 : r'.awaited = r.awaited := by rfl) (h7 : r'.orders = r.orders := by rfl) (h8 : r'.prog = r.prog := by rfl) : RunTo K H0 F0 (upd H a (.ins (cR K) x.dx (rf r' x))) a r' x := by
  obtain ⟨E, U⟩ := T.up (o := .ins (cR K) x.dx (rf r' x)) 0 rfl T.1.ob (fun _ q => nomatch q) (fun _ _ q => nomatch q)
  exact ⟨⟨upd_same, by rw [h1]; exact E.pa (by decide), by rw [h2]; exact E.kn (by decide), by rw [h3]; exact E.nd (by decide), E.an (by decide), E.he (by decide), by rw [h6]; exact E.aw (by decide), E.orr (by decide), by rw [h5]; exact E.hl (by decide), T.1.dj,
    by rw [h8]; exact E.tp, by rw [h4]; exact E.tan, by rw [h7]; exact E.tor⟩, U⟩
theorem RunTo.setPath (T : RunTo K H0 F0 H a r x) (p : List Nat) : RunTo K H0 F0 (upd H x.pa (.lst (pathV p))) a { r with path := p } x := by
  obtain ⟨E, U⟩ := T.up (o := .lst (pathV p)) 1 rfl T.1.pa (fun _ q => nomatch q) (fun _ _ q => nomatch q)
  exact ⟨⟨E.ob (by decide), upd_same, E.kn (by decide), E.nd (by decide), E.an (by decide), E.he (by decide), E.aw (by decide), E.orr (by decide), E.hl (by decide), T.1.dj, E.tp, E.tan, E.tor⟩, U⟩
theorem RunTo.setKnown (T : RunTo K H0 F0 H a r x) (k : Str) (w : W) : RunTo K H0 F0 (upd H x.kn (.dK (putK (mk2 Sum.inr wv r.known) (Sum.inr k) (wv w)))) a { r with known := pt r.known k w } x := by
  obtain ⟨E, U⟩ := T.up (o := .dK (putK (mk2 Sum.inr wv r.known) (Sum.inr k) (wv w))) 2 rfl T.1.kn (fun _ q => nomatch q) (fun _ _ q => nomatch q)
  exact ⟨⟨E.ob (by decide), E.pa (by decide), by rw [upd_same, putK_mk2 inr_inj], E.nd (by decide), E.an (by decide), E.he (by decide), E.aw (by decide), E.orr (by decide), E.hl (by decide), T.1.dj, E.tp, E.tan, E.tor⟩, U⟩
theorem RunTo.setNd (T : RunTo K H0 F0 H a r x) (l : List Int) : RunTo K H0 F0 (upd H x.nd (.lst (l.map V.int))) a { r with notDone := l } x := by
  obtain ⟨E, U⟩ := T.up (o := .lst (l.map V.int)) 3 rfl T.1.nd (fun _ q => nomatch q) (fun _ _ q => nomatch q)
  exact ⟨⟨E.ob (by decide), E.pa (by decide), E.kn (by decide), upd_same, E.an (by decide), E.he (by decide), E.aw (by decide), E.orr (by decide), E.hl (by decide), T.1.dj, E.tp, E.tan, E.tor⟩, U⟩
theorem RunTo.addAn (T : RunTo K H0 F0 H a r x) (p : Int × W) {v : V} (hv : TD K H v (pairD p)) : RunTo K H0 F0 (upd H x.an (.lst (x.anV ++ [v]))) a { r with answered := r.answered ++ [p] } { x with anV := x.anV ++ [v] } := by
  obtain ⟨E, U⟩ := T.up (o := .lst (x.anV ++ [v])) 4 rfl T.1.an (fun _ q => nomatch q) (fun _ _ q => nomatch q)
  have fx : Fx H (upd H x.an (.lst (x.anV ++ [v]))) := (Upto.upd (F := [x.an]) T.1.an List.mem_cons_self (fun _ q => nomatch q) (fun _ _ q => nomatch q)).fx
  refine ⟨⟨E.ob (by decide), E.pa (by decide), E.kn (by decide), E.nd (by decide), upd_same, E.he (by decide), E.aw (by decide), E.orr (by decide), E.hl (by decide), T.1.dj, E.tp, ?_, E.tor⟩, U⟩
  rw [List.map_append]
  exact E.tan.snoc (TD.fx fx _ _ hv)
theorem RunTo.addOr (T : RunTo K H0 F0 H a r x) (c : Cmd) {v : V} (hv : TD K H v c.d) : RunTo K H0 F0 (upd H x.orr (.lst (x.orV ++ [v]))) a (r.tell c) { x with orV := x.orV ++ [v] } := by
  obtain ⟨E, U⟩ := T.up (o := .lst (x.orV ++ [v])) 7 rfl T.1.orr (fun _ q => nomatch q) (fun _ _ q => nomatch q)
  have fx : Fx H (upd H x.orr (.lst (x.orV ++ [v]))) := (Upto.upd (F := [x.orr]) T.1.orr List.mem_cons_self (fun _ q => nomatch q) (fun _ _ q => nomatch q)).fx
  refine ⟨⟨E.ob (by decide), E.pa (by decide), E.kn (by decide), E.nd (by decide), E.an (by decide), E.he (by decide), E.aw (by decide), upd_same, E.hl (by decide), T.1.dj, E.tp, E.tan, ?_⟩, U⟩
  show TDs K _ _ ((r.orders ++ [c]).map Cmd.d)
  rw [List.map_append]
  exact E.tor.snoc (TD.fx fx _ _ hv)
/-- a new list for a field -/
theorem RunTo.newPath (T : RunTo K H0 F0 H a r x) (p : List Nat) {l : Addr} (hl : H l = none) : RunTo K H0 F0 (upd (upd H l (.lst (pathV p))) a (.ins (cR K) x.dx (rf r { x with pa := l }))) a { r with path := p } { x with pa := l } := by
  have T1 := T.same (Same.new (o := .lst (pathV p)) hl)
  have n := T.1.notIn hl
  obtain ⟨E, U⟩ := T1.up (o := .ins (cR K) x.dx (rf r { x with pa := l })) 0 rfl T1.1.ob (fun _ q => nomatch q) (fun _ _ q => nomatch q)
  have nla : l ≠ a := fun q => n (by rw [q]; exact List.mem_cons_self)
  refine ⟨⟨upd_same, by rw [upd_ne nla]; exact upd_same, E.kn (by decide), E.nd (by decide), E.an (by decide), E.he (by decide), E.aw (by decide), E.orr (by decide), E.hl (by decide), nodup_set 1 T.1.dj n, E.tp, E.tan, E.tor⟩, U.keep, U.fx, fun b m => ?_⟩
  rcases List.mem_or_eq_of_mem_set (show b ∈ (x.F a).set 1 l from m) with m | m
  · exact U.new b m
  · by_cases h : l ∈ F0
    · exact .inl (by rw [m]; exact h)
    · exact .inr (by rw [m]; exact T.2.free hl h)
theorem RunTo.newAw (T : RunTo K H0 F0 H a r x) (p : List Int) {l : Addr} (hl : H l = none) : RunTo K H0 F0 (upd (upd H l (.lst (p.map V.int))) a (.ins (cR K) x.dx (rf r { x with aw := l }))) a { r with awaited := p } { x with aw := l } := by
  have T1 := T.same (Same.new (o := .lst (p.map V.int)) hl)
  have n := T.1.notIn hl
  obtain ⟨E, U⟩ := T1.up (o := .ins (cR K) x.dx (rf r { x with aw := l })) 0 rfl T1.1.ob (fun _ q => nomatch q) (fun _ _ q => nomatch q)
  have nla : l ≠ a := fun q => n (by rw [q]; exact List.mem_cons_self)
  refine ⟨⟨upd_same, E.pa (by decide), E.kn (by decide), E.nd (by decide), E.an (by decide), E.he (by decide), by rw [upd_ne nla]; exact upd_same, E.orr (by decide), E.hl (by decide), nodup_set 6 T.1.dj n, E.tp, E.tan, E.tor⟩, U.keep, U.fx, fun b m => ?_⟩
  rcases List.mem_or_eq_of_mem_set (show b ∈ (x.F a).set 6 l from m) with m | m
  · exact U.new b m
  · by_cases h : l ∈ F0
    · exact .inl (by rw [m]; exact h)
    · exact .inr (by rw [m]; exact T.2.free hl h)
theorem RunTo.newOr (T : RunTo K H0 F0 H a r x) {l : Addr} (hl : H l = none) : RunTo K H0 F0 (upd (upd H l (.lst [])) a (.ins (cR K) x.dx (rf r { x with orr := l }))) a { r with orders := [] } { x with orr := l, orV := [] } := by
  have T1 := T.same (Same.new (o := .lst []) hl)
  have n := T.1.notIn hl
  obtain ⟨E, U⟩ := T1.up (o := .ins (cR K) x.dx (rf r { x with orr := l })) 0 rfl T1.1.ob (fun _ q => nomatch q) (fun _ _ q => nomatch q)
  have nla : l ≠ a := fun q => n (by rw [q]; exact List.mem_cons_self)
  refine ⟨⟨upd_same, E.pa (by decide), E.kn (by decide), E.nd (by decide), E.an (by decide), E.he (by decide), E.aw (by decide), by rw [upd_ne nla]; exact upd_same, E.hl (by decide), nodup_set 7 T.1.dj n, E.tp, E.tan, TDs.nil⟩, U.keep, U.fx, fun b m => ?_⟩
  rcases List.mem_or_eq_of_mem_set (show b ∈ (x.F a).set 7 l from m) with m | m
  · exact U.new b m
  · by_cases h : l ∈ F0
    · exact .inl (by rw [m]; exact h)
    · exact .inr (by rw [m]; exact T.2.free hl h)
end
end Ol
namespace Ol
open PySem PySem.Spec PyProof.Rows L2
local macro_rules | `(tactic| walk_at "len") => `(tactic| (intro vs H Q E h; first | (rcases h with ⟨hh, _⟩; rw [hh]; rfl) | (rcases h with ⟨_, hh, _⟩; rw [hh]; rfl) | (rcases h with ⟨_, _, hh, _⟩; rw [hh]; rfl) | (rcases h with ⟨_, _, _, hh, _⟩; rw [hh]; rfl) | (rcases h with ⟨_, _, _, _, hh, _⟩; rw [hh]; rfl) | (rcases h with ⟨_, _, _, _, _, hh, _⟩; rw [hh]; rfl) | (rcases h with ⟨_, _, _, _, _, _, hh, _⟩; rw [hh]; rfl) | (rcases h with ⟨_, _, _, _, _, _, _, hh, _⟩; rw [hh]; rfl) | (rcases h with ⟨_, _, _, _, _, _, _, _, hh, _⟩; rw [hh]; rfl) | (rcases h with ⟨_, _, _, _, _, _, _, _, _, hh, _⟩; rw [hh]; rfl) | (rcases h with ⟨_, _, _, _, _, _, _, _, _, _, hh, _⟩; rw [hh]; rfl) | (rcases h with ⟨_, _, _, _, _, _, _, _, _, _, _, hh, _⟩; rw [hh]; rfl) | (rcases h with ⟨_, _, _, _, _, _, _, _, _, _, _, _, hh, _⟩; rw [hh]; rfl) | (rcases h with ⟨_, _, _, _, _, _, _, _, _, _, _, _, _, hh, _⟩; rw [hh]; rfl) | (rcases h with ⟨_, _, _, _, _, _, _, _, _, _, _, _, _, _, hh, _⟩; rw [hh]; rfl) | (rcases h with ⟨_, _, _, _, _, _, _, _, _, _, _, _, _, _, _, hh, _⟩; rw [hh]; rfl) | (rcases h with ⟨_, _, _, _, _, _, _, _, _, _, _, _, _, _, _, _, hh, _⟩; rw [hh]; rfl) | (rcases h with ⟨_, _, _, _, _, _, _, _, _, _, _, _, _, _, _, _, _, hh, _⟩; rw [hh]; rfl) | (rcases h with ⟨_, _, _, _, _, _, _, _, _, _, _, _, _, _, _, _, _, _, hh, _⟩; rw [hh]; rfl) | (rcases h with ⟨_, _, _, _, _, _, _, _, _, _, _, _, _, _, _, _, _, _, _, hh, _⟩; rw [hh]; rfl)))
section
variable {κ α β : Type} [DecidableEq κ] {R R' : α → β → Prop}
theorem pt_none {l : List (κ × α)} {k : κ} {a : α} (h : lk l k = none) : pt l k a = l ++ [(k, a)] := by
  unfold pt
  rw [any_lk, h]
  rfl
theorem pt_some {l : List (κ × α)} {k : κ} {a b : α} (h : lk l k = some b) : pt l k a = l.map fun p => if p.1 = k then (p.1, a) else p := by
  unfold pt
  rw [any_lk, h]
  rfl
theorem map_none {k : κ} {a : α} : ∀ {l : List (κ × α)}, lk l k = none → l.map (fun p => if p.1 = k then (p.1, a) else p) = l
  | [], _ => rfl
  | p :: l, h => by
    rw [lk_cons] at h
    by_cases e : p.1 = k
    · rw [if_pos e] at h; cases h
    · rw [if_neg e] at h
      rw [List.map_cons, if_neg e, map_none h]
theorem lk_none_of {k : κ} : ∀ {l : List (κ × α)}, k ∉ l.map (·.1) → lk l k = none
  | [], _ => rfl
  | p :: l, h => by
    rw [lk_cons]
    rw [List.map_cons, List.mem_cons, not_or] at h
    rw [if_neg (fun e => h.1 e.symm), lk_none_of h.2]
theorem PK2.setAt {k : κ} {a' : α} {b : β} (h1 : R' a' b) : ∀ {l : List (κ × α)} {m : List (κ × β)}, PK2 R l m → lk m k = some b → (m.map (·.1)).Nodup → (m.map (·.2)).Nodup → (∀ a q, q ∈ m → q.2 ≠ b → R a q.2 → R' a q.2) → PK2 R' (l.map fun p => if p.1 = k then (p.1, a') else p) m
  | _, _, .nil, hb, _, _, _ => by cases hb
  | p :: l, q :: m, .cons h t, hb, hk, hn, f => by
    rw [List.map_cons, List.nodup_cons] at hk hn
    rw [lk_cons] at hb
    rw [List.map_cons]
    by_cases e : q.1 = k
    · rw [if_pos e] at hb
      cases hb
      rw [if_pos (h.1.trans e)]
      have hl : lk l k = none := by
        rcases PK2.look k t with ⟨z, _⟩ | ⟨_, _, _, z, _⟩
        · exact z
        · exact absurd (List.mem_map.mpr ⟨_, lk_mem z, rfl⟩) (by rw [← e]; exact hk.1)
      rw [map_none hl]
      refine .cons ⟨h.1, h1⟩ (PK2.monoM t fun a u hu r => f a u (List.mem_cons_of_mem _ hu) (fun z => hn.1 ?_) r)
      rw [← z]
      exact List.mem_map.mpr ⟨u, hu, rfl⟩
    · rw [if_neg e] at hb
      rw [if_neg (fun z => e (h.1.symm.trans z))]
      refine .cons ⟨h.1, f _ _ List.mem_cons_self (fun z => hn.1 ?_) h.2⟩ (PK2.setAt h1 t hb hk.2 hn.2 fun a u hu => f a u (List.mem_cons_of_mem _ hu))
      rw [z]
      exact List.mem_map.mpr ⟨_, lk_mem hb, rfl⟩
theorem keys_pt_some {l : List (κ × α)} {k : κ} {a b : α} (h : lk l k = some b) : (pt l k a).map (·.1) = l.map (·.1) := by
  rw [pt_some h, List.map_map]
  congr 1
  funext p
  show (if p.1 = k then (p.1, a) else p).1 = p.1
  split <;> rfl
theorem keys_pt_nodup {l : List (κ × α)} (k : κ) (a : α) (h : (l.map (·.1)).Nodup) : ((pt l k a).map (·.1)).Nodup := by
  cases e : lk l k with
  | some b => rw [keys_pt_some e]; exact h
  | none =>
    rw [pt_none e, List.map_append]
    refine List.nodup_append.mpr ⟨h, by simp, fun x hx y hy => ?_⟩
    simp at hy
    subst hy
    rintro rfl
    obtain ⟨p, hp, ep⟩ := List.mem_map.mp hx
    have : ∀ {l : List (κ × α)} {p : κ × α}, p ∈ l → lk l p.1 ≠ none := by
      intro l
      induction l with
      | nil => intro p hp; cases hp
      | cons q l ih =>
        intro p hp
        rw [lk_cons]
        by_cases z : q.1 = p.1
        · rw [if_pos z]; exact fun q => nomatch q
        · rw [if_neg z]
          rcases List.mem_cons.mp hp with z2 | z2
          · exact absurd (by rw [z2]) z
          · exact ih z2
    exact this hp (by rw [ep]; exact e)
theorem keys_rm_nodup {l : List (κ × α)} (k : κ) (h : (l.map (·.1)).Nodup) : ((rm l k).map (·.1)).Nodup := by
  unfold rm
  exact List.Sublist.nodup (List.Sublist.map _ List.filter_sublist) h
end
section
variable {K : PySem.W.Frag} {H H' H0 : Hp} {F0 : List Addr} {a : Addr} {r : RS} {x : RA}
theorem RunAt.hsNd (R : RunAt K H a r x) : (x.hs.map (·.2)).Nodup := by
  have h := R.dj
  unfold RA.F at h
  simp only [List.nodup_cons] at h
  exact h.2.2.2.2.2.2.2.2
theorem RunAt.hsB (R : RunAt K H a r x) {k : Str} {ws : List W} (h : lk r.heard k = some ws) : ∃ b, lk x.hs k = some b ∧ H b = some (.lst (ws.map wv)) := by
  rcases PK2.look k R.hl with ⟨e, _⟩ | ⟨ws', b, e, f, g⟩
  · rw [h] at e; cases e
  · rw [h] at e; cases e
    exact ⟨b, f, g⟩
theorem RunAt.hsN (R : RunAt K H a r x) {k : Str} (h : lk r.heard k = none) : lk x.hs k = none := by
  rcases PK2.look k R.hl with ⟨_, e⟩ | ⟨ws', b, e, f, g⟩
  · exact e
  · rw [h] at e; cases e
theorem RunAt.heGet (R : RunAt K H a r x) (k : Str) : DGet H x.he (.str k) ((lk x.hs k).map V.ref) := by
  have h := DGet.k (k := Sum.inr k) R.he
  rw [valV_mk2 inr_inj] at h
  exact h
/-- a key's list is changed -/
theorem RunTo.setHeard (T : RunTo K H0 F0 H a r x) {k : Str} {b : Addr} {ws : List W} (hk : (r.heard.map (·.1)).Nodup) (hw : lk r.heard k = some ws) (hb : lk x.hs k = some b) (ws' : List W) : RunTo K H0 F0 (upd H b (.lst (ws'.map wv))) a { r with heard := pt r.heard k ws' } x := by
  obtain ⟨b', hb', hH⟩ := T.1.hsB hw
  rw [hb] at hb'
  cases hb'
  obtain ⟨j, hj⟩ := RA.hsIx (a := a) (lk_mem hb)
  obtain ⟨E, U⟩ := T.up (o := .lst (ws'.map wv)) (j + 8) hj hH (fun _ q => nomatch q) (fun _ _ q => nomatch q)
  refine ⟨⟨E.ob (by omega), E.pa (by omega), E.kn (by omega), E.nd (by omega), E.an (by omega), E.he (by omega), E.aw (by omega), E.orr (by omega), ?_, T.1.dj, E.tp, E.tan, E.tor⟩, U⟩
  show PK2 _ (pt r.heard k ws') x.hs
  rw [pt_some hw]
  exact PK2.setAt (R := fun (ws : List W) b => H b = some (.lst (ws.map wv))) upd_same T.1.hl hb (by rw [← PK2.keys T.1.hl]; exact hk) T.1.hsNd fun ws q _ n e => by rw [upd_ne n]; exact e
theorem RunTo.newKey (T : RunTo K H0 F0 H a r x) {k : Str} {l : Addr} (hw : lk r.heard k = none) (hl : H l = none) :
    RunTo K H0 F0 (upd (upd H l (.lst [])) x.he (.dK (putK (mk2 Sum.inr V.ref x.hs) (Sum.inr k) (.ref l)))) a { r with heard := pt r.heard k [] } { x with hs := pt x.hs k l } := by
  have T1 := T.same (Same.new (o := .lst []) hl)
  have n := T.1.notIn hl
  obtain ⟨E, U⟩ := T1.up (o := .dK (putK (mk2 Sum.inr V.ref x.hs) (Sum.inr k) (.ref l))) 5 rfl T1.1.he (fun _ q => nomatch q) (fun _ _ q => nomatch q)
  have hn := T.1.hsN hw
  have nle : l ≠ x.he := fun q => n (by rw [q]; exact List.mem_of_getElem? (i := 5) rfl)
  have eF : ({ x with hs := pt x.hs k l } : RA).F a = x.F a ++ [l] := by
    show _ :: _ :: _ :: _ :: _ :: _ :: _ :: _ :: (pt x.hs k l).map (·.2) = _
    rw [pt_none hn, List.map_append]
    rfl
  refine ⟨⟨E.ob (by decide), E.pa (by decide), E.kn (by decide), E.nd (by decide), E.an (by decide), ?_, E.aw (by decide), E.orr (by decide), ?_, ?_, E.tp, E.tan, E.tor⟩, U.keep, U.fx, fun b m => ?_⟩
  · rw [upd_same, putK_mk2 inr_inj]
  · exact PK2.put (E.hl (by decide)) k (by rw [upd_ne nle, upd_same]; rfl)
  · rw [eF]
    refine List.nodup_append.mpr ⟨T.1.dj, by simp, fun b hb c hc => ?_⟩
    simp at hc
    subst hc
    rintro rfl
    exact n hb
  · rw [eF] at m
    rcases List.mem_append.mp m with m | m
    · exact U.new b m
    · simp at m
      by_cases h : l ∈ F0
      · exact .inl (by rw [m]; exact h)
      · exact .inr (by rw [m]; exact T.2.free hl h)
theorem RunTo.rmKey (T : RunTo K H0 F0 H a r x) (k : Str) : RunTo K H0 F0 (upd H x.he (.dK (dropK (mk2 Sum.inr V.ref x.hs) (Sum.inr k)))) a { r with heard := rm r.heard k } { x with hs := rm x.hs k } := by
  obtain ⟨E, U⟩ := T.up (o := .dK (dropK (mk2 Sum.inr V.ref x.hs) (Sum.inr k))) 5 rfl T.1.he (fun _ q => nomatch q) (fun _ _ q => nomatch q)
  have sl : (({ x with hs := rm x.hs k } : RA).F a).Sublist (x.F a) := by
    show (_ :: _ :: _ :: _ :: _ :: _ :: _ :: _ :: (rm x.hs k).map (·.2)).Sublist _
    unfold RA.F
    repeat apply List.Sublist.cons_cons
    exact List.Sublist.map _ List.filter_sublist
  refine ⟨⟨E.ob (by decide), E.pa (by decide), E.kn (by decide), E.nd (by decide), E.an (by decide), ?_, E.aw (by decide), E.orr (by decide), ?_, sl.nodup T.1.dj, E.tp, E.tan, E.tor⟩, U.keep, U.fx, fun b m => U.new b (sl.subset m)⟩
  · rw [upd_same, dropK_mk2 inr_inj]
  · exact PK2.drop (E.hl (by decide))
/-! reading and storing fields -/
variable {w : World} {mg : Str → Option Value} (T : Tx w K mg) (R : RunAt K H a r x)
include T R
theorem fl_statements : Fl K H a "statements" x.vp := ⟨_, _, _, R.ob, c_Run T, n_Run_statements T, rf_statements⟩
theorem fl_mode : Fl K H a "mode" (.str r.mode.s) := ⟨_, _, _, R.ob, c_Run T, n_Run_mode T, rf_mode⟩
theorem fl_path : Fl K H a "path" (.ref x.pa) := ⟨_, _, _, R.ob, c_Run T, n_Run_path T, rf_path⟩
theorem fl_known : Fl K H a "known" (.ref x.kn) := ⟨_, _, _, R.ob, c_Run T, n_Run_known T, rf_known⟩
theorem fl_arg : Fl K H a "arg" (wv r.arg) := ⟨_, _, _, R.ob, c_Run T, n_Run_arg T, rf_arg⟩
theorem fl_today : Fl K H a "today" (.int r.today) := ⟨_, _, _, R.ob, c_Run T, n_Run_today T, rf_today⟩
theorem fl_made : Fl K H a "made" (.int (r.made : Int)) := ⟨_, _, _, R.ob, c_Run T, n_Run_made T, rf_made⟩
theorem fl_not_done : Fl K H a "not_done" (.ref x.nd) := ⟨_, _, _, R.ob, c_Run T, n_Run_not_done T, rf_not_done⟩
theorem fl_answered : Fl K H a "answered" (.ref x.an) := ⟨_, _, _, R.ob, c_Run T, n_Run_answered T, rf_answered⟩
theorem fl_heard : Fl K H a "heard" (.ref x.he) := ⟨_, _, _, R.ob, c_Run T, n_Run_heard T, rf_heard⟩
theorem fl_awaited : Fl K H a "awaited" (.ref x.aw) := ⟨_, _, _, R.ob, c_Run T, n_Run_awaited T, rf_awaited⟩
theorem fl_outcome : Fl K H a "outcome" (wv r.outcome) := ⟨_, _, _, R.ob, c_Run T, n_Run_outcome T, rf_outcome⟩
theorem fl_orders : Fl K H a "orders" (.ref x.orr) := ⟨_, _, _, R.ob, c_Run T, n_Run_orders T, rf_orders⟩
theorem fl_steps : Fl K H a "steps" (.int (r.steps : Int)) := ⟨_, _, _, R.ob, c_Run T, n_Run_steps T, rf_steps⟩
theorem sl_mode (m : Mode) : Sl K H a "mode" (.str m.s) (upd H a (.ins (cR K) x.dx (rf { r with mode := m } x))) := ⟨_, _, _, R.ob, c_Run T, n_Run_mode T, (by show 14 < 1000; decide), rfl⟩
theorem sl_path (p : Addr) : Sl K H a "path" (.ref p) (upd H a (.ins (cR K) x.dx (rf r { x with pa := p }))) := ⟨_, _, _, R.ob, c_Run T, n_Run_path T, (by show 14 < 1000; decide), rfl⟩
theorem sl_arg (u : W) : Sl K H a "arg" (wv u) (upd H a (.ins (cR K) x.dx (rf { r with arg := u } x))) := ⟨_, _, _, R.ob, c_Run T, n_Run_arg T, (by show 14 < 1000; decide), rfl⟩
theorem sl_today (i : Int) : Sl K H a "today" (.int i) (upd H a (.ins (cR K) x.dx (rf { r with today := i } x))) := ⟨_, _, _, R.ob, c_Run T, n_Run_today T, (by show 14 < 1000; decide), rfl⟩
theorem sl_made (i : Nat) : Sl K H a "made" (.int (i : Int)) (upd H a (.ins (cR K) x.dx (rf { r with made := i } x))) := ⟨_, _, _, R.ob, c_Run T, n_Run_made T, (by show 14 < 1000; decide), rfl⟩
theorem sl_awaited (p : Addr) : Sl K H a "awaited" (.ref p) (upd H a (.ins (cR K) x.dx (rf r { x with aw := p }))) := ⟨_, _, _, R.ob, c_Run T, n_Run_awaited T, (by show 14 < 1000; decide), rfl⟩
theorem sl_outcome (u : W) : Sl K H a "outcome" (wv u) (upd H a (.ins (cR K) x.dx (rf { r with outcome := u } x))) := ⟨_, _, _, R.ob, c_Run T, n_Run_outcome T, (by show 14 < 1000; decide), rfl⟩
theorem sl_orders (p : Addr) : Sl K H a "orders" (.ref p) (upd H a (.ins (cR K) x.dx (rf r { x with orr := p }))) := ⟨_, _, _, R.ob, c_Run T, n_Run_orders T, (by show 14 < 1000; decide), rfl⟩
theorem sl_steps (i : Nat) : Sl K H a "steps" (.int (i : Int)) (upd H a (.ins (cR K) x.dx (rf { r with steps := i } x))) := ⟨_, _, _, R.ob, c_Run T, n_Run_steps T, (by show 14 < 1000; decide), rfl⟩
omit T in
theorem ml_run {m : Str} (h : (rf r x).lookup m = none) : Ml (cR K) H a m := ⟨_, _, R.ob, h⟩
end
end Ol
namespace Ol
open PySem PySem.Spec PyProof.Rows L2
local macro_rules | `(tactic| walk_at "len") => `(tactic| (intro vs H Q E h; first | (rcases h with ⟨hh, _⟩; rw [hh]; rfl) | (rcases h with ⟨_, hh, _⟩; rw [hh]; rfl) | (rcases h with ⟨_, _, hh, _⟩; rw [hh]; rfl) | (rcases h with ⟨_, _, _, hh, _⟩; rw [hh]; rfl) | (rcases h with ⟨_, _, _, _, hh, _⟩; rw [hh]; rfl) | (rcases h with ⟨_, _, _, _, _, hh, _⟩; rw [hh]; rfl) | (rcases h with ⟨_, _, _, _, _, _, hh, _⟩; rw [hh]; rfl) | (rcases h with ⟨_, _, _, _, _, _, _, hh, _⟩; rw [hh]; rfl) | (rcases h with ⟨_, _, _, _, _, _, _, _, hh, _⟩; rw [hh]; rfl) | (rcases h with ⟨_, _, _, _, _, _, _, _, _, hh, _⟩; rw [hh]; rfl) | (rcases h with ⟨_, _, _, _, _, _, _, _, _, _, hh, _⟩; rw [hh]; rfl) | (rcases h with ⟨_, _, _, _, _, _, _, _, _, _, _, hh, _⟩; rw [hh]; rfl) | (rcases h with ⟨_, _, _, _, _, _, _, _, _, _, _, _, hh, _⟩; rw [hh]; rfl) | (rcases h with ⟨_, _, _, _, _, _, _, _, _, _, _, _, _, hh, _⟩; rw [hh]; rfl) | (rcases h with ⟨_, _, _, _, _, _, _, _, _, _, _, _, _, _, hh, _⟩; rw [hh]; rfl) | (rcases h with ⟨_, _, _, _, _, _, _, _, _, _, _, _, _, _, _, hh, _⟩; rw [hh]; rfl) | (rcases h with ⟨_, _, _, _, _, _, _, _, _, _, _, _, _, _, _, _, hh, _⟩; rw [hh]; rfl) | (rcases h with ⟨_, _, _, _, _, _, _, _, _, _, _, _, _, _, _, _, _, hh, _⟩; rw [hh]; rfl) | (rcases h with ⟨_, _, _, _, _, _, _, _, _, _, _, _, _, _, _, _, _, _, hh, _⟩; rw [hh]; rfl) | (rcases h with ⟨_, _, _, _, _, _, _, _, _, _, _, _, _, _, _, _, _, _, _, hh, _⟩; rw [hh]; rfl)))
theorem pathV_cons (i : Nat) (p : List Nat) : pathV (i :: p) = pathV p ++ [.int (i : Int)] := by
  unfold pathV
  rw [List.reverse_cons, List.map_append]
  rfl
theorem pathV_len (p : List Nat) : (pathV p).length = p.length := by
  unfold pathV
  rw [List.length_map, List.length_reverse]
theorem path_ne {p : List Stm} {l : List Nat} (h : pathOk p l) : l ≠ [] := by
  cases l with
  | nil => exact h.elim
  | cons _ _ => exact fun q => nomatch q
theorem RgC_two {d : Nat} (h : d < 4611686018427387904 / 4) : RgC 0 (2 * (d : Int)) 2 d := by
  have e : Builtin.Range.rangeSize 0 (2 * (d : Int)) 2 = d := by
    unfold Builtin.Range.rangeSize
    rw [if_pos (by decide)]
    split
    · omega
    · omega
  refine ⟨by decide, by decide, ?_, e⟩
  have fl : ∀ {i : Int}, -(2 ^ 63) ≤ i → i < 2 ^ 63 → Builtin.Range.rangeFitsLong i = true := fun h1 h2 => by
    unfold Builtin.Range.rangeFitsLong
    rw [decide_eq_true h1, decide_eq_true h2]
    rfl
  unfold Builtin.Range.small
  rw [e, fl (i := 0) (by decide) (by decide), fl (i := 2) (by decide) (by decide), fl (i := 2 * (d : Int)) (by omega) (by omega), fl (i := (d : Int)) (by omega) (by omega), if_pos (by decide), fl (i := 2 * (d : Int) + (2 - 1)) (by omega) (by omega), Bool.or_true]
  rfl
/-- a path's length is odd -/
theorem path_odd : ∀ {p : List Stm} {l : List Nat}, pathOk p l → ∃ d, l.length = 2 * d + 1
  | _, [], h => h.elim
  | _, [i], _ => ⟨0, rfl⟩
  | p, i :: b :: r, h => by
    simp only [pathOk] at h
    obtain ⟨d, e⟩ := path_odd h.1
    exact ⟨d + 1, by simp only [List.length_cons, e]; omega⟩
/-- .. its ends -/
theorem path_drop : ∀ {p : List Stm} {l : List Nat} {j d : Nat}, pathOk p l → l.length = 2 * (d + 1) + 1 → j ≤ d →
    ∃ i b r, l.drop (2 * (d - j)) = i :: b :: r ∧ l.drop (2 * (d + 1 - j)) = r ∧ pathOk p r ∧ ∃ s blk, (blkR p r)[r.headD 0]? = some s ∧ s.sub b = some blk ∧ blkR p (i :: b :: r) = blk
  | p, [], _, _, h, _, _ => h.elim
  | p, [i], j, d, _, e, _ => by simp at e
  | p, i :: b :: r, j, d, h, e, hj => by
    simp only [pathOk] at h
    obtain ⟨h1, s, blk, h2, h3, h4⟩ := h
    by_cases hjd : j = d
    · subst hjd
      refine ⟨i, b, r, by simp, ?_, h1, s, blk, h2, h3, ?_⟩
      · rw [show 2 * (j + 1 - j) = 2 by omega]; rfl
      · simp only [blkR, h2, Option.bind_some, h3, Option.getD_some]
    · have e2 : r.length = 2 * ((d - 1) + 1) + 1 := by simp only [List.length_cons] at e; omega
      obtain ⟨i', b', r', g1, g2, g3⟩ := path_drop (j := j) (d := d - 1) h1 e2 (by omega)
      refine ⟨i', b', r', ?_, ?_, g3⟩
      · rw [show 2 * (d - j) = 2 * (d - 1 - j) + 2 by omega]; exact g1
      · rw [show 2 * (d + 1 - j) = 2 * (d - 1 + 1 - j) + 2 by omega]; exact g2
theorem pathV_get {p : List Nat} {k j i : Nat} {r : List Nat} (h : p.drop k = i :: r) (e : j + k + 1 = p.length) : (pathV p)[j]? = some (.int (i : Int)) := by
  unfold pathV
  rw [List.getElem?_map, List.getElem?_reverse (by omega)]
  have e2 : p.length - 1 - j = k := by omega
  have e3 : (p.drop k)[0]? = some i := by rw [h]; rfl
  rw [List.getElem?_drop, Nat.add_zero] at e3
  rw [e2, e3]
  rfl
theorem td_sub {K : PySem.W.Frag} {H : Hp} {s : Stm} {b : Nat} {blk : List Stm} {v : V} (h : TD K H v s.d) (e : s.sub b = some blk) : ∃ p xs, v = .ref p ∧ SqT K H p xs ∧ ∃ y, xs[2 + b]? = some y ∧ TD K H y (.tuple (blkD blk)) := by
  cases s with
  | ite c x y =>
    simp only [Stm.d] at h
    obtain ⟨p, v1, v2, v3, v4, rfl, ht, h1, h2, h3, h4⟩ := td4 h
    match b with
    | 0 => cases e; exact ⟨p, _, rfl, ht, v3, rfl, h3⟩
    | 1 => cases e; exact ⟨p, _, rfl, ht, v4, rfl, h4⟩
    | b + 2 => cases e
  | whl c x =>
    simp only [Stm.d] at h
    obtain ⟨p, v1, v2, v3, rfl, ht, h1, h2, h3⟩ := td3 h
    match b with
    | 0 => cases e; exact ⟨p, _, rfl, ht, v3, rfl, h3⟩
    | b + 1 => cases e
  | _ => cases e
/-- the statement of a block at a place -/
theorem td_at {K : PySem.W.Frag} {H : Hp} {v : V} {b : List Stm} {i : Nat} {s : Stm} (h : TD K H v (.tuple (blkD b))) (e : b[i]? = some s) : ∃ p xs y, v = .ref p ∧ SqT K H p xs ∧ xs.length = b.length ∧ xs[i]? = some y ∧ TD K H y s.d := by
  obtain ⟨p, xs, rfl, ht, hs⟩ := td_tup.mp h
  rw [blkD_map] at hs
  obtain ⟨y, h1, h2⟩ := hs.get (i := i) (d := s.d) (by rw [List.getElem?_map, e]; rfl)
  exact ⟨p, xs, y, rfl, ht, by rw [hs.length, List.length_map], h1, h2⟩
theorem td_blk {K : PySem.W.Frag} {H : Hp} {v : V} {b : List Stm} (h : TD K H v (.tuple (blkD b))) : ∃ p xs, v = .ref p ∧ SqT K H p xs ∧ xs.length = b.length := by
  obtain ⟨p, xs, rfl, ht, hs⟩ := td_tup.mp h
  rw [blkD_map] at hs
  exact ⟨p, xs, rfl, ht, by rw [hs.length, List.length_map]⟩
def spBlock (K : PySem.W.Frag) : Sp := fun vs H Q _ => ∃ (pv : V) (ap : Addr) (prog : List Stm) (p : List Nat), vs = [pv, .ref ap] ∧ TD K H pv (.tuple (blkD prog)) ∧ H ap = some (.lst (pathV p)) ∧ pathOk prog p ∧ p.length < 100000000 ∧ ∀ v, TD K H v (.tuple (blkD (blkR prog p))) → Q v H
def spHere (K : PySem.W.Frag) : Sp := fun vs H Q _ => ∃ (a : Addr) (r : RS) (x : RA) (s : Stm), vs = [.ref a] ∧ RunAt K H a r x ∧ pathOk r.prog r.path ∧ r.path.length < 100000000 ∧ r.here = some s ∧ ∀ v, TD K H v s.d → Q v H
section
variable {P : Program} {w : World} {K : PySem.W.Frag} {mg : Str → Option Value} {base : Heap}
theorem sc_block_of : FnScope ["program", "path", "block", "k"] ["program", "path"] (defScope s_block_of) := ⟨rfl, rfl, rfl, by decide +kernel, rfl, by decide +kernel, by decide +kernel⟩
theorem ok_block_of (T : Tx w K mg) : OkD P w K mg base d_block_of 1 ["program", "path"] (spBlock K) := by
  have sc := sc_block_of
  refine okD_mk (F_block_of T) sc (fun _ _ _ _ _ _ us hl => match us, hl with | [_, _], _ => rfl) ?len ?body
  case len => walk_at "len"
  intro cdv f A outer s H vs Q E hr h
  refine ⟨_, (pss_cons (ps_set (i := 2) sc.nd rfl (Or.inl rfl) (pv 0))
    (pss_cons (ps_for PassesOwn.never (by rfl) (pi_range3 (by rfl) (z_range T) (pa_cons pe_int (pa_cons (pe_op op_sub (pe_callB call_len_seq (by rfl) (z_len T) (by decide +kernel) (pa_cons (pv 1) pa_nil)) pe_int) (pa_cons pe_int pa_nil)))) (pg_name (i := 3) sc.nd rfl (Or.inl rfl)) (pss_one (ps_set (i := 2) sc.nd rfl (Or.inl rfl) (pe_ix ix_tup (pe_ix ix_tup (pv 2) (pe_ix ix_list (pv 1) (pv 3) (fun _ _ => rfl)) (fun _ _ => rfl)) (pe_op op_add pe_int (pe_ix ix_list (pv 1) (pe_op op_add (pv 3) pe_int) (fun _ _ => rfl))) (fun _ _ => rfl)))))
    (pss_one (ps_ret (pv 2))))), ?_⟩
  obtain ⟨pv, ap, prog, p, rfl, hd, hp, hok, hlen, q⟩ := h
  obtain ⟨d, ed⟩ := path_odd hok
  have el : ((pathV p).length : Int) - 1 = 2 * (d : Int) := by rw [pathV_len, ed]; omega
  refine ⟨_, rfl, _, rfl, ap, _, rfl, .inl (SqL.of hp), _, _, rfl, rfl, ?_⟩
  refine ⟨0, 2 * (d : Int), 2, d, by rw [← el], RgC_two (by omega), ?_⟩
  refine for_rangeC (lo := 0) (c := 2) (n := d) (fun i σ H' => H' = H ∧ ∃ v k, σ = [some pv, some (.ref ap), some v, k] ∧ TD K H v (.tuple (blkD (blkR prog (p.drop (2 * (d - i))))))) ⟨rfl, pv, none, rfl, ?_⟩ ?_ ?_
  · have e1 : ∃ i, p.drop (2 * (d - 0)) = [i] := by
      have e2 : (p.drop (2 * (d - 0))).length = 1 := by rw [List.length_drop]; omega
      cases e3 : p.drop (2 * (d - 0)) with
      | nil => rw [e3] at e2; cases e2
      | cons i r =>
        rw [e3] at e2
        cases r with
        | nil => exact ⟨i, rfl⟩
        | cons _ _ => simp at e2
    obtain ⟨i, e1⟩ := e1
    rw [e1]
    exact hd
  · rintro j σ H' hj ⟨rfl, v, k, rfl, hv⟩
    obtain ⟨d', rfl⟩ : ∃ d', d = d' + 1 := ⟨d - 1, by omega⟩
    obtain ⟨i, b, r, g1, g2, g3, s, blk, g4, g5, g6⟩ := path_drop (j := j) (d := d') hok ed (by omega)
    rw [g2] at hv
    obtain ⟨c, tl, er⟩ : ∃ c tl, r = c :: tl := by
      cases r with
      | nil => exact g3.elim
      | cons c tl => exact ⟨c, tl, rfl⟩
    have hc : (blkR prog r)[c]? = some s := by rw [er] at g4 ⊢; exact g4
    obtain ⟨q1, xs, y, rfl, ht, hl, hy, hyd⟩ := td_at hv hc
    obtain ⟨q2, zs, rfl, hz, u, hu, hud⟩ := td_sub hyd g5
    have ej : (0 : Int) + ((j : Nat) : Int) * 2 = ((2 * j : Nat) : Int) := by omega
    have a1 : (pathV p)[2 * j]? = some (.int (c : Int)) := pathV_get (k := 2 * (d' + 1 - j)) (r := tl) (by rw [g2, er]) (by omega)
    have a2 : (pathV p)[2 * j + 1]? = some (.int (b : Int)) := pathV_get (k := 2 * (d' - j) + 1) (r := r) (by rw [← List.drop_drop, g1]; rfl) (by omega)
    refine ⟨_, rfl, _, rfl, _, rfl, ap, _, _, _, rfl, rfl, SqL.of hp, at_of ej a1, ?_⟩
    refine ⟨q1, xs, _, _, rfl, rfl, ht, atI_nat hy, ?_⟩
    refine ⟨_, rfl, _, rfl, _, _, rfl, rfl, ap, _, _, _, rfl, rfl, SqL.of hp, at_of (by rw [ej]; omega) a2, _, _, rfl, rfl, ?_⟩
    refine ⟨q2, zs, _, _, rfl, rfl, hz, at_of (j := 2 + b) (by omega) hu, ?_⟩
    refine ⟨rfl, u, _, rfl, ?_⟩
    rw [show 2 * (d' + 1 - (j + 1)) = 2 * (d' - j) by omega, g1, g6]
    exact hud
  · rintro σ H' ⟨rfl, v, k, rfl, hv⟩
    refine ⟨_, rfl, q v ?_⟩
    rw [show 2 * (d - d) = 0 by omega] at hv
    exact hv
theorem sc_Run_statement_here : FnScope ["self"] ["self"] (defScope s_Run_statement_here) := ⟨rfl, rfl, rfl, by decide +kernel, rfl, by decide +kernel, by decide +kernel⟩
theorem ok_Run_statement_here (T : Tx w K mg) : OkD P w K mg base d_Run_statement_here 2 ["self"] (spHere K) := by
  have sc := sc_Run_statement_here
  refine okD_mk (F_Run_statement_here T) sc (fun _ _ _ _ _ _ us hl => match us, hl with | [_], _ => rfl) ?len ?body
  case len => walk_at "len"
  intro cdv f A outer s H vs Q E hr h
  refine ⟨_, (pss_one (ps_ret (pe_ix ix_tup (pe_f (ok_block_of T) (hr.mono (by decide)) (by rfl) (g_block_of T) (pa_cons (pe_fl (pv 0)) (pa_cons (pe_fl (pv 0)) pa_nil))) (pe_ix ix_list (pe_fl (pv 0)) (pe_un un_neg pe_int) (fun _ _ => rfl)) (fun _ _ => rfl)))), ?_⟩
  obtain ⟨a, r, x, s, rfl, R, hok, hl, hh, q⟩ := h
  obtain ⟨i, p, ep⟩ : ∃ i p, r.path = i :: p := by
    cases e : r.path with
    | nil => rw [e] at hok; exact hok.elim
    | cons i p => exact ⟨i, p, rfl⟩
  refine ⟨_, rfl, a, _, rfl, fl_statements T R, _, rfl, a, _, rfl, fl_path T R, x.vp, x.pa, r.prog, r.path, rfl, R.tp, R.pa, hok, hl, fun v hv => ?_⟩
  have h1 : (blkR r.prog r.path)[i]? = some s := by
    have h2 : (blkR r.prog r.path)[r.path.headD 0]? = some s := hh
    rw [ep] at h2 ⊢
    exact h2
  obtain ⟨q1, xs, y, rfl, ht, hl, hy, hyd⟩ := td_at hv h1
  have e2 : pathV r.path = pathV p ++ [.int (i : Int)] := by rw [ep, pathV_cons]
  refine ⟨_, rfl, a, _, rfl, fl_path T R, _, rfl, x.pa, _, _, _, rfl, rfl, SqL.of R.pa, by rw [e2]; exact atI_last _ _, q1, xs, _, _, rfl, rfl, ht, atI_nat hy, q y hyd⟩
end
end Ol
namespace Ol
open PySem PySem.Spec PyProof.Rows L2
local macro_rules | `(tactic| walk_at "len") => `(tactic| (intro vs H Q E h; first | (rcases h with ⟨hh, _⟩; rw [hh]; rfl) | (rcases h with ⟨_, hh, _⟩; rw [hh]; rfl) | (rcases h with ⟨_, _, hh, _⟩; rw [hh]; rfl) | (rcases h with ⟨_, _, _, hh, _⟩; rw [hh]; rfl) | (rcases h with ⟨_, _, _, _, hh, _⟩; rw [hh]; rfl) | (rcases h with ⟨_, _, _, _, _, hh, _⟩; rw [hh]; rfl) | (rcases h with ⟨_, _, _, _, _, _, hh, _⟩; rw [hh]; rfl) | (rcases h with ⟨_, _, _, _, _, _, _, hh, _⟩; rw [hh]; rfl) | (rcases h with ⟨_, _, _, _, _, _, _, _, hh, _⟩; rw [hh]; rfl) | (rcases h with ⟨_, _, _, _, _, _, _, _, _, hh, _⟩; rw [hh]; rfl) | (rcases h with ⟨_, _, _, _, _, _, _, _, _, _, hh, _⟩; rw [hh]; rfl) | (rcases h with ⟨_, _, _, _, _, _, _, _, _, _, _, hh, _⟩; rw [hh]; rfl) | (rcases h with ⟨_, _, _, _, _, _, _, _, _, _, _, _, hh, _⟩; rw [hh]; rfl) | (rcases h with ⟨_, _, _, _, _, _, _, _, _, _, _, _, _, hh, _⟩; rw [hh]; rfl) | (rcases h with ⟨_, _, _, _, _, _, _, _, _, _, _, _, _, _, hh, _⟩; rw [hh]; rfl) | (rcases h with ⟨_, _, _, _, _, _, _, _, _, _, _, _, _, _, _, hh, _⟩; rw [hh]; rfl) | (rcases h with ⟨_, _, _, _, _, _, _, _, _, _, _, _, _, _, _, _, hh, _⟩; rw [hh]; rfl) | (rcases h with ⟨_, _, _, _, _, _, _, _, _, _, _, _, _, _, _, _, _, hh, _⟩; rw [hh]; rfl) | (rcases h with ⟨_, _, _, _, _, _, _, _, _, _, _, _, _, _, _, _, _, _, hh, _⟩; rw [hh]; rfl) | (rcases h with ⟨_, _, _, _, _, _, _, _, _, _, _, _, _, _, _, _, _, _, _, hh, _⟩; rw [hh]; rfl)))
theorem merge_mk2 (l : List (Int × W)) (acc : List (Int × W)) : mergeK (mk2 Sum.inl wv acc) (mk2 Sum.inl wv l) = mk2 Sum.inl wv (l.foldl (fun acc p => pt acc p.1 p.2) acc) := by
  induction l generalizing acc with
  | nil => rfl
  | cons p l ih =>
    show mergeK (putK (mk2 Sum.inl wv acc) (Sum.inl p.1) (wv p.2)) (mk2 Sum.inl wv l) = _
    rw [putK_mk2 inl_inj, ih]
    rfl
theorem tds_pairs {K : PySem.W.Frag} {H : Hp} : ∀ {l : List (Int × W)} {vs : List V}, TDs K H vs (l.map pairD) → ∃ ps : List Addr, vs = ps.map V.ref ∧ Paired (fun p kv => SqT K H p [kV kv.1, kv.2]) ps (mk2 Sum.inl wv l)
  | [], _, h => ⟨[], tds_nil.mp h, .nil⟩
  | p :: l, _, h => by
    obtain ⟨v, r, rfl, h2, h3⟩ := tds_cons.mp h
    obtain ⟨q, y, z, rfl, ht, hy, hz⟩ := td2 h2
    cases td_int.mp hy
    cases td_wd.mp hz
    obtain ⟨ps, rfl, hp⟩ := tds_pairs h3
    exact ⟨q :: ps, rfl, .cons ht hp⟩
theorem ansD_wb {l : List (Int × W)} (h : ∀ p ∈ l, WB p.2) : ∀ p ∈ ansD l, WB p.2 := by
  have : ∀ (l acc : List (Int × W)), (∀ p ∈ l, WB p.2) → (∀ p ∈ acc, WB p.2) → ∀ p ∈ l.foldl (fun acc p => pt acc p.1 p.2) acc, WB p.2 := by
    intro l
    induction l with
    | nil => intro acc _ h; exact h
    | cons q l ih =>
      intro acc h1 h2
      refine ih _ (fun p hp => h1 p (List.mem_cons_of_mem _ hp)) fun p hp => ?_
      rcases pt_mem hp with e | e
      · rw [e]; exact h1 q List.mem_cons_self
      · exact h2 p e
  exact this l [] h fun _ q => nomatch q
theorem letter_one {r : RS} {k : Str} {u : W} (h : lk r.heard k = some [u]) : r.letter k = { r with heard := rm r.heard k } := by
  unfold RS.letter
  rw [h]
  rfl
theorem letter_more {r : RS} {k : Str} {u v : W} {l : List W} (h : lk r.heard k = some (u :: v :: l)) : r.letter k = { r with heard := pt r.heard k (v :: l) } := by
  unfold RS.letter
  rw [h]
  rfl
/-- a run's numbers stay small -/
structure Wk (r : RS) : Prop where
  known : ∀ p ∈ r.known, WB p.2
  arg : WB r.arg
  ans : ∀ p ∈ r.answered, WB p.2
theorem Wk.env {r : RS} (h : Wk r) : r.env.Ok := ⟨h.known, h.arg, ansD_wb h.ans⟩
def spSays (K : PySem.W.Frag) : Sp := fun vs H Q _ => ∃ (a : Addr) (r : RS) (x : RA) (s : Say) (sv : V), vs = [.ref a, sv] ∧ RunAt K H a r x ∧ Wk r ∧ TD K H sv s.d ∧ s.good ∧ ∀ H', Same H H' → Q (wv (r.says s)) H'
def spBehind (K : PySem.W.Frag) : Sp := fun vs H Q _ => ∃ (a : Addr) (r : RS) (x : RA) (s : Stm) (u : W), vs = [.ref a, wv u] ∧ RunAt K H a r x ∧ pathOk r.prog r.path ∧ r.path.length < 100000000 ∧ r.here = some s ∧ ((∃ z ss, s = .wait z ss) ∨ ∃ z k, s = .hear z k) ∧
  r.known.length < 10000000 ∧ ∀ H', RunTo K H (x.F a) H' a (r.behind u) x → Q .non H'
def spLetter (K : PySem.W.Frag) : Sp := fun vs H Q _ => ∃ (a : Addr) (r : RS) (x : RA) (k : Str) (u : W) (ws : List W), vs = [.ref a, .str k] ∧ RunAt K H a r x ∧ (r.heard.map (·.1)).Nodup ∧ lk r.heard k = some (u :: ws) ∧
  ∀ H' x', RunTo K H (x.F a) H' a (r.letter k) x' → Q (wv u) H'
def spTicket (K : PySem.W.Frag) : Sp := fun vs H Q _ => ∃ (a : Addr) (r : RS) (x : RA) (z : Str), vs = [.ref a, .str z] ∧ RunAt K H a r x ∧ r.known.length < 10000000 ∧ r.notDone.length < 10000000 ∧ ∀ H', RunTo K H (x.F a) H' a (r.ticket z) x → Q (.int (r.made : Int)) H'
def spDrop (K : PySem.W.Frag) : Sp := fun vs H Q _ => ∃ (a : Addr) (r : RS) (x : RA) (u : W), vs = [.ref a, wv u] ∧ RunAt K H a r x ∧ r.orders.length < 10000000 ∧ ∀ H' x', RunTo K H (x.F a) H' a (r.dropT u) x' → Q .non H'
def spEnd (K : PySem.W.Frag) : Sp := fun vs H Q _ => ∃ (a : Addr) (r : RS) (x : RA) (u : W), vs = [.ref a, wv u] ∧ RunAt K H a r x ∧ r.orders.length < 10000000 ∧ ∀ H' x', RunTo K H (x.F a) H' a (r.fin u) x' → Q .non H'
theorem line7 {n : Nat} (h : n < 10000000) : n < sizeLine := by rw [sizeLine_eq]; omega
theorem seqIx0 {n : Nat} (h : 0 < n) : seqIndex? 0 n = some 0 := by
  have e : ixN n 0 = some 0 := by
    unfold ixN
    rw [if_pos (by decide), if_pos (by omega)]
    rfl
  exact (ixN_seq e).1
/-- self.path[-1] += 1 -/
theorem bump_ok {K : PySem.W.Frag} {w : World} {mg : Str → Option Value} (T : Tx w K mg) {H0 : Hp} {F0 : List Addr} {H : Hp} {a : Addr} {r : RS} {x : RA} (R : RunTo K H0 F0 H a r x) (hp : r.path ≠ []) {D : Ends} {σ : L2.St} (h0 : σ[0]? = some (some (.ref a)))
    (k : ∀ H', RunTo K H0 F0 H' a r.bump x → D.nx σ H') : tAugS (tFl K (tVar 0) "path") (tUn (rU fun i => .int (-i)) (tC (.int 1))) (tC (.int 1)) (rGetL K) (ipI fun i j => i + j) rSetL D σ H := by
  obtain ⟨i, p, ep⟩ : ∃ i p, r.path = i :: p := by
    cases e : r.path with
    | nil => exact absurd e hp
    | cons i p => exact ⟨i, p, rfl⟩
  have e2 : pathV r.path = pathV p ++ [.int (i : Int)] := by rw [ep, pathV_cons]
  have hpa := R.1.pa
  rw [e2] at hpa
  have el : ixN (pathV p ++ [V.int (i : Int)]).length (-1) = some (pathV p).length := by
    unfold ixN
    rw [List.length_append, if_neg (by decide), if_pos (by simp only [List.length_cons, List.length_nil]; omega)]
    congr 1
    simp only [List.length_cons, List.length_nil]
    omega
  refine ⟨_, h0, a, _, rfl, fl_path T R.1, _, rfl, x.pa, _, _, _, rfl, rfl, by decide, SqL.of hpa, atI_last _ _, _, _, rfl, rfl, x.pa, _, _, _, rfl, rfl, hpa, el, ?_⟩
  have e3 : (pathV p ++ [V.int (i : Int)]).set (pathV p).length (.int ((i : Int) + 1)) = pathV ((i + 1) :: p) := by
    rw [pathV_cons, List.set_append_right _ _ (Nat.le_refl _), Nat.sub_self]
    rfl
  have e4 : r.bump = { r with path := (i + 1) :: p } := by
    unfold RS.bump
    rw [ep]
    rfl
  have h := R.setPath ((i + 1) :: p)
  rw [← e4, ← e3] at h
  exact k _ h
section
variable {P : Program} {w : World} {K : PySem.W.Frag} {mg : Str → Option Value} {base : Heap}
theorem sc_Run_go_behind : FnScope ["self", "worth"] ["self", "worth"] (defScope s_Run_go_behind) := ⟨rfl, rfl, rfl, by decide +kernel, rfl, by decide +kernel, by decide +kernel⟩
theorem ok_Run_go_behind (T : Tx w K mg) : OkD P w K mg base d_Run_go_behind 3 ["self", "worth"] (spBehind K) := by
  have sc := sc_Run_go_behind
  refine okD_mk (F_Run_go_behind T) sc (fun _ _ _ _ _ _ us hl => match us, hl with | [_, _], _ => rfl) ?len ?body
  case len => walk_at "len"
  intro cdv f A outer s H vs Q E hr h
  refine ⟨_, (pss_cons (ps_dput (hu_of hr) (pe_fl (pv 0)) (pe_ix ix_tup (pe_m0 (d := d_Run_statement_here) (c_Run T) (m_Run_statement_here T) (ok_Run_statement_here T) (hr.mono (by decide)) (pv 0)) pe_int (fun _ _ => rfl)) (pv 1) rfl)
    (pss_one (ps_augS (pe_fl (pv 0)) (pe_un un_neg pe_int) pget_list pe_int ip_add set_list))), ?_⟩
  obtain ⟨a, r, x, s, u, rfl, R, hok, hl, hh, hs, hk, q⟩ := h
  refine ⟨_, rfl, _, rfl, a, _, rfl, fl_known T R, _, rfl, a, rfl, ml_run R rfl, a, r, x, s, rfl, R, hok, hl, hh, fun v hv => ?_⟩
  have hn : ∃ p xs, v = .ref p ∧ SqT K H p xs ∧ xs[1]? = some (.str s.nm) := by
    rcases hs with ⟨z, ss, rfl⟩ | ⟨z, k, rfl⟩
    · simp only [Stm.d] at hv
      obtain ⟨p, v1, v2, v3, rfl, ht, h1, h2, h3⟩ := td3 hv
      cases td_str.mp h2
      exact ⟨p, _, rfl, ht, rfl⟩
    · simp only [Stm.d] at hv
      obtain ⟨p, v1, v2, v3, rfl, ht, h1, h2, h3⟩ := td3 hv
      cases td_str.mp h2
      exact ⟨p, _, rfl, ht, rfl⟩
  obtain ⟨p, xs, rfl, ht, hx⟩ := hn
  have R1 := R.to.setKnown s.nm u
  have en : r.hereName = s.nm := by
    unfold RS.hereName
    rw [hh]
    rfl
  have hb : r.behind u = ({ r with known := pt r.known s.nm u } : RS).bump := by
    unfold RS.behind
    rw [en]
  refine ⟨p, xs, _, _, rfl, rfl, ht, atI_nat (j := 1) hx, x.kn, _, rfl, DPut.k (k := Sum.inr s.nm) R.kn (by rw [mk2_length]; exact line7 hk), ?_⟩
  exact bump_ok T R1 (path_ne hok) rfl fun H' h => q H' (by rw [hb]; exact h)
theorem sc_Run_says : FnScope ["self", "saying"] ["self", "saying"] (defScope s_Run_says) := ⟨rfl, rfl, rfl, by decide +kernel, rfl, by decide +kernel, by decide +kernel⟩
theorem ok_Run_says (T : Tx w K mg) : OkD P w K mg base d_Run_says 7 ["self", "saying"] (spSays K) := by
  have sc := sc_Run_says
  refine okD_mk (F_Run_says T) sc (fun _ _ _ _ _ _ us hl => match us, hl with | [_, _], _ => rfl) ?len ?body
  case len => walk_at "len"
  intro cdv f A outer s H vs Q E hr h
  refine ⟨_, (pss_one (ps_ret (pe_f (ok_worth_of T) (hr.mono (by decide)) (by rfl) (g_worth_of T) (pa_cons (pv 1) (pa_cons (pe_callTy call_dictD (by rfl) (z_dict T) (by decide +kernel) (pa_cons (pe_fl (pv 0)) pa_nil)) (pa_cons (pe_fl (pv 0)) (pa_cons (pe_fl (pv 0)) (pa_cons (pe_callTy (call_dictP rfl) (by rfl) (z_dict T) (by decide +kernel) (pa_cons (pe_fl (pv 0)) pa_nil)) pa_nil)))))))), ?_⟩
  obtain ⟨a, r, x, s, sv, rfl, R, hw, hd, hg, q⟩ := h
  refine ⟨_, rfl, _, rfl, a, _, rfl, fl_known T R, x.kn, _, rfl, .inl R.kn, fun p hp => ?_⟩
  have s1 : Same H (upd H p (.dK (mk2 Sum.inr wv r.known))) := Same.new hp
  have R1 := R.same s1
  obtain ⟨ps, eps, hps⟩ := tds_pairs R1.tan
  refine ⟨_, rfl, a, _, rfl, fl_arg T R1, _, rfl, a, _, rfl, fl_today T R1, _, rfl, a, _, rfl, fl_answered T R1, x.an, ps, _, rfl, by rw [← eps]; exact SqL.of R1.an, hps, fun p2 hp2 => ?_⟩
  have s2 := Same.new (o := .dK (mergeK [] (mk2 Sum.inl wv r.answered))) hp2
  refine ⟨s, sv, p, p2, r.env, rfl, TD.fx ((Same.fx s1).trans (Same.fx s2)) _ _ hd, hg.2, hg.1, hw.env, s2 _ _ upd_same, ?_, q _ (Same.trans s1 s2)⟩
  rw [upd_same]
  exact congrArg (fun l => some (HO.dK l)) (merge_mk2 r.answered [])
theorem sc_Run_first_letter : FnScope ["self", "key", "worth"] ["self", "key"] (defScope s_Run_first_letter) := ⟨rfl, rfl, rfl, by decide +kernel, rfl, by decide +kernel, by decide +kernel⟩
theorem ok_Run_first_letter (T : Tx w K mg) : OkD P w K mg base d_Run_first_letter 1 ["self", "key"] (spLetter K) := by
  have sc := sc_Run_first_letter
  refine okD_mk (F_Run_first_letter T) sc (fun _ _ _ _ _ _ us hl => match us, hl with | [_, _], _ => rfl) ?len ?body
  case len => walk_at "len"
  intro cdv f A outer s H vs Q E hr h
  refine ⟨_, (pss_cons (ps_set (i := 2) sc.nd rfl (Or.inl rfl) (pe_bm PySem.F.plainAttrs_list PySem.F.slot_list_pop PySem.F.type_list_pop mt_popAt (pe_dget (hu_of hr) (pe_fl (pv 0)) (pv 1) (fun _ _ => rfl)) (pa_cons pe_int pa_nil)))
    (pss_cons (ps_if (pt_cmpR (op_eqD hr.units) (pe_dget (hu_of hr) (pe_fl (pv 0)) (pv 1) (fun _ _ => rfl)) (pe_lst pa_nil) (nomark _)) (pss_one (ps_expr (pe_dpop1 (pe_fl (pv 0)) (pv 1) ⟨by rfl, by rfl, by rfl, by rfl⟩))) pss_nil)
    (pss_one (ps_ret (pv 2))))), ?_⟩
  obtain ⟨a, r, x, k, u, ws, rfl, R, hk, hw, q⟩ := h
  obtain ⟨b, hb, hB⟩ := R.hsB hw
  have g := R.heGet k
  rw [hb] at g
  refine ⟨_, rfl, a, _, rfl, fl_heard T R, _, rfl, x.he, _, rfl, g, .inl ⟨rfl, _, SqL.of hB⟩, b, _, _, 0, wv u, rfl, rfl, hB, by decide, by decide, seqIx0 (Nat.succ_pos _), rfl, ?_⟩
  have R1 := R.to.setHeard hk hw hb ws
  have hw1 : lk (pt r.heard k ws) k = some ws := by rw [lk_pt, if_pos rfl]
  have g1 := R1.1.heGet k
  rw [hb] at g1
  have hB1 : upd H b (.lst (ws.map wv)) b = some (.lst (ws.map wv)) := upd_same
  refine ⟨_, rfl, a, _, rfl, fl_heard T R1.1, _, rfl, x.he, _, rfl, g1, Nat.zero_le _, fun p hp => ?_⟩
  have s1 := Same.new (o := .lst []) hp
  have R2 := R1.same s1
  have dv : Dp K (upd (upd H b (.lst (ws.map wv))) p (.lst [])) (.ref b) (.list (ws.map wd)) := by
    refine .lst (SqL.of (s1 _ _ hB1)) ?_
    exact TDs.dp _ _ (TDs.of wv fun w => td_wd.mpr rfl)
  have sh : SeqAt.shaped (.list (ws.map wd)) = true := Sd.shaped (n := 1) (sd_lst fun d hd => by
    obtain ⟨w, _, rfl⟩ := List.mem_map.mp hd
    exact sd_wd)
  refine ⟨_, _, dv, .lst (SqL.of upd_same) .nil, sh, rfl, _, rfl, ?_⟩
  cases ws with
  | nil =>
    refine ifT rfl ⟨_, rfl, a, _, rfl, fl_heard T R2.1, x.he, rfl, .inl ⟨_, .inl R2.1.he⟩, _, rfl, _, Sum.inr k, .ref b, R2.1.he, rfl, ?_, ?_⟩
    · rw [valV_mk2 inr_inj, hb]; rfl
    · refine ⟨_, rfl, q _ { x with hs := rm x.hs k } ?_⟩
      have R3 := R2.rmKey k
      have e3 : rm (pt r.heard k []) k = rm r.heard k := by
        rw [pt_some hw]
        unfold rm
        have : ∀ l : List (Str × List W), (l.map fun p => if p.1 = k then (p.1, ([] : List W)) else p).filter (fun p => decide (p.1 ≠ k)) = l.filter fun p => decide (p.1 ≠ k) := by
          intro l
          induction l with
          | nil => rfl
          | cons p l ih =>
            rw [List.map_cons]
            by_cases e : p.1 = k
            · rw [if_pos e, List.filter_cons, List.filter_cons, if_neg (by simp [e]), if_neg (by simp [e]), ih]
            · rw [if_neg e, List.filter_cons, List.filter_cons, if_pos (by simp [e]), if_pos (by simp [e]), ih]
        exact this r.heard
      rw [letter_one hw, ← e3]
      exact R3
  | cons w1 w2 =>
    refine ifF rfl ⟨_, rfl, q _ x ?_⟩
    rw [letter_more hw]
    exact R2
end
end Ol
namespace Ol
open PySem PySem.Spec PyProof.Rows L2
local macro_rules | `(tactic| walk_at "len") => `(tactic| (intro vs H Q E h; first | (rcases h with ⟨hh, _⟩; rw [hh]; rfl) | (rcases h with ⟨_, hh, _⟩; rw [hh]; rfl) | (rcases h with ⟨_, _, hh, _⟩; rw [hh]; rfl) | (rcases h with ⟨_, _, _, hh, _⟩; rw [hh]; rfl) | (rcases h with ⟨_, _, _, _, hh, _⟩; rw [hh]; rfl) | (rcases h with ⟨_, _, _, _, _, hh, _⟩; rw [hh]; rfl) | (rcases h with ⟨_, _, _, _, _, _, hh, _⟩; rw [hh]; rfl) | (rcases h with ⟨_, _, _, _, _, _, _, hh, _⟩; rw [hh]; rfl) | (rcases h with ⟨_, _, _, _, _, _, _, _, hh, _⟩; rw [hh]; rfl) | (rcases h with ⟨_, _, _, _, _, _, _, _, _, hh, _⟩; rw [hh]; rfl) | (rcases h with ⟨_, _, _, _, _, _, _, _, _, _, hh, _⟩; rw [hh]; rfl) | (rcases h with ⟨_, _, _, _, _, _, _, _, _, _, _, hh, _⟩; rw [hh]; rfl) | (rcases h with ⟨_, _, _, _, _, _, _, _, _, _, _, _, hh, _⟩; rw [hh]; rfl) | (rcases h with ⟨_, _, _, _, _, _, _, _, _, _, _, _, _, hh, _⟩; rw [hh]; rfl) | (rcases h with ⟨_, _, _, _, _, _, _, _, _, _, _, _, _, _, hh, _⟩; rw [hh]; rfl) | (rcases h with ⟨_, _, _, _, _, _, _, _, _, _, _, _, _, _, _, hh, _⟩; rw [hh]; rfl) | (rcases h with ⟨_, _, _, _, _, _, _, _, _, _, _, _, _, _, _, _, hh, _⟩; rw [hh]; rfl) | (rcases h with ⟨_, _, _, _, _, _, _, _, _, _, _, _, _, _, _, _, _, hh, _⟩; rw [hh]; rfl) | (rcases h with ⟨_, _, _, _, _, _, _, _, _, _, _, _, _, _, _, _, _, _, hh, _⟩; rw [hh]; rfl) | (rcases h with ⟨_, _, _, _, _, _, _, _, _, _, _, _, _, _, _, _, _, _, _, hh, _⟩; rw [hh]; rfl)))
theorem mode_dec {m : Mode} {n : Mode} : decide (V.str m.s = V.str n.s) = decide (m = n) := by
  cases m <;> cases n <;> decide +kernel
theorem erase_ix {k : Int} : ∀ {l : List Int}, k ∈ l → ∃ j, l[j]? = some k ∧ (∀ m : Nat, m < j → l[m]? ≠ some k) ∧ l.eraseIdx j = l.erase k
  | y :: l, h => by
    by_cases e : y = k
    · subst e
      exact ⟨0, rfl, fun m hm => by omega, by simp⟩
    · rcases List.mem_cons.mp h with z | z
      · exact absurd z.symm e
      · obtain ⟨j, h1, h2, h3⟩ := erase_ix z
        refine ⟨j + 1, h1, fun m hm => ?_, ?_⟩
        · cases m with
          | zero => exact fun q => e (Option.some.inj q)
          | succ m => exact h2 m (by omega)
        · rw [List.erase_cons_tail (by simpa using e)]
          show y :: l.eraseIdx j = _
          rw [h3]
def spHear (K : PySem.W.Frag) : Sp := fun vs H Q _ => ∃ (a : Addr) (r : RS) (x : RA) (k : Str) (s : Stm), vs = [.ref a, .str k] ∧ RunAt K H a r x ∧ pathOk r.prog r.path ∧ r.path.length < 100000000 ∧ r.here = some s ∧ (∃ z, s = .hear z k) ∧
  r.known.length < 10000000 ∧ (r.heard.map (·.1)).Nodup ∧ (∀ p ∈ r.heard, p.2 ≠ []) ∧ ∀ H' x', RunTo K H (x.F a) H' a (r.doHear k) x' → Q .non H'
def spWaits (K : PySem.W.Frag) : Sp := fun vs H Q _ => ∃ (a : Addr) (r : RS) (x : RA), vs = [.ref a] ∧ RunAt K H a r x ∧ pathOk r.prog r.path ∧ r.path.length < 100000000 ∧ (r.mode = .hear → ∃ z k, r.here = some (.hear z k)) ∧
  ∀ v H', Same H H' → TD K H' v r.waits → Q v H'
def spOpen (K : PySem.W.Frag) : Sp := fun vs H Q _ => ∃ (a : Addr) (r : RS) (x : RA), vs = [.ref a] ∧ RunAt K H a r x ∧ ∀ p H', H p = none → Same H H' → H' p = some (.lst (r.open.map V.int)) → Q (.ref p) H'
def spInit (K : PySem.W.Frag) : Sp := fun vs H Q _ => ∃ (a dx : Addr) (pv : V) (prog : List Stm), vs = [.ref a, pv] ∧ H a = some (.ins (cR K) dx []) ∧ TD K H pv (.tuple (blkD prog)) ∧
  ∀ H' x, RunAt K H' a (RS.init prog) x → (∀ b o, H b = some o → b ≠ a → H' b = some o) → (∀ b ∈ x.F a, b = a ∨ H b = none) → Q .non H'
section
variable {P : Program} {w : World} {K : PySem.W.Frag} {mg : Str → Option Value} {base : Heap}
theorem sc_Run_new_ticket : FnScope ["self", "name", "ticket"] ["self", "name"] (defScope s_Run_new_ticket) := ⟨rfl, rfl, rfl, by decide +kernel, rfl, by decide +kernel, by decide +kernel⟩
theorem ok_Run_new_ticket (T : Tx w K mg) : OkD P w K mg base d_Run_new_ticket 1 ["self", "name"] (spTicket K) := by
  have sc := sc_Run_new_ticket
  refine okD_mk (F_Run_new_ticket T) sc (fun _ _ _ _ _ _ us hl => match us, hl with | [_, _], _ => rfl) ?len ?body
  case len => walk_at "len"
  intro cdv f A outer s H vs Q E hr h
  refine ⟨_, (pss_cons (ps_set (i := 2) sc.nd rfl (Or.inl rfl) (pe_fl (pv 0)))
    (pss_cons (ps_flAdd (pv 0))
    (pss_cons (ps_expr (pe_bm PySem.F.plainAttrs_list PySem.F.slot_list_append PySem.F.type_list_append mt_append (pe_fl (pv 0)) (pa_cons (pv 2) pa_nil)))
    (pss_cons (ps_dput (hu_of hr) (pe_fl (pv 0)) (pv 1) (pv 2) rfl)
    (pss_one (ps_ret (pv 2))))))), ?_⟩
  obtain ⟨a, r, x, z, rfl, R, hk, hn, q⟩ := h
  refine ⟨_, rfl, a, _, rfl, fl_made T R, ?_⟩
  refine ⟨_, rfl, a, _, _, rfl, fl_made T R, sl_made T R (r.made + 1), ?_⟩
  have R1 := R.to.sc { r with made := r.made + 1 }
  refine ⟨_, rfl, a, _, rfl, fl_not_done T R1.1, .inl ⟨rfl, _, SqL.of R1.1.nd⟩, _, rfl, x.nd, _, _, rfl, rfl, R1.1.nd, by rw [List.length_map]; exact line7 hn, ?_⟩
  have R2 := R1.setNd (r.notDone ++ [(r.made : Int)])
  have e2 : (r.notDone ++ [(r.made : Int)]).map V.int = r.notDone.map V.int ++ [.int (r.made : Int)] := by rw [List.map_append]; rfl
  rw [e2] at R2
  refine ⟨_, rfl, _, rfl, a, _, rfl, fl_known T R2.1, _, rfl, x.kn, _, rfl, DPut.k (k := Sum.inr z) R2.1.kn (by rw [mk2_length]; exact line7 hk), ?_⟩
  exact ⟨_, rfl, q _ (R2.setKnown z (some (r.made : Int)))⟩
theorem sc_Run_do_drop : FnScope ["self", "worth"] ["self", "worth"] (defScope s_Run_do_drop) := ⟨rfl, rfl, rfl, by decide +kernel, rfl, by decide +kernel, by decide +kernel⟩
theorem ok_Run_do_drop (T : Tx w K mg) : OkD P w K mg base d_Run_do_drop 1 ["self", "worth"] (spDrop K) := by
  have sc := sc_Run_do_drop
  refine okD_mk (F_Run_do_drop T) sc (fun _ _ _ _ _ _ us hl => match us, hl with | [_, _], _ => rfl) ?len ?body
  case len => walk_at "len"
  intro cdv f A outer s H vs Q E hr h
  refine ⟨_, (pss_one (ps_if (pt_cmpR op_in_seq (pv 1) (pe_fl (pv 0)) (by rfl)) (pss_cons (ps_expr (pe_bm PySem.F.plainAttrs_list PySem.F.slot_list_remove PySem.F.type_list_remove mt_remove (pe_fl (pv 0)) (pa_cons (pv 1) pa_nil)))
    (pss_one (ps_expr (pe_bm PySem.F.plainAttrs_list PySem.F.slot_list_append PySem.F.type_list_append mt_append (pe_fl (pv 0)) (pa_cons (pe_tup (pa_cons pe_str (pa_cons (pv 1) pa_nil))) pa_nil))))) pss_nil)), ?_⟩
  obtain ⟨a, r, x, u, rfl, R, ho, q⟩ := h
  have hd : (inV (wv u) (r.notDone.map V.int)) = decide (u ∈ r.notDone.map some) := inV_ints u r.notDone
  refine ⟨_, rfl, _, rfl, a, _, rfl, fl_not_done T R, x.nd, _, rfl, .inl (SqL.of R.nd), flat_wv u, all_flat_ints _, _, rfl, ?_⟩
  show if inV (wv u) (r.notDone.map V.int) = true then _ else _
  rw [hd]
  by_cases hu : u ∈ r.notDone.map some
  · obtain ⟨t, ht, rfl⟩ := List.mem_map.mp hu
    obtain ⟨j, h1, h2, h3⟩ := erase_ix ht
    refine ifT (decide_eq_true hu) ?_
    refine ⟨_, rfl, a, _, rfl, fl_not_done T R, .inl ⟨rfl, _, SqL.of R.nd⟩, _, rfl, x.nd, r.notDone, t, j, rfl, rfl, R.nd, h1, h2, ?_⟩
    have R1 := R.to.setNd (r.notDone.erase t)
    rw [← h3] at R1
    refine ⟨_, rfl, a, _, rfl, fl_orders T R1.1, .inl ⟨rfl, _, SqL.of R1.1.orr⟩, _, rfl, (by show 2 ≤ sizeLine; decide), fun p hp => ?_⟩
    have s1 := Same.new (o := .tup [.str "drop", wv (some t)]) hp
    have R2 := R1.same s1
    have hl : x.orV.length < sizeLine := by rw [R2.1.tor.length, List.length_map]; exact line7 ho
    refine ⟨x.orr, _, _, rfl, rfl, R2.1.orr, hl, q _ { x with orV := x.orV ++ [.ref p] } ?_⟩
    have R3 := R2.addOr (.drop t) (v := .ref p) (TD.new upd_same (TDs.mk (td_str.mpr rfl) (TDs.mk (td_int.mpr rfl) TDs.nil)))
    have e : r.dropT (some t) = ({ r with notDone := r.notDone.eraseIdx j } : RS).tell (.drop t) := by
      unfold RS.dropT
      simp only [if_pos ht, h3]
    rw [e]
    exact R3
  · refine ifF (decide_eq_false hu) (q H x ?_)
    have e : r.dropT u = r := by
      unfold RS.dropT
      cases u with
      | none => rfl
      | some t => exact if_neg fun z => hu (List.mem_map.mpr ⟨t, z, rfl⟩)
    rw [e]
    exact R.to
theorem sc_Run_do_end : FnScope ["self", "worth"] ["self", "worth"] (defScope s_Run_do_end) := ⟨rfl, rfl, rfl, by decide +kernel, rfl, by decide +kernel, by decide +kernel⟩
theorem ok_Run_do_end (T : Tx w K mg) : OkD P w K mg base d_Run_do_end 1 ["self", "worth"] (spEnd K) := by
  have sc := sc_Run_do_end
  refine okD_mk (F_Run_do_end T) sc (fun _ _ _ _ _ _ us hl => match us, hl with | [_, _], _ => rfl) ?len ?body
  case len => walk_at "len"
  intro cdv f A outer s H vs Q E hr h
  refine ⟨_, (pss_cons (ps_fl (pv 0) pe_str)
    (pss_cons (ps_fl (pv 0) (pv 1))
    (pss_one (ps_expr (pe_bm PySem.F.plainAttrs_list PySem.F.slot_list_append PySem.F.type_list_append mt_append (pe_fl (pv 0)) (pa_cons (pe_tup (pa_cons pe_str (pa_cons (pv 1) pa_nil))) pa_nil)))))), ?_⟩
  obtain ⟨a, r, x, u, rfl, R, ho, q⟩ := h
  refine ⟨_, rfl, a, _, rfl, sl_mode T R .ended, ?_⟩
  have R1 := R.to.sc { r with mode := .ended }
  refine ⟨_, rfl, _, rfl, a, _, rfl, sl_outcome T R1.1 u, ?_⟩
  have R2 := R1.sc { r with mode := .ended, outcome := u }
  refine ⟨_, rfl, a, _, rfl, fl_orders T R2.1, .inl ⟨rfl, _, SqL.of R2.1.orr⟩, _, rfl, (by show 2 ≤ sizeLine; decide), fun p hp => ?_⟩
  have s1 := Same.new (o := .tup [.str "end", wv u]) hp
  have R3 := R2.same s1
  have hl : x.orV.length < sizeLine := by rw [R3.1.tor.length, List.length_map]; exact line7 ho
  refine ⟨x.orr, _, _, rfl, rfl, R3.1.orr, hl, q _ { x with orV := x.orV ++ [.ref p] } ?_⟩
  exact R3.addOr (.fin u) (v := .ref p) (TD.new upd_same (TDs.mk (td_str.mpr rfl) (TDs.mk (td_wd.mpr rfl) TDs.nil)))
theorem sc_Run_do_hear : FnScope ["self", "key"] ["self", "key"] (defScope s_Run_do_hear) := ⟨rfl, rfl, rfl, by decide +kernel, rfl, by decide +kernel, by decide +kernel⟩
theorem ok_Run_do_hear (T : Tx w K mg) : OkD P w K mg base d_Run_do_hear 4 ["self", "key"] (spHear K) := by
  have sc := sc_Run_do_hear
  refine okD_mk (F_Run_do_hear T) sc (fun _ _ _ _ _ _ us hl => match us, hl with | [_, _], _ => rfl) ?len ?body
  case len => walk_at "len"
  intro cdv f A outer s H vs Q E hr h
  refine ⟨_, (pss_one (ps_if (pt_cmp (pc_din (hu_of hr) (pv 1) (pe_fl (pv 0))) (by rfl)) (pss_one (ps_expr (pe_m (d := d_Run_go_behind) (c_Run T) (m_Run_go_behind T) (ok_Run_go_behind T) (hr.mono (by decide)) (pv 0) (pa_cons (pe_m (d := d_Run_first_letter) (c_Run T) (m_Run_first_letter T) (ok_Run_first_letter T) (hr.mono (by decide)) (pv 0) (pa_cons (pv 1) pa_nil)) pa_nil)))) (pss_one (ps_fl (pv 0) pe_str)))), ?_⟩
  obtain ⟨a, r, x, k, s, rfl, R, hok, hl, hh, hs, hk, hnd, hne, q⟩ := h
  refine ⟨_, rfl, _, rfl, a, _, rfl, fl_heard T R, x.he, _, rfl, R.heGet k, _, rfl, ?_⟩
  cases e : lk r.heard k with
  | none =>
    refine ifF (by rw [R.hsN e]; rfl) ⟨_, rfl, a, _, rfl, sl_mode T R .hear, q _ x ?_⟩
    have e2 : r.doHear k = { r with mode := .hear } := by
      unfold RS.doHear
      rw [e]
      rfl
    rw [e2]
    exact R.to.sc { r with mode := .hear }
  | some ws =>
    obtain ⟨b, hb, hB⟩ := R.hsB e
    cases ws with
    | nil => exact absurd rfl (hne _ (lk_mem e))
    | cons u ws =>
      refine ifT (by rw [hb]; rfl) ⟨_, rfl, a, rfl, ml_run R rfl, _, rfl, a, rfl, ml_run R rfl, _, rfl, a, r, x, k, u, ws, rfl, R, hnd, e, fun H' x' R1 => ?_⟩
      have hl2 : (r.letter k).prog = r.prog ∧ (r.letter k).path = r.path ∧ (r.letter k).known = r.known := by
        cases ws with
        | nil => rw [letter_one e]; exact ⟨rfl, rfl, rfl⟩
        | cons _ _ => rw [letter_more e]; exact ⟨rfl, rfl, rfl⟩
      have hh2 : (r.letter k).here = some s := by
        have h3 : (blkR r.prog r.path)[r.path.headD 0]? = some s := hh
        show (blkR (r.letter k).prog (r.letter k).path)[(r.letter k).path.headD 0]? = some s
        rw [hl2.1, hl2.2.1]
        exact h3
      refine ⟨a, r.letter k, x', s, u, rfl, R1.1, by rw [hl2.1, hl2.2.1]; exact hok, by rw [hl2.2.1]; exact hl, hh2, .inr (hs.elim fun z h => ⟨z, k, h⟩), by rw [hl2.2.2]; exact hk, fun H2 R2 => q H2 x' ?_⟩
      have e2 : r.doHear k = (r.letter k).behind u := by
        unfold RS.doHear RS.letterW
        rw [e]
        rfl
      rw [e2]
      exact ⟨R2.1, R1.2.trans R2.2⟩
theorem sc_Run_waits : FnScope ["self"] ["self"] (defScope s_Run_waits) := ⟨rfl, rfl, rfl, by decide +kernel, rfl, by decide +kernel, by decide +kernel⟩
theorem ok_Run_waits (T : Tx w K mg) : OkD P w K mg base d_Run_waits 3 ["self"] (spWaits K) := by
  have sc := sc_Run_waits
  refine okD_mk (F_Run_waits T) sc (fun _ _ _ _ _ _ us hl => match us, hl with | [_], _ => rfl) ?len ?body
  case len => walk_at "len"
  intro cdv f A outer s H vs Q E hr h
  refine ⟨_, (pss_cons (ps_if (pt_cmpR op_eq (pe_fl (pv 0)) pe_str (nomark _)) (pss_one (ps_ret (pe_tup (pa_cons pe_str (pa_cons (pe_callTy call_tuple_of (by rfl) (z_tuple T) (by decide +kernel) (pa_cons (pe_fl (pv 0)) pa_nil)) pa_nil))))) pss_nil)
    (pss_cons (ps_if (pt_cmpR op_eq (pe_fl (pv 0)) pe_str (nomark _)) (pss_one (ps_ret (pe_tup (pa_cons pe_str (pa_cons (pe_ix ix_tup (pe_m0 (d := d_Run_statement_here) (c_Run T) (m_Run_statement_here T) (ok_Run_statement_here T) (hr.mono (by decide)) (pv 0)) pe_int (fun _ _ => rfl)) pa_nil))))) pss_nil)
    (pss_cons (ps_if (pt_cmpR op_eq (pe_fl (pv 0)) pe_str (nomark _)) (pss_one (ps_ret (pe_tup (pa_cons pe_str (pa_cons (pe_fl (pv 0)) pa_nil))))) pss_nil)
    (pss_one (ps_ret (pe_tup (pa_cons (pe_fl (pv 0)) pa_nil))))))), ?_⟩
  obtain ⟨a, r, x, rfl, R, hok, hl, hh, q⟩ := h
  have ed : ∀ n : Mode, decide (V.str r.mode.s = V.str n.s) = decide (r.mode = n) := fun n => mode_dec
  refine ⟨_, rfl, a, _, rfl, fl_mode T R, rfl, _, rfl, ?_⟩
  by_cases h1 : r.mode = .wait
  · refine ifT ((ed .wait).trans (decide_eq_true h1)) ⟨_, rfl, a, _, rfl, fl_awaited T R, x.aw, _, rfl, .inl ⟨SqL.of R.aw, fun p hp => ⟨by show 2 ≤ sizeLine; decide, fun p2 hp2 => q _ _ ((Same.new hp).trans (Same.new hp2)) ?_⟩⟩⟩
    have e : r.waits = .tuple [.str "wait", .tuple (r.awaited.map .int)] := by unfold RS.waits; rw [h1]
    rw [e]
    exact TD.new upd_same (TDs.mk (td_str.mpr rfl) (TDs.mk (TD.fx (Same.fx (Same.new hp2)) _ _ (TD.new upd_same (TDs.of V.int fun i => td_int.mpr rfl))) TDs.nil))
  refine ifF ((ed .wait).trans (decide_eq_false h1)) ⟨_, rfl, a, _, rfl, fl_mode T R, rfl, _, rfl, ?_⟩
  by_cases h2 : r.mode = .hear
  · obtain ⟨z, k, hz⟩ := hh h2
    refine ifT ((ed .hear).trans (decide_eq_true h2)) ⟨_, rfl, a, rfl, ml_run R rfl, a, r, x, _, rfl, R, hok, hl, hz, fun v hv => ?_⟩
    simp only [Stm.d] at hv
    obtain ⟨p, v1, v2, v3, rfl, ht, g1, g2, g3⟩ := td3 hv
    refine ⟨p, _, _, _, rfl, rfl, ht, rfl, (by show 2 ≤ sizeLine; decide), fun p2 hp2 => q _ _ (Same.new hp2) ?_⟩
    have e : r.waits = .tuple [.str "hear", .str k] := by unfold RS.waits RS.hereKey; rw [h2, hz]; rfl
    rw [e]
    exact TD.new upd_same (TDs.mk (td_str.mpr rfl) (TDs.mk (TD.fx (Same.fx (Same.new hp2)) _ _ g3) TDs.nil))
  refine ifF ((ed .hear).trans (decide_eq_false h2)) ⟨_, rfl, a, _, rfl, fl_mode T R, rfl, _, rfl, ?_⟩
  by_cases h3 : r.mode = .ended
  · refine ifT ((ed .ended).trans (decide_eq_true h3)) ⟨_, rfl, a, _, rfl, fl_outcome T R, by show 2 ≤ sizeLine; decide, fun p2 hp2 => q _ _ (Same.new hp2) ?_⟩
    have e : r.waits = .tuple [.str "ended", wd r.outcome] := by unfold RS.waits; rw [h3]
    rw [e]
    exact TD.new upd_same (TDs.mk (td_str.mpr rfl) (TDs.mk (td_wd.mpr rfl) TDs.nil))
  refine ifF ((ed .ended).trans (decide_eq_false h3)) ⟨_, rfl, a, _, rfl, fl_mode T R, by show 1 ≤ sizeLine; decide, fun p2 hp2 => q _ _ (Same.new hp2) ?_⟩
  have e : r.waits = .tuple [.str r.mode.s] := by
    unfold RS.waits
    cases hm : r.mode with
    | wait => exact absurd hm h1
    | hear => exact absurd hm h2
    | ended => exact absurd hm h3
    | _ => rfl
  rw [e]
  exact TD.new upd_same (TDs.mk (td_str.mpr rfl) TDs.nil)
theorem sc_Run_open_tickets : FnScope ["self"] ["self"] (defScope s_Run_open_tickets) := ⟨rfl, rfl, rfl, by decide +kernel, rfl, by decide +kernel, by decide +kernel⟩
theorem ok_Run_open_tickets (T : Tx w K mg) : OkD P w K mg base d_Run_open_tickets 1 ["self"] (spOpen K) := by
  have sc := sc_Run_open_tickets
  refine okD_mk (F_Run_open_tickets T) sc (fun _ _ _ _ _ _ us hl => match us, hl with | [_], _ => rfl) ?len ?body
  case len => walk_at "len"
  intro cdv f A outer s H vs Q E hr h
  refine ⟨_, (pss_cons (ps_if (pt_cmpR op_in_seq (pe_fl (pv 0)) (pe_tup (pa_cons pe_str (pa_cons pe_str pa_nil))) (by rfl)) (pss_one (ps_ret (pe_lst pa_nil))) pss_nil)
    (pss_one (ps_ret (pe_callTy call_list_of (by rfl) (z_list T) (by decide +kernel) (pa_cons (pe_fl (pv 0)) pa_nil))))), ?_⟩
  obtain ⟨a, r, x, rfl, R, q⟩ := h
  refine ⟨_, rfl, a, _, rfl, fl_mode T R, (by show 2 ≤ sizeLine; decide), fun p hp => ?_⟩
  have s1 := Same.new (o := .tup [.str "ended", .str "worn"]) hp
  have R1 := R.same s1
  have ei : inV (.str r.mode.s) [.str "ended", .str "worn"] = r.gone := by
    unfold RS.gone
    cases r.mode <;> decide +kernel
  refine ⟨p, _, rfl, .inr (SqT.of upd_same), rfl, rfl, _, rfl, ?_⟩
  show if inV (.str r.mode.s) [.str "ended", .str "worn"] = true then _ else _
  rw [ei]
  cases hg : r.gone with
  | true =>
    refine ifT rfl ⟨Nat.zero_le _, fun p2 hp2 => q p2 _ (Same.free s1 hp2) (s1.trans (Same.new hp2)) ?_⟩
    have e : r.open = [] := by unfold RS.open; rw [hg]; rfl
    rw [e]
    exact upd_same
  | false =>
    refine ifF rfl ⟨_, rfl, a, _, rfl, fl_not_done T R1, x.nd, _, rfl, .inl (SqL.of R1.nd), fun p2 hp2 => q p2 _ (Same.free s1 hp2) (s1.trans (Same.new hp2)) ?_⟩
    have e : r.open = r.notDone := by unfold RS.open; rw [hg]; rfl
    rw [e]
    exact upd_same
end
end Ol
namespace Ol
open PySem PySem.Spec PyProof.Rows L2
/-! ### what holds of a run, the mathematics -/
def IB (t : Int) : Prop := -BW ≤ t ∧ t ≤ BW
def Cmd.ok : Cmd → Prop
  | .order t w a => IB t ∧ gs w ∧ WB a
  | .timer t _ => IB t
  | .child t p a => IB t ∧ gs p ∧ WB a
  | .send r k a => WB r ∧ gs k ∧ WB a
  | .drop t => IB t
  | .fin a => WB a
  | .worn => True
structure Rk (r : RS) (c : Nat) : Prop where
  blk : blkOk r.prog
  path : pathOk r.prog r.path
  wk : Wk r
  hrd : ∀ p ∈ r.heard, ∀ w ∈ p.2, WB w
  hne : ∀ p ∈ r.heard, p.2 ≠ []
  hkd : (r.heard.map (·.1)).Nodup
  made : r.made ≤ c
  nd : r.notDone.length ≤ c
  kn : r.known.length ≤ c
  pl : r.path.length ≤ 2 * c + 1
  an : r.answered.length ≤ c
  hd : r.heard.length ≤ c
  hds : ∀ p ∈ r.heard, p.2.length ≤ c
  ndb : ∀ t ∈ r.notDone, IB t
  ord : ∀ c ∈ r.orders, Cmd.ok c
  lim : c ≤ 5000000
theorem Rk.weak {r : RS} {c d : Nat} (h : Rk r c) (le : c ≤ d) (lim : d ≤ 5000000) : Rk r d :=
  ⟨h.blk, h.path, h.wk, h.hrd, h.hne, h.hkd, Nat.le_trans h.made le, Nat.le_trans h.nd le, Nat.le_trans h.kn le, by have := h.pl; omega, Nat.le_trans h.an le, Nat.le_trans h.hd le, fun p hp => Nat.le_trans (h.hds p hp) le, h.ndb, h.ord, lim⟩
/-- where it waits, it stands at such a statement -/
structure Rm (r : RS) : Prop where
  wait : r.mode = .wait → ∃ z ss, r.here = some (.wait z ss)
  hear : r.mode = .hear → ∃ z k, r.here = some (.hear z k)
theorem IB.nat {n : Nat} (h : n ≤ 5000000) : IB (n : Int) := ⟨by show -1099511627776 ≤ _; omega, by show _ ≤ 1099511627776; omega⟩
theorem wb_nat {n : Nat} (h : n ≤ 5000000) : WB (some (n : Int)) := wb_some (IB.nat h).1 (IB.nat h).2
theorem path_cons {p : List Stm} {l : List Nat} (h : pathOk p l) : ∃ i r, l = i :: r := by
  cases l with
  | nil => exact h.elim
  | cons i r => exact ⟨i, r, rfl⟩
theorem path_bump {p : List Stm} {i : Nat} {r : List Nat} (h : pathOk p (i :: r)) (hi : i < (blkR p (i :: r)).length) : pathOk p ((i + 1) :: r) := by
  cases r with
  | nil =>
    simp only [pathOk]
    exact hi
  | cons b r =>
    simp only [pathOk] at h ⊢
    obtain ⟨h1, s, blk, h2, h3, h4⟩ := h
    refine ⟨h1, s, blk, h2, h3, ?_⟩
    simp only [blkR, h2, Option.bind_some, h3, Option.getD_some] at hi
    exact hi
theorem RS.here_lt {r : RS} {s : Stm} {i : Nat} {l : List Nat} (e : r.path = i :: l) (h : r.here = some s) : i < (blkR r.prog (i :: l)).length ∧ (blkR r.prog (i :: l))[i]? = some s := by
  have h2 : (blkR r.prog r.path)[r.path.headD 0]? = some s := h
  rw [e] at h2
  exact ⟨(List.getElem?_eq_some_iff.mp h2).1, h2⟩
theorem blk_ok {p : List Stm} (hp : blkOk p) : ∀ {l : List Nat}, pathOk p l → blkOk (blkR p l)
  | [], h => h.elim
  | [i], _ => hp
  | i :: b :: r, h => by
    simp only [pathOk] at h
    obtain ⟨h1, s, blk, h2, h3, _⟩ := h
    simp only [blkR, h2, Option.bind_some, h3, Option.getD_some]
    exact Stm.sub_ok (blkOk_mem (blk_ok hp h1) (List.mem_of_getElem? h2)) h3
theorem RS.here_ok {r : RS} {c : Nat} {s : Stm} (h : Rk r c) (e : r.here = some s) : s.ok := blkOk_mem (blk_ok h.blk h.path) (List.mem_of_getElem? (show (blkR r.prog r.path)[r.path.headD 0]? = some s from e))
theorem RS.bump_path {r : RS} {i : Nat} {l : List Nat} (e : r.path = i :: l) : r.bump = { r with path := (i + 1) :: l } := by
  unfold RS.bump
  rw [e]
  rfl
theorem Rk.bump {r : RS} {c : Nat} {s : Stm} (h : Rk r c) (e : r.here = some s) : Rk r.bump c := by
  obtain ⟨i, l, ep⟩ := path_cons h.path
  rw [RS.bump_path ep]
  have hp := h.path
  rw [ep] at hp
  have hl := h.pl
  rw [ep] at hl
  exact ⟨h.blk, path_bump hp (RS.here_lt ep e).1, ⟨h.wk.known, h.wk.arg, h.wk.ans⟩, h.hrd, h.hne, h.hkd, h.made, h.nd, h.kn, hl, h.an, h.hd, h.hds, h.ndb, h.ord, h.lim⟩
theorem pt_wb {l : List (Str × W)} {k : Str} {a : W} (h : ∀ p ∈ l, WB p.2) (ha : WB a) : ∀ p ∈ pt l k a, WB p.2 := fun p hp => by
  rcases pt_mem hp with e | e
  · rw [e]; exact ha
  · exact h p e
theorem Rk.known {r : RS} {c : Nat} (h : Rk r c) (k : Str) {a : W} (ha : WB a) (lim : c + 1 ≤ 5000000) : Rk { r with known := pt r.known k a } (c + 1) := by
  have w := h.weak (Nat.le_succ c) lim
  exact ⟨w.blk, w.path, ⟨pt_wb h.wk.known ha, h.wk.arg, h.wk.ans⟩, w.hrd, w.hne, w.hkd, w.made, w.nd, Nat.le_trans (pt_length _ _ _) (Nat.succ_le_succ h.kn), w.pl, w.an, w.hd, w.hds, w.ndb, w.ord, w.lim⟩
theorem Rk.behind {r : RS} {c : Nat} {s : Stm} (h : Rk r c) (e : r.here = some s) {a : W} (ha : WB a) (lim : c + 1 ≤ 5000000) : Rk (r.behind a) (c + 1) :=
  (h.known r.hereName ha lim).bump (s := s) e
theorem Rk.letter {r : RS} {c : Nat} (h : Rk r c) {k : Str} {u : W} {ws : List W} (e : lk r.heard k = some (u :: ws)) : Rk (r.letter k) c ∧ (r.letter k).here = r.here ∧ WB u ∧ (r.letter k).orders = r.orders ∧ (r.letter k).steps = r.steps ∧ (r.letter k).mode = r.mode := by
  have hu : WB u := h.hrd _ (lk_mem e) u List.mem_cons_self
  cases ws with
  | nil =>
    rw [letter_one e]
    exact ⟨⟨h.blk, h.path, ⟨h.wk.known, h.wk.arg, h.wk.ans⟩, fun p hp => h.hrd p (rm_mem hp), fun p hp => h.hne p (rm_mem hp), keys_rm_nodup k h.hkd, h.made, h.nd, h.kn, h.pl, h.an, Nat.le_trans (rm_length _ _) h.hd, fun p hp => h.hds p (rm_mem hp), h.ndb, h.ord, h.lim⟩, rfl, hu, rfl, rfl, rfl⟩
  | cons v l =>
    rw [letter_more e]
    refine ⟨⟨h.blk, h.path, ⟨h.wk.known, h.wk.arg, h.wk.ans⟩, fun p hp => ?_, fun p hp => ?_, keys_pt_nodup k _ h.hkd, h.made, h.nd, h.kn, h.pl, h.an, ?_, fun p hp => ?_, h.ndb, h.ord, h.lim⟩, rfl, hu, rfl, rfl, rfl⟩
    · rcases pt_mem hp with q | q
      · rw [q]; exact fun w hw => h.hrd _ (lk_mem e) w (List.mem_cons_of_mem _ hw)
      · exact h.hrd p q
    · rcases pt_mem hp with q | q
      · rw [q]; exact fun z => nomatch z
      · exact h.hne p q
    · show (pt r.heard k (v :: l)).length ≤ c
      rw [pt_some e, List.length_map]
      exact h.hd
    · rcases pt_mem hp with q | q
      · rw [q]
        have := h.hds _ (lk_mem e)
        simp only [List.length_cons] at this ⊢
        omega
      · exact h.hds p q
theorem Rk.says {r : RS} {c : Nat} (h : Rk r c) {s : Say} (hs : s.good) : WB (r.says s) := worthOf_b h.wk.env hs.1
theorem Rk.tell {r : RS} {c : Nat} (h : Rk r c) {d : Cmd} (hd : d.ok) : Rk (r.tell d) c :=
  ⟨h.blk, h.path, ⟨h.wk.known, h.wk.arg, h.wk.ans⟩, h.hrd, h.hne, h.hkd, h.made, h.nd, h.kn, h.pl, h.an, h.hd, h.hds, h.ndb, fun c hc => by
    rcases List.mem_append.mp hc with z | z
    · exact h.ord c z
    · simp at z; rw [z]; exact hd, h.lim⟩
theorem Rk.ticket {r : RS} {c : Nat} (h : Rk r c) (z : Str) (lim : c + 1 ≤ 5000000) : Rk (r.ticket z) (c + 1) := by
  have w := h.weak (Nat.le_succ c) lim
  have hm : r.made ≤ 5000000 := Nat.le_trans h.made h.lim
  refine ⟨w.blk, w.path, ⟨pt_wb h.wk.known (wb_nat hm), h.wk.arg, h.wk.ans⟩, w.hrd, w.hne, w.hkd, Nat.succ_le_succ h.made, ?_, Nat.le_trans (pt_length _ _ _) (Nat.succ_le_succ h.kn), w.pl, w.an, w.hd, w.hds, fun t ht => ?_, w.ord, w.lim⟩
  · show (r.notDone ++ [(r.made : Int)]).length ≤ c + 1
    rw [List.length_append]
    exact Nat.succ_le_succ h.nd
  · rcases List.mem_append.mp (show t ∈ r.notDone ++ [(r.made : Int)] from ht) with z | z
    · exact h.ndb t z
    · simp at z; rw [z]; exact IB.nat hm
theorem Rk.erase {r : RS} {c : Nat} (h : Rk r c) (t : Int) : Rk { r with notDone := r.notDone.erase t } c :=
  ⟨h.blk, h.path, ⟨h.wk.known, h.wk.arg, h.wk.ans⟩, h.hrd, h.hne, h.hkd, h.made, Nat.le_trans List.length_erase_le h.nd, h.kn, h.pl, h.an, h.hd, h.hds, fun u hu => h.ndb u (List.mem_of_mem_erase hu), h.ord, h.lim⟩
theorem Rk.drop {r : RS} {c : Nat} (h : Rk r c) (u : W) : Rk (r.dropT u) c ∧ (r.dropT u).here = r.here ∧ (r.dropT u).orders.length ≤ r.orders.length + 1 ∧ (r.dropT u).steps = r.steps ∧ (r.dropT u).mode = r.mode ∧ (r.dropT u).path = r.path := by
  cases u with
  | none => exact ⟨h, rfl, Nat.le_succ _, rfl, rfl, rfl⟩
  | some t =>
    by_cases ht : t ∈ r.notDone
    · have e : r.dropT (some t) = ({ r with notDone := r.notDone.erase t } : RS).tell (.drop t) := if_pos ht
      rw [e]
      exact ⟨(h.erase t).tell (h.ndb t ht), rfl, by show (r.orders ++ [Cmd.drop t]).length ≤ _; rw [List.length_append]; exact Nat.le_refl _, rfl, rfl, rfl⟩
    · have e : r.dropT (some t) = r := if_neg ht
      rw [e]
      exact ⟨h, rfl, Nat.le_succ _, rfl, rfl, rfl⟩
theorem Rk.sc {r : RS} {c : Nat} (h : Rk r c) (r' : RS) (e1 : r'.prog = r.prog := by rfl) (e2 : r'.path = r.path := by rfl) (e3 : r'.known = r.known := by rfl) (e4 : r'.answered = r.answered := by rfl) (e5 : r'.heard = r.heard := by rfl) (e6 : r'.made = r.made := by rfl)
    (e7 : r'.notDone = r.notDone := by rfl) (e8 : r'.orders = r.orders := by rfl) (e9 : WB r'.arg) : Rk r' c :=
  ⟨by rw [e1]; exact h.blk, by rw [e1, e2]; exact h.path, ⟨by rw [e3]; exact h.wk.known, e9, by rw [e4]; exact h.wk.ans⟩, by rw [e5]; exact h.hrd, by rw [e5]; exact h.hne, by rw [e5]; exact h.hkd, by rw [e6]; exact h.made, by rw [e7]; exact h.nd, by rw [e3]; exact h.kn, by rw [e2]; exact h.pl,
    by rw [e4]; exact h.an, by rw [e5]; exact h.hd, by rw [e5]; exact h.hds, by rw [e7]; exact h.ndb, by rw [e8]; exact h.ord, h.lim⟩
theorem Rk.plain {r : RS} {c : Nat} {s : Stm} (h : Rk r c) (hs : s.ok) (lim : c + 1 ≤ 5000000) : Rk (r.plain s) (c + 1) ∧ (r.plain s).here = r.here ∧ (r.plain s).orders.length ≤ r.orders.length + 1 ∧ (r.plain s).steps = r.steps ∧ (r.plain s).mode = r.mode ∧ (r.plain s).path = r.path := by
  have w := h.weak (Nat.le_succ c) lim
  have hm : r.made ≤ 5000000 := Nat.le_trans h.made h.lim
  have tl : ∀ (r' : RS) (d : Cmd), (r'.tell d).orders.length = r'.orders.length + 1 := fun r' d => by show (r'.orders ++ [d]).length = _; rw [List.length_append]; rfl
  cases s with
  | set x s => exact ⟨h.known x (h.says hs) lim, rfl, Nat.le_succ _, rfl, rfl, rfl⟩
  | send a k b =>
    simp only [Stm.ok] at hs
    exact ⟨w.tell ⟨h.says hs.2.1, hs.1, h.says hs.2.2⟩, rfl, Nat.le_of_eq (tl _ _), rfl, rfl, rfl⟩
  | drop s =>
    obtain ⟨h1, h2, h3, h4, h5, h6⟩ := h.drop (r.says s)
    exact ⟨h1.weak (Nat.le_succ c) lim, h2, h3, h4, h5, h6⟩
  | timer x s => exact ⟨(h.ticket x lim).tell (IB.nat hm), rfl, Nat.le_of_eq (tl _ _), rfl, rfl, rfl⟩
  | order x z s =>
    simp only [Stm.ok] at hs
    exact ⟨(h.ticket x lim).tell ⟨IB.nat hm, hs.1, h.says hs.2⟩, rfl, Nat.le_of_eq (tl _ _), rfl, rfl, rfl⟩
  | child x p s =>
    simp only [Stm.ok] at hs
    exact ⟨(h.ticket x lim).tell ⟨IB.nat hm, hs.1, h.says hs.2⟩, rfl, Nat.le_of_eq (tl _ _), rfl, rfl, rfl⟩
  | _ => exact ⟨w, rfl, Nat.le_succ _, rfl, rfl, rfl⟩
theorem path_push {p : List Stm} {l : List Nat} {s : Stm} {b : Nat} {blk : List Stm} (h : pathOk p l) (e : (blkR p l)[l.headD 0]? = some s) (hs : s.sub b = some blk) : pathOk p (0 :: b :: l) := by
  simp only [pathOk]
  exact ⟨h, s, blk, e, hs, Nat.zero_le _⟩
theorem Rk.push {r : RS} {c : Nat} {s : Stm} {b : Nat} {blk : List Stm} (h : Rk r c) (e : r.here = some s) (hs : s.sub b = some blk) (lim : c + 1 ≤ 5000000) : Rk (r.push b) (c + 1) := by
  have w := h.weak (Nat.le_succ c) lim
  refine ⟨w.blk, path_push h.path e hs, ⟨h.wk.known, h.wk.arg, h.wk.ans⟩, w.hrd, w.hne, w.hkd, w.made, w.nd, w.kn, ?_, w.an, w.hd, w.hds, w.ndb, w.ord, w.lim⟩
  show (0 :: b :: r.path).length ≤ _
  have := h.pl
  simp only [List.length_cons]
  omega
/-! ### a turn -/
/-- amid a happening -/
structure Li (r : RS) (c : Nat) : Prop where
  rk : Rk r (c + r.steps)
  os : r.orders.length ≤ r.steps
  st : r.steps ≤ 300
/-- at its end -/
structure Fn (r : RS) (c : Nat) : Prop where
  rk : Rk r (c + 301)
  os : r.orders.length ≤ 301
  rm : Rm r
  md : r.mode ≠ .on ∧ r.mode ≠ .new
/-- what a turn brings -/
def Tn (r r' : RS) (c : Nat) : Prop := (r'.mode = .on ∧ Li r' c ∧ r'.mu < r.mu) ∨ Fn r' c
theorem Rm.of {r : RS} (h1 : r.mode ≠ .wait) (h2 : r.mode ≠ .hear) : Rm r := ⟨fun h => absurd h h1, fun h => absurd h h2⟩
theorem mu_bump {r : RS} (h : r.path ≠ []) : r.bump.mu = r.mu := by
  unfold RS.mu RS.bump
  cases e : r.path with
  | nil => exact absurd e h
  | cons i l => rfl
theorem mu_lt {r r' : RS} (h1 : r'.steps = r.steps + 1) (h2 : r'.path.length ≤ r.path.length + 2) (h3 : r.steps < 300) : r'.mu < r.mu := by
  unfold RS.mu
  rw [h1]
  omega
theorem bump_len {r : RS} (h : r.path ≠ []) : r.bump.path.length = r.path.length := by
  unfold RS.bump
  cases e : r.path with
  | nil => exact absurd e h
  | cons i l => rfl
theorem next_ok {r : RS} {c : Nat} {s : Stm} (h : Li r c) (on : r.mode = .on) (e : r.here = some s) (lim : c + 301 ≤ 5000000) : Tn r (r.next s) c := by
  have hso := RS.here_ok h.rk e
  have hpn : r.path ≠ [] := path_ne h.rk.path
  unfold RS.next
  by_cases h3 : r.steps = 300
  · rw [if_pos h3]
    have rk := h.rk.sc { r with mode := .worn } (e9 := h.rk.wk.arg)
    have rk2 := rk.tell (d := .worn) trivial
    refine .inr ⟨rk2.weak (by omega) lim, ?_, Rm.of (fun q => nomatch q) (fun q => nomatch q), ⟨(fun q => nomatch q), (fun q => nomatch q)⟩⟩
    show (r.orders ++ [Cmd.worn]).length ≤ 301
    rw [List.length_append]
    have := h.os
    simp only [List.length_cons, List.length_nil]
    omega
  rw [if_neg h3]
  have h300 : r.steps < 300 := by have := h.st; omega
  have rk1 : Rk { r with steps := r.steps + 1 } (c + r.steps) := h.rk.sc { r with steps := r.steps + 1 } (e9 := h.rk.wk.arg)
  have e1 : ({ r with steps := r.steps + 1 } : RS).here = some s := e
  have lim1 : c + r.steps + 1 ≤ 5000000 := by omega
  have hos := h.os
  -- on again
  have go : ∀ r' : RS, r'.mode = .on → r'.steps = r.steps + 1 → Rk r' (c + r.steps + 1) → r'.orders.length ≤ r.steps + 1 → r'.path.length ≤ r.path.length + 2 → Tn r r' c := fun r' m1 m2 m3 m4 m5 =>
    .inl ⟨m1, ⟨by rw [m2]; exact m3, by omega, by omega⟩, mu_lt m2 m5 h300⟩
  have look : ∀ (cs : Say) (isIf : Bool), (∃ b, s.sub 0 = some b) → (isIf = true → ∃ b, s.sub 1 = some b) → Tn r (({ r with steps := r.steps + 1 } : RS).look cs isIf) c := fun cs isIf hb0 hb1 => by
    unfold RS.look
    split
    · obtain ⟨b, hb⟩ := hb0
      exact go _ on rfl (rk1.push e1 hb lim1) (by show r.orders.length ≤ _; omega) (Nat.le_refl _)
    · split
      · rename_i hi
        obtain ⟨b, hb⟩ := hb1 hi
        exact go _ on rfl (rk1.push e1 hb lim1) (by show r.orders.length ≤ _; omega) (Nat.le_refl _)
      · exact go _ on rfl ((rk1.bump e1).weak (Nat.le_succ _) lim1) (by show r.orders.length ≤ _; omega) (by rw [bump_len (r := { r with steps := r.steps + 1 }) hpn]; exact Nat.le_add_right _ _)
  have bh : ∀ (r' : RS) (a : W), Rk r' (c + r.steps) → WB a → r'.here = some s → r'.mode = .on → r'.steps = r.steps + 1 → r'.orders.length ≤ r.steps + 1 → r'.path = r.path → Tn r (r'.behind a) c := fun r' a k1 k2 k3 k4 k5 k6 k7 =>
    go _ k4 k5 (k1.behind k3 k2 lim1) k6 (by
      have : (r'.behind a).path.length = r'.path.length := bump_len (r := { r' with known := pt r'.known r'.hereName a }) (by show r'.path ≠ []; rw [k7]; exact hpn)
      rw [this, k7]
      exact Nat.le_add_right _ _)
  have pl : ∀ s', s' = s → Tn r ((({ r with steps := r.steps + 1 } : RS).plain s').bump) c := fun s' es => by
    subst es
    obtain ⟨p1, p2, p3, p4, p5, p6⟩ := rk1.plain hso lim1
    refine go _ (by show (RS.plain _ s').mode = _; rw [p5]; exact on) (by show (RS.plain _ s').steps = _; rw [p4]) (p1.bump (s := s') (by rw [p2]; exact e1)) ?_ ?_
    · exact Nat.le_trans p3 (Nat.succ_le_succ hos)
    · rw [bump_len (by rw [p6]; exact hpn), p6]
      exact Nat.le_add_right _ _
  cases s with
  | ite cs a b => exact look cs true ⟨_, rfl⟩ fun _ => ⟨_, rfl⟩
  | whl cs b => exact look cs false ⟨_, rfl⟩ fun q => nomatch q
  | wait z ss =>
    show Tn r (RS.doWait _ ss) c
    unfold RS.doWait
    dsimp only
    split
    · rename_i t tl ht
      have hmem : t ∈ r.answered.map (·.1) := by
        have : t ∈ RS.ready { r with steps := r.steps + 1 } (ss.map (RS.says { r with steps := r.steps + 1 })) := by rw [ht]; exact List.mem_cons_self
        exact (List.mem_filter.mp this).1
      have hws : some t ∈ ss.map (RS.says { r with steps := r.steps + 1 }) := by
        have : t ∈ RS.ready { r with steps := r.steps + 1 } (ss.map (RS.says { r with steps := r.steps + 1 })) := by rw [ht]; exact List.mem_cons_self
        exact of_decide_eq_true (List.mem_filter.mp this).2
      obtain ⟨sy, hsy, esy⟩ := List.mem_map.mp hws
      have hwb : WB (some t) := by
        rw [← esy]
        simp only [Stm.ok] at hso
        exact rk1.says (hso.2 sy hsy)
      exact bh _ _ (rk1.sc { r with steps := r.steps + 1, awaited := _ } (e9 := h.rk.wk.arg)) hwb e1 on rfl (by show r.orders.length ≤ _; omega) rfl
    · split
      · refine .inr ⟨((rk1.sc { r with steps := r.steps + 1, awaited := _, mode := .wait } (e9 := h.rk.wk.arg)).weak (by omega) lim), by show r.orders.length ≤ _; omega, ⟨fun _ => ⟨z, ss, e1⟩, (fun q => nomatch q)⟩, ⟨(fun q => nomatch q), (fun q => nomatch q)⟩⟩
      · exact bh _ _ (rk1.sc { r with steps := r.steps + 1, awaited := _ } (e9 := h.rk.wk.arg)) wb_none e1 on rfl (by show r.orders.length ≤ _; omega) rfl
  | hear z k =>
    show Tn r (RS.doHear _ k) c
    unfold RS.doHear
    cases el : lk r.heard k with
    | none =>
      rw [if_neg (by simp)]
      exact .inr ⟨((rk1.sc { r with steps := r.steps + 1, mode := .hear } (e9 := h.rk.wk.arg)).weak (by omega) lim), by show r.orders.length ≤ _; omega, ⟨(fun q => nomatch q), fun _ => ⟨z, k, e1⟩⟩, ⟨(fun q => nomatch q), (fun q => nomatch q)⟩⟩
    | some ws =>
      rw [if_pos (show (some ws).isSome = true from rfl)]
      cases ws with
      | nil => exact absurd rfl (h.rk.hne _ (lk_mem el))
      | cons u ws =>
        obtain ⟨l1, l2, l3, l4, l5, l6⟩ := rk1.letter (k := k) (u := u) (ws := ws) el
        have eu : RS.letterW { r with steps := r.steps + 1 } k = u := by
          unfold RS.letterW
          rw [el]
          rfl
        rw [eu]
        refine bh _ _ l1 l3 (by rw [l2]; exact e1) (by rw [l6]; exact on) (by rw [l5]) (by rw [l4]; show r.orders.length ≤ _; omega) ?_
        cases ws with
        | nil => rw [letter_one (r := { r with steps := r.steps + 1 }) el]
        | cons _ _ => rw [letter_more (r := { r with steps := r.steps + 1 }) el]
  | fin cs =>
    have rk2 := (rk1.sc { r with steps := r.steps + 1, mode := .ended, outcome := RS.says { r with steps := r.steps + 1 } cs } (e9 := h.rk.wk.arg)).tell (d := .fin (RS.says { r with steps := r.steps + 1 } cs)) (rk1.says hso)
    refine .inr ⟨rk2.weak (by omega) lim, ?_, Rm.of (fun q => nomatch q) (fun q => nomatch q), ⟨(fun q => nomatch q), (fun q => nomatch q)⟩⟩
    show (r.orders ++ [_]).length ≤ 301
    rw [List.length_append]
    simp only [List.length_cons, List.length_nil]
    omega
  | set x s => exact pl _ rfl
  | order x w s => exact pl _ rfl
  | timer x s => exact pl _ rfl
  | child x p s => exact pl _ rfl
  | send a k b => exact pl _ rfl
  | drop s => exact pl _ rfl
end Ol
namespace Ol
open PySem PySem.Spec PyProof.Rows L2
theorem path_len2 {p : List Stm} {l : List Nat} (h : pathOk p l) (hl : l.length ≠ 1) : ∃ i b r s blk, l = i :: b :: r ∧ pathOk p r ∧ (blkR p r)[r.headD 0]? = some s ∧ s.sub b = some blk := by
  match l, h, hl with
  | [], h, _ => exact h.elim
  | [i], _, hl => exact absurd rfl hl
  | i :: b :: r, h, _ =>
    simp only [pathOk] at h
    obtain ⟨h1, s, blk, h2, h3, _⟩ := h
    exact ⟨i, b, r, s, blk, rfl, h1, h2, h3⟩
theorem pop_ok {r : RS} {c : Nat} (h : Li r c) (on : r.mode = .on) (hl : r.path.length ≠ 1) : Tn r r.pop c := by
  obtain ⟨i, b, l, s, blk, e1, e2, e3, e4⟩ := path_len2 h.rk.path hl
  have rk1 : Rk ({ r with path := l } : RS) (c + r.steps) := ⟨h.rk.blk, e2, ⟨h.rk.wk.known, h.rk.wk.arg, h.rk.wk.ans⟩, h.rk.hrd, h.rk.hne, h.rk.hkd, h.rk.made, h.rk.nd, h.rk.kn, by
    have := h.rk.pl
    rw [e1] at this
    simp only [List.length_cons] at this
    show l.length ≤ _
    omega, h.rk.an, h.rk.hd, h.rk.hds, h.rk.ndb, h.rk.ord, h.rk.lim⟩
  have eh : ({ r with path := l } : RS).here = some s := e3
  have ep : r.pop = if s.isIf then ({ r with path := l } : RS).bump else { r with path := l } := by
    unfold RS.pop
    dsimp only
    rw [e1]
    show (if (Option.map Stm.isIf ({ r with path := l } : RS).here).getD false = true then _ else _) = _
    rw [eh]
    rfl
  rw [ep]
  have hmu : ∀ r' : RS, r'.steps = r.steps → r'.path.length = l.length → r'.mu < r.mu := fun r' q1 q2 => by
    unfold RS.mu
    rw [q1, q2, e1]
    simp only [List.length_cons]
    omega
  split
  · exact .inl ⟨on, ⟨rk1.bump eh, h.os, h.st⟩, hmu _ rfl (bump_len (r := { r with path := l }) (path_ne e2))⟩
  · exact .inl ⟨on, ⟨rk1, h.os, h.st⟩, hmu _ rfl rfl⟩
theorem fin_ok {r : RS} {c : Nat} (h : Li r c) (lim : c + 301 ≤ 5000000) : Fn (r.fin none) c := by
  have h3 := h.st
  have h4 := h.os
  have rk := (h.rk.sc { r with mode := .ended, outcome := none } (e9 := h.rk.wk.arg)).tell (d := .fin none) wb_none
  refine ⟨rk.weak (by omega) lim, ?_, Rm.of (fun q => nomatch q) (fun q => nomatch q), ⟨(fun q => nomatch q), (fun q => nomatch q)⟩⟩
  show (r.orders ++ [_]).length ≤ 301
  rw [List.length_append]
  simp only [List.length_cons, List.length_nil]
  omega
theorem turn_ok {r : RS} {c : Nat} (h : Li r c) (on : r.mode = .on) (lim : c + 301 ≤ 5000000) : Tn r r.turn c := by
  unfold RS.turn
  cases e : r.here with
  | some s => exact next_ok h on e lim
  | none =>
    dsimp only
    split
    · exact .inr (fin_ok h lim)
    · rename_i hl
      exact pop_ok h on hl
theorem loop_stop {r : RS} (h : r.mode ≠ .on) : ∀ n, RS.loop n r = r
  | 0 => rfl
  | n + 1 => if_neg h
theorem loop_succ {r : RS} (h : r.mode = .on) (n : Nat) : RS.loop (n + 1) r = RS.loop n r.turn := if_pos h
theorem loop_ok {c : Nat} (lim : c + 301 ≤ 5000000) : ∀ (n : Nat) {r : RS}, Li r c → r.mode = .on → r.mu < n → Fn (RS.loop n r) c
  | 0, _, _, _, h => absurd h (Nat.not_lt_zero _)
  | n + 1, r, h, on, hm => by
    rw [loop_succ on]
    rcases turn_ok h on lim with ⟨t1, t2, t3⟩ | t
    · exact loop_ok lim n t2 t1 (Nat.lt_of_lt_of_le t3 (Nat.le_of_lt_succ hm))
    · rw [loop_stop t.md.1]; exact t
theorem loop_eq {c : Nat} (lim : c + 301 ≤ 5000000) : ∀ (n m : Nat) {r : RS}, Li r c → r.mode = .on → r.mu < n → r.mu < m → RS.loop n r = RS.loop m r
  | 0, _, _, _, _, h, _ => absurd h (Nat.not_lt_zero _)
  | _, 0, _, _, _, _, h => absurd h (Nat.not_lt_zero _)
  | n + 1, m + 1, r, h, on, h1, h2 => by
    rw [loop_succ on, loop_succ on]
    rcases turn_ok h on lim with ⟨t1, t2, t3⟩ | t
    · exact loop_eq lim n m t2 t1 (Nat.lt_of_lt_of_le t3 (Nat.le_of_lt_succ h1)) (Nat.lt_of_lt_of_le t3 (Nat.le_of_lt_succ h2))
    · rw [loop_stop t.md.1, loop_stop t.md.1]
/-- what the loop ends at -/
def RS.run (r : RS) : RS := RS.loop (r.mu + 1) r
theorem run_turn {r : RS} {c : Nat} (lim : c + 301 ≤ 5000000) (h : Li r c) (on : r.mode = .on) : r.run = r.turn.run := by
  unfold RS.run
  rw [loop_succ on]
  rcases turn_ok h on lim with ⟨t1, t2, t3⟩ | t
  · exact loop_eq lim _ _ t2 t1 t3 (Nat.lt_succ_self _)
  · rw [loop_stop t.md.1, loop_stop t.md.1]
theorem run_stop {r : RS} (h : r.mode ≠ .on) : r.run = r := loop_stop h _
theorem goOn_ok {r : RS} {c : Nat} (h : Rk r c) (ho : r.orders = []) (hs : r.steps = 0) (lim : c + 301 ≤ 5000000) : Fn r.goOn c := by
  have l : Li { r with mode := .on } c := ⟨by (have e : c + r.steps = c := by omega); show Rk { r with mode := .on } (c + r.steps); rw [e]; exact h.sc { r with mode := .on } (e9 := h.wk.arg), by show r.orders.length ≤ _; rw [ho]; exact Nat.zero_le _, by show r.steps ≤ 300; omega⟩
  exact loop_ok lim _ l rfl (Nat.lt_succ_self _)
/-! ### a happening -/
def Hap.ok : Hap → Prop
  | .begin _ a => WB a
  | .done _ _ a => WB a
  | .letter _ k a => WB a
/-- a run between happenings -/
structure Ro (r : RS) (c : Nat) : Prop where
  rk : Rk r c
  rm : Rm r
  md : r.mode ≠ .on
  os : r.orders.length ≤ 301
theorem Ro.weak {r : RS} {c d : Nat} (h : Ro r c) (le : c ≤ d) (lim : d ≤ 5000000) : Ro r d := ⟨h.rk.weak le lim, h.rm, h.md, h.os⟩
theorem Fn.ro {r : RS} {c : Nat} (h : Fn r c) : Ro r (c + 301) := ⟨h.rk, h.rm, h.md.1, h.os⟩
theorem Rk.fresh {r : RS} {c : Nat} (h : Rk r c) : Rk { r with orders := [], steps := 0 } c :=
  ⟨h.blk, h.path, ⟨h.wk.known, h.wk.arg, h.wk.ans⟩, h.hrd, h.hne, h.hkd, h.made, h.nd, h.kn, h.pl, h.an, h.hd, h.hds, h.ndb, (fun _ hc => nomatch hc), h.lim⟩
theorem Rm.sc {r r' : RS} (h : Rm r) (e1 : r'.mode = r.mode) (e2 : r'.here = r.here) : Rm r' := ⟨fun q => by rw [e2]; exact h.wait (e1 ▸ q), fun q => by rw [e2]; exact h.hear (e1 ▸ q)⟩
theorem Rk.day {r : RS} {c : Nat} (h : Rk r c) (m : Int) : Rk { r with today := m } c :=
  ⟨h.blk, h.path, ⟨h.wk.known, h.wk.arg, h.wk.ans⟩, h.hrd, h.hne, h.hkd, h.made, h.nd, h.kn, h.pl, h.an, h.hd, h.hds, h.ndb, h.ord, h.lim⟩
theorem Rk.answer {r : RS} {c : Nat} (h : Rk r c) (t : Int) {a : W} (ha : WB a) (lim : c + 1 ≤ 5000000) : Rk { r with notDone := r.notDone.erase t, answered := r.answered ++ [(t, a)] } (c + 1) := by
  have w := (h.erase t).weak (Nat.le_succ c) lim
  refine ⟨w.blk, w.path, ⟨w.wk.known, w.wk.arg, fun p hp => ?_⟩, w.hrd, w.hne, w.hkd, w.made, w.nd, w.kn, w.pl, ?_, w.hd, w.hds, w.ndb, w.ord, lim⟩
  · rcases List.mem_append.mp hp with z | z
    · exact h.wk.ans p z
    · simp at z; rw [z]; exact ha
  · show (r.answered ++ [(t, a)]).length ≤ c + 1
    rw [List.length_append]
    exact Nat.succ_le_succ h.an
theorem Rk.hears {r : RS} {c : Nat} (h : Rk r c) (k : Str) {a : W} (ha : WB a) (lim : c + 1 ≤ 5000000) : Rk { r with heard := pt r.heard k ((lk r.heard k).getD [] ++ [a]) } (c + 1) := by
  have w := h.weak (Nat.le_succ c) lim
  have old : (∀ x ∈ (lk r.heard k).getD [], WB x) ∧ ((lk r.heard k).getD []).length ≤ c := by
    cases e : lk r.heard k with
    | none => exact ⟨(fun _ q => nomatch q), Nat.zero_le _⟩
    | some ws => exact ⟨h.hrd _ (lk_mem e), h.hds _ (lk_mem e)⟩
  refine ⟨w.blk, w.path, ⟨w.wk.known, w.wk.arg, w.wk.ans⟩, fun p hp => ?_, fun p hp => ?_, keys_pt_nodup k _ h.hkd, w.made, w.nd, w.kn, w.pl, w.an, Nat.le_trans (pt_length _ _ _) (Nat.succ_le_succ h.hd), fun p hp => ?_, w.ndb, w.ord, lim⟩
  · rcases pt_mem hp with q | q
    · rw [q]
      intro x hx
      rcases List.mem_append.mp hx with z | z
      · exact old.1 x z
      · simp at z; rw [z]; exact ha
    · exact h.hrd p q
  · rcases pt_mem hp with q | q
    · rw [q]; exact List.append_ne_nil_of_right_ne_nil _ (fun z => nomatch z)
    · exact h.hne p q
  · rcases pt_mem hp with q | q
    · rw [q]
      show ((lk r.heard k).getD [] ++ [a]).length ≤ c + 1
      rw [List.length_append]
      exact Nat.succ_le_succ old.2
    · exact Nat.le_succ_of_le (h.hds p q)
theorem lk_hears (r : RS) (k : Str) (a : W) : ∃ u ws, lk (pt r.heard k ((lk r.heard k).getD [] ++ [a])) k = some (u :: ws) := by
  rw [lk_pt, if_pos rfl]
  cases (lk r.heard k).getD [] with
  | nil => exact ⟨_, _, rfl⟩
  | cons u ws => exact ⟨_, _, rfl⟩
theorem letterW_eq {r : RS} {k : Str} {u : W} {ws : List W} (e : lk r.heard k = some (u :: ws)) : r.letterW k = u := by
  unfold RS.letterW
  rw [e]
  rfl
theorem behind_keeps (r : RS) (a : W) : (r.behind a).orders = r.orders ∧ (r.behind a).steps = r.steps ∧ (r.behind a).mode = r.mode := ⟨rfl, rfl, rfl⟩
theorem takeDone_ok {r : RS} {c : Nat} (h : Rk r c) (hm : Rm r) (md : r.mode ≠ .on) (ho : r.orders = []) (hs : r.steps = 0) {t : Int} (ht : t ∈ r.notDone) {a : W} (ha : WB a) (lim : c + 303 ≤ 5000000) : Ro (r.takeDone t a) (c + 303) := by
  have k1 := h.answer t ha (by omega)
  unfold RS.takeDone
  dsimp only
  split
  · rename_i hw
    obtain ⟨z, ss, e⟩ := hm.wait hw.1
    have k2 := k1.behind (s := .wait z ss) e (a := some t) (wb_some (h.ndb t ht).1 (h.ndb t ht).2) (by omega)
    exact (goOn_ok k2 ho hs (by omega)).ro.weak (by omega) lim
  · refine ⟨k1.weak (by omega) lim, hm.sc rfl rfl, md, ?_⟩
    show r.orders.length ≤ 301
    rw [ho]
    exact Nat.zero_le _
theorem takeLetter_ok {r : RS} {c : Nat} (h : Rk r c) (hm : Rm r) (md : r.mode ≠ .on) (ho : r.orders = []) (hs : r.steps = 0) (k : Str) {a : W} (ha : WB a) (lim : c + 303 ≤ 5000000) : Ro (r.takeLetter k a) (c + 303) := by
  have k1 := h.hears k ha (by omega)
  obtain ⟨u, ws, e⟩ := lk_hears r k a
  unfold RS.takeLetter
  dsimp only
  split
  · rename_i hw
    obtain ⟨z, kk, eh⟩ := hm.hear hw.1
    obtain ⟨l1, l2, l3, l4, l5, l6⟩ := k1.letter e
    have eh1 : (({ r with heard := pt r.heard k ((lk r.heard k).getD [] ++ [a]) } : RS).letter k).here = some (.hear z kk) := by rw [l2]; exact eh
    have k2 := l1.behind eh1 l3 (by omega)
    rw [letterW_eq (r := { r with heard := pt r.heard k ((lk r.heard k).getD [] ++ [a]) }) e]
    refine (goOn_ok k2 ?_ ?_ (by omega)).ro.weak (by omega) lim
    · rw [(behind_keeps _ _).1, l4]; exact ho
    · rw [(behind_keeps _ _).2.1, l5]; exact hs
  · refine ⟨k1.weak (by omega) lim, hm.sc rfl rfl, md, ?_⟩
    show r.orders.length ≤ 301
    rw [ho]
    exact Nat.zero_le _
theorem take_ok {r : RS} {c : Nat} (h : Ro r c) {p : Hap} (hp : p.ok) (lim : c + 303 ≤ 5000000) : Ro (r.take p) (c + 303) := by
  have k0 := h.rk.fresh
  have hn : ∀ r' : RS, r' = { r with orders := [], steps := 0 } → Ro r' (c + 303) := fun r' e => by
    rw [e]
    exact ⟨k0.weak (by omega) lim, h.rm.sc rfl rfl, h.md, Nat.zero_le _⟩
  unfold RS.take
  cases p with
  | «begin» m a =>
    dsimp only
    split
    · have k1 : Rk { r with orders := [], steps := 0, today := max r.today m, arg := a } c := (k0.day (max r.today m)).sc { r with orders := [], steps := 0, today := max r.today m, arg := a } (e9 := hp)
      exact (goOn_ok k1 rfl rfl (by omega)).ro.weak (by omega) lim
    · exact hn _ rfl
  | done m t a =>
    dsimp only
    split
    · rename_i hw
      exact takeDone_ok (k0.day (max r.today m)) (h.rm.sc rfl rfl) h.md rfl rfl hw.2 hp lim
    · exact hn _ rfl
  | letter m k a =>
    dsimp only
    split
    · exact takeLetter_ok (k0.day (max r.today m)) (h.rm.sc rfl rfl) h.md rfl rfl k hp lim
    · exact hn _ rfl
theorem init_ok {p : List Stm} (h : blkOk p) : Ro (RS.init p) 0 :=
  ⟨⟨h, Nat.zero_le _, ⟨(fun _ q => nomatch q), wb_none, (fun _ q => nomatch q)⟩, (fun _ q => nomatch q), (fun _ q => nomatch q), List.nodup_nil, Nat.le_refl _, Nat.le_refl _, Nat.le_refl _, Nat.le_refl _, Nat.le_refl _, Nat.le_refl _, (fun _ q => nomatch q), (fun _ q => nomatch q), (fun _ q => nomatch q), by omega⟩,
   Rm.of (fun q => nomatch q) (fun q => nomatch q), (fun q => nomatch q), Nat.zero_le _⟩
end Ol
namespace Ol
open PySem PySem.Spec PyProof.Rows L2
/-! ### rules in a comprehension's block: the frame named -/
section
variable {X : Cx} {K : PySem.W.Frag} {e : Expr} {ta : TE} {m : Str} {pos : Pos}
theorem pe_flK (hK : X.K = K) (he : PE X e ta) (hb : attributeBase e m X.env (eval e X.env) = eval e X.env := by rfl) : PE X (.Attribute e m pos) (tFl K ta m) := by subst hK; exact pe_fl he hb
theorem ix_listK (hK : X.K = K) : IxR X (rIxL K) := by subst hK; exact ix_list
theorem ix_tupK (hK : X.K = K) : IxR X (rIxT K) := by subst hK; exact ix_tup
theorem op_in_seqK (hK : X.K = K) : OpR X (compareOp .In) (rIn K false) := by subst hK; exact op_in_seq
theorem op_notIn_seqK (hK : X.K = K) : OpR X (compareOp .NotIn) (rIn K true) := by subst hK; exact op_notIn_seq
theorem pg_tupK {es : List Expr} {k : Nat} {t : TGs} (n : Nat) (hK : X.K = K) (hc : X.calm = true) (h : PGs X es t) (hn : (assignEach es X.env).length = n := by rfl) (hst : (assignEach es X.env).findIdx? (·.1) = none := by rfl) : PG X (.Tuple es k pos) (gTup K n t) := by subst hK; exact pg_tup hc h hn hst
theorem op_catTK (hK : X.K = K) : OpR X (binaryOp .Add) (rCatT K) := by subst hK; exact op_catT
end
/-! ### comprehensions whose turns only add to the heap -/
theorem lc_dataL {K : PySem.W.Frag} {a : Addr} {xs : List V} {g : TG} {tt : TT} {te : TE} {vs : List Nat} {σ : L2.St} {H1 : Hp} {D : Addr} {Qd : Hp → Prop} (hD : H1 D = none) (F : Nat → List PyData) (f0 : F 0 = []) (hl : H1 a = some (.lst xs)) (hx : xs.length < sizeLine)
    (hs : ∀ i x H (Qy : V → Hp → Prop) (Qn : Hp → Prop), xs[i]? = some x → Same H1 H → (∀ y H4 d, Same H H4 → TD K H4 y d → F (i + 1) = F i ++ [d] → Qy y H4) → (∀ H3, Same H H3 → F (i + 1) = F i → Qn H3) →
      g x (wipe σ vs) H fun σ2 H2 => wipe σ2 vs = wipe σ vs ∧ tt σ2 H2 fun b H3 => if b = true then te σ2 H3 Qy else Qn H3)
    (hd : ∀ H acc, Same H1 H → H D = some (.lst acc) → TDs K H acc (F xs.length) → Qd H) :
    ∃ W : Nat → Nat → Hp → Prop, (∃ m, W 0 m (upd H1 D (.lst []))) ∧ ∀ i m H, W i m H →
      ((Itl K a).stop i H ∧ Qd H) ∨ ((Itl K a).go i H ∧ ∃ Nx : Hp → Prop, (∀ H', Nx H' → ∃ m', m' < m ∧ W (i + 1) m' H') ∧ ∀ x H', (Itl K a).yld i H x H' → g x (wipe σ vs) H' fun σ2 H2 => wipe σ2 vs = wipe σ vs ∧ tt σ2 H2 fun b H3 =>
        if b = true then te σ2 H3 fun y H4 => ∃ acc, H4 D = some (.lst acc) ∧ acc.length < sizeLine ∧ Nx (upd H4 D (.lst (acc ++ [y]))) else Nx H3) := by
  refine lc_list (fun i H => Same H1 H ∧ ∃ acc, H D = some (.lst acc) ∧ TDs K H acc (F i) ∧ acc.length ≤ i) ⟨Same.new hD, [], upd_same, by rw [f0]; exact TDs.nil, Nat.le_refl _⟩ (fun i H _ h => SqL.of (h.1 _ _ hl)) ?_ fun H h => h.2.elim fun acc h2 => hd H acc h.1 h2.1 h2.2.1
  rintro i x H hx1 ⟨s1, acc, ha, ht, hn⟩
  have hi : i < xs.length := (List.getElem?_eq_some_iff.mp hx1).1
  refine hs i x H _ _ hx1 s1 (fun y H4 d s4 hy e => ⟨acc, s4 _ _ ha, by omega, fun b o hb => ?_, acc ++ [y], upd_same, ?_, ?_⟩) (fun H3 s3 e => ⟨s1.trans s3, acc, s3 _ _ ha, by rw [e]; exact TDs.fx (Same.fx s3) _ _ ht, by omega⟩)
  · have hne : b ≠ D := fun q => by rw [q, hD] at hb; cases hb
    rw [upd_ne hne]
    exact s4 _ _ (s1 _ _ hb)
  · rw [e]
    have fx : Fx H4 (upd H4 D (.lst (acc ++ [y]))) := (Upto.upd (F := [D]) (s4 _ _ ha) List.mem_cons_self (fun _ q => nomatch q) (fun _ _ q => nomatch q)).fx
    exact (TDs.fx fx _ _ (TDs.fx (Same.fx s4) _ _ ht)).snoc (TD.fx fx _ _ hy)
  · rw [List.length_append]
    exact Nat.succ_le_succ hn
theorem lc_dataT {K : PySem.W.Frag} {a : Addr} {xs : List V} {g : TG} {tt : TT} {te : TE} {vs : List Nat} {σ : L2.St} {H1 : Hp} {D : Addr} {Qd : Hp → Prop} (hD : H1 D = none) (F : Nat → List PyData) (f0 : F 0 = []) (hl : SqT K H1 a xs) (hx : xs.length < sizeLine)
    (hs : ∀ i x H (Qy : V → Hp → Prop) (Qn : Hp → Prop), xs[i]? = some x → Same H1 H → (∀ y H4 d, Same H H4 → TD K H4 y d → F (i + 1) = F i ++ [d] → Qy y H4) → (∀ H3, Same H H3 → F (i + 1) = F i → Qn H3) →
      g x (wipe σ vs) H fun σ2 H2 => wipe σ2 vs = wipe σ vs ∧ tt σ2 H2 fun b H3 => if b = true then te σ2 H3 Qy else Qn H3)
    (hd : ∀ H acc, Same H1 H → H D = some (.lst acc) → TDs K H acc (F xs.length) → Qd H) :
    ∃ W : Nat → Nat → Hp → Prop, (∃ m, W 0 m (upd H1 D (.lst []))) ∧ ∀ i m H, W i m H →
      ((Itt K a).stop i H ∧ Qd H) ∨ ((Itt K a).go i H ∧ ∃ Nx : Hp → Prop, (∀ H', Nx H' → ∃ m', m' < m ∧ W (i + 1) m' H') ∧ ∀ x H', (Itt K a).yld i H x H' → g x (wipe σ vs) H' fun σ2 H2 => wipe σ2 vs = wipe σ vs ∧ tt σ2 H2 fun b H3 =>
        if b = true then te σ2 H3 fun y H4 => ∃ acc, H4 D = some (.lst acc) ∧ acc.length < sizeLine ∧ Nx (upd H4 D (.lst (acc ++ [y]))) else Nx H3) := by
  refine lc_tup (fun i H => Same H1 H ∧ ∃ acc, H D = some (.lst acc) ∧ TDs K H acc (F i) ∧ acc.length ≤ i) ⟨Same.new hD, [], upd_same, by rw [f0]; exact TDs.nil, Nat.le_refl _⟩ (fun i H _ h => Fx.t (Same.fx h.1) hl) ?_ fun H h => h.2.elim fun acc h2 => hd H acc h.1 h2.1 h2.2.1
  rintro i x H hx1 ⟨s1, acc, ha, ht, hn⟩
  have hi : i < xs.length := (List.getElem?_eq_some_iff.mp hx1).1
  refine hs i x H _ _ hx1 s1 (fun y H4 d s4 hy e => ⟨acc, s4 _ _ ha, by omega, fun b o hb => ?_, acc ++ [y], upd_same, ?_, ?_⟩) (fun H3 s3 e => ⟨s1.trans s3, acc, s3 _ _ ha, by rw [e]; exact TDs.fx (Same.fx s3) _ _ ht, by omega⟩)
  · have hne : b ≠ D := fun q => by rw [q, hD] at hb; cases hb
    rw [upd_ne hne]
    exact s4 _ _ (s1 _ _ hb)
  · rw [e]
    have fx : Fx H4 (upd H4 D (.lst (acc ++ [y]))) := (Upto.upd (F := [D]) (s4 _ _ ha) List.mem_cons_self (fun _ q => nomatch q) (fun _ _ q => nomatch q)).fx
    exact (TDs.fx fx _ _ (TDs.fx (Same.fx s4) _ _ ht)).snoc (TD.fx fx _ _ hy)
  · rw [List.length_append]
    exact Nat.succ_le_succ hn
theorem take_map_succ {α : Type} (f : α → PyData) {l : List α} {i : Nat} {a : α} (h : l[i]? = some a) : (l.take (i + 1)).map f = (l.take i).map f ++ [f a] := by
  rw [List.take_add_one, h]
  simp
theorem take_filt_succ {α : Type} (p : α → Bool) (f : α → PyData) {l : List α} {i : Nat} {a : α} (h : l[i]? = some a) : ((l.take (i + 1)).filter p).map f = ((l.take i).filter p).map f ++ (if p a = true then [f a] else []) := by
  rw [List.take_add_one, h]
  simp only [Option.toList_some, List.filter_append, List.map_append]
  congr 1
  cases e : p a <;> simp [e]
theorem take_filt_pos {α : Type} (p : α → Bool) (f : α → PyData) {l : List α} {i : Nat} {a : α} (h : l[i]? = some a) (hp : p a = true) : ((l.take (i + 1)).filter p).map f = ((l.take i).filter p).map f ++ [f a] := by
  rw [take_filt_succ p f h, if_pos hp]
theorem take_filt_neg {α : Type} (p : α → Bool) (f : α → PyData) {l : List α} {i : Nat} {a : α} (h : l[i]? = some a) (hp : p a = false) : ((l.take (i + 1)).filter p).map f = ((l.take i).filter p).map f := by
  rw [take_filt_succ p f h, hp, if_neg Bool.false_ne_true, List.append_nil]
theorem neNil {K : PySem.W.Frag} {H : Hp} {b p : Addr} {vs : List V} {ds : List PyData} (n : Nat) (h : H b = some (.lst vs)) (ht : TDs K H vs ds) (hs : ∀ d ∈ ds, Sd n d) (hp : H p = some (.lst [])) {Q : VK} (q : Q (.bl (decide (ds ≠ []))) H) (hn : n + 1 ≤ 64 := by decide) : rNeD K (.ref b) (.ref p) H Q := by
  refine ⟨_, _, .lst (SqL.of h) (TDs.dp _ _ ht), .lst (SqL.of hp) .nil, (sd_lst hs).shaped hn, rfl, ?_⟩
  have e : (!PyData.eqv (.list ds) (.list [])) = decide (ds ≠ []) := by
    cases ds with
    | nil => rfl
    | cons d l => rfl
  rw [e]
  exact q
theorem eqNil {K : PySem.W.Frag} {H : Hp} {b p : Addr} {vs : List V} {ds : List PyData} (n : Nat) (h : H b = some (.lst vs)) (ht : TDs K H vs ds) (hs : ∀ d ∈ ds, Sd n d) (hp : H p = some (.lst [])) {Q : VK} (q : Q (.bl (decide (ds = []))) H) (hn : n + 1 ≤ 64 := by decide) : rEqD K (.ref b) (.ref p) H Q := by
  refine ⟨_, _, .lst (SqL.of h) (TDs.dp _ _ ht), .lst (SqL.of hp) .nil, (sd_lst hs).shaped hn, rfl, ?_⟩
  have e : (PyData.eqv (.list ds) (.list [])) = decide (ds = []) := by
    cases ds with
    | nil => rfl
    | cons d l => rfl
  rw [e]
  exact q
theorem tds_ints {K : PySem.W.Frag} {H : Hp} : ∀ {l : List Int} {vs : List V}, TDs K H vs (l.map PyData.int) → vs = l.map V.int
  | [], _, h => by rw [show _ = [] from h]; rfl
  | i :: l, vs, ⟨v, r, e, h1, h2⟩ => by
    rw [e, td_int.mp h1, tds_ints h2]
    rfl
theorem tds_wds {K : PySem.W.Frag} {H : Hp} : ∀ {l : List W} {vs : List V}, TDs K H vs (l.map wd) → vs = l.map wv
  | [], _, h => by rw [show _ = [] from h]; rfl
  | i :: l, vs, ⟨v, r, e, h1, h2⟩ => by
    rw [e, td_wd.mp h1, tds_wds h2]
    rfl
end Ol
namespace Ol
open PySem PySem.Spec PyProof.Rows L2
local macro_rules | `(tactic| walk_at "len") => `(tactic| (intro vs H Q E h; first | (rcases h with ⟨hh, _⟩; rw [hh]; rfl) | (rcases h with ⟨_, hh, _⟩; rw [hh]; rfl) | (rcases h with ⟨_, _, hh, _⟩; rw [hh]; rfl) | (rcases h with ⟨_, _, _, hh, _⟩; rw [hh]; rfl) | (rcases h with ⟨_, _, _, _, hh, _⟩; rw [hh]; rfl) | (rcases h with ⟨_, _, _, _, _, hh, _⟩; rw [hh]; rfl) | (rcases h with ⟨_, _, _, _, _, _, hh, _⟩; rw [hh]; rfl) | (rcases h with ⟨_, _, _, _, _, _, _, hh, _⟩; rw [hh]; rfl) | (rcases h with ⟨_, _, _, _, _, _, _, _, hh, _⟩; rw [hh]; rfl) | (rcases h with ⟨_, _, _, _, _, _, _, _, _, hh, _⟩; rw [hh]; rfl) | (rcases h with ⟨_, _, _, _, _, _, _, _, _, _, hh, _⟩; rw [hh]; rfl) | (rcases h with ⟨_, _, _, _, _, _, _, _, _, _, _, hh, _⟩; rw [hh]; rfl) | (rcases h with ⟨_, _, _, _, _, _, _, _, _, _, _, _, hh, _⟩; rw [hh]; rfl) | (rcases h with ⟨_, _, _, _, _, _, _, _, _, _, _, _, _, hh, _⟩; rw [hh]; rfl) | (rcases h with ⟨_, _, _, _, _, _, _, _, _, _, _, _, _, _, hh, _⟩; rw [hh]; rfl) | (rcases h with ⟨_, _, _, _, _, _, _, _, _, _, _, _, _, _, _, hh, _⟩; rw [hh]; rfl) | (rcases h with ⟨_, _, _, _, _, _, _, _, _, _, _, _, _, _, _, _, hh, _⟩; rw [hh]; rfl) | (rcases h with ⟨_, _, _, _, _, _, _, _, _, _, _, _, _, _, _, _, _, hh, _⟩; rw [hh]; rfl) | (rcases h with ⟨_, _, _, _, _, _, _, _, _, _, _, _, _, _, _, _, _, _, hh, _⟩; rw [hh]; rfl) | (rcases h with ⟨_, _, _, _, _, _, _, _, _, _, _, _, _, _, _, _, _, _, _, hh, _⟩; rw [hh]; rfl)))
/-- an instance under way: its fields so far, and the things made for it -/
structure Bld (H0 H : Hp) (C a dx : Addr) (fs : List (Str × V)) (L : List (Addr × HO)) : Prop where
  ob : H a = some (.ins C dx fs)
  at_ : ∀ p ∈ L, H p.1 = some p.2
  nd : (a :: L.map (·.1)).Nodup
  up : Upto [a] H0 H (a :: L.map (·.1))
theorem Bld.init {H : Hp} {C a dx : Addr} {fs : List (Str × V)} (h : H a = some (.ins C dx fs)) : Bld H H C a dx fs [] := ⟨h, (fun _ q => nomatch q), List.nodup_cons.mpr ⟨(fun q => nomatch q), List.nodup_nil⟩, Upto.refl⟩
theorem Bld.sc {H0 H : Hp} {C a dx : Addr} {fs : List (Str × V)} {L : List (Addr × HO)} (B : Bld H0 H C a dx fs L) (fs' : List (Str × V)) : Bld H0 (upd H a (.ins C dx fs')) C a dx fs' L :=
  ⟨upd_same, fun p hp => by rw [upd_ne (fun q => (List.nodup_cons.mp B.nd).1 (List.mem_map.mpr ⟨p, hp, q⟩))]; exact B.at_ p hp, B.nd, B.up.trans (Upto.upd B.ob List.mem_cons_self (fun _ q => nomatch q) (fun _ _ q => nomatch q))⟩
theorem Bld.add {H0 H : Hp} {C a dx : Addr} {fs : List (Str × V)} {L : List (Addr × HO)} (B : Bld H0 H C a dx fs L) {p : Addr} {o : HO} (hp : H p = none) : Bld H0 (upd H p o) C a dx fs (L ++ [(p, o)]) := by
  have hpa : p ≠ a := fun q => by rw [q, B.ob] at hp; cases hp
  have hpL : p ∉ L.map (·.1) := fun m => by
    obtain ⟨q, h1, h2⟩ := List.mem_map.mp m
    have := B.at_ q h1
    rw [h2, hp] at this
    cases this
  · refine ⟨by rw [upd_ne (fun q => hpa q.symm)]; exact B.ob, fun q hq => ?_, ?_, B.up.same (Same.new hp) |>.keep, (B.up.same (Same.new (o := o) hp)).fx, fun b hb => ?_⟩
    · rcases List.mem_append.mp hq with z | z
      · rw [upd_ne (fun e => hpL (List.mem_map.mpr ⟨q, z, e⟩))]; exact B.at_ q z
      · simp at z; rw [z]; exact upd_same
    · have := B.nd
      simp only [List.map_append, List.map_cons, List.map_nil, List.nodup_cons, List.nodup_append] at this ⊢
      refine ⟨fun m => ?_, this.2, List.nodup_cons.mpr ⟨(fun q => nomatch q), List.nodup_nil⟩ |> List.nodup_cons.mp, fun x hx y hy e => ?_⟩
      · rcases List.mem_append.mp m with z | z
        · exact this.1 z
        · simp at z; exact hpa z.symm
      · simp at hy; rw [e, hy] at hx; exact hpL hx
    · rcases List.mem_cons.mp hb with z | z
      · exact .inl (by rw [z]; exact List.mem_cons_self)
      · rw [List.map_append] at z
        rcases List.mem_append.mp z with z | z
        · exact B.up.new b (List.mem_cons_of_mem _ z)
        · simp at z
          rw [z]
          exact .inr (B.up.free hp (by simp; exact hpa))
theorem td_look {K : PySem.W.Frag} {H : Hp} {v : V} {s : Stm} {cs : Say} {isIf : Bool} (h : TD K H v s.d) (hi : (isIf = true ∧ ∃ p q, s = .ite cs p q) ∨ (isIf = false ∧ ∃ p, s = .whl cs p)) :
    ∃ p xs sv, v = .ref p ∧ SqT K H p xs ∧ xs[0]? = some (.str (if isIf = true then "if" else "while")) ∧ xs[1]? = some sv ∧ TD K H sv cs.d := by
  rcases hi with ⟨rfl, p, q, rfl⟩ | ⟨rfl, p, rfl⟩
  · simp only [Stm.d] at h
    obtain ⟨p, v1, v2, v3, v4, rfl, ht, h1, h2, h3, h4⟩ := td4 h
    cases td_str.mp h1
    exact ⟨p, _, v2, rfl, ht, rfl, rfl, h2⟩
  · simp only [Stm.d] at h
    obtain ⟨p, v1, v2, v3, rfl, ht, h1, h2, h3⟩ := td3 h
    cases td_str.mp h1
    exact ⟨p, _, v2, rfl, ht, rfl, rfl, h2⟩
theorem isTrue_eq (u : W) : isTrueW u = (match u with | none => false | some i => decide (i ≠ 0)) := by
  cases u with
  | none => rfl
  | some i =>
    unfold isTrueW
    by_cases h : i = 0
    · subst h; rfl
    · simp [h]
/-- what the walk needs of a run's path and lists -/
theorem Rk.pl8 {r : RS} {c : Nat} (h : Rk r c) : r.path.length < 100000000 := by have := h.pl; have := h.lim; omega
theorem Rk.nd7 {r : RS} {c : Nat} (h : Rk r c) : r.notDone.length < 10000000 := by have := h.nd; have := h.lim; omega
theorem Rk.kn7 {r : RS} {c : Nat} (h : Rk r c) : r.known.length < 10000000 := by have := h.kn; have := h.lim; omega
theorem pathV_ext (i b : Nat) (p : List Nat) : pathV p ++ [.int (b : Int), .int (i : Int)] = pathV (i :: b :: p) := by
  rw [pathV_cons, pathV_cons, List.append_assoc]
  rfl
/-- awaited is a list that was made in a comprehension -/
theorem RunTo.setAw {K : PySem.W.Frag} {H H0 : Hp} {F0 : List Addr} {a : Addr} {r : RS} {x : RA} (T : RunTo K H0 F0 H a r x) (p : List Int) {l : Addr} (hl : H l = some (.lst (p.map V.int))) (n : l ∉ x.F a) (hn : l ∈ F0 ∨ H0 l = none) : RunTo K H0 F0 (upd H a (.ins (cR K) x.dx (rf r { x with aw := l }))) a { r with awaited := p } { x with aw := l } := by
  obtain ⟨E, U⟩ := T.up (o := .ins (cR K) x.dx (rf r { x with aw := l })) 0 rfl T.1.ob (fun _ q => nomatch q) (fun _ _ q => nomatch q)
  have nla : l ≠ a := fun q => n (by rw [q]; exact List.mem_cons_self)
  refine ⟨⟨upd_same, E.pa (by decide), E.kn (by decide), E.nd (by decide), E.an (by decide), E.he (by decide), by rw [upd_ne nla]; exact hl, E.orr (by decide), E.hl (by decide), nodup_set 6 T.1.dj n, E.tp, E.tan, E.tor⟩, U.keep, U.fx, fun b m => ?_⟩
  rcases List.mem_or_eq_of_mem_set (show b ∈ (x.F a).set 6 l from m) with m | m
  · exact U.new b m
  · rw [m]; exact hn
theorem due_eq (t b : Int) : (if (t + if b > 0 then b else 0) < 1000000000000 then t + (if b > 0 then b else 0) else 1000000000000) = min 1000000000000 (t + max 0 b) := by
  split <;> split <;> omega
def spLook (K : PySem.W.Frag) : Sp := fun vs H Q _ => ∃ (a : Addr) (r : RS) (x : RA) (sv : V) (s : Stm) (cs : Say) (isIf : Bool) (c : Nat), vs = [.ref a, sv] ∧ RunAt K H a r x ∧ Rk r c ∧ TD K H sv s.d ∧ cs.good ∧ ((isIf = true ∧ ∃ p q, s = .ite cs p q) ∨ (isIf = false ∧ ∃ p, s = .whl cs p)) ∧
  ∀ H' x', RunTo K H (x.F a) H' a (r.look cs isIf) x' → Q .non H'
def spWait (K : PySem.W.Frag) : Sp := fun vs H Q _ => ∃ (a : Addr) (r : RS) (x : RA) (sv : V) (z : Str) (ss : List Say) (c : Nat), vs = [.ref a, sv] ∧ RunAt K H a r x ∧ Rk r c ∧ TD K H sv (Stm.wait z ss).d ∧ r.here = some (.wait z ss) ∧ (∀ s ∈ ss, Say.good s) ∧ ss.length ≤ 100 ∧
  ∀ H' x', RunTo K H (x.F a) H' a (r.doWait ss) x' → Q .non H'
def Stm.isPlain : Stm → Prop
  | .ite _ _ _ => False
  | .whl _ _ => False
  | .wait _ _ => False
  | .hear _ _ => False
  | .fin _ => False
  | _ => True
def spPlain (K : PySem.W.Frag) : Sp := fun vs H Q _ => ∃ (a : Addr) (r : RS) (x : RA) (sv : V) (s : Stm) (c : Nat), vs = [.ref a, sv] ∧ RunAt K H a r x ∧ Rk r c ∧ r.orders.length < 10000000 ∧ TD K H sv s.d ∧ s.ok ∧ s.isPlain ∧
  ∀ H' x', RunTo K H (x.F a) H' a (r.plain s) x' → Q .non H'
section
variable {P : Program} {w : World} {K : PySem.W.Frag} {mg : Str → Option Value} {base : Heap}
theorem sc_Run___init__ : FnScope ["self", "program"] ["self", "program"] (defScope s_Run___init__) := ⟨rfl, rfl, rfl, by decide +kernel, rfl, by decide +kernel, by decide +kernel⟩
theorem ok_Run___init__ (T : Tx w K mg) : OkD P w K mg base d_Run___init__ 1 ["self", "program"] (spInit K) := by
  have sc := sc_Run___init__
  refine okD_mk (F_Run___init__ T) sc (fun _ _ _ _ _ _ us hl => match us, hl with | [_, _], _ => rfl) ?len ?body
  case len => walk_at "len"
  intro cdv f A outer s H vs Q E hr h
  refine ⟨_, (pss_cons (ps_fl (pv 0) (pv 1))
    (pss_cons (ps_fl (pv 0) pe_str)
    (pss_cons (ps_fl (pv 0) (pe_lst (pa_cons pe_int pa_nil)))
    (pss_cons (ps_fl (pv 0) pe_dnewK)
    (pss_cons (ps_fl (pv 0) pe_non)
    (pss_cons (ps_fl (pv 0) pe_int)
    (pss_cons (ps_fl (pv 0) pe_int)
    (pss_cons (ps_fl (pv 0) (pe_lst pa_nil))
    (pss_cons (ps_fl (pv 0) (pe_lst pa_nil))
    (pss_cons (ps_fl (pv 0) pe_dnewK)
    (pss_cons (ps_fl (pv 0) (pe_lst pa_nil))
    (pss_cons (ps_fl (pv 0) pe_non)
    (pss_cons (ps_fl (pv 0) (pe_lst pa_nil))
    (pss_one (ps_fl (pv 0) pe_int))))))))))))))), ?_⟩
  obtain ⟨a, dx, pv, prog, rfl, R, hk, q⟩ := h
  have B0 := Bld.init R
  refine ⟨_, rfl, _, rfl, a, _, rfl, ⟨_, _, _, B0.ob, c_Run T, n_Run_statements T, (by show 0 < 1000; decide), rfl⟩, ?_⟩
  have B1 := B0.sc (putF "statements" pv [])
  refine ⟨_, rfl, a, _, rfl, ⟨_, _, _, B1.ob, c_Run T, n_Run_mode T, (by show 1 < 1000; decide), rfl⟩, ?_⟩
  have B2 := B1.sc (putF "mode" (.str "new") (putF "statements" pv []))
  refine ⟨(by show 1 ≤ sizeLine; decide), fun p1 hp1 => ⟨_, rfl, a, _, rfl, ⟨_, _, _, (B2.add hp1).ob, c_Run T, n_Run_path T, (by show 2 < 1000; decide), rfl⟩, ?_⟩⟩
  have B3 := (B2.add (o := .lst [.int 0]) hp1).sc (putF "path" (.ref p1) (putF "mode" (.str "new") (putF "statements" pv [])))
  refine fun p2 hp2 => ⟨_, rfl, a, _, rfl, ⟨_, _, _, (B3.add hp2).ob, c_Run T, n_Run_known T, (by show 3 < 1000; decide), rfl⟩, ?_⟩
  have B4 := (B3.add (o := .dK []) hp2).sc (putF "known" (.ref p2) (putF "path" (.ref p1) (putF "mode" (.str "new") (putF "statements" pv []))))
  refine ⟨_, rfl, a, _, rfl, ⟨_, _, _, B4.ob, c_Run T, n_Run_arg T, (by show 4 < 1000; decide), rfl⟩, ?_⟩
  have B5 := B4.sc (putF "arg" (.non) (putF "known" (.ref p2) (putF "path" (.ref p1) (putF "mode" (.str "new") (putF "statements" pv [])))))
  refine ⟨_, rfl, a, _, rfl, ⟨_, _, _, B5.ob, c_Run T, n_Run_today T, (by show 5 < 1000; decide), rfl⟩, ?_⟩
  have B6 := B5.sc (putF "today" (.int 0) (putF "arg" (.non) (putF "known" (.ref p2) (putF "path" (.ref p1) (putF "mode" (.str "new") (putF "statements" pv []))))))
  refine ⟨_, rfl, a, _, rfl, ⟨_, _, _, B6.ob, c_Run T, n_Run_made T, (by show 6 < 1000; decide), rfl⟩, ?_⟩
  have B7 := B6.sc (putF "made" (.int 0) (putF "today" (.int 0) (putF "arg" (.non) (putF "known" (.ref p2) (putF "path" (.ref p1) (putF "mode" (.str "new") (putF "statements" pv [])))))))
  refine ⟨Nat.zero_le _, fun p3 hp3 => ⟨_, rfl, a, _, rfl, ⟨_, _, _, (B7.add hp3).ob, c_Run T, n_Run_not_done T, (by show 7 < 1000; decide), rfl⟩, ?_⟩⟩
  have B8 := (B7.add (o := .lst []) hp3).sc (putF "not_done" (.ref p3) (putF "made" (.int 0) (putF "today" (.int 0) (putF "arg" (.non) (putF "known" (.ref p2) (putF "path" (.ref p1) (putF "mode" (.str "new") (putF "statements" pv []))))))))
  refine ⟨Nat.zero_le _, fun p4 hp4 => ⟨_, rfl, a, _, rfl, ⟨_, _, _, (B8.add hp4).ob, c_Run T, n_Run_answered T, (by show 8 < 1000; decide), rfl⟩, ?_⟩⟩
  have B9 := (B8.add (o := .lst []) hp4).sc (putF "answered" (.ref p4) (putF "not_done" (.ref p3) (putF "made" (.int 0) (putF "today" (.int 0) (putF "arg" (.non) (putF "known" (.ref p2) (putF "path" (.ref p1) (putF "mode" (.str "new") (putF "statements" pv [])))))))))
  refine fun p5 hp5 => ⟨_, rfl, a, _, rfl, ⟨_, _, _, (B9.add hp5).ob, c_Run T, n_Run_heard T, (by show 9 < 1000; decide), rfl⟩, ?_⟩
  have B10 := (B9.add (o := .dK []) hp5).sc (putF "heard" (.ref p5) (putF "answered" (.ref p4) (putF "not_done" (.ref p3) (putF "made" (.int 0) (putF "today" (.int 0) (putF "arg" (.non) (putF "known" (.ref p2) (putF "path" (.ref p1) (putF "mode" (.str "new") (putF "statements" pv []))))))))))
  refine ⟨Nat.zero_le _, fun p6 hp6 => ⟨_, rfl, a, _, rfl, ⟨_, _, _, (B10.add hp6).ob, c_Run T, n_Run_awaited T, (by show 10 < 1000; decide), rfl⟩, ?_⟩⟩
  have B11 := (B10.add (o := .lst []) hp6).sc (putF "awaited" (.ref p6) (putF "heard" (.ref p5) (putF "answered" (.ref p4) (putF "not_done" (.ref p3) (putF "made" (.int 0) (putF "today" (.int 0) (putF "arg" (.non) (putF "known" (.ref p2) (putF "path" (.ref p1) (putF "mode" (.str "new") (putF "statements" pv [])))))))))))
  refine ⟨_, rfl, a, _, rfl, ⟨_, _, _, B11.ob, c_Run T, n_Run_outcome T, (by show 11 < 1000; decide), rfl⟩, ?_⟩
  have B12 := B11.sc (putF "outcome" (.non) (putF "awaited" (.ref p6) (putF "heard" (.ref p5) (putF "answered" (.ref p4) (putF "not_done" (.ref p3) (putF "made" (.int 0) (putF "today" (.int 0) (putF "arg" (.non) (putF "known" (.ref p2) (putF "path" (.ref p1) (putF "mode" (.str "new") (putF "statements" pv []))))))))))))
  refine ⟨Nat.zero_le _, fun p7 hp7 => ⟨_, rfl, a, _, rfl, ⟨_, _, _, (B12.add hp7).ob, c_Run T, n_Run_orders T, (by show 12 < 1000; decide), rfl⟩, ?_⟩⟩
  have B13 := (B12.add (o := .lst []) hp7).sc (putF "orders" (.ref p7) (putF "outcome" (.non) (putF "awaited" (.ref p6) (putF "heard" (.ref p5) (putF "answered" (.ref p4) (putF "not_done" (.ref p3) (putF "made" (.int 0) (putF "today" (.int 0) (putF "arg" (.non) (putF "known" (.ref p2) (putF "path" (.ref p1) (putF "mode" (.str "new") (putF "statements" pv [])))))))))))))
  refine ⟨_, rfl, a, _, rfl, ⟨_, _, _, B13.ob, c_Run T, n_Run_steps T, (by show 13 < 1000; decide), rfl⟩, ?_⟩
  have B14 := B13.sc (putF "steps" (.int 0) (putF "orders" (.ref p7) (putF "outcome" (.non) (putF "awaited" (.ref p6) (putF "heard" (.ref p5) (putF "answered" (.ref p4) (putF "not_done" (.ref p3) (putF "made" (.int 0) (putF "today" (.int 0) (putF "arg" (.non) (putF "known" (.ref p2) (putF "path" (.ref p1) (putF "mode" (.str "new") (putF "statements" pv []))))))))))))))
  have hL := fun p hp => B14.at_ p hp
  refine q _ ⟨dx, p1, p2, p3, p4, p5, p6, p7, pv, [], [], []⟩ ⟨B14.ob, hL (p1, .lst [.int 0]) (by simp), hL (p2, .dK []) (by simp), hL (p3, .lst []) (by simp), hL (p4, .lst []) (by simp), hL (p5, .dK []) (by simp), hL (p6, .lst []) (by simp), hL (p7, .lst []) (by simp), .nil, B14.nd, TD.fx B14.up.fx _ _ hk, TDs.nil, TDs.nil⟩ (fun b o hb hn => B14.up.keep b o hb (by simpa using hn)) (fun b hb => ?_)
  rcases B14.up.new b hb with z | z
  · exact .inl (by simpa using z)
  · exact .inr z
theorem sc_Run_do_look : FnScope ["self", "statement"] ["self", "statement"] (defScope s_Run_do_look) := ⟨rfl, rfl, rfl, by decide +kernel, rfl, by decide +kernel, by decide +kernel⟩
theorem ok_Run_do_look (T : Tx w K mg) : OkD P w K mg base d_Run_do_look 8 ["self", "statement"] (spLook K) := by
  have sc := sc_Run_do_look
  refine okD_mk (F_Run_do_look T) sc (fun _ _ _ _ _ _ us hl => match us, hl with | [_, _], _ => rfl) ?len ?body
  case len => walk_at "len"
  intro cdv f A outer s H vs Q E hr h
  refine ⟨_, (pss_one (ps_if (pt_val (pe_f (ok_is_true T) (hr.mono (by decide)) (by rfl) (g_is_true T) (pa_cons (pe_m (d := d_Run_says) (c_Run T) (m_Run_says T) (ok_Run_says T) (hr.mono (by decide)) (pv 0) (pa_cons (pe_ix ix_tup (pv 1) pe_int (fun _ _ => rfl)) pa_nil)) pa_nil))) (pss_one (ps_expr (pe_bm PySem.F.plainAttrs_list PySem.F.slot_list_extend PySem.F.type_list_extend mt_extend (pe_fl (pv 0)) (pa_cons (pe_lst (pa_cons pe_int (pa_cons pe_int pa_nil))) pa_nil)))) (pss_one (ps_if (pt_cmpR op_eq (pe_ix ix_tup (pv 1) pe_int (fun _ _ => rfl)) pe_str (nomark _)) (pss_one (ps_expr (pe_bm PySem.F.plainAttrs_list PySem.F.slot_list_extend PySem.F.type_list_extend mt_extend (pe_fl (pv 0)) (pa_cons (pe_lst (pa_cons pe_int (pa_cons pe_int pa_nil))) pa_nil)))) (pss_one (ps_augS (pe_fl (pv 0)) (pe_un un_neg pe_int) pget_list pe_int ip_add set_list)))))), ?_⟩
  obtain ⟨a, r, x, sv, s, cs, isIf, c, rfl, R, hk, hs, hg, hi, q⟩ := h
  obtain ⟨p, xs, cv, rfl, ht, h0, h1, hc⟩ := td_look hs hi
  have push : ∀ (b : Nat) (H1 : Hp) (s1 : Same H H1), RunTo K H (x.F a) H1 a r x := fun b H1 s1 => R.to.same s1
  have hlen : ∀ p2 : Nat, (pathV r.path).length + 2 ≤ sizeLine := fun _ => by rw [pathV_len, sizeLine_eq]; have := hk.pl; have := hk.lim; omega
  refine ⟨_, rfl, a, rfl, ml_run R rfl, _, rfl, p, xs, _, _, rfl, rfl, ht, atI_nat (j := 1) h1, a, r, x, cs, cv, rfl, R, hk.wk, hc, hg, fun H1 s1 => ?_⟩
  refine ⟨_, rfl, _, rfl, ?_⟩
  have R1 := R.to.same s1
  cases e : isTrueW (r.says cs) with
  | true =>
    refine ifT rfl ⟨_, rfl, a, _, rfl, fl_path T R1.1, .inl ⟨rfl, _, SqL.of R1.1.pa⟩, (by show 2 ≤ sizeLine; decide), fun p2 hp2 => ?_⟩
    have R2 := (R1.same (Same.new (o := .lst [.int 0, .int 0]) hp2)).setPath (0 :: 0 :: r.path)
    refine ⟨x.pa, p2, _, _, rfl, rfl, (R1.same (Same.new (o := .lst [.int 0, .int 0]) hp2)).1.pa, upd_same, hlen 0, q _ x ?_⟩
    have e2 : r.look cs isIf = { r with path := 0 :: 0 :: r.path } := by unfold RS.look; rw [e]; rfl
    rw [e2]
    rw [← pathV_ext] at R2
    exact R2
  | false =>
    refine ifF rfl ⟨_, rfl, p, xs, _, _, rfl, rfl, Fx.t (Same.fx s1) ht, atI_nat (j := 0) h0, rfl, _, rfl, ?_⟩
    cases isIf with
    | true =>
      refine ifT rfl ⟨_, rfl, a, _, rfl, fl_path T R1.1, .inl ⟨rfl, _, SqL.of R1.1.pa⟩, (by show 2 ≤ sizeLine; decide), fun p2 hp2 => ?_⟩
      have R2 := (R1.same (Same.new (o := .lst [.int 1, .int 0]) hp2)).setPath (0 :: 1 :: r.path)
      refine ⟨x.pa, p2, _, _, rfl, rfl, (R1.same (Same.new (o := .lst [.int 1, .int 0]) hp2)).1.pa, upd_same, hlen 0, q _ x ?_⟩
      have e2 : r.look cs true = { r with path := 0 :: 1 :: r.path } := by unfold RS.look; rw [e]; rfl
      rw [e2]
      rw [← pathV_ext] at R2
      exact R2
    | false =>
      refine ifF (by decide +kernel) (bump_ok T R1 (path_ne hk.path) rfl fun H' R2 => q H' x ?_)
      have e2 : r.look cs false = r.bump := by unfold RS.look; rw [e]; rfl
      rw [e2]
      exact R2
theorem sc_Run_do_wait : FnScope ["self", "statement", "worths", "ready", "saying", "ticket", "worth"] ["self", "statement"] (defScope s_Run_do_wait) := ⟨rfl, rfl, rfl, by decide +kernel, rfl, by decide +kernel, by decide +kernel⟩
theorem ok_Run_do_wait (T : Tx w K mg) : OkD P w K mg base d_Run_do_wait 8 ["self", "statement"] (spWait K) := by
  have sc := sc_Run_do_wait
  refine okD_mk (F_Run_do_wait T) sc (fun _ _ _ _ _ _ us hl => match us, hl with | [_, _], _ => rfl) ?len ?body
  case len => walk_at "len"
  intro cdv f A outer s H vs Q E hr h
  refine ⟨_, (pss_cons (ps_set (i := 2) sc.nd rfl (Or.inr rfl) (pe_lc (own := [("saying", 4)]) (by rfl) sc.nd (pi_tup (pe_ix ix_tup (pv 1) pe_int (fun _ _ => rfl))) (blkOk_by (N := ["self", "statement", "worths", "ready", "saying", "ticket", "worth"]) (sc := defScope s_Run_do_wait) (by decide +kernel)) (fun _ _ _ _ _ => pg_name (i := 4) sc.nd rfl (Or.inl rfl)) (fun _ _ _ _ _ => pts_nil) (fun _ _ _ _ _ => (pe_m (d := d_Run_says) (c_Run T) (m_Run_says T) (ok_Run_says T) (hr.mono (by decide)) (pv 0) (pa_cons (pv 4) pa_nil)))))
    (pss_cons (ps_setLc (i := 3) (own := [("ticket", 5), ("worth", 6)]) (by rfl) sc.nd rfl rfl (sw_true rfl rfl rfl (by decide +kernel)) (pi_list (pe_fl (pv 0))) (blkOk_by (N := ["self", "statement", "worths", "ready", "saying", "ticket", "worth"]) (sc := defScope s_Run_do_wait) (by decide +kernel)) (fun _ _ _ _ _ => pg_tupK (K := K) 2 rfl rfl (pgs_cons (pg_name (i := 5) sc.nd rfl (Or.inl rfl)) (pgs_cons (pg_name (i := 6) sc.nd rfl (Or.inl rfl)) pgs_nil))) (fun _ _ _ _ _ => (pts_one (pt_cmpR (op_in_seqK (K := K) rfl) (pv 5) (pv 2) (by rfl)))) (fun _ _ _ _ _ => (pv 5)))
    (pss_cons (ps_fl (pv 0) (pe_lc (own := [("ticket", 5)]) (by rfl) sc.nd (pi_list (pe_fl (pv 0))) (blkOk_by (N := ["self", "statement", "worths", "ready", "saying", "ticket", "worth"]) (sc := defScope s_Run_do_wait) (by decide +kernel)) (fun _ _ _ _ _ => pg_name (i := 5) sc.nd rfl (Or.inl rfl)) (fun _ _ _ _ _ => (pts_one (pt_cmpR (op_in_seqK (K := K) rfl) (pv 5) (pv 2) (by rfl)))) (fun _ _ _ _ _ => (pv 5))))
    (pss_one (ps_if (pt_cmpR (op_neD hr.units) (pv 3) (pe_lst pa_nil) (nomark _)) (pss_one (ps_expr (pe_m (d := d_Run_go_behind) (c_Run T) (m_Run_go_behind T) (ok_Run_go_behind T) (hr.mono (by decide)) (pv 0) (pa_cons (pe_ix ix_list (pv 3) pe_int (fun _ _ => rfl)) pa_nil)))) (pss_one (ps_if (pt_cmpR (op_neD hr.units) (pe_fl (pv 0)) (pe_lst pa_nil) (nomark _)) (pss_one (ps_fl (pv 0) pe_str)) (pss_one (ps_expr (pe_m (d := d_Run_go_behind) (c_Run T) (m_Run_go_behind T) (ok_Run_go_behind T) (hr.mono (by decide)) (pv 0) (pa_cons pe_non pa_nil))))))))))), ?_⟩
  obtain ⟨a, r, x, sv, z, ss, c, rfl, R, hk, hs, hh, hg, hlen, q⟩ := h
  simp only [Stm.d] at hs
  obtain ⟨p, v1, v2, v3, rfl, ht, h1, h2, h3⟩ := td3 hs
  obtain ⟨ps, xs, rfl, hps, hxs⟩ := td_tup.mp h3
  have hxl : xs.length = ss.length := by rw [hxs.length, List.length_map]
  refine ⟨_, rfl, p, _, _, _, rfl, rfl, ht, rfl, ps, rfl, ⟨xs, hps⟩, fun D1 hD1 => lc_dataT hD1 (fun i => (ss.take i).map fun s => wd (r.says s)) rfl hps (by rw [hxl, sizeLine_eq]; omega) ?_ ?_⟩
  · intro i v H' Qy Qn hx s1 ky kn
    obtain ⟨d, hd1, hd2⟩ := hxs.getV hx
    rw [List.getElem?_map, Option.map_eq_some_iff] at hd1
    obtain ⟨s, hs1, rfl⟩ := hd1
    refine ⟨rfl, ifT (B := Qn H') rfl ⟨_, rfl, a, rfl, ml_run (R.same s1) rfl, _, rfl, a, r, x, s, v, rfl, R.same s1, hk.wk, TD.fx (Same.fx s1) _ _ hd2, hg s (List.mem_of_getElem? hs1), fun H4 s4 => ky _ H4 _ s4 (td_wd.mpr rfl) (take_map_succ _ hs1)⟩⟩
  intro H1 acc s1 hD ha
  have ea : acc = (ss.map r.says).map wv := by
    rw [hxl, List.take_length] at ha
    refine tds_wds (K := K) (H := H1) (l := ss.map r.says) ?_
    rw [List.map_map]
    exact ha
  subst ea
  have R1 := R.to.same s1
  refine ⟨_, rfl, a, _, rfl, fl_answered T R1.1, x.an, rfl, ⟨_, SqL.of R1.1.an⟩, fun D2 hD2 => lc_dataL hD2 (fun i => ((r.answered.take i).filter fun t => decide (some t.1 ∈ ss.map r.says)).map fun t : Int × W => PyData.int t.1) rfl R1.1.an (by rw [R1.1.tan.length, List.length_map, sizeLine_eq]; have := hk.an; have := hk.lim; omega) ?_ ?_⟩
  · intro i v H' Qy Qn hx s2 ky kn
    obtain ⟨d, hd1, hd2⟩ := R1.1.tan.getV hx
    rw [List.getElem?_map, Option.map_eq_some_iff] at hd1
    obtain ⟨⟨t, u⟩, ht1, rfl⟩ := hd1
    obtain ⟨pp, w1, w2, rfl, g1, g2, g3⟩ := td2 hd2
    cases td_int.mp g2
    cases td_wd.mp g3
    refine ⟨pp, _, rfl, Fx.t (Same.fx s2) g1, rfl, _, _, rfl, _, _, rfl, rfl, rfl, _, rfl, _, rfl, D1, _, rfl, .inl (SqL.of (s2 _ _ hD)), rfl, all_flat_ws _, _, rfl, ?_⟩
    have ei : inV (.int t) ((ss.map r.says).map wv) = decide (some t ∈ ss.map r.says) := inV_ws (some t) _
    by_cases hm : some t ∈ ss.map r.says
    · exact ifT (ei.trans (decide_eq_true hm)) ⟨_, rfl, ky _ _ (.int t) (fun _ _ h => h) (td_int.mpr rfl) (take_filt_pos (fun t : Int × W => decide (some t.1 ∈ ss.map r.says)) (fun t : Int × W => PyData.int t.1) ht1 (decide_eq_true hm))⟩
    · exact ifF (ei.trans (decide_eq_false hm)) (kn _ (fun _ _ h => h) (take_filt_neg (fun t : Int × W => decide (some t.1 ∈ ss.map r.says)) (fun t : Int × W => PyData.int t.1) ht1 (decide_eq_false hm)))
  intro H2 acc s2 hD2' ha2
  have R2 := R1.same s2
  refine ⟨_, rfl, a, _, rfl, fl_not_done T R2.1, x.nd, rfl, ⟨_, SqL.of R2.1.nd⟩, fun D3 hD3 => lc_dataL hD3 (fun i => ((r.notDone.take i).filter fun t => decide (some t ∈ ss.map r.says)).map PyData.int) rfl R2.1.nd (by rw [List.length_map]; exact line7 hk.nd7) ?_ ?_⟩
  · intro i v H' Qy Qn hx s3 ky kn
    rw [List.getElem?_map, Option.map_eq_some_iff] at hx
    obtain ⟨t, ht1, rfl⟩ := hx
    refine ⟨rfl, _, rfl, _, rfl, D1, _, rfl, .inl (SqL.of (s3 _ _ (s2 _ _ hD))), rfl, all_flat_ws _, _, rfl, ?_⟩
    have ei : inV (.int t) ((ss.map r.says).map wv) = decide (some t ∈ ss.map r.says) := inV_ws (some t) _
    by_cases hm : some t ∈ ss.map r.says
    · exact ifT (ei.trans (decide_eq_true hm)) ⟨_, rfl, ky _ _ (.int t) (fun _ _ h => h) (td_int.mpr rfl) (take_filt_pos (fun t : Int => decide (some t ∈ ss.map r.says)) PyData.int ht1 (decide_eq_true hm))⟩
    · exact ifF (ei.trans (decide_eq_false hm)) (kn _ (fun _ _ h => h) (take_filt_neg (fun t : Int => decide (some t ∈ ss.map r.says)) PyData.int ht1 (decide_eq_false hm)))
  intro H3 acc3 s3 hD3' ha3
  have R3 := R2.same s3
  rw [List.length_map, List.take_length] at ha3
  have ea3 := tds_ints ha3
  subst ea3
  have n3 := R2.1.notIn hD3
  have R4 := R3.setAw _ hD3' n3 (if h : D3 ∈ x.F a then .inl h else .inr (R2.2.free hD3 h))
  refine ⟨_, rfl, a, _, rfl, sl_awaited T R3.1 D3, ?_⟩
  have hD2a : D2 ≠ a := fun q => by rw [q, R2.1.ob] at hD2'; cases hD2'
  have er : r.ready (ss.map r.says) = (r.answered.filter fun t => decide (some t.1 ∈ ss.map r.says)).map (·.1) := by
    unfold RS.ready
    rw [List.filter_map]
    rfl
  have ea2 : acc = (r.ready (ss.map r.says)).map V.int := by
    rw [R1.1.tan.length, List.length_map, List.take_length] at ha2
    refine tds_ints (K := K) (H := H2) ?_
    rw [er, List.map_map]
    exact ha2
  subst ea2
  have hD4 := s3 _ _ hD2'
  have hd4 : ∀ o, upd H3 a o D2 = some (.lst ((r.ready (ss.map r.says)).map V.int)) := fun o => by rw [upd_ne hD2a]; exact hD4
  have sdI : ∀ (l : List Int), ∀ d ∈ l.map PyData.int, Sd 1 d := fun l d hd => by
    obtain ⟨i, _, rfl⟩ := List.mem_map.mp hd
    exact sd_int
  refine ⟨_, rfl, Nat.zero_le _, fun p3 hp3 => ?_⟩
  have s5 := Same.new (o := .lst []) hp3
  have R5 := R4.same s5
  refine neNil 1 (s5 _ _ (hd4 _)) (TDs.of V.int fun i => td_int.mpr rfl) (sdI _) upd_same ⟨_, rfl, ?_⟩
  have hsub := er
  cases e : r.ready (ss.map r.says) with
  | cons t tl =>
    have ew : r.doWait ss = ({ r with awaited := r.notDone.filter fun t => decide (some t ∈ ss.map r.says) } : RS).behind (some t) := by
      unfold RS.doWait
      dsimp only
      rw [e]
    refine ifT rfl ⟨_, rfl, a, rfl, ml_run R5.1 rfl, _, rfl, D2, _, _, _, rfl, rfl, SqL.of (s5 _ _ (hd4 _)), atI_nat (j := 0) (by rw [e]; rfl), a, _, _, .wait z ss, some t, rfl, R5.1, hk.path, hk.pl8, hh, .inl ⟨z, ss, rfl⟩, hk.kn7, fun H' R6 => q H' _ (by rw [ew]; exact ⟨R6.1, R5.2.trans R6.2⟩)⟩
  | nil =>
    refine ifF rfl ⟨_, rfl, a, _, rfl, fl_awaited T R5.1, Nat.zero_le _, fun p4 hp4 => ?_⟩
    have s6 := Same.new (o := .lst []) hp4
    have R6 := R5.same s6
    refine neNil 1 R6.1.aw (TDs.of V.int fun i => td_int.mpr rfl) (sdI _) upd_same ⟨_, rfl, ?_⟩
    have ew : r.doWait ss = if ({ r with awaited := r.notDone.filter fun t => decide (some t ∈ ss.map r.says) } : RS).awaited ≠ [] then { r with awaited := r.notDone.filter fun t => decide (some t ∈ ss.map r.says), mode := .wait } else ({ r with awaited := r.notDone.filter fun t => decide (some t ∈ ss.map r.says) } : RS).behind none := by
      unfold RS.doWait
      dsimp only
      rw [e]
    by_cases e2 : (r.notDone.filter fun t => decide (some t ∈ ss.map r.says)) = []
    · rw [if_neg (fun h => h e2)] at ew
      refine ifF (by rw [e2]; rfl) ⟨_, rfl, a, rfl, ml_run R6.1 rfl, a, _, _, .wait z ss, none, rfl, R6.1, hk.path, hk.pl8, hh, .inl ⟨z, ss, rfl⟩, hk.kn7, fun H' R7 => q H' _ (by rw [ew]; exact ⟨R7.1, R6.2.trans R7.2⟩)⟩
    · rw [if_pos e2] at ew
      refine ifT (by
        cases e3 : (r.notDone.filter fun t => decide (some t ∈ ss.map r.says)) with
        | nil => exact absurd e3 e2
        | cons _ _ => rfl) ⟨_, rfl, a, _, rfl, sl_mode T R6.1 .wait, q _ { x with aw := D3 } ?_⟩
      rw [ew]
      exact R6.sc { r with awaited := r.notDone.filter fun t => decide (some t ∈ ss.map r.says), mode := .wait }
theorem sc_Run_do_plain : FnScope ["self", "statement", "word", "worth", "behind", "due"] ["self", "statement"] (defScope s_Run_do_plain) := ⟨rfl, rfl, rfl, by decide +kernel, rfl, by decide +kernel, by decide +kernel⟩
theorem ok_Run_do_plain (T : Tx w K mg) : OkD P w K mg base d_Run_do_plain 8 ["self", "statement"] (spPlain K) := by
  have sc := sc_Run_do_plain
  refine okD_mk (F_Run_do_plain T) sc (fun _ _ _ _ _ _ us hl => match us, hl with | [_, _], _ => rfl) ?len ?body
  case len => walk_at "len"
  intro cdv f A outer s H vs Q E hr h
  refine ⟨_, (pss_cons (ps_set (i := 2) sc.nd rfl (Or.inl rfl) (pe_ix ix_tup (pv 1) pe_int (fun _ _ => rfl)))
    (pss_one (ps_if (pt_cmpR op_eq (pv 2) pe_str (nomark _)) (pss_one (ps_dput (hu_of hr) (pe_fl (pv 0)) (pe_ix ix_tup (pv 1) pe_int (fun _ _ => rfl)) (pe_m (d := d_Run_says) (c_Run T) (m_Run_says T) (ok_Run_says T) (hr.mono (by decide)) (pv 0) (pa_cons (pe_ix ix_tup (pv 1) pe_int (fun _ _ => rfl)) pa_nil)) rfl)) (pss_one (ps_if (pt_cmpR op_eq (pv 2) pe_str (nomark _)) (pss_cons (ps_set (i := 3) sc.nd rfl (Or.inl rfl) (pe_m (d := d_Run_says) (c_Run T) (m_Run_says T) (ok_Run_says T) (hr.mono (by decide)) (pv 0) (pa_cons (pe_ix ix_tup (pv 1) pe_int (fun _ _ => rfl)) pa_nil)))
    (pss_one (ps_expr (pe_bm PySem.F.plainAttrs_list PySem.F.slot_list_append PySem.F.type_list_append mt_append (pe_fl (pv 0)) (pa_cons (pe_tup (pa_cons pe_str (pa_cons (pv 3) (pa_cons (pe_ix ix_tup (pv 1) pe_int (fun _ _ => rfl)) (pa_cons (pe_m (d := d_Run_says) (c_Run T) (m_Run_says T) (ok_Run_says T) (hr.mono (by decide)) (pv 0) (pa_cons (pe_ix ix_tup (pv 1) pe_int (fun _ _ => rfl)) pa_nil)) pa_nil))))) pa_nil))))) (pss_one (ps_if (pt_cmpR op_eq (pv 2) pe_str (nomark _)) (pss_one (ps_expr (pe_m (d := d_Run_do_drop) (c_Run T) (m_Run_do_drop T) (ok_Run_do_drop T) (hr.mono (by decide)) (pv 0) (pa_cons (pe_m (d := d_Run_says) (c_Run T) (m_Run_says T) (ok_Run_says T) (hr.mono (by decide)) (pv 0) (pa_cons (pe_ix ix_tup (pv 1) pe_int (fun _ _ => rfl)) pa_nil)) pa_nil)))) (pss_one (ps_if (pt_cmpR op_eq (pv 2) pe_str (nomark _)) (pss_cons (ps_set (i := 4) sc.nd rfl (Or.inl rfl) (pe_m (d := d_Run_says) (c_Run T) (m_Run_says T) (ok_Run_says T) (hr.mono (by decide)) (pv 0) (pa_cons (pe_ix ix_tup (pv 1) pe_int (fun _ _ => rfl)) pa_nil)))
    (pss_cons (ps_if (pt_cmp (pc_isN (pv 4))) (pss_one (ps_set (i := 4) sc.nd rfl (Or.inl rfl) pe_int)) pss_nil)
    (pss_cons (ps_set (i := 5) sc.nd rfl (Or.inl rfl) (pe_callB (call_min2 rfl) (by rfl) (z_min T) (by decide +kernel) (pa_cons (pe_gint (by rfl) (i_MOST_MOMENT T)) (pa_cons (pe_op op_add (pe_fl (pv 0)) (pe_callB (call_max2 rfl) (by rfl) (z_max T) (by decide +kernel) (pa_cons pe_int (pa_cons (pv 4) pa_nil)))) pa_nil))))
    (pss_one (ps_expr (pe_bm PySem.F.plainAttrs_list PySem.F.slot_list_append PySem.F.type_list_append mt_append (pe_fl (pv 0)) (pa_cons (pe_tup (pa_cons pe_str (pa_cons (pe_m (d := d_Run_new_ticket) (c_Run T) (m_Run_new_ticket T) (ok_Run_new_ticket T) (hr.mono (by decide)) (pv 0) (pa_cons (pe_ix ix_tup (pv 1) pe_int (fun _ _ => rfl)) pa_nil)) (pa_cons (pv 5) pa_nil)))) pa_nil))))))) (pss_cons (ps_set (i := 3) sc.nd rfl (Or.inl rfl) (pe_m (d := d_Run_says) (c_Run T) (m_Run_says T) (ok_Run_says T) (hr.mono (by decide)) (pv 0) (pa_cons (pe_ix ix_tup (pv 1) pe_int (fun _ _ => rfl)) pa_nil)))
    (pss_one (ps_expr (pe_bm PySem.F.plainAttrs_list PySem.F.slot_list_append PySem.F.type_list_append mt_append (pe_fl (pv 0)) (pa_cons (pe_tup (pa_cons (pv 2) (pa_cons (pe_m (d := d_Run_new_ticket) (c_Run T) (m_Run_new_ticket T) (ok_Run_new_ticket T) (hr.mono (by decide)) (pv 0) (pa_cons (pe_ix ix_tup (pv 1) pe_int (fun _ _ => rfl)) pa_nil)) (pa_cons (pe_ix ix_tup (pv 1) pe_int (fun _ _ => rfl)) (pa_cons (pv 3) pa_nil))))) pa_nil)))))))))))))), ?_⟩
  obtain ⟨a, r, x, sv, s, c, rfl, R, hk, ho, hs, hok, hpl, q⟩ := h
  have hor : ∀ (H' : Hp) (x' : RA) (r' : RS), RunAt K H' a r' x' → r'.orders = r.orders → x'.orV.length < sizeLine := fun H' x' r' R' e => by rw [R'.tor.length, List.length_map, e]; exact line7 ho
  cases s with
  | ite _ _ _ => exact hpl.elim
  | whl _ _ => exact hpl.elim
  | wait _ _ => exact hpl.elim
  | hear _ _ => exact hpl.elim
  | fin _ => exact hpl.elim
  | set z s =>
    simp only [Stm.d] at hs
    obtain ⟨p, v1, v2, v3, rfl, ht, h1, h2, h3⟩ := td3 hs
    cases td_str.mp h1
    cases td_str.mp h2
    refine ⟨_, rfl, p, _, _, _, rfl, rfl, ht, rfl, _, rfl, rfl, _, rfl, ifT (by decide +kernel) ⟨_, rfl, a, rfl, ml_run R rfl, _, rfl, p, _, _, _, rfl, rfl, ht, rfl, a, r, x, s, v3, rfl, R, hk.wk, h3, hok, fun H1 s1 => ?_⟩⟩
    have R1 := R.to.same s1
    exact ⟨_, rfl, a, _, rfl, fl_known T R1.1, _, rfl, p, _, _, _, rfl, rfl, Fx.t (Same.fx s1) ht, rfl, x.kn, _, rfl, DPut.k (k := Sum.inr z) R1.1.kn (by rw [mk2_length]; exact line7 hk.kn7), q _ x (R1.setKnown z _)⟩
  | send s1 k s2 =>
    simp only [Stm.d] at hs
    obtain ⟨p, v1, v2, v3, v4, rfl, ht, h1, h2, h3, h4⟩ := td4 hs
    cases td_str.mp h1
    cases td_str.mp h3
    refine ⟨_, rfl, p, _, _, _, rfl, rfl, ht, rfl, _, rfl, rfl, _, rfl, ifF (by decide +kernel) ⟨_, rfl, rfl, _, rfl, ifT (by decide +kernel) ⟨_, rfl, a, rfl, ml_run R rfl, _, rfl, p, _, _, _, rfl, rfl, ht, rfl, a, r, x, s1, v2, rfl, R, hk.wk, h2, hok.2.1, fun H1 q1 => ?_⟩⟩⟩
    have R1 := R.to.same q1
    refine ⟨_, rfl, a, _, rfl, fl_orders T R1.1, .inl ⟨rfl, _, SqL.of R1.1.orr⟩, _, rfl, _, rfl, p, _, _, _, rfl, rfl, Fx.t (Same.fx q1) ht, rfl, _, rfl, a, rfl, ml_run R1.1 rfl, _, rfl, p, _, _, _, rfl, rfl, Fx.t (Same.fx q1) ht, rfl, a, r, x, s2, v4, rfl, R1.1, hk.wk, TD.fx (Same.fx q1) _ _ h4, hok.2.2, fun H2 q2 => ⟨(by show 4 ≤ sizeLine; decide), fun p2 hp2 => ?_⟩⟩
    have R2 := (R1.same q2).same (Same.new (o := .tup [.str "send", wv (r.says s1), .str k, wv (r.says s2)]) hp2)
    refine ⟨x.orr, _, _, rfl, rfl, R2.1.orr, hor _ _ _ R2.1 rfl, q _ { x with orV := x.orV ++ [.ref p2] } (R2.addOr (.send (r.says s1) k (r.says s2)) (v := .ref p2) ?_)⟩
    exact TD.new upd_same (TDs.mk (td_str.mpr rfl) (TDs.mk (td_wd.mpr rfl) (TDs.mk (td_str.mpr rfl) (TDs.mk (td_wd.mpr rfl) TDs.nil))))
  | drop s =>
    simp only [Stm.d] at hs
    obtain ⟨p, v1, v2, rfl, ht, h1, h2⟩ := td2 hs
    cases td_str.mp h1
    refine ⟨_, rfl, p, _, _, _, rfl, rfl, ht, rfl, _, rfl, rfl, _, rfl, ifF (by decide +kernel) ⟨_, rfl, rfl, _, rfl, ifF (by decide +kernel) ⟨_, rfl, rfl, _, rfl, ifT (by decide +kernel) ?_⟩⟩⟩
    refine ⟨_, rfl, a, rfl, ml_run R rfl, _, rfl, a, rfl, ml_run R rfl, _, rfl, p, _, _, _, rfl, rfl, ht, rfl, a, r, x, s, v2, rfl, R, hk.wk, h2, hok, fun H1 q1 => ?_⟩
    have R1 := R.to.same q1
    exact ⟨a, r, x, _, rfl, R1.1, ho, fun H' x' R' => q H' x' ⟨R'.1, R1.2.trans R'.2⟩⟩
  | timer z s =>
    simp only [Stm.d] at hs
    obtain ⟨p, v1, v2, v3, rfl, ht, h1, h2, h3⟩ := td3 hs
    cases td_str.mp h1
    cases td_str.mp h2
    refine ⟨_, rfl, p, _, _, _, rfl, rfl, ht, rfl, _, rfl, rfl, _, rfl, ifF (by decide +kernel) ⟨_, rfl, rfl, _, rfl, ifF (by decide +kernel) ⟨_, rfl, rfl, _, rfl, ifF (by decide +kernel) ⟨_, rfl, rfl, _, rfl, ifT (by decide +kernel) ?_⟩⟩⟩⟩
    refine ⟨_, rfl, a, rfl, ml_run R rfl, _, rfl, p, _, _, _, rfl, rfl, ht, rfl, a, r, x, s, v3, rfl, R, hk.wk, h3, hok, fun H1 q1 => ?_⟩
    cases hw : r.says s with
    | none =>
      refine ⟨_, rfl, _, rfl, ifT rfl ?_⟩
      have R1 := R.to.same q1
      refine ⟨_, rfl, a, _, rfl, fl_today T R1.1, _, rfl, _, _, rfl, _, _, rfl, rfl, _, _, rfl, ?_⟩
      refine ⟨_, rfl, a, _, rfl, fl_orders T R1.1, .inl ⟨rfl, _, SqL.of R1.1.orr⟩, _, rfl, a, rfl, ml_run R1.1 rfl, _, rfl, p, _, _, _, rfl, rfl, Fx.t (Same.fx q1) ht, rfl, a, r, x, z, rfl, R1.1, hk.kn7, hk.nd7, fun H2 R2 => ?_⟩
      refine ⟨_, rfl, (by show 3 ≤ sizeLine; decide), fun p2 hp2 => ?_⟩
      rw [due_eq r.today 0] at *
      have R3 : RunTo K H (x.F a) _ a (r.ticket z) x := RunTo.same ⟨R2.1, R1.2.trans R2.2⟩ (Same.new (o := .tup [.str "timer", .int (r.made : Int), .int (min 1000000000000 (r.today + max 0 0))]) hp2)
      have ep : r.plain (.timer z s) = (r.ticket z).tell (.timer (r.made : Int) (min 1000000000000 (r.today + max 0 0))) := by
        show (r.ticket z).tell (.timer (r.made : Int) (min 1000000000000 (r.today + max 0 (asN (r.says s))))) = _
        rw [hw]
        rfl
      refine ⟨x.orr, _, _, rfl, rfl, R3.1.orr, hor _ _ _ R3.1 rfl, q _ { x with orV := x.orV ++ [.ref p2] } ?_⟩
      rw [ep]
      exact R3.addOr (.timer (r.made : Int) _) (v := .ref p2) (TD.new upd_same (TDs.mk (td_str.mpr rfl) (TDs.mk (td_int.mpr rfl) (TDs.mk (td_int.mpr rfl) TDs.nil))))
    | some b =>
      refine ⟨_, rfl, _, rfl, ifF rfl ?_⟩
      have R1 := R.to.same q1
      refine ⟨_, rfl, a, _, rfl, fl_today T R1.1, _, rfl, _, _, rfl, _, _, rfl, rfl, _, _, rfl, ?_⟩
      refine ⟨_, rfl, a, _, rfl, fl_orders T R1.1, .inl ⟨rfl, _, SqL.of R1.1.orr⟩, _, rfl, a, rfl, ml_run R1.1 rfl, _, rfl, p, _, _, _, rfl, rfl, Fx.t (Same.fx q1) ht, rfl, a, r, x, z, rfl, R1.1, hk.kn7, hk.nd7, fun H2 R2 => ?_⟩
      refine ⟨_, rfl, (by show 3 ≤ sizeLine; decide), fun p2 hp2 => ?_⟩
      rw [due_eq r.today b] at *
      have R3 : RunTo K H (x.F a) _ a (r.ticket z) x := RunTo.same ⟨R2.1, R1.2.trans R2.2⟩ (Same.new (o := .tup [.str "timer", .int (r.made : Int), .int (min 1000000000000 (r.today + max 0 b))]) hp2)
      have ep : r.plain (.timer z s) = (r.ticket z).tell (.timer (r.made : Int) (min 1000000000000 (r.today + max 0 b))) := by
        show (r.ticket z).tell (.timer (r.made : Int) (min 1000000000000 (r.today + max 0 (asN (r.says s))))) = _
        rw [hw]
        rfl
      refine ⟨x.orr, _, _, rfl, rfl, R3.1.orr, hor _ _ _ R3.1 rfl, q _ { x with orV := x.orV ++ [.ref p2] } ?_⟩
      rw [ep]
      exact R3.addOr (.timer (r.made : Int) _) (v := .ref p2) (TD.new upd_same (TDs.mk (td_str.mpr rfl) (TDs.mk (td_int.mpr rfl) (TDs.mk (td_int.mpr rfl) TDs.nil))))
  | order z n s =>
    simp only [Stm.d] at hs
    obtain ⟨p, v1, v2, v3, v4, rfl, ht, h1, h2, h3, h4⟩ := td4 hs
    cases td_str.mp h1
    cases td_str.mp h2
    cases td_str.mp h3
    refine ⟨_, rfl, p, _, _, _, rfl, rfl, ht, rfl, _, rfl, rfl, _, rfl, ifF (by decide +kernel) ⟨_, rfl, rfl, _, rfl, ifF (by decide +kernel) ⟨_, rfl, rfl, _, rfl, ifF (by decide +kernel) ⟨_, rfl, rfl, _, rfl, ifF (by decide +kernel) ?_⟩⟩⟩⟩
    refine ⟨_, rfl, a, rfl, ml_run R rfl, _, rfl, p, _, _, _, rfl, rfl, ht, rfl, a, r, x, s, v4, rfl, R, hk.wk, h4, hok.2, fun H1 q1 => ?_⟩
    have R1 := R.to.same q1
    refine ⟨_, rfl, a, _, rfl, fl_orders T R1.1, .inl ⟨rfl, _, SqL.of R1.1.orr⟩, _, rfl, _, rfl, a, rfl, ml_run R1.1 rfl, _, rfl, p, _, _, _, rfl, rfl, Fx.t (Same.fx q1) ht, rfl, a, r, x, z, rfl, R1.1, hk.kn7, hk.nd7, fun H2 R2 => ?_⟩
    refine ⟨_, rfl, p, _, _, _, rfl, rfl, Fx.t R2.2.fx (Fx.t (Same.fx q1) ht), rfl, _, rfl, (by show 4 ≤ sizeLine; decide), fun p2 hp2 => ?_⟩
    have R3 : RunTo K H (x.F a) _ a (r.ticket z) x := RunTo.same ⟨R2.1, R1.2.trans R2.2⟩ (Same.new (o := .tup [.str "order", .int (r.made : Int), .str n, wv (r.says s)]) hp2)
    refine ⟨x.orr, _, _, rfl, rfl, R3.1.orr, hor _ _ _ R3.1 rfl, q _ { x with orV := x.orV ++ [.ref p2] } (R3.addOr (.order (r.made : Int) n (r.says s)) (v := .ref p2) ?_)⟩
    exact TD.new upd_same (TDs.mk (td_str.mpr rfl) (TDs.mk (td_int.mpr rfl) (TDs.mk (td_str.mpr rfl) (TDs.mk (td_wd.mpr rfl) TDs.nil))))
  | child z n s =>
    simp only [Stm.d] at hs
    obtain ⟨p, v1, v2, v3, v4, rfl, ht, h1, h2, h3, h4⟩ := td4 hs
    cases td_str.mp h1
    cases td_str.mp h2
    cases td_str.mp h3
    refine ⟨_, rfl, p, _, _, _, rfl, rfl, ht, rfl, _, rfl, rfl, _, rfl, ifF (by decide +kernel) ⟨_, rfl, rfl, _, rfl, ifF (by decide +kernel) ⟨_, rfl, rfl, _, rfl, ifF (by decide +kernel) ⟨_, rfl, rfl, _, rfl, ifF (by decide +kernel) ?_⟩⟩⟩⟩
    refine ⟨_, rfl, a, rfl, ml_run R rfl, _, rfl, p, _, _, _, rfl, rfl, ht, rfl, a, r, x, s, v4, rfl, R, hk.wk, h4, hok.2, fun H1 q1 => ?_⟩
    have R1 := R.to.same q1
    refine ⟨_, rfl, a, _, rfl, fl_orders T R1.1, .inl ⟨rfl, _, SqL.of R1.1.orr⟩, _, rfl, _, rfl, a, rfl, ml_run R1.1 rfl, _, rfl, p, _, _, _, rfl, rfl, Fx.t (Same.fx q1) ht, rfl, a, r, x, z, rfl, R1.1, hk.kn7, hk.nd7, fun H2 R2 => ?_⟩
    refine ⟨_, rfl, p, _, _, _, rfl, rfl, Fx.t R2.2.fx (Fx.t (Same.fx q1) ht), rfl, _, rfl, (by show 4 ≤ sizeLine; decide), fun p2 hp2 => ?_⟩
    have R3 : RunTo K H (x.F a) _ a (r.ticket z) x := RunTo.same ⟨R2.1, R1.2.trans R2.2⟩ (Same.new (o := .tup [.str "child", .int (r.made : Int), .str n, wv (r.says s)]) hp2)
    refine ⟨x.orr, _, _, rfl, rfl, R3.1.orr, hor _ _ _ R3.1 rfl, q _ { x with orV := x.orV ++ [.ref p2] } (R3.addOr (.child (r.made : Int) n (r.says s)) (v := .ref p2) ?_)⟩
    exact TD.new upd_same (TDs.mk (td_str.mpr rfl) (TDs.mk (td_int.mpr rfl) (TDs.mk (td_str.mpr rfl) (TDs.mk (td_wd.mpr rfl) TDs.nil))))
end
end Ol
namespace Ol
open PySem PySem.Spec PyProof.Rows L2
local macro_rules | `(tactic| walk_at "len") => `(tactic| (intro vs H Q E h; first | (rcases h with ⟨hh, _⟩; rw [hh]; rfl) | (rcases h with ⟨_, hh, _⟩; rw [hh]; rfl) | (rcases h with ⟨_, _, hh, _⟩; rw [hh]; rfl) | (rcases h with ⟨_, _, _, hh, _⟩; rw [hh]; rfl) | (rcases h with ⟨_, _, _, _, hh, _⟩; rw [hh]; rfl) | (rcases h with ⟨_, _, _, _, _, hh, _⟩; rw [hh]; rfl) | (rcases h with ⟨_, _, _, _, _, _, hh, _⟩; rw [hh]; rfl) | (rcases h with ⟨_, _, _, _, _, _, _, hh, _⟩; rw [hh]; rfl) | (rcases h with ⟨_, _, _, _, _, _, _, _, hh, _⟩; rw [hh]; rfl) | (rcases h with ⟨_, _, _, _, _, _, _, _, _, hh, _⟩; rw [hh]; rfl) | (rcases h with ⟨_, _, _, _, _, _, _, _, _, _, hh, _⟩; rw [hh]; rfl) | (rcases h with ⟨_, _, _, _, _, _, _, _, _, _, _, hh, _⟩; rw [hh]; rfl) | (rcases h with ⟨_, _, _, _, _, _, _, _, _, _, _, _, hh, _⟩; rw [hh]; rfl) | (rcases h with ⟨_, _, _, _, _, _, _, _, _, _, _, _, _, hh, _⟩; rw [hh]; rfl) | (rcases h with ⟨_, _, _, _, _, _, _, _, _, _, _, _, _, _, hh, _⟩; rw [hh]; rfl) | (rcases h with ⟨_, _, _, _, _, _, _, _, _, _, _, _, _, _, _, hh, _⟩; rw [hh]; rfl) | (rcases h with ⟨_, _, _, _, _, _, _, _, _, _, _, _, _, _, _, _, hh, _⟩; rw [hh]; rfl) | (rcases h with ⟨_, _, _, _, _, _, _, _, _, _, _, _, _, _, _, _, _, hh, _⟩; rw [hh]; rfl) | (rcases h with ⟨_, _, _, _, _, _, _, _, _, _, _, _, _, _, _, _, _, _, hh, _⟩; rw [hh]; rfl) | (rcases h with ⟨_, _, _, _, _, _, _, _, _, _, _, _, _, _, _, _, _, _, _, hh, _⟩; rw [hh]; rfl)))
theorem cut_path (i b : Nat) (p : List Nat) : cutV (pathV (i :: b :: p)) none (some (-2)) = pathV p := by
  rw [← pathV_ext]
  unfold cutV
  have hl : (pathV p ++ [V.int (b : Int), V.int (i : Int)]).length = (pathV p).length + 2 := by rw [List.length_append]; rfl
  have h1 : HT.sIx (pathV p ++ [V.int (b : Int), V.int (i : Int)]).length 0 none = 0 := rfl
  have h2 : HT.sIx (pathV p ++ [V.int (b : Int), V.int (i : Int)]).length (pathV p ++ [V.int (b : Int), V.int (i : Int)]).length (some (-2)) = (pathV p).length := by
    rw [hl]
    unfold HT.sIx
    simp
    try omega
  rw [h1, h2, List.drop_zero, Nat.sub_zero, List.take_left]
def spNext (K : PySem.W.Frag) : Sp := fun vs H Q _ => ∃ (a : Addr) (r : RS) (x : RA) (sv : V) (s : Stm) (c : Nat), vs = [.ref a, sv] ∧ RunAt K H a r x ∧ Li r c ∧ r.here = some s ∧ TD K H sv s.d ∧ c + 301 ≤ 5000000 ∧
  ∀ H' x', RunTo K H (x.F a) H' a (r.next s) x' → Q .non H'
def spGo (K : PySem.W.Frag) : Sp := fun vs H Q _ => ∃ (a : Addr) (r : RS) (x : RA) (c : Nat), vs = [.ref a] ∧ RunAt K H a r x ∧ Rk r c ∧ r.orders = [] ∧ r.steps = 0 ∧ c + 301 ≤ 5000000 ∧
  ∀ H' x', RunTo K H (x.F a) H' a r.goOn x' → Q .non H'
def spTakeDone (K : PySem.W.Frag) : Sp := fun vs H Q _ => ∃ (a : Addr) (r : RS) (x : RA) (t : Int) (u : W) (c : Nat), vs = [.ref a, .int t, wv u] ∧ RunAt K H a r x ∧ Rk r c ∧ Rm r ∧ r.orders = [] ∧ r.steps = 0 ∧ t ∈ r.notDone ∧ WB u ∧ c + 303 ≤ 5000000 ∧
  ∀ H' x', RunTo K H (x.F a) H' a (r.takeDone t u) x' → Q .non H'
def spTakeLetter (K : PySem.W.Frag) : Sp := fun vs H Q _ => ∃ (a : Addr) (r : RS) (x : RA) (k : Str) (u : W) (c : Nat), vs = [.ref a, .str k, wv u] ∧ RunAt K H a r x ∧ Rk r c ∧ Rm r ∧ r.orders = [] ∧ r.steps = 0 ∧ WB u ∧ c + 303 ≤ 5000000 ∧
  ∀ H' x', RunTo K H (x.F a) H' a (r.takeLetter k u) x' → Q .non H'
def spTake (K : PySem.W.Frag) : Sp := fun vs H Q _ => ∃ (a : Addr) (r : RS) (x : RA) (h : Hap) (hv : V) (c : Nat), vs = [.ref a, hv] ∧ RunAt K H a r x ∧ Ro r c ∧ TD K H hv h.d ∧ h.ok ∧ c + 303 ≤ 5000000 ∧
  ∀ Hm x' p vs, RunTo K H (x.F a) Hm a (r.take h) x' → Hm p = none → TDs K Hm vs ((r.take h).orders.map Cmd.d) → Q (.ref p) (upd Hm p (.lst vs))
theorem pt_pt {l : List (Str × List W)} {k : Str} {a b : List W} : pt (pt l k a) k b = pt l k b := by
  cases e : lk l k with
  | none =>
    have e2 : lk (pt l k a) k = some a := by rw [lk_pt, if_pos rfl]
    rw [pt_some e2, pt_none e, pt_none e, List.map_append, map_none e]
    simp
  | some c =>
    have e2 : lk (pt l k a) k = some a := by rw [lk_pt, if_pos rfl]
    rw [pt_some e2, pt_some e, pt_some e, List.map_map]
    refine List.map_congr_left fun p _ => ?_
    show (if (if p.1 = k then (p.1, a) else p).1 = k then _ else _) = _
    by_cases h : p.1 = k
    · simp [h]
    · simp [h]
theorem max_if (t m : Int) : (if m > t then m else t) = max t m := by split <;> omega
theorem mode_in (m : Mode) : inV (.str m.s) [.str "wait", .str "hear"] = decide (m = .wait ∨ m = .hear) := by cases m <;> decide +kernel
section
variable {P : Program} {w : World} {K : PySem.W.Frag} {mg : Str → Option Value} {base : Heap}
theorem sc_Run_do_next : FnScope ["self", "statement", "word"] ["self", "statement"] (defScope s_Run_do_next) := ⟨rfl, rfl, rfl, by decide +kernel, rfl, by decide +kernel, by decide +kernel⟩
theorem ok_Run_do_next (T : Tx w K mg) : OkD P w K mg base d_Run_do_next 9 ["self", "statement"] (spNext K) := by
  have sc := sc_Run_do_next
  refine okD_mk (F_Run_do_next T) sc (fun _ _ _ _ _ _ us hl => match us, hl with | [_, _], _ => rfl) ?len ?body
  case len => walk_at "len"
  intro cdv f A outer s H vs Q E hr h
  refine ⟨_, (pss_cons (ps_if (pt_cmpR op_eq (pe_fl (pv 0)) (pe_gint (by rfl) (i_MOST_STATEMENTS T)) (nomark _)) (pss_cons (ps_fl (pv 0) pe_str)
    (pss_cons (ps_expr (pe_bm PySem.F.plainAttrs_list PySem.F.slot_list_append PySem.F.type_list_append mt_append (pe_fl (pv 0)) (pa_cons (pe_tup (pa_cons pe_str pa_nil)) pa_nil)))
    (pss_one ps_retN))) pss_nil)
    (pss_cons (ps_flAdd (pv 0))
    (pss_cons (ps_set (i := 2) sc.nd rfl (Or.inl rfl) (pe_ix ix_tup (pv 1) pe_int (fun _ _ => rfl)))
    (pss_one (ps_if (pt_cmpR op_in_seq (pv 2) (pe_tup (pa_cons pe_str (pa_cons pe_str pa_nil))) (by rfl)) (pss_one (ps_expr (pe_m (d := d_Run_do_look) (c_Run T) (m_Run_do_look T) (ok_Run_do_look T) (hr.mono (by decide)) (pv 0) (pa_cons (pv 1) pa_nil)))) (pss_one (ps_if (pt_cmpR op_eq (pv 2) pe_str (nomark _)) (pss_one (ps_expr (pe_m (d := d_Run_do_wait) (c_Run T) (m_Run_do_wait T) (ok_Run_do_wait T) (hr.mono (by decide)) (pv 0) (pa_cons (pv 1) pa_nil)))) (pss_one (ps_if (pt_cmpR op_eq (pv 2) pe_str (nomark _)) (pss_one (ps_expr (pe_m (d := d_Run_do_hear) (c_Run T) (m_Run_do_hear T) (ok_Run_do_hear T) (hr.mono (by decide)) (pv 0) (pa_cons (pe_ix ix_tup (pv 1) pe_int (fun _ _ => rfl)) pa_nil)))) (pss_one (ps_if (pt_cmpR op_eq (pv 2) pe_str (nomark _)) (pss_one (ps_expr (pe_m (d := d_Run_do_end) (c_Run T) (m_Run_do_end T) (ok_Run_do_end T) (hr.mono (by decide)) (pv 0) (pa_cons (pe_m (d := d_Run_says) (c_Run T) (m_Run_says T) (ok_Run_says T) (hr.mono (by decide)) (pv 0) (pa_cons (pe_ix ix_tup (pv 1) pe_int (fun _ _ => rfl)) pa_nil)) pa_nil)))) (pss_cons (ps_expr (pe_m (d := d_Run_do_plain) (c_Run T) (m_Run_do_plain T) (ok_Run_do_plain T) (hr.mono (by decide)) (pv 0) (pa_cons (pv 1) pa_nil)))
    (pss_one (ps_augS (pe_fl (pv 0)) (pe_un un_neg pe_int) pget_list pe_int ip_add set_list)))))))))))))), ?_⟩
  obtain ⟨a, r, x, sv, s, c, rfl, R, hk, hh, hs, hc, q⟩ := h
  have hso := RS.here_ok hk.rk hh
  have hos := hk.os
  have hst := hk.st
  refine ⟨_, rfl, a, _, rfl, fl_steps T R, rfl, _, rfl, ?_⟩
  by_cases h3 : r.steps = 300
  · refine ifT (by rw [h3]; rfl) ⟨_, rfl, a, _, rfl, sl_mode T R .worn, ?_⟩
    have R1 := R.to.sc { r with mode := .worn }
    refine ⟨_, rfl, a, _, rfl, fl_orders T R1.1, .inl ⟨rfl, _, SqL.of R1.1.orr⟩, (by show 1 ≤ sizeLine; decide), fun p hp => ?_⟩
    have R2 := R1.same (Same.new (o := .tup [.str "worn"]) hp)
    have hl : x.orV.length < sizeLine := by rw [R2.1.tor.length, List.length_map, sizeLine_eq]; show r.orders.length < _; omega
    refine ⟨x.orr, _, _, rfl, rfl, R2.1.orr, hl, q _ { x with orV := x.orV ++ [.ref p] } ?_⟩
    have en : r.next s = ({ r with mode := .worn } : RS).tell .worn := by unfold RS.next; rw [if_pos h3]
    rw [en]
    exact R2.addOr .worn (v := .ref p) (TD.new upd_same (TDs.mk (td_str.mpr rfl) TDs.nil))
  refine ifF (decide_eq_false (fun q => h3 (by injection q; omega))) ?_
  refine ⟨_, rfl, a, _, _, rfl, fl_steps T R, sl_steps T R (r.steps + 1), ?_⟩
  have R1 := R.to.sc { r with steps := r.steps + 1 }
  have rk1 : Rk { r with steps := r.steps + 1 } (c + r.steps) := hk.rk.sc { r with steps := r.steps + 1 } (e9 := hk.rk.wk.arg)
  have lim1 : c + r.steps + 1 ≤ 5000000 := by omega
  have en : r.next s = (match s with
    | .ite cs _ _ => ({ r with steps := r.steps + 1 } : RS).look cs true
    | .whl cs _ => ({ r with steps := r.steps + 1 } : RS).look cs false
    | .wait _ ss => ({ r with steps := r.steps + 1 } : RS).doWait ss
    | .hear _ k => ({ r with steps := r.steps + 1 } : RS).doHear k
    | .fin cs => ({ r with steps := r.steps + 1 } : RS).fin (({ r with steps := r.steps + 1 } : RS).says cs)
    | s => (({ r with steps := r.steps + 1 } : RS).plain s).bump) := by unfold RS.next; rw [if_neg h3]; cases s <;> rfl
  cases s with
  | ite cs b1 b2 =>
    have hs' := hs
    simp only [Stm.d] at hs
    obtain ⟨p, v1, v2, v3, v4, rfl, ht, h1, h2, h3, h4⟩ := td4 hs
    cases td_str.mp h1
    refine ⟨_, rfl, p, _, _, _, rfl, rfl, Fx.t R1.2.fx ht, rfl, _, rfl, (by show 2 ≤ sizeLine; decide), fun p2 hp2 => ⟨p2, _, rfl, .inr (SqT.of upd_same), rfl, rfl, _, rfl, ifT (by decide +kernel) ?_⟩⟩
    have s2 := Same.new (o := .tup [.str "if", .str "while"]) hp2
    have R2 := R1.same s2
    refine ⟨_, rfl, a, rfl, ml_run R2.1 rfl, _, rfl, a, _, x, _, .ite cs b1 b2, cs, true, c + r.steps, rfl, R2.1, rk1, TD.fx R2.2.fx _ _ hs', ?_, .inl ⟨rfl, _, _, rfl⟩, fun H' x' R3 => q H' x' (by rw [en]; exact ⟨R3.1, R2.2.trans R3.2⟩)⟩
    simp only [Stm.ok] at hso
    exact hso.1
  | whl cs b1 =>
    have hs' := hs
    simp only [Stm.d] at hs
    obtain ⟨p, v1, v2, v3, rfl, ht, h1, h2, h3⟩ := td3 hs
    cases td_str.mp h1
    refine ⟨_, rfl, p, _, _, _, rfl, rfl, Fx.t R1.2.fx ht, rfl, _, rfl, (by show 2 ≤ sizeLine; decide), fun p2 hp2 => ⟨p2, _, rfl, .inr (SqT.of upd_same), rfl, rfl, _, rfl, ifT (by decide +kernel) ?_⟩⟩
    have s2 := Same.new (o := .tup [.str "if", .str "while"]) hp2
    have R2 := R1.same s2
    refine ⟨_, rfl, a, rfl, ml_run R2.1 rfl, _, rfl, a, _, x, _, .whl cs b1, cs, false, c + r.steps, rfl, R2.1, rk1, TD.fx R2.2.fx _ _ hs', ?_, .inr ⟨rfl, _, rfl⟩, fun H' x' R3 => q H' x' (by rw [en]; exact ⟨R3.1, R2.2.trans R3.2⟩)⟩
    simp only [Stm.ok] at hso
    exact hso.1
  | wait z ss =>
    have hs' := hs
    simp only [Stm.d] at hs
    obtain ⟨p, v1, v2, v3, rfl, ht, h1, h2, h3⟩ := td3 hs
    cases td_str.mp h1
    refine ⟨_, rfl, p, _, _, _, rfl, rfl, Fx.t R1.2.fx ht, rfl, _, rfl, (by show 2 ≤ sizeLine; decide), fun p2 hp2 => ⟨p2, _, rfl, .inr (SqT.of upd_same), rfl, rfl, _, rfl, ifF (by decide +kernel) ?_⟩⟩
    have s2 := Same.new (o := .tup [.str "if", .str "while"]) hp2
    have R2 := R1.same s2
    refine ⟨_, rfl, rfl, _, rfl, ifT (by decide +kernel) ?_⟩
    simp only [Stm.ok] at hso
    refine ⟨_, rfl, a, rfl, ml_run R2.1 rfl, _, rfl, a, _, x, _, z, ss, c + r.steps, rfl, R2.1, rk1, TD.fx R2.2.fx _ _ hs', hh, hso.2, hso.1, fun H' x' R3 => q H' x' (by rw [en]; exact ⟨R3.1, R2.2.trans R3.2⟩)⟩
  | hear z k =>
    have hs' := hs
    simp only [Stm.d] at hs
    obtain ⟨p, v1, v2, v3, rfl, ht, h1, h2, h3⟩ := td3 hs
    cases td_str.mp h1
    refine ⟨_, rfl, p, _, _, _, rfl, rfl, Fx.t R1.2.fx ht, rfl, _, rfl, (by show 2 ≤ sizeLine; decide), fun p2 hp2 => ⟨p2, _, rfl, .inr (SqT.of upd_same), rfl, rfl, _, rfl, ifF (by decide +kernel) ?_⟩⟩
    have s2 := Same.new (o := .tup [.str "if", .str "while"]) hp2
    have R2 := R1.same s2
    refine ⟨_, rfl, rfl, _, rfl, ifF (by decide +kernel) ⟨_, rfl, rfl, _, rfl, ifT (by decide +kernel) ?_⟩⟩
    cases td_str.mp h3
    refine ⟨_, rfl, a, rfl, ml_run R2.1 rfl, _, rfl, p, _, _, _, rfl, rfl, Fx.t R2.2.fx ht, rfl, a, _, x, k, .hear z k, rfl, R2.1, hk.rk.path, hk.rk.pl8, hh, ⟨z, rfl⟩, hk.rk.kn7, hk.rk.hkd, hk.rk.hne, fun H' x' R3 => q H' x' (by rw [en]; exact ⟨R3.1, R2.2.trans R3.2⟩)⟩
  | fin cs =>
    have hs' := hs
    simp only [Stm.d] at hs
    obtain ⟨p, v1, v2, rfl, ht, h1, h2⟩ := td2 hs
    cases td_str.mp h1
    refine ⟨_, rfl, p, _, _, _, rfl, rfl, Fx.t R1.2.fx ht, rfl, _, rfl, (by show 2 ≤ sizeLine; decide), fun p2 hp2 => ⟨p2, _, rfl, .inr (SqT.of upd_same), rfl, rfl, _, rfl, ifF (by decide +kernel) ?_⟩⟩
    have s2 := Same.new (o := .tup [.str "if", .str "while"]) hp2
    have R2 := R1.same s2
    refine ⟨_, rfl, rfl, _, rfl, ifF (by decide +kernel) ⟨_, rfl, rfl, _, rfl, ifF (by decide +kernel) ⟨_, rfl, rfl, _, rfl, ifT (by decide +kernel) ?_⟩⟩⟩
    refine ⟨_, rfl, a, rfl, ml_run R2.1 rfl, _, rfl, a, rfl, ml_run R2.1 rfl, _, rfl, p, _, _, _, rfl, rfl, Fx.t R2.2.fx ht, rfl, a, _, x, cs, v2, rfl, R2.1, rk1.wk, TD.fx R2.2.fx _ _ h2, hso, fun H3 s3 => ?_⟩
    have R3 := R2.same s3
    exact ⟨a, _, x, _, rfl, R3.1, (by show r.orders.length < 10000000; omega), fun H' x' R4 => q H' x' (by rw [en]; exact ⟨R4.1, R3.2.trans R4.2⟩)⟩
  | set z e =>
    have hs' := hs
    simp only [Stm.d] at hs
    obtain ⟨p, v1, v2, v3, rfl, ht, h1, h2, h3⟩ := td3 hs
    cases td_str.mp h1
    refine ⟨_, rfl, p, _, _, _, rfl, rfl, Fx.t R1.2.fx ht, rfl, _, rfl, (by show 2 ≤ sizeLine; decide), fun p2 hp2 => ⟨p2, _, rfl, .inr (SqT.of upd_same), rfl, rfl, _, rfl, ifF (by decide +kernel) ?_⟩⟩
    have s2 := Same.new (o := .tup [.str "if", .str "while"]) hp2
    have R2 := R1.same s2
    refine ⟨_, rfl, rfl, _, rfl, ifF (by decide +kernel) ⟨_, rfl, rfl, _, rfl, ifF (by decide +kernel) ⟨_, rfl, rfl, _, rfl, ifF (by decide +kernel) ?_⟩⟩⟩
    refine ⟨_, rfl, a, rfl, ml_run R2.1 rfl, _, rfl, a, _, x, _, .set z e, c + r.steps, rfl, R2.1, rk1, (by show r.orders.length < 10000000; omega), TD.fx R2.2.fx _ _ hs', hso, trivial, fun H' x' R3 => ?_⟩
    have R4 : RunTo K H (x.F a) H' a _ x' := ⟨R3.1, R2.2.trans R3.2⟩
    exact bump_ok T R4 (by rw [(rk1.plain hso lim1).2.2.2.2.2]; exact path_ne hk.rk.path) rfl fun H2 R5 => q H2 x' (by rw [en]; exact R5)
  | order z n e =>
    have hs' := hs
    simp only [Stm.d] at hs
    obtain ⟨p, v1, v2, v3, v4, rfl, ht, h1, h2, h3, h4⟩ := td4 hs
    cases td_str.mp h1
    refine ⟨_, rfl, p, _, _, _, rfl, rfl, Fx.t R1.2.fx ht, rfl, _, rfl, (by show 2 ≤ sizeLine; decide), fun p2 hp2 => ⟨p2, _, rfl, .inr (SqT.of upd_same), rfl, rfl, _, rfl, ifF (by decide +kernel) ?_⟩⟩
    have s2 := Same.new (o := .tup [.str "if", .str "while"]) hp2
    have R2 := R1.same s2
    refine ⟨_, rfl, rfl, _, rfl, ifF (by decide +kernel) ⟨_, rfl, rfl, _, rfl, ifF (by decide +kernel) ⟨_, rfl, rfl, _, rfl, ifF (by decide +kernel) ?_⟩⟩⟩
    refine ⟨_, rfl, a, rfl, ml_run R2.1 rfl, _, rfl, a, _, x, _, .order z n e, c + r.steps, rfl, R2.1, rk1, (by show r.orders.length < 10000000; omega), TD.fx R2.2.fx _ _ hs', hso, trivial, fun H' x' R3 => ?_⟩
    have R4 : RunTo K H (x.F a) H' a _ x' := ⟨R3.1, R2.2.trans R3.2⟩
    exact bump_ok T R4 (by rw [(rk1.plain hso lim1).2.2.2.2.2]; exact path_ne hk.rk.path) rfl fun H2 R5 => q H2 x' (by rw [en]; exact R5)
  | timer z e =>
    have hs' := hs
    simp only [Stm.d] at hs
    obtain ⟨p, v1, v2, v3, rfl, ht, h1, h2, h3⟩ := td3 hs
    cases td_str.mp h1
    refine ⟨_, rfl, p, _, _, _, rfl, rfl, Fx.t R1.2.fx ht, rfl, _, rfl, (by show 2 ≤ sizeLine; decide), fun p2 hp2 => ⟨p2, _, rfl, .inr (SqT.of upd_same), rfl, rfl, _, rfl, ifF (by decide +kernel) ?_⟩⟩
    have s2 := Same.new (o := .tup [.str "if", .str "while"]) hp2
    have R2 := R1.same s2
    refine ⟨_, rfl, rfl, _, rfl, ifF (by decide +kernel) ⟨_, rfl, rfl, _, rfl, ifF (by decide +kernel) ⟨_, rfl, rfl, _, rfl, ifF (by decide +kernel) ?_⟩⟩⟩
    refine ⟨_, rfl, a, rfl, ml_run R2.1 rfl, _, rfl, a, _, x, _, .timer z e, c + r.steps, rfl, R2.1, rk1, (by show r.orders.length < 10000000; omega), TD.fx R2.2.fx _ _ hs', hso, trivial, fun H' x' R3 => ?_⟩
    have R4 : RunTo K H (x.F a) H' a _ x' := ⟨R3.1, R2.2.trans R3.2⟩
    exact bump_ok T R4 (by rw [(rk1.plain hso lim1).2.2.2.2.2]; exact path_ne hk.rk.path) rfl fun H2 R5 => q H2 x' (by rw [en]; exact R5)
  | child z n e =>
    have hs' := hs
    simp only [Stm.d] at hs
    obtain ⟨p, v1, v2, v3, v4, rfl, ht, h1, h2, h3, h4⟩ := td4 hs
    cases td_str.mp h1
    refine ⟨_, rfl, p, _, _, _, rfl, rfl, Fx.t R1.2.fx ht, rfl, _, rfl, (by show 2 ≤ sizeLine; decide), fun p2 hp2 => ⟨p2, _, rfl, .inr (SqT.of upd_same), rfl, rfl, _, rfl, ifF (by decide +kernel) ?_⟩⟩
    have s2 := Same.new (o := .tup [.str "if", .str "while"]) hp2
    have R2 := R1.same s2
    refine ⟨_, rfl, rfl, _, rfl, ifF (by decide +kernel) ⟨_, rfl, rfl, _, rfl, ifF (by decide +kernel) ⟨_, rfl, rfl, _, rfl, ifF (by decide +kernel) ?_⟩⟩⟩
    refine ⟨_, rfl, a, rfl, ml_run R2.1 rfl, _, rfl, a, _, x, _, .child z n e, c + r.steps, rfl, R2.1, rk1, (by show r.orders.length < 10000000; omega), TD.fx R2.2.fx _ _ hs', hso, trivial, fun H' x' R3 => ?_⟩
    have R4 : RunTo K H (x.F a) H' a _ x' := ⟨R3.1, R2.2.trans R3.2⟩
    exact bump_ok T R4 (by rw [(rk1.plain hso lim1).2.2.2.2.2]; exact path_ne hk.rk.path) rfl fun H2 R5 => q H2 x' (by rw [en]; exact R5)
  | send e k e2 =>
    have hs' := hs
    simp only [Stm.d] at hs
    obtain ⟨p, v1, v2, v3, v4, rfl, ht, h1, h2, h3, h4⟩ := td4 hs
    cases td_str.mp h1
    refine ⟨_, rfl, p, _, _, _, rfl, rfl, Fx.t R1.2.fx ht, rfl, _, rfl, (by show 2 ≤ sizeLine; decide), fun p2 hp2 => ⟨p2, _, rfl, .inr (SqT.of upd_same), rfl, rfl, _, rfl, ifF (by decide +kernel) ?_⟩⟩
    have s2 := Same.new (o := .tup [.str "if", .str "while"]) hp2
    have R2 := R1.same s2
    refine ⟨_, rfl, rfl, _, rfl, ifF (by decide +kernel) ⟨_, rfl, rfl, _, rfl, ifF (by decide +kernel) ⟨_, rfl, rfl, _, rfl, ifF (by decide +kernel) ?_⟩⟩⟩
    refine ⟨_, rfl, a, rfl, ml_run R2.1 rfl, _, rfl, a, _, x, _, .send e k e2, c + r.steps, rfl, R2.1, rk1, (by show r.orders.length < 10000000; omega), TD.fx R2.2.fx _ _ hs', hso, trivial, fun H' x' R3 => ?_⟩
    have R4 : RunTo K H (x.F a) H' a _ x' := ⟨R3.1, R2.2.trans R3.2⟩
    exact bump_ok T R4 (by rw [(rk1.plain hso lim1).2.2.2.2.2]; exact path_ne hk.rk.path) rfl fun H2 R5 => q H2 x' (by rw [en]; exact R5)
  | drop e =>
    have hs' := hs
    simp only [Stm.d] at hs
    obtain ⟨p, v1, v2, rfl, ht, h1, h2⟩ := td2 hs
    cases td_str.mp h1
    refine ⟨_, rfl, p, _, _, _, rfl, rfl, Fx.t R1.2.fx ht, rfl, _, rfl, (by show 2 ≤ sizeLine; decide), fun p2 hp2 => ⟨p2, _, rfl, .inr (SqT.of upd_same), rfl, rfl, _, rfl, ifF (by decide +kernel) ?_⟩⟩
    have s2 := Same.new (o := .tup [.str "if", .str "while"]) hp2
    have R2 := R1.same s2
    refine ⟨_, rfl, rfl, _, rfl, ifF (by decide +kernel) ⟨_, rfl, rfl, _, rfl, ifF (by decide +kernel) ⟨_, rfl, rfl, _, rfl, ifF (by decide +kernel) ?_⟩⟩⟩
    refine ⟨_, rfl, a, rfl, ml_run R2.1 rfl, _, rfl, a, _, x, _, .drop e, c + r.steps, rfl, R2.1, rk1, (by show r.orders.length < 10000000; omega), TD.fx R2.2.fx _ _ hs', hso, trivial, fun H' x' R3 => ?_⟩
    have R4 : RunTo K H (x.F a) H' a _ x' := ⟨R3.1, R2.2.trans R3.2⟩
    exact bump_ok T R4 (by rw [(rk1.plain hso lim1).2.2.2.2.2]; exact path_ne hk.rk.path) rfl fun H2 R5 => q H2 x' (by rw [en]; exact R5)
theorem sc_Run_go_on : FnScope ["self", "block"] ["self"] (defScope s_Run_go_on) := ⟨rfl, rfl, rfl, by decide +kernel, rfl, by decide +kernel, by decide +kernel⟩
theorem ok_Run_go_on (T : Tx w K mg) : OkD P w K mg base d_Run_go_on 10 ["self"] (spGo K) := by
  have sc := sc_Run_go_on
  refine okD_mk (F_Run_go_on T) sc (fun _ _ _ _ _ _ us hl => match us, hl with | [_], _ => rfl) ?len ?body
  case len => walk_at "len"
  intro cdv f A outer s H vs Q E hr h
  refine ⟨_, (pss_cons (ps_fl (pv 0) pe_str)
    (pss_one (ps_while PassesOwn.never (pt_cmpR op_eq (pe_fl (pv 0)) pe_str (nomark _)) (pss_cons (ps_set (i := 1) sc.nd rfl (Or.inl rfl) (pe_f (ok_block_of T) (hr.mono (by decide)) (by rfl) (g_block_of T) (pa_cons (pe_fl (pv 0)) (pa_cons (pe_fl (pv 0)) pa_nil))))
    (pss_one (ps_if (pt_cmpR op_lt (pe_ix ix_list (pe_fl (pv 0)) (pe_un un_neg pe_int) (fun _ _ => rfl)) (pe_callB call_len_seq (by rfl) (z_len T) (by decide +kernel) (pa_cons (pv 1) pa_nil)) (nomark _)) (pss_one (ps_expr (pe_m (d := d_Run_do_next) (c_Run T) (m_Run_do_next T) (ok_Run_do_next T) (hr.mono (by decide)) (pv 0) (pa_cons (pe_ix ix_tup (pv 1) (pe_ix ix_list (pe_fl (pv 0)) (pe_un un_neg pe_int) (fun _ _ => rfl)) (fun _ _ => rfl)) pa_nil)))) (pss_one (ps_if (pt_cmpR op_eq (pe_callB call_len_seq (by rfl) (z_len T) (by decide +kernel) (pa_cons (pe_fl (pv 0)) pa_nil)) pe_int (nomark _)) (pss_one (ps_expr (pe_m (d := d_Run_do_end) (c_Run T) (m_Run_do_end T) (ok_Run_do_end T) (hr.mono (by decide)) (pv 0) (pa_cons pe_non pa_nil)))) (pss_cons (ps_fl (pv 0) (pe_slice sl_list (pe_fl (pv 0)) po_none (po_some (pe_un un_neg pe_int))))
    (pss_one (ps_if (pt_cmpR op_eq (pe_ix ix_tup (pe_m0 (d := d_Run_statement_here) (c_Run T) (m_Run_statement_here T) (ok_Run_statement_here T) (hr.mono (by decide)) (pv 0)) pe_int (fun _ _ => rfl)) pe_str (nomark _)) (pss_one (ps_augS (pe_fl (pv 0)) (pe_un un_neg pe_int) pget_list pe_int ip_add set_list)) pss_nil))))))))))), ?_⟩
  obtain ⟨a, r, x, c, rfl, R, hk, ho, hst, hc, q⟩ := h
  refine ⟨_, rfl, a, _, rfl, sl_mode T R .on, ?_⟩
  have R1 := R.to.sc { r with mode := .on }
  have l0 : Li { r with mode := .on } c := ⟨by (have e : c + r.steps = c := by omega); show Rk { r with mode := .on } (c + r.steps); rw [e]; exact hk.sc { r with mode := .on } (e9 := hk.wk.arg), by show r.orders.length ≤ _; rw [ho]; exact Nat.zero_le _, by show r.steps ≤ 300; omega⟩
  refine ⟨fun m σ H2 => ∃ r' x' u, σ = [some (.ref a), u] ∧ RunTo K H (x.F a) H2 a r' x' ∧ r'.run = r.goOn ∧ (r'.mode = .on → Li r' c) ∧ m = if r'.mode = .on then r'.mu + 1 else 0, ⟨_, _, x, _, rfl, R1, rfl, fun _ => l0, rfl⟩, ?_⟩
  rintro m σ H2 ⟨r', x', u, rfl, R', er, hl, rfl⟩
  refine ⟨_, rfl, a, _, rfl, fl_mode T R'.1, rfl, _, rfl, ?_⟩
  by_cases on : r'.mode = .on
  case neg => exact ifF ((mode_dec (n := .on)).trans (decide_eq_false on)) (q H2 x' (by rw [← er, run_stop on]; exact R'))
  refine ifT ((mode_dec (n := .on)).trans (decide_eq_true on)) ⟨fun σ' H' => ∃ x'' u', σ' = [some (.ref a), u'] ∧ RunTo K H (x.F a) H' a r'.turn x'', ?_, ?_⟩
  · rintro σ' H' ⟨x'', u', e, R''⟩
    rcases turn_ok (hl on) on hc with ⟨t1, t2, t3⟩ | t
    · exact ⟨r'.turn.mu + 1, by rw [if_pos on]; omega, r'.turn, x'', u', e, R'', (run_turn hc (hl on) on).symm.trans er, fun _ => t2, by rw [if_pos t1]⟩
    · exact ⟨0, by rw [if_pos on]; omega, r'.turn, x'', u', e, R'', (run_turn hc (hl on) on).symm.trans er, fun h => absurd h t.md.1, by rw [if_neg t.md.1]⟩
  have li := hl on
  have hos := li.os
  have hst' := li.st
  refine ⟨_, rfl, a, _, rfl, fl_statements T R'.1, _, rfl, a, _, rfl, fl_path T R'.1, _, _, r'.prog, r'.path, rfl, R'.1.tp, R'.1.pa, li.rk.path, li.rk.pl8, fun v hv => ?_⟩
  obtain ⟨i, p, ep⟩ := path_cons li.rk.path
  have e2 : pathV r'.path = pathV p ++ [.int (i : Int)] := by rw [ep, pathV_cons]
  have eh : r'.here = (blkR r'.prog r'.path)[i]? := by
    show (blkR r'.prog r'.path)[r'.path.headD 0]? = _
    rw [ep]
    rfl
  have hv0 := hv
  obtain ⟨bp, bxs, rfl, hbt, hbl⟩ := td_blk hv
  refine ⟨_, rfl, a, _, rfl, fl_path T R'.1, _, rfl, x'.pa, _, _, _, rfl, rfl, SqL.of R'.1.pa, by rw [e2]; exact atI_last _ _, _, rfl, bp, bxs, rfl, .inr hbt, _, _, rfl, rfl, _, rfl, ?_⟩
  by_cases hlt : i < bxs.length
  · refine ifT (decide_eq_true (by omega)) ?_
    obtain ⟨s, hs⟩ : ∃ s, (blkR r'.prog r'.path)[i]? = some s := ⟨_, List.getElem?_eq_getElem (by omega)⟩
    obtain ⟨p2, xs2, y, e5, ht2, _, hy, hyd⟩ := td_at hv0 hs
    cases e5
    refine ⟨_, rfl, a, rfl, ml_run R'.1 rfl, _, rfl, _, rfl, a, _, rfl, fl_path T R'.1, _, rfl, x'.pa, _, _, _, rfl, rfl, SqL.of R'.1.pa, by rw [e2]; exact atI_last _ _, bp, xs2, _, _, rfl, rfl, ht2, atI_nat hy, a, r', x', y, s, c, rfl, R'.1, li, eh.trans hs, hyd, hc, fun H' x'' R'' => ⟨x'', _, rfl, ?_⟩⟩
    have et : r'.turn = r'.next s := by unfold RS.turn; rw [eh.trans hs]
    rw [et]
    exact ⟨R''.1, R'.2.trans R''.2⟩
  have hn : r'.here = none := eh.trans (List.getElem?_eq_none (by omega))
  refine ifF (decide_eq_false (by omega)) ⟨_, rfl, a, _, rfl, fl_path T R'.1, _, _, rfl, .inl (SqL.of R'.1.pa), rfl, _, rfl, ?_⟩
  by_cases h1 : r'.path.length = 1
  · refine ifT (by rw [pathV_len, h1]; rfl) ⟨_, rfl, a, rfl, ml_run R'.1 rfl, a, r', x', none, rfl, R'.1, (by omega), fun H' x'' R'' => ⟨x'', _, rfl, ?_⟩⟩
    have et : r'.turn = r'.fin none := by unfold RS.turn; rw [hn]; exact if_pos h1
    rw [et]
    exact ⟨R''.1, R'.2.trans R''.2⟩
  obtain ⟨i2, b, p2, s, blk, ep2, hp2, hs2, hsub⟩ := path_len2 li.rk.path h1
  refine ifF (decide_eq_false (fun q => h1 (by rw [pathV_len] at q; injection q; omega))) ?_
  refine ⟨_, rfl, a, _, rfl, fl_path T R'.1, _, rfl, _, rfl, x'.pa, _, rfl, SqL.of R'.1.pa, fun p3 hp3 => ?_⟩
  rw [ep2, cut_path]
  refine ⟨_, rfl, a, _, rfl, sl_path T (R'.same (Same.new (o := .lst (pathV p2)) hp3)).1 p3, ?_⟩
  have R2 := R'.newPath p2 hp3
  have eh2 : ({ r' with path := p2 } : RS).here = some s := hs2
  have hlen2 : p2.length < 100000000 := by have := li.rk.pl8; rw [ep2] at this; simp only [List.length_cons] at this; omega
  have epop : r'.turn = if s.isIf then ({ r' with path := p2 } : RS).bump else { r' with path := p2 } := by
    unfold RS.turn
    rw [hn]
    show (if r'.path.length = 1 then _ else _) = _
    rw [if_neg h1]
    unfold RS.pop
    dsimp only
    rw [ep2]
    show (if (Option.map Stm.isIf ({ r' with path := p2 } : RS).here).getD false = true then _ else _) = _
    rw [eh2]
    rfl
  have hlook : ∃ cs, (s.isIf = true ∧ ∃ p q, s = .ite cs p q) ∨ (s.isIf = false ∧ ∃ p, s = .whl cs p) := by
    cases s with
    | ite cs p q => exact ⟨cs, .inl ⟨rfl, _, _, rfl⟩⟩
    | whl cs p => exact ⟨cs, .inr ⟨rfl, _, rfl⟩⟩
    | _ => cases hsub
  obtain ⟨cs, hlook⟩ := hlook
  refine ⟨_, rfl, a, rfl, ml_run R2.1 rfl, a, _, _, s, rfl, R2.1, hp2, hlen2, eh2, fun v hv => ?_⟩
  obtain ⟨p4, xs4, sv4, rfl, ht4, h40, _, _⟩ := td_look hv hlook
  refine ⟨p4, xs4, _, _, rfl, rfl, ht4, atI_nat (j := 0) h40, rfl, _, rfl, ?_⟩
  cases hi : s.isIf with
  | true =>
    rw [hi, if_pos rfl] at epop
    refine ifT rfl (bump_ok T R2 (path_ne hp2) rfl fun H' R3 => ⟨{ x' with pa := p3 }, _, rfl, ?_⟩)
    rw [epop]
    exact R3
  | false =>
    rw [hi, if_neg Bool.false_ne_true] at epop
    refine ifF (by decide +kernel) ⟨{ x' with pa := p3 }, _, rfl, ?_⟩
    rw [epop]
    exact R2
theorem sc_Run_take_done : FnScope ["self", "ticket", "worth"] ["self", "ticket", "worth"] (defScope s_Run_take_done) := ⟨rfl, rfl, rfl, by decide +kernel, rfl, by decide +kernel, by decide +kernel⟩
theorem ok_Run_take_done (T : Tx w K mg) : OkD P w K mg base d_Run_take_done 11 ["self", "ticket", "worth"] (spTakeDone K) := by
  have sc := sc_Run_take_done
  refine okD_mk (F_Run_take_done T) sc (fun _ _ _ _ _ _ us hl => match us, hl with | [_, _, _], _ => rfl) ?len ?body
  case len => walk_at "len"
  intro cdv f A outer s H vs Q E hr h
  refine ⟨_, (pss_cons (ps_expr (pe_bm PySem.F.plainAttrs_list PySem.F.slot_list_remove PySem.F.type_list_remove mt_remove (pe_fl (pv 0)) (pa_cons (pv 1) pa_nil)))
    (pss_cons (ps_expr (pe_bm PySem.F.plainAttrs_list PySem.F.slot_list_append PySem.F.type_list_append mt_append (pe_fl (pv 0)) (pa_cons (pe_tup (pa_cons (pv 1) (pa_cons (pv 2) pa_nil))) pa_nil)))
    (pss_one (ps_if ((pw_and (pt_cmpR op_eq (pe_fl (pv 0)) pe_str (nomark _)) (pw_and1 (pt_cmpR op_in_seq (pv 1) (pe_fl (pv 0)) (by rfl))))).pt (pss_cons (ps_expr (pe_m (d := d_Run_go_behind) (c_Run T) (m_Run_go_behind T) (ok_Run_go_behind T) (hr.mono (by decide)) (pv 0) (pa_cons (pv 1) pa_nil)))
    (pss_one (ps_expr (pe_m0 (d := d_Run_go_on) (c_Run T) (m_Run_go_on T) (ok_Run_go_on T) (hr.mono (by decide)) (pv 0))))) pss_nil)))), ?_⟩
  obtain ⟨a, r, x, t, u, c, rfl, R, hk, hm, ho, hst, ht, hu, hc, q⟩ := h
  obtain ⟨j, h1, h2, h3⟩ := erase_ix ht
  refine ⟨_, rfl, a, _, rfl, fl_not_done T R, .inl ⟨rfl, _, SqL.of R.nd⟩, _, rfl, x.nd, r.notDone, t, j, rfl, rfl, R.nd, h1, h2, ?_⟩
  have R1 := R.to.setNd (r.notDone.erase t)
  rw [h3]
  refine ⟨_, rfl, a, _, rfl, fl_answered T R1.1, .inl ⟨rfl, _, SqL.of R1.1.an⟩, _, rfl, _, rfl, (by show 2 ≤ sizeLine; decide), fun p hp => ?_⟩
  have R2 := R1.same (Same.new (o := .tup [.int t, wv u]) hp)
  have hl : x.anV.length < sizeLine := by rw [R2.1.tan.length, List.length_map, sizeLine_eq]; have := hk.an; have := hk.lim; show r.answered.length < _; omega
  refine ⟨x.an, _, _, rfl, rfl, R2.1.an, hl, ?_⟩
  have R3 := R2.addAn (t, u) (v := .ref p) (TD.new upd_same (TDs.mk (td_int.mpr rfl) (TDs.mk (td_wd.mpr rfl) TDs.nil)))
  have k1 := hk.answer t hu (by omega)
  have et : r.takeDone t u = if ({ r with notDone := r.notDone.erase t, answered := r.answered ++ [(t, u)] } : RS).mode = .wait ∧ t ∈ ({ r with notDone := r.notDone.erase t, answered := r.answered ++ [(t, u)] } : RS).awaited then (({ r with notDone := r.notDone.erase t, answered := r.answered ++ [(t, u)] } : RS).behind (some t)).goOn else { r with notDone := r.notDone.erase t, answered := r.answered ++ [(t, u)] } := rfl
  refine ⟨_, rfl, a, _, rfl, fl_mode T R3.1, rfl, _, rfl, ?_⟩
  by_cases hw : r.mode = .wait
  case neg =>
    rw [if_neg (fun z => hw z.1)] at et
    exact ifF ((mode_dec (n := .wait)).trans (decide_eq_false hw)) (ifF rfl (q _ _ (by rw [et]; exact R3)))
  refine ifT ((mode_dec (n := .wait)).trans (decide_eq_true hw)) ⟨_, rfl, _, rfl, a, _, rfl, fl_awaited T R3.1, x.aw, _, rfl, .inl (SqL.of R3.1.aw), rfl, all_flat_ints _, _, rfl, ?_⟩
  have ei : inV (.int t) (r.awaited.map V.int) = decide (some t ∈ r.awaited.map some) := inV_ints (some t) _
  by_cases ha : t ∈ r.awaited
  case neg =>
    rw [if_neg (fun z => ha z.2)] at et
    refine ifF (ei.trans (decide_eq_false fun m => ?_)) (q _ _ (by rw [et]; exact R3))
    obtain ⟨t2, m1, m2⟩ := List.mem_map.mp m
    cases m2
    exact ha m1
  rw [if_pos ⟨hw, ha⟩] at et
  obtain ⟨z, ss, hz⟩ := hm.wait hw
  refine ifT (ei.trans (decide_eq_true (List.mem_map.mpr ⟨t, ha, rfl⟩))) ⟨_, rfl, a, rfl, ml_run R3.1 rfl, _, rfl, a, _, _, .wait z ss, some t, rfl, R3.1, hk.path, hk.pl8, hz, .inl ⟨z, ss, rfl⟩, hk.kn7, fun H4 R4 => ?_⟩
  have k2 := k1.behind (s := .wait z ss) hz (a := some t) (wb_some (hk.ndb t ht).1 (hk.ndb t ht).2) (by omega)
  exact ⟨_, rfl, a, rfl, ml_run R4.1 rfl, a, _, _, c + 2, rfl, R4.1, k2, ho, hst, (by omega), fun H' x' R5 => q H' x' (by rw [et]; exact ⟨R5.1, (R3.2.trans R4.2).trans R5.2⟩)⟩
theorem sc_Run_take_letter : FnScope ["self", "key", "worth"] ["self", "key", "worth"] (defScope s_Run_take_letter) := ⟨rfl, rfl, rfl, by decide +kernel, rfl, by decide +kernel, by decide +kernel⟩
theorem ok_Run_take_letter (T : Tx w K mg) : OkD P w K mg base d_Run_take_letter 11 ["self", "key", "worth"] (spTakeLetter K) := by
  have sc := sc_Run_take_letter
  refine okD_mk (F_Run_take_letter T) sc (fun _ _ _ _ _ _ us hl => match us, hl with | [_, _, _], _ => rfl) ?len ?body
  case len => walk_at "len"
  intro cdv f A outer s H vs Q E hr h
  refine ⟨_, (pss_cons (ps_if (pt_cmp (pc_dnotin (hu_of hr) (pv 1) (pe_fl (pv 0))) (by rfl)) (pss_one (ps_dput (hu_of hr) (pe_fl (pv 0)) (pv 1) (pe_lst pa_nil) rfl)) pss_nil)
    (pss_cons (ps_expr (pe_bm PySem.F.plainAttrs_list PySem.F.slot_list_append PySem.F.type_list_append mt_append (pe_dget (hu_of hr) (pe_fl (pv 0)) (pv 1) (fun _ _ => rfl)) (pa_cons (pv 2) pa_nil)))
    (pss_one (ps_if ((pw_and (pt_cmpR op_eq (pe_fl (pv 0)) pe_str (nomark _)) (pw_and1 (pt_cmpR op_eq (pe_ix ix_tup (pe_m0 (d := d_Run_statement_here) (c_Run T) (m_Run_statement_here T) (ok_Run_statement_here T) (hr.mono (by decide)) (pv 0)) pe_int (fun _ _ => rfl)) (pv 1) (nomark _))))).pt (pss_cons (ps_expr (pe_m (d := d_Run_go_behind) (c_Run T) (m_Run_go_behind T) (ok_Run_go_behind T) (hr.mono (by decide)) (pv 0) (pa_cons (pe_m (d := d_Run_first_letter) (c_Run T) (m_Run_first_letter T) (ok_Run_first_letter T) (hr.mono (by decide)) (pv 0) (pa_cons (pv 1) pa_nil)) pa_nil)))
    (pss_one (ps_expr (pe_m0 (d := d_Run_go_on) (c_Run T) (m_Run_go_on T) (ok_Run_go_on T) (hr.mono (by decide)) (pv 0))))) pss_nil)))), ?_⟩
  obtain ⟨a, r, x, t, u, c, rfl, R, hk, hm, ho, hst, hu, hc, q⟩ := h
  rename Str => k
  have k1 := hk.hears k hu (by omega)
  have et : r.takeLetter k u = if ({ r with heard := pt r.heard k ((lk r.heard k).getD [] ++ [u]) } : RS).mode = .hear ∧ r.hereKey = k then ((({ r with heard := pt r.heard k ((lk r.heard k).getD [] ++ [u]) } : RS).letter k).behind (({ r with heard := pt r.heard k ((lk r.heard k).getD [] ++ [u]) } : RS).letterW k)).goOn else { r with heard := pt r.heard k ((lk r.heard k).getD [] ++ [u]) } := rfl
  refine ⟨_, rfl, _, rfl, a, _, rfl, fl_heard T R, x.he, _, rfl, R.heGet k, _, rfl, ?_⟩
  cases e : lk r.heard k with
  | none =>
    have hx := R.hsN e
    refine ifT (by rw [hx]; rfl) ⟨Nat.zero_le _, fun p hp => ⟨_, rfl, a, _, rfl, fl_heard T (R.same (Same.new (o := .lst []) hp)), _, rfl, x.he, _, rfl, DPut.k (k := Sum.inr k) (R.same (Same.new (o := .lst []) hp)).he (by rw [mk2_length, ← PK2.len R.hl, sizeLine_eq]; have := hk.hd; have := hk.lim; omega), ?_⟩⟩
    have R1 := R.to.newKey e hp
    generalize hHH : upd (upd H p (.lst [])) x.he (.dK (putK (mk2 Sum.inr V.ref x.hs) (Sum.inr k) (.ref p))) = HH at *
    generalize hX1 : ({ x with hs := pt x.hs k p } : RA) = X1 at *
    generalize hh1 : pt r.heard k [] = h1 at *
    have hw1 : lk h1 k = some [] := by rw [← hh1, lk_pt, if_pos rfl]
    have hn1 : (h1.map (·.1)).Nodup := by rw [← hh1]; exact keys_pt_nodup k _ hk.hkd
    obtain ⟨ws0, hws0⟩ : ∃ ws0 : List W, ws0 = [] := ⟨_, rfl⟩
    have hpt : pt r.heard k ((lk r.heard k).getD [] ++ [u]) = pt h1 k (ws0 ++ [u]) := by rw [← hh1, pt_pt, e, hws0]; rfl
    have hwl : ws0.length ≤ c := by rw [hws0]; exact Nat.zero_le _
    rw [← hws0] at hw1
    have hb1 : ∃ b, lk X1.hs k = some b ∧ HH b = some (.lst (ws0.map wv)) := R1.1.hsB hw1
    obtain ⟨b, hb, hB⟩ := hb1
    have g := R1.1.heGet k
    rw [hb] at g
    have hl0 : (ws0.map wv).length < sizeLine := by rw [List.length_map, sizeLine_eq]; have := hk.lim; omega
    refine ⟨_, rfl, a, _, rfl, fl_heard T R1.1, _, rfl, _, _, rfl, g, .inl ⟨rfl, _, SqL.of hB⟩, _, rfl, b, _, _, rfl, rfl, hB, hl0, ?_⟩
    have R2 := R1.setHeard hn1 hw1 hb (ws0 ++ [u])
    rw [List.map_append] at R2
    have R3 : RunTo K H (x.F a) (upd HH b (.lst (ws0.map wv ++ [wv u]))) a { r with heard := pt r.heard k ((lk r.heard k).getD [] ++ [u]) } X1 := by
      have : ({ r with heard := pt r.heard k ((lk r.heard k).getD [] ++ [u]) } : RS) = { r with heard := pt h1 k (ws0 ++ [u]) } := by rw [hpt]
      rw [this]
      exact R2
    refine ⟨_, rfl, a, _, rfl, fl_mode T R3.1, rfl, _, rfl, ?_⟩
    by_cases hw : r.mode = .hear
    case neg =>
      rw [if_neg (fun z => hw z.1)] at et
      exact ifF ((mode_dec (n := .hear)).trans (decide_eq_false hw)) (ifF rfl (q _ _ (by rw [et]; exact R3)))
    obtain ⟨z, kk, hz⟩ := hm.hear hw
    refine ifT ((mode_dec (n := .hear)).trans (decide_eq_true hw)) ⟨_, rfl, a, rfl, ml_run R3.1 rfl, a, _, _, .hear z kk, rfl, R3.1, hk.path, hk.pl8, hz, fun v hv => ?_⟩
    simp only [Stm.d] at hv
    obtain ⟨p9, v1, v2, v3, rfl, ht9, g1, g2, g3⟩ := td3 hv
    cases td_str.mp g3
    have ekey : r.hereKey = kk := by unfold RS.hereKey; rw [hz]; rfl
    refine ⟨p9, _, _, _, rfl, rfl, ht9, rfl, _, rfl, rfl, _, rfl, ?_⟩
    by_cases hkk : kk = k
    case neg =>
      rw [if_neg (fun z => hkk (ekey.symm.trans z.2))] at et
      exact ifF (decide_eq_false fun z => hkk (by injection z)) (q _ _ (by rw [et]; exact R3))
    rw [if_pos ⟨hw, ekey.trans hkk⟩] at et
    obtain ⟨u0, us, eh⟩ := lk_hears r k u
    obtain ⟨l1, l2, l3, l4, l5, l6⟩ := k1.letter eh
    rw [letterW_eq (r := { r with heard := pt r.heard k ((lk r.heard k).getD [] ++ [u]) }) eh] at et
    refine ifT (decide_eq_true (by rw [hkk])) ⟨_, rfl, a, rfl, ml_run R3.1 rfl, _, rfl, a, rfl, ml_run R3.1 rfl, _, rfl, a, _, _, k, u0, us, rfl, R3.1, k1.hkd, eh, fun H4 x4 R4 => ?_⟩
    have eh1 : (({ r with heard := pt r.heard k ((lk r.heard k).getD [] ++ [u]) } : RS).letter k).here = some (.hear z kk) := by rw [l2]; exact hz
    refine ⟨a, _, x4, .hear z kk, u0, rfl, R4.1, l1.path, l1.pl8, eh1, .inr ⟨z, kk, rfl⟩, l1.kn7, fun H5 R5 => ?_⟩
    have k2 := l1.behind eh1 l3 (by omega)
    refine ⟨_, rfl, a, rfl, ml_run R5.1 rfl, a, _, _, c + 2, rfl, R5.1, k2, ?_, ?_, (by omega), fun H' x' R6 => q H' x' (by rw [et]; exact ⟨R6.1, ((R3.2.trans R4.2).trans R5.2).trans R6.2⟩)⟩
    · rw [(behind_keeps _ _).1, l4]; exact ho
    · rw [(behind_keeps _ _).2.1, l5]; exact hst
  | some ws0 =>
    obtain ⟨b0, hb0, _⟩ := R.hsB e
    refine ifF (by rw [hb0]; rfl) ?_
    have R1 : RunTo K H (x.F a) H a { r with heard := r.heard } x := R.to
    have hw1 : lk r.heard k = some ws0 := e
    have hn1 := hk.hkd
    have hpt : pt r.heard k ((lk r.heard k).getD [] ++ [u]) = pt r.heard k (ws0 ++ [u]) := by rw [e]; rfl
    have hwl := hk.hds _ (lk_mem e)
    simp only at hwl
    have hb1 : ∃ b, lk x.hs k = some b ∧ H b = some (.lst (ws0.map wv)) := R1.1.hsB hw1
    obtain ⟨b, hb, hB⟩ := hb1
    have g := R1.1.heGet k
    rw [hb] at g
    have hl0 : (ws0.map wv).length < sizeLine := by rw [List.length_map, sizeLine_eq]; have := hk.lim; omega
    refine ⟨_, rfl, a, _, rfl, fl_heard T R1.1, _, rfl, _, _, rfl, g, .inl ⟨rfl, _, SqL.of hB⟩, _, rfl, b, _, _, rfl, rfl, hB, hl0, ?_⟩
    have R2 := R1.setHeard hn1 hw1 hb (ws0 ++ [u])
    rw [List.map_append] at R2
    have R3 : RunTo K H (x.F a) (upd H b (.lst (ws0.map wv ++ [wv u]))) a { r with heard := pt r.heard k ((lk r.heard k).getD [] ++ [u]) } x := by
      have : ({ r with heard := pt r.heard k ((lk r.heard k).getD [] ++ [u]) } : RS) = { r with heard := pt r.heard k (ws0 ++ [u]) } := by rw [hpt]
      rw [this]
      exact R2
    refine ⟨_, rfl, a, _, rfl, fl_mode T R3.1, rfl, _, rfl, ?_⟩
    by_cases hw : r.mode = .hear
    case neg =>
      rw [if_neg (fun z => hw z.1)] at et
      exact ifF ((mode_dec (n := .hear)).trans (decide_eq_false hw)) (ifF rfl (q _ _ (by rw [et]; exact R3)))
    obtain ⟨z, kk, hz⟩ := hm.hear hw
    refine ifT ((mode_dec (n := .hear)).trans (decide_eq_true hw)) ⟨_, rfl, a, rfl, ml_run R3.1 rfl, a, _, _, .hear z kk, rfl, R3.1, hk.path, hk.pl8, hz, fun v hv => ?_⟩
    simp only [Stm.d] at hv
    obtain ⟨p9, v1, v2, v3, rfl, ht9, g1, g2, g3⟩ := td3 hv
    cases td_str.mp g3
    have ekey : r.hereKey = kk := by unfold RS.hereKey; rw [hz]; rfl
    refine ⟨p9, _, _, _, rfl, rfl, ht9, rfl, _, rfl, rfl, _, rfl, ?_⟩
    by_cases hkk : kk = k
    case neg =>
      rw [if_neg (fun z => hkk (ekey.symm.trans z.2))] at et
      exact ifF (decide_eq_false fun z => hkk (by injection z)) (q _ _ (by rw [et]; exact R3))
    rw [if_pos ⟨hw, ekey.trans hkk⟩] at et
    obtain ⟨u0, us, eh⟩ := lk_hears r k u
    obtain ⟨l1, l2, l3, l4, l5, l6⟩ := k1.letter eh
    rw [letterW_eq (r := { r with heard := pt r.heard k ((lk r.heard k).getD [] ++ [u]) }) eh] at et
    refine ifT (decide_eq_true (by rw [hkk])) ⟨_, rfl, a, rfl, ml_run R3.1 rfl, _, rfl, a, rfl, ml_run R3.1 rfl, _, rfl, a, _, _, k, u0, us, rfl, R3.1, k1.hkd, eh, fun H4 x4 R4 => ?_⟩
    have eh1 : (({ r with heard := pt r.heard k ((lk r.heard k).getD [] ++ [u]) } : RS).letter k).here = some (.hear z kk) := by rw [l2]; exact hz
    refine ⟨a, _, x4, .hear z kk, u0, rfl, R4.1, l1.path, l1.pl8, eh1, .inr ⟨z, kk, rfl⟩, l1.kn7, fun H5 R5 => ?_⟩
    have k2 := l1.behind eh1 l3 (by omega)
    refine ⟨_, rfl, a, rfl, ml_run R5.1 rfl, a, _, _, c + 2, rfl, R5.1, k2, ?_, ?_, (by omega), fun H' x' R6 => q H' x' (by rw [et]; exact ⟨R6.1, ((R3.2.trans R4.2).trans R5.2).trans R6.2⟩)⟩
    · rw [(behind_keeps _ _).1, l4]; exact ho
    · rw [(behind_keeps _ _).2.1, l5]; exact hst
theorem sc_Run_take : FnScope ["self", "happening", "word", "moment"] ["self", "happening"] (defScope s_Run_take) := ⟨rfl, rfl, rfl, by decide +kernel, rfl, by decide +kernel, by decide +kernel⟩
theorem ok_Run_take (T : Tx w K mg) : OkD P w K mg base d_Run_take 12 ["self", "happening"] (spTake K) := by
  have sc := sc_Run_take
  refine okD_mk (F_Run_take T) sc (fun _ _ _ _ _ _ us hl => match us, hl with | [_, _], _ => rfl) ?len ?body
  case len => walk_at "len"
  intro cdv f A outer s H vs Q E hr h
  refine ⟨_, (pss_cons (ps_fl (pv 0) (pe_lst pa_nil))
    (pss_cons (ps_fl (pv 0) pe_int)
    (pss_cons (ps_asg (pe_slice sl_tup (pv 1) po_none (po_some pe_int)) (pg_tup (by rfl) (pgs_cons (pg_name (i := 2) sc.nd rfl (Or.inl rfl)) (pgs_cons (pg_name (i := 3) sc.nd rfl (Or.inl rfl)) pgs_nil))))
    (pss_cons (ps_if ((pw_and (pt_cmpR op_eq (pe_fl (pv 0)) pe_str (nomark _)) (pw_and1 (pt_cmpR op_eq (pv 2) pe_str (nomark _))))).pt (pss_cons (ps_fl (pv 0) (pe_callB (call_max2 rfl) (by rfl) (z_max T) (by decide +kernel) (pa_cons (pe_fl (pv 0)) (pa_cons (pv 3) pa_nil))))
    (pss_cons (ps_fl (pv 0) (pe_ix ix_tup (pv 1) pe_int (fun _ _ => rfl)))
    (pss_one (ps_expr (pe_m0 (d := d_Run_go_on) (c_Run T) (m_Run_go_on T) (ok_Run_go_on T) (hr.mono (by decide)) (pv 0)))))) (pss_one (ps_if ((pw_and (pt_cmpR op_in_seq (pe_fl (pv 0)) (pe_tup (pa_cons pe_str (pa_cons pe_str pa_nil))) (by rfl)) (pw_and (pt_cmpR op_eq (pv 2) pe_str (nomark _)) (pw_and1 (pt_cmpR op_in_seq (pe_ix ix_tup (pv 1) pe_int (fun _ _ => rfl)) (pe_fl (pv 0)) (by rfl)))))).pt (pss_cons (ps_fl (pv 0) (pe_callB (call_max2 rfl) (by rfl) (z_max T) (by decide +kernel) (pa_cons (pe_fl (pv 0)) (pa_cons (pv 3) pa_nil))))
    (pss_one (ps_expr (pe_m (d := d_Run_take_done) (c_Run T) (m_Run_take_done T) (ok_Run_take_done T) (hr.mono (by decide)) (pv 0) (pa_cons (pe_ix ix_tup (pv 1) pe_int (fun _ _ => rfl)) (pa_cons (pe_ix ix_tup (pv 1) pe_int (fun _ _ => rfl)) pa_nil)))))) (pss_one (ps_if ((pw_and (pt_cmpR op_in_seq (pe_fl (pv 0)) (pe_tup (pa_cons pe_str (pa_cons pe_str pa_nil))) (by rfl)) (pw_and1 (pt_cmpR op_eq (pv 2) pe_str (nomark _))))).pt (pss_cons (ps_fl (pv 0) (pe_callB (call_max2 rfl) (by rfl) (z_max T) (by decide +kernel) (pa_cons (pe_fl (pv 0)) (pa_cons (pv 3) pa_nil))))
    (pss_one (ps_expr (pe_m (d := d_Run_take_letter) (c_Run T) (m_Run_take_letter T) (ok_Run_take_letter T) (hr.mono (by decide)) (pv 0) (pa_cons (pe_ix ix_tup (pv 1) pe_int (fun _ _ => rfl)) (pa_cons (pe_ix ix_tup (pv 1) pe_int (fun _ _ => rfl)) pa_nil)))))) pss_nil)))))
    (pss_one (ps_ret (pe_callTy call_list_of (by rfl) (z_list T) (by decide +kernel) (pa_cons (pe_fl (pv 0)) pa_nil)))))))), ?_⟩
  obtain ⟨a, r, x, h, hv, c, rfl, R, hk, ht, hok, hc, q⟩ := h
  have k0 := hk.rk.fresh
  refine ⟨Nat.zero_le _, fun p1 hp1 => ⟨_, rfl, a, _, rfl, sl_orders T (R.same (Same.new (o := .lst []) hp1)) p1, ?_⟩⟩
  have R1 := R.to.newOr hp1
  refine ⟨_, rfl, a, _, rfl, sl_steps T R1.1 0, ?_⟩
  have R2 := R1.sc { r with orders := [], steps := 0 }
  cases h with
  | «begin» m u =>
    simp only [Hap.d] at ht
    obtain ⟨p, v1, v2, v3, rfl, ht, h1, h2, h3⟩ := td3 ht
    cases td_str.mp h1
    cases td_int.mp h2
    cases td_wd.mp h3
    refine ⟨_, rfl, _, rfl, p, _, rfl, Fx.t R2.2.fx ht, (by show ¬ (0 = 0 ∧ 2 = 3); decide), fun p2 hp2 => ⟨p2, _, rfl, SqT.of upd_same, rfl, _, _, rfl, _, _, rfl, rfl, ?_⟩⟩
    have R3 := R2.same (Same.new (o := .tup [.str "begin", .int m]) hp2)
    by_cases hn : r.mode = .new
    · refine ⟨_, rfl, a, _, rfl, fl_mode T R3.1, rfl, _, rfl, ifT ((mode_dec (n := .new)).trans (decide_eq_true hn)) ⟨_, rfl, rfl, _, rfl, ifT (by decide +kernel) ?_⟩⟩
      refine ⟨_, rfl, a, _, rfl, fl_today T R3.1, _, rfl, _, _, rfl, _, rfl, a, _, rfl, sl_today T R3.1 _, ?_⟩
      have R4 := R3.sc { r with orders := [], steps := 0, today := max r.today m }
      rw [max_if r.today m]
      refine ⟨_, rfl, p, _, _, _, rfl, rfl, Fx.t R4.2.fx ht, rfl, _, rfl, a, _, rfl, sl_arg T R4.1 u, ?_⟩
      have R5 := R4.sc { r with orders := [], steps := 0, today := max r.today m, arg := u }
      have k1 : Rk { r with orders := [], steps := 0, today := max r.today m, arg := u } c := (k0.day (max r.today m)).sc { r with orders := [], steps := 0, today := max r.today m, arg := u } (e9 := hok)
      have et : r.take (.begin m u) = RS.goOn { r with orders := [], steps := 0, today := max r.today m, arg := u } := if_pos hn
      rw [et] at q
      refine ⟨_, rfl, a, rfl, ml_run R5.1 rfl, a, _, _, c, rfl, R5.1, k1, rfl, rfl, (by omega), fun H6 x6 R6 => ?_⟩
      have R7 : RunTo K H (x.F a) H6 a _ x6 := ⟨R6.1, R5.2.trans R6.2⟩
      exact ⟨_, rfl, a, _, rfl, fl_orders T R7.1, _, _, rfl, .inl (SqL.of R7.1.orr), fun l hl => q _ _ l _ R7 hl R7.1.tor⟩
    by_cases hi : r.mode = .wait ∨ r.mode = .hear
    · refine ⟨_, rfl, a, _, rfl, fl_mode T R3.1, rfl, _, rfl, ifF ((mode_dec (n := .new)).trans (decide_eq_false hn)) (ifF rfl ?_)⟩
      refine ⟨_, rfl, a, _, rfl, fl_mode T R3.1, (by show 2 ≤ sizeLine; decide), fun p4 hp4 => ⟨p4, _, rfl, .inr (SqT.of upd_same), rfl, rfl, _, rfl, ?_⟩⟩
      have R4 := R3.same (Same.new (o := .tup [.str "wait", .str "hear"]) hp4)
      refine ifT ((mode_in r.mode).trans (decide_eq_true hi)) ⟨_, rfl, rfl, _, rfl, ifF (by decide +kernel) (ifF rfl ?_)⟩
      refine ⟨_, rfl, a, _, rfl, fl_mode T R4.1, (by show 2 ≤ sizeLine; decide), fun p5 hp5 => ⟨p5, _, rfl, .inr (SqT.of upd_same), rfl, rfl, _, rfl, ?_⟩⟩
      have R5 := R4.same (Same.new (o := .tup [.str "wait", .str "hear"]) hp5)
      have et : r.take (.begin m u) = { r with orders := [], steps := 0 } := if_neg hn
      rw [et] at q
      exact ifT ((mode_in r.mode).trans (decide_eq_true hi)) ⟨_, rfl, rfl, _, rfl, ifF (by decide +kernel) ⟨_, rfl, a, _, rfl, fl_orders T R5.1, _, _, rfl, .inl (SqL.of R5.1.orr), fun l hl => q _ _ l _ R5 hl R5.1.tor⟩⟩
    · refine ⟨_, rfl, a, _, rfl, fl_mode T R3.1, rfl, _, rfl, ifF ((mode_dec (n := .new)).trans (decide_eq_false hn)) (ifF rfl ?_)⟩
      refine ⟨_, rfl, a, _, rfl, fl_mode T R3.1, (by show 2 ≤ sizeLine; decide), fun p4 hp4 => ⟨p4, _, rfl, .inr (SqT.of upd_same), rfl, rfl, _, rfl, ?_⟩⟩
      have R4 := R3.same (Same.new (o := .tup [.str "wait", .str "hear"]) hp4)
      refine ifF ((mode_in r.mode).trans (decide_eq_false hi)) (ifF rfl ?_)
      refine ⟨_, rfl, a, _, rfl, fl_mode T R4.1, (by show 2 ≤ sizeLine; decide), fun p5 hp5 => ⟨p5, _, rfl, .inr (SqT.of upd_same), rfl, rfl, _, rfl, ?_⟩⟩
      have R5 := R4.same (Same.new (o := .tup [.str "wait", .str "hear"]) hp5)
      have et : r.take (.begin m u) = { r with orders := [], steps := 0 } := if_neg hn
      rw [et] at q
      exact ifF ((mode_in r.mode).trans (decide_eq_false hi)) (ifF rfl ⟨_, rfl, a, _, rfl, fl_orders T R5.1, _, _, rfl, .inl (SqL.of R5.1.orr), fun l hl => q _ _ l _ R5 hl R5.1.tor⟩)
  | done m t u =>
    simp only [Hap.d] at ht
    obtain ⟨p, v1, v2, v3, v4, rfl, ht, h1, h2, h3, h4⟩ := td4 ht
    cases td_str.mp h1
    cases td_int.mp h2
    cases td_int.mp h3
    cases td_wd.mp h4
    refine ⟨_, rfl, _, rfl, p, _, rfl, Fx.t R2.2.fx ht, (by show ¬ (0 = 0 ∧ 2 = 4); decide), fun p2 hp2 => ⟨p2, _, rfl, SqT.of upd_same, rfl, _, _, rfl, _, _, rfl, rfl, ?_⟩⟩
    have R3 := R2.same (Same.new (o := .tup [.str "done", .int m]) hp2)
    by_cases hn : r.mode = .new
    · have hi : ¬ (r.mode = .wait ∨ r.mode = .hear) := fun z => by rw [hn] at z; rcases z with z | z <;> cases z
      refine ⟨_, rfl, a, _, rfl, fl_mode T R3.1, rfl, _, rfl, ifT ((mode_dec (n := .new)).trans (decide_eq_true hn)) ⟨_, rfl, rfl, _, rfl, ifF (by decide +kernel) ?_⟩⟩
      refine ⟨_, rfl, a, _, rfl, fl_mode T R3.1, (by show 2 ≤ sizeLine; decide), fun p4 hp4 => ⟨p4, _, rfl, .inr (SqT.of upd_same), rfl, rfl, _, rfl, ?_⟩⟩
      have R4 := R3.same (Same.new (o := .tup [.str "wait", .str "hear"]) hp4)
      refine ifF ((mode_in r.mode).trans (decide_eq_false hi)) (ifF rfl ?_)
      refine ⟨_, rfl, a, _, rfl, fl_mode T R4.1, (by show 2 ≤ sizeLine; decide), fun p5 hp5 => ⟨p5, _, rfl, .inr (SqT.of upd_same), rfl, rfl, _, rfl, ?_⟩⟩
      have R5 := R4.same (Same.new (o := .tup [.str "wait", .str "hear"]) hp5)
      have et : r.take (.done m t u) = { r with orders := [], steps := 0 } := if_neg fun z => hi z.1
      rw [et] at q
      exact ifF ((mode_in r.mode).trans (decide_eq_false hi)) (ifF rfl ⟨_, rfl, a, _, rfl, fl_orders T R5.1, _, _, rfl, .inl (SqL.of R5.1.orr), fun l hl => q _ _ l _ R5 hl R5.1.tor⟩)
    by_cases hi : r.mode = .wait ∨ r.mode = .hear
    · refine ⟨_, rfl, a, _, rfl, fl_mode T R3.1, rfl, _, rfl, ifF ((mode_dec (n := .new)).trans (decide_eq_false hn)) (ifF rfl ?_)⟩
      refine ⟨_, rfl, a, _, rfl, fl_mode T R3.1, (by show 2 ≤ sizeLine; decide), fun p4 hp4 => ⟨p4, _, rfl, .inr (SqT.of upd_same), rfl, rfl, _, rfl, ?_⟩⟩
      have R4 := R3.same (Same.new (o := .tup [.str "wait", .str "hear"]) hp4)
      refine ifT ((mode_in r.mode).trans (decide_eq_true hi)) ⟨_, rfl, rfl, _, rfl, ifT (by decide +kernel) ⟨_, rfl, p, _, _, _, rfl, rfl, Fx.t R4.2.fx ht, rfl, _, rfl, a, _, rfl, fl_not_done T R4.1, x.nd, _, rfl, .inl (SqL.of R4.1.nd), rfl, all_flat_ints _, _, rfl, ?_⟩⟩
      have ei : inV (.int t) (r.notDone.map V.int) = decide (some t ∈ r.notDone.map some) := inV_ints (some t) _
      by_cases hmem : t ∈ r.notDone
      case neg =>
        refine ifF (ei.trans (decide_eq_false fun m => (by obtain ⟨t2, m1, m2⟩ := List.mem_map.mp m; cases m2; exact hmem m1))) ?_
        refine ⟨_, rfl, a, _, rfl, fl_mode T R4.1, (by show 2 ≤ sizeLine; decide), fun p5 hp5 => ⟨p5, _, rfl, .inr (SqT.of upd_same), rfl, rfl, _, rfl, ?_⟩⟩
        have R5 := R4.same (Same.new (o := .tup [.str "wait", .str "hear"]) hp5)
        have et : r.take (.done m t u) = { r with orders := [], steps := 0 } := if_neg fun z => hmem z.2
        rw [et] at q
        exact ifT ((mode_in r.mode).trans (decide_eq_true hi)) ⟨_, rfl, rfl, _, rfl, ifF (by decide +kernel) ⟨_, rfl, a, _, rfl, fl_orders T R5.1, _, _, rfl, .inl (SqL.of R5.1.orr), fun l hl => q _ _ l _ R5 hl R5.1.tor⟩⟩
      refine ifT (ei.trans (decide_eq_true (List.mem_map.mpr ⟨t, hmem, rfl⟩))) ?_
      refine ⟨_, rfl, a, _, rfl, fl_today T R4.1, _, rfl, _, _, rfl, _, rfl, a, _, rfl, sl_today T R4.1 _, ?_⟩
      have R5 := R4.sc { r with orders := [], steps := 0, today := max r.today m }
      rw [max_if r.today m]
      have et : r.take (.done m t u) = RS.takeDone { r with orders := [], steps := 0, today := max r.today m } t u := if_pos ⟨hi, hmem⟩
      rw [et] at q
      refine ⟨_, rfl, a, rfl, ml_run R5.1 rfl, _, rfl, p, _, _, _, rfl, rfl, Fx.t R5.2.fx ht, rfl, _, rfl, p, _, _, _, rfl, rfl, Fx.t R5.2.fx ht, rfl, a, _, _, t, u, c, rfl, R5.1, k0.day (max r.today m), hk.rm.sc rfl rfl, rfl, rfl, hmem, hok, hc, fun H6 x6 R6 => ?_⟩
      have R7 : RunTo K H (x.F a) H6 a _ x6 := ⟨R6.1, R5.2.trans R6.2⟩
      exact ⟨_, rfl, a, _, rfl, fl_orders T R7.1, _, _, rfl, .inl (SqL.of R7.1.orr), fun l hl => q _ _ l _ R7 hl R7.1.tor⟩
    · refine ⟨_, rfl, a, _, rfl, fl_mode T R3.1, rfl, _, rfl, ifF ((mode_dec (n := .new)).trans (decide_eq_false hn)) (ifF rfl ?_)⟩
      refine ⟨_, rfl, a, _, rfl, fl_mode T R3.1, (by show 2 ≤ sizeLine; decide), fun p4 hp4 => ⟨p4, _, rfl, .inr (SqT.of upd_same), rfl, rfl, _, rfl, ?_⟩⟩
      have R4 := R3.same (Same.new (o := .tup [.str "wait", .str "hear"]) hp4)
      refine ifF ((mode_in r.mode).trans (decide_eq_false hi)) (ifF rfl ?_)
      refine ⟨_, rfl, a, _, rfl, fl_mode T R4.1, (by show 2 ≤ sizeLine; decide), fun p5 hp5 => ⟨p5, _, rfl, .inr (SqT.of upd_same), rfl, rfl, _, rfl, ?_⟩⟩
      have R5 := R4.same (Same.new (o := .tup [.str "wait", .str "hear"]) hp5)
      have et : r.take (.done m t u) = { r with orders := [], steps := 0 } := if_neg fun z => hi z.1
      rw [et] at q
      exact ifF ((mode_in r.mode).trans (decide_eq_false hi)) (ifF rfl ⟨_, rfl, a, _, rfl, fl_orders T R5.1, _, _, rfl, .inl (SqL.of R5.1.orr), fun l hl => q _ _ l _ R5 hl R5.1.tor⟩)
  | letter m k u =>
    simp only [Hap.d] at ht
    obtain ⟨p, v1, v2, v3, v4, rfl, ht, h1, h2, h3, h4⟩ := td4 ht
    cases td_str.mp h1
    cases td_int.mp h2
    cases td_str.mp h3
    cases td_wd.mp h4
    refine ⟨_, rfl, _, rfl, p, _, rfl, Fx.t R2.2.fx ht, (by show ¬ (0 = 0 ∧ 2 = 4); decide), fun p2 hp2 => ⟨p2, _, rfl, SqT.of upd_same, rfl, _, _, rfl, _, _, rfl, rfl, ?_⟩⟩
    have R3 := R2.same (Same.new (o := .tup [.str "letter", .int m]) hp2)
    by_cases hn : r.mode = .new
    · have hi : ¬ (r.mode = .wait ∨ r.mode = .hear) := fun z => by rw [hn] at z; rcases z with z | z <;> cases z
      refine ⟨_, rfl, a, _, rfl, fl_mode T R3.1, rfl, _, rfl, ifT ((mode_dec (n := .new)).trans (decide_eq_true hn)) ⟨_, rfl, rfl, _, rfl, ifF (by decide +kernel) ?_⟩⟩
      refine ⟨_, rfl, a, _, rfl, fl_mode T R3.1, (by show 2 ≤ sizeLine; decide), fun p4 hp4 => ⟨p4, _, rfl, .inr (SqT.of upd_same), rfl, rfl, _, rfl, ?_⟩⟩
      have R4 := R3.same (Same.new (o := .tup [.str "wait", .str "hear"]) hp4)
      refine ifF ((mode_in r.mode).trans (decide_eq_false hi)) (ifF rfl ?_)
      refine ⟨_, rfl, a, _, rfl, fl_mode T R4.1, (by show 2 ≤ sizeLine; decide), fun p5 hp5 => ⟨p5, _, rfl, .inr (SqT.of upd_same), rfl, rfl, _, rfl, ?_⟩⟩
      have R5 := R4.same (Same.new (o := .tup [.str "wait", .str "hear"]) hp5)
      have et : r.take (.letter m k u) = { r with orders := [], steps := 0 } := if_neg hi
      rw [et] at q
      exact ifF ((mode_in r.mode).trans (decide_eq_false hi)) (ifF rfl ⟨_, rfl, a, _, rfl, fl_orders T R5.1, _, _, rfl, .inl (SqL.of R5.1.orr), fun l hl => q _ _ l _ R5 hl R5.1.tor⟩)
    by_cases hi : r.mode = .wait ∨ r.mode = .hear
    · refine ⟨_, rfl, a, _, rfl, fl_mode T R3.1, rfl, _, rfl, ifF ((mode_dec (n := .new)).trans (decide_eq_false hn)) (ifF rfl ?_)⟩
      refine ⟨_, rfl, a, _, rfl, fl_mode T R3.1, (by show 2 ≤ sizeLine; decide), fun p4 hp4 => ⟨p4, _, rfl, .inr (SqT.of upd_same), rfl, rfl, _, rfl, ?_⟩⟩
      have R4 := R3.same (Same.new (o := .tup [.str "wait", .str "hear"]) hp4)
      refine ifT ((mode_in r.mode).trans (decide_eq_true hi)) ⟨_, rfl, rfl, _, rfl, ifF (by decide +kernel) (ifF rfl ?_)⟩
      refine ⟨_, rfl, a, _, rfl, fl_mode T R4.1, (by show 2 ≤ sizeLine; decide), fun p5 hp5 => ⟨p5, _, rfl, .inr (SqT.of upd_same), rfl, rfl, _, rfl, ?_⟩⟩
      have R5 := R4.same (Same.new (o := .tup [.str "wait", .str "hear"]) hp5)
      refine ifT ((mode_in r.mode).trans (decide_eq_true hi)) ⟨_, rfl, rfl, _, rfl, ifT (by decide +kernel) ?_⟩
      refine ⟨_, rfl, a, _, rfl, fl_today T R5.1, _, rfl, _, _, rfl, _, rfl, a, _, rfl, sl_today T R5.1 _, ?_⟩
      have R6 := R5.sc { r with orders := [], steps := 0, today := max r.today m }
      rw [max_if r.today m]
      have et : r.take (.letter m k u) = RS.takeLetter { r with orders := [], steps := 0, today := max r.today m } k u := if_pos hi
      rw [et] at q
      refine ⟨_, rfl, a, rfl, ml_run R6.1 rfl, _, rfl, p, _, _, _, rfl, rfl, Fx.t R6.2.fx ht, rfl, _, rfl, p, _, _, _, rfl, rfl, Fx.t R6.2.fx ht, rfl, a, _, _, k, u, c, rfl, R6.1, k0.day (max r.today m), hk.rm.sc rfl rfl, rfl, rfl, hok, hc, fun H7 x7 R7 => ?_⟩
      have R8 : RunTo K H (x.F a) H7 a _ x7 := ⟨R7.1, R6.2.trans R7.2⟩
      exact ⟨_, rfl, a, _, rfl, fl_orders T R8.1, _, _, rfl, .inl (SqL.of R8.1.orr), fun l hl => q _ _ l _ R8 hl R8.1.tor⟩
    · refine ⟨_, rfl, a, _, rfl, fl_mode T R3.1, rfl, _, rfl, ifF ((mode_dec (n := .new)).trans (decide_eq_false hn)) (ifF rfl ?_)⟩
      refine ⟨_, rfl, a, _, rfl, fl_mode T R3.1, (by show 2 ≤ sizeLine; decide), fun p4 hp4 => ⟨p4, _, rfl, .inr (SqT.of upd_same), rfl, rfl, _, rfl, ?_⟩⟩
      have R4 := R3.same (Same.new (o := .tup [.str "wait", .str "hear"]) hp4)
      refine ifF ((mode_in r.mode).trans (decide_eq_false hi)) (ifF rfl ?_)
      refine ⟨_, rfl, a, _, rfl, fl_mode T R4.1, (by show 2 ≤ sizeLine; decide), fun p5 hp5 => ⟨p5, _, rfl, .inr (SqT.of upd_same), rfl, rfl, _, rfl, ?_⟩⟩
      have R5 := R4.same (Same.new (o := .tup [.str "wait", .str "hear"]) hp5)
      have et : r.take (.letter m k u) = { r with orders := [], steps := 0 } := if_neg hi
      rw [et] at q
      exact ifF ((mode_in r.mode).trans (decide_eq_false hi)) (ifF rfl ⟨_, rfl, a, _, rfl, fl_orders T R5.1, _, _, rfl, .inl (SqL.of R5.1.orr), fun l hl => q _ _ l _ R5 hl R5.1.tor⟩)
end
end Ol
namespace Ol
open PySem PySem.Spec PyProof.Rows L2
theorem pe_joinK {X : Cx} {K : PySem.W.Frag} {o e : Expr} {to te : TE} {apos pos : Pos} (hK : X.K = K) (ho : PE X o to) (he : PE X e te) (hs : starEach [e] X.env = [(false, eval e X.env)] := by rfl) (hbase : attributeBase o "join" X.env (eval o X.env) = eval o X.env := by rfl) (hline : (apos.endLine == pos.line) = true := by rfl) :
    PE X (.Call (.Attribute o "join" apos) [e] [] pos) (tM1 (fun x xs H Q => ∃ a p, ∃ ys : List Str, x = .str a ∧ xs = [.ref p] ∧ (SqL K H p (ys.map V.str) ∨ SqT K H p (ys.map V.str)) ∧
      (ys.map (·.length)).sum + ys.length * a.length ≤ 16777216 ∧ Q (.str (Txt.join a ys)) H) to te) := by subst hK; exact pe_join ho he hs hbase hline
/-! ### sorted of a dict whose keys are pairs of ints -/
def encII (p : Int × Int) : PyData := .tuple [.int p.1, .int p.2]
/-- the pairs' own tuples -/
def SpotsAt (H : Hp) (qs : List Addr) (ks : List (Int × Int)) : Prop := PySem.W.EachIs (fun (q : Addr) (k : Int × Int) => H q = some (.tup [.int k.1, .int k.2])) qs ks
theorem SpotsAt.tds {K : PySem.W.Frag} {H : Hp} : ∀ {qs : List Addr} {ks : List (Int × Int)}, SpotsAt H qs ks → TDs K H (qs.map V.ref) (ks.map encII)
  | _, _, .nil => TDs.nil
  | _, _, .cons h t => TDs.mk (TD.new h (TDs.mk (td_int.mpr rfl) (TDs.mk (td_int.mpr rfl) TDs.nil))) (SpotsAt.tds t)
theorem spots_get {H : Hp} : ∀ (j : Nat) {qs : List Addr} {ks : List (Int × Int)} {q : Addr}, PySem.W.EachIs (fun (q : Addr) (k : Int × Int) => H q = some (.tup [.int k.1, .int k.2])) qs ks → qs[j]? = some q → ∃ k, ks[j]? = some k ∧ H q = some (.tup [.int k.1, .int k.2])
  | j, _, _, _, .nil, e => by cases j <;> cases e
  | 0, _, _, _, .cons h _, e => by cases e; exact ⟨_, rfl, h⟩
  | j + 1, _, _, _, .cons _ t, e => spots_get j t e
theorem SpotsAt.same {H H' : Hp} {qs : List Addr} {ks : List (Int × Int)} (h : SpotsAt H qs ks) (e : Same H H') : SpotsAt H' qs ks := h.mono fun q k z => e _ _ z
theorem SpotsAt.length {H : Hp} {qs : List Addr} {ks : List (Int × Int)} (h : SpotsAt H qs ks) : qs.length = ks.length := PySem.W.EachIs.length h
def rSortDT (K : PySem.W.Frag) : List V → Hp → VK → Prop := fun vs H Q => ∃ (a : Addr) (kvs : List (List Key × V)) (ks : List (Int × Int)), vs = [.ref a] ∧ H a = some (.dT kvs) ∧ kvs.map (·.1) = ks.map kII ∧
  ∀ p qs, H p = none → SpotsAt H qs (ks.mergeSort (PySem.W.dataLe false encII)) → Q (.ref p) (upd H p (.lst (qs.map V.ref)))
theorem spots_vals {H : Hp} : ∀ {us : List Value} {ks : List (Int × Int)}, PySem.W.EachIs (fun (u : Value) (k : Int × Int) => ∃ q, u = .ref q ∧ H q = some (.tup [.int k.1, .int k.2])) us ks → ∃ qs, SpotsAt H qs ks ∧ Vals (qs.map V.ref) us
  | _, _, .nil => ⟨[], .nil, .nil⟩
  | _, _, .cons h t => by
    obtain ⟨q, rfl, h2⟩ := h
    obtain ⟨qs, h3, h4⟩ := spots_vals t
    exact ⟨q :: qs, .cons h2 h3, .cons rfl h4⟩
theorem alike_II (b b' : Int × Int) : PySem.W.alike (encII b) (encII b') = true := by simp [encII, PySem.W.alike, PySem.W.alikeAll]
theorem each_at {α β : Type} {R : α → β → Prop} : ∀ {l : List α} {m : List β}, l.length = m.length → (∀ (j : Nat) a b, l[j]? = some a → m[j]? = some b → R a b) → PySem.W.EachIs R l m
  | [], [], _, _ => .nil
  | a :: l, b :: m, hl, h => .cons (h 0 a b rfl rfl) (each_at (by simpa using hl) fun j x y e1 e2 => h (j + 1) x y (by simpa using e1) (by simpa using e2))
  | [], _ :: _, hl, _ => by simp at hl
  | _ :: _, [], hl, _ => by simp at hl
theorem cr_sortedDT {X : Cx} (hcalm : X.calm = true) (hu : X.A.units + 64 < cLine) : CallR X (.builtin "sorted") (rSortDT X.K) := by
  intro pins s σ H vs us Q I r h
  obtain ⟨a, kvs, ks, rfl, ha, hks, q⟩ := h
  obtain ⟨u, rfl, rx⟩ := vals1 r
  cases rx
  obtain ⟨z, lo, xs', rel, o, es, ep, ho, hx, hdat, hes, his, hn⟩ := dt_of I.hok ha
  have raw : s.heap.DictRaw a es ep := ⟨o, ho, hx, hdat⟩
  have l1 : kvs.length = xs'.length := Paired.length rel
  have l2 : es.size = xs'.length := size_of_entries hes
  have l3 : kvs.length = ks.length := by
    have e := congrArg List.length hks
    rw [List.length_map, List.length_map] at e
    exact e
  refine Calls.call_function_entry PyProof.Rows.kind_sorted PyProof.Rows.plain_sorted PyProof.Rows.entry_sorted (PyProof.Rows.args_sorted1 _) ?_
  unfold Builtin.«sorted»
  refine wpAny_bind (m := checkCount "sorted" 1 1 _) (wpAny_pure ?_)
  refine wpAny_bind (PySem.W.kdu_collect (A := X.A.in1) (PySem.KdlSrc.rawDict lo) (I.ok.hd hcalm) raw (by omega) fun h' tk acc hk hacc => ?_)
  have hal : acc.toList.length = ks.length := by rw [Array.length_toList, hacc.1, l2, ← l1, l3]
  have I1 : Inv X pins σ H { s with heap := h', toks := tk } := I.kept hk
  have e : PySem.W.EachIs (fun (u : Value) (b : Int × Int) => ∃ q, u = .ref q ∧ H q = some (.tup [.int b.1, .int b.2])) acc.toList ks := by
    refine each_at hal fun j u b e1 e2 => ?_
    obtain ⟨hi, eu⟩ := hacc.2 j u (by rw [← Array.getElem?_toList]; exact e1)
    have hj : j < kvs.length := by omega
    have ekv : kvs[j]? = some kvs[j] := List.getElem?_eq_getElem hj
    obtain ⟨bq, hb, g1, g2, g3⟩ := paired_get rel ekv
    have qq := entry_at hes j
    rw [hb] at qq
    have ekey : es[j].key = .ref bq.2.1 := by
      have q2 : es[j]? = some es[j] := Array.getElem?_eq_getElem hi
      rw [q2] at qq
      rw [Option.some.inj qq]
      rfl
    have ek : kvs[j].1 = kII b := by
      have e5 : (kvs.map (·.1))[j]? = some kvs[j].1 := by rw [List.getElem?_map, ekv]; rfl
      rw [hks, List.getElem?_map, e2] at e5
      exact (Option.some.inj e5).symm
    refine ⟨bq.2.1, by rw [eu, ekey], ?_⟩
    rw [ek] at g2
    exact g2
  refine wpAny_bind (wpAny_newList ?_ (by rw [hal]; omega))
  have hoL : (h'.push (seqObj "list" acc.toList.toArray 0)).get? h'.objs.size = some (seqObj "list" acc.toList.toArray 0) := Heap.get?_push_size _ rfl
  have er : PySem.W.EachIs (fun v b => ∃ as, Reads (h'.push (seqObj "list" acc.toList.toArray 0)) v (encII b) as ∧ h'.objs.size ∉ as) acc.toList ks := e.mono fun v b ⟨x, h1, h2⟩ => by
    obtain ⟨as, hr⟩ := Dp.reads I1 _ (.ref x) v (TD.dp _ _ (TD.new h2 (TDs.mk (td_int.mpr rfl) (TDs.mk (td_int.mpr rfl) TDs.nil)))) (by rw [h1]; rfl)
    refine ⟨as, PyProof.Rows.Reads.keeps (fun _ _ q => Heap.get?_push_of_some _ q) hr, fun m => ?_⟩
    obtain ⟨o2, ho2⟩ := PyProof.On.reads_mem_get hr _ m
    exact absurd (Heap.lt_size ho2) (Nat.lt_irrefl _)
  show wpAny _ _ _ _ _ { s with heap := h'.push (seqObj "list" acc.toList.toArray 0), toks := tk }
  refine wpAny_bind (wpAny_holding (PySem.W.list_sort_data (s := { s with heap := h'.push (seqObj "list" acc.toList.toArray 0), toks := tk }) hoL e er (PySem.W.AllAlike.of alike_II) (PySem.W.Sortable.tuples fun b => ⟨_, _, rfl⟩) (by omega) (fun b _ => ?_) fun out hout eo => ?_))
  · have e1 : (encII b).depth ≤ 8 := by simp [encII, PyData.depth, PyData.depthAll]
    have e2 : X.A.in1.units ≤ X.A.units + 1 := Nat.le_refl _
    omega
  obtain ⟨qs, h1, h2⟩ := spots_vals eo
  obtain ⟨ep', he'⟩ := PyProof.Rows.sortedHeap_at (vs := acc.toList) (out := out.toArray) hoL
  have hyl : (qs.map V.ref).length ≤ sizeLine := by rw [h2.length, hout]; omega
  refine wpAny_pure ⟨_, rfl, .ref h'.objs.size, upd H h'.objs.size (.lst (qs.map V.ref)), I1.laid (t' := tk) (fun b u e => ?_) (Nat.le_refl _) (show ObjOk X.prog X.w _ _ _ (.lst (qs.map V.ref)) from ⟨hyl, out, ep', h2, he'⟩), rfl, q _ _ (I1.hok.fresh (Nat.le_refl _)) h1⟩
  have hb : b < h'.objs.size := Heap.lt_size e
  rw [PyProof.Rows.sortedHeap_old (Nat.ne_of_lt hb) (by rw [size_push']; exact Nat.lt_succ_of_lt hb)]
  exact Heap.get?_push_of_some _ e
end Ol
namespace Ol
open PySem PySem.Spec PyProof.Rows L2
/-! ### a house, the mathematics -/
structure RR where
  st : RS
  nm : Str
  by_ : Option (Nat × Int)
  hap : List Hap
structure HS where
  progs : List (Str × List Stm)
  now : Int
  runs : List RR
  orders : List ((Int × Int) × (Str × W))
  timers : List ((Int × Int) × Int)
inductive Inp where
  | start (m : Int) (p : Str) (a : W) | answer (m r t : Int) (a : W) | letter (m r : Int) (k : Str) (a : W) | tick (m : Int)
def Inp.d : Inp → PyData
  | .start m p a => .tuple [.str "start", .int m, .str p, wd a]
  | .answer m r t a => .tuple [.str "answer", .int m, .int r, .int t, wd a]
  | .letter m r k a => .tuple [.str "letter", .int m, .int r, .str k, wd a]
  | .tick m => .tuple [.str "tick", .int m]
def Inp.mom : Inp → Int
  | .start m _ _ => m
  | .answer m _ _ _ => m
  | .letter m _ _ _ => m
  | .tick m => m
def HS.init (p : List (Str × List Stm)) : HS := ⟨p, 0, [], [], []⟩
def HS.run (s : HS) (i : Int) : Option RR := if 0 ≤ i then s.runs[i.toNat]? else none
def HS.there (s : HS) (i : Int) : Bool := match s.run i with
  | some rr => !rr.st.gone
  | none => false
def HS.isOpen (s : HS) (i t : Int) : Bool := match s.run i with
  | some rr => !rr.st.gone && decide (t ∈ rr.st.open)
  | none => false
/-- the orders' keys, sorted -/
def HS.spots (s : HS) : List (Int × Int) := (s.orders.map (·.1)).mergeSort (PySem.W.dataLe false encII)
def HS.openSpots (s : HS) : List (Int × Int) := s.spots.filter fun k => s.isOpen k.1 k.2
def ordD (s : HS) (k : Int × Int) : PyData := .tuple [.str "order", .int k.1, .int k.2, .str ((lk s.orders k).getD (Str.empty, none)).1, wd ((lk s.orders k).getD (Str.empty, none)).2]
def HS.openOrders (s : HS) : List PyData := s.openSpots.map (ordD s)
abbrev Tm := Int × Int × Int
def encTm (p : Tm) : PyData := .tuple [.int p.1, .int p.2.1, .int p.2.2]
def HS.timersRaw (s : HS) : List Tm := (s.timers.filter fun p => s.isOpen p.1.1 p.1.2).map fun p => (p.2, p.1.1, p.1.2)
def HS.openTimers (s : HS) : List Tm := s.timersRaw.mergeSort (PySem.W.dataLe false encTm)
def HS.nextDue (s : HS) : W := s.openTimers.head?.map (·.1)
def HS.newRun (s : HS) (nm : Str) (b : Option (Nat × Int)) (p : List Stm) : HS := { s with runs := s.runs ++ [⟨RS.init p, nm, b, []⟩] }
abbrev Row := List (Nat × Hap)
def rowD (p : Nat × Hap) : PyData := .tuple [.int (p.1 : Int), p.2.d]
def HS.first (s : HS) : Inp → HS × Row
  | .tick _ => (s, (s.openTimers.filter fun t => decide (t.1 ≤ s.now)).map fun t => (t.2.1.toNat, .done s.now t.2.2 none))
  | .start _ p a => match lk s.progs p with
    | some b => (s.newRun p none b, [(s.runs.length, .begin s.now a)])
    | none => (s, [])
  | .answer _ r t a => if (lk s.orders (r, t)).isSome = true ∧ s.isOpen r t = true then (s, [(r.toNat, .done s.now t a)]) else (s, [])
  | .letter _ r k a => if s.there r = true then (s, [(r.toNat, .letter s.now k a)]) else (s, [])
/-- what a command changes: the house, the row, what goes out -/
def HS.follow (s : HS) (i : Nat) : Cmd → HS × Row × List PyData
  | .order t w a => ({ s with orders := pt s.orders ((i : Int), t) (w, a) }, [], [.tuple [.str "order", .int (i : Int), .int t, .str w, wd a]])
  | .timer t due => ({ s with timers := pt s.timers ((i : Int), t) due }, [], [])
  | .child t p a => match lk s.progs p with
    | some b => (s.newRun p (some (i, t)) b, [(s.runs.length, .begin s.now a)], [])
    | none => (s, [(i, .done s.now t none)], [])
  | .send r k a => match r with
    | some j => if s.there j = true then (s, [(j.toNat, .letter s.now k a)], []) else (s, [], [.tuple [.str "lost", .int (i : Int), wd r, .str k, wd a]])
    | none => (s, [], [.tuple [.str "lost", .int (i : Int), wd r, .str k, wd a]])
  | .drop _ => (s, [], [])
  | .fin a => (s, (match (s.runs[i]?).bind (·.by_) with
    | some (b, t) => if s.isOpen (b : Int) t = true then [(b, .done s.now t a)] else []
    | none => []), [.tuple [.str "ended", .int (i : Int), wd a]])
  | .worn => (s, [], [.tuple [.str "worn", .int (i : Int)]])
def HS.follows (s : HS) (i : Nat) : List Cmd → HS × Row × List PyData
  | [] => (s, [], [])
  | c :: cs =>
    let a := s.follow i c
    let b := a.1.follows i cs
    (b.1, a.2.1 ++ b.2.1, a.2.2 ++ b.2.2)
def HS.setRun (s : HS) (i : Nat) (rr : RR) : HS := { s with runs := s.runs.set i rr }
def HS.step (s : HS) (i : Nat) (h : Hap) : HS × Row × List PyData := match s.runs[i]? with
  | some rr => (s.setRun i { rr with st := rr.st.take h, hap := rr.hap ++ [h] }).follows i (rr.st.take h).orders
  | none => (s, [], [])
def HS.loop : Nat → HS → Row → List PyData → HS × Row × List PyData
  | 0, s, row, out => (s, row, out)
  | _ + 1, s, [], out => (s, [], out)
  | n + 1, s, (i, h) :: row, out =>
    let a := s.step i h
    HS.loop n a.1 (row ++ a.2.1) (out ++ a.2.2)
def HS.put (s : HS) (x : Inp) : HS × List PyData :=
  let s1 := { s with now := max s.now x.mom }
  let f := s1.first x
  let e := HS.loop 300 f.1 f.2 []
  (e.1, e.2.2 ++ (if e.2.1 ≠ [] then [.tuple [.str "spent"]] else []))

/-! ### what holds of a house -/
def Hap.gk : Hap → Prop
  | .letter _ k _ => gs k
  | _ => True
structure RRk (rr : RR) (c n : Nat) : Prop where
  ro : Ro rr.st c
  nm : gs rr.nm
  hl : rr.hap.length ≤ n
  hk : ∀ h ∈ rr.hap, Hap.gk h
  ho : ∀ h ∈ rr.hap, Hap.ok h
/-- n takes, k the lists' bound -/
structure Hk (s : HS) (n k : Nat) : Prop where
  pg : ∀ p ∈ s.progs, blkOk p.2
  pn : ∀ p ∈ s.progs, gs p.1
  rr : ∀ r ∈ s.runs, RRk r (303 * n) n
  rl : s.runs.length ≤ k
  ol : s.orders.length ≤ k
  tl : s.timers.length ≤ k
  ov : ∀ p ∈ s.orders, gs p.2.1 ∧ WB p.2.2
  okd : (s.orders.map (·.1)).Nodup
  tkd : (s.timers.map (·.1)).Nodup
  ln : n ≤ 16000
  lk : k ≤ 10000000
/-- a row's happenings -/
def RowOk (s : HS) (row : Row) : Prop := ∀ p ∈ row, p.1 < s.runs.length ∧ Hap.ok p.2 ∧ Hap.gk p.2
theorem RRk.weak {rr : RR} {c d n m : Nat} (h : RRk rr c n) (le : c ≤ d) (l2 : n ≤ m) (lim : d ≤ 5000000) : RRk rr d m := ⟨h.ro.weak le lim, h.nm, Nat.le_trans h.hl l2, h.hk, h.ho⟩
theorem Hk.weak {s : HS} {n m k l : Nat} (h : Hk s n k) (l1 : n ≤ m) (l2 : k ≤ l) (lim : m ≤ 16000) (lim2 : l ≤ 10000000) : Hk s m l :=
  ⟨h.pg, h.pn, fun r hr => (h.rr r hr).weak (by omega) l1 (by omega), Nat.le_trans h.rl l2, Nat.le_trans h.ol l2, Nat.le_trans h.tl l2, h.ov, h.okd, h.tkd, lim, lim2⟩
theorem HS.run_some {s : HS} {i : Int} {rr : RR} (h : s.run i = some rr) : 0 ≤ i ∧ i.toNat < s.runs.length ∧ s.runs[i.toNat]? = some rr ∧ ((i.toNat : Nat) : Int) = i := by
  unfold HS.run at h
  split at h
  · rename_i h0
    exact ⟨h0, (List.getElem?_eq_some_iff.mp h).1, h, by omega⟩
  · cases h
theorem HS.there_run {s : HS} {i : Int} (h : s.there i = true) : ∃ rr, s.run i = some rr ∧ rr.st.gone = false := by
  unfold HS.there at h
  cases e : s.run i with
  | none => rw [e] at h; cases h
  | some rr => rw [e] at h; exact ⟨rr, rfl, by simpa using h⟩
theorem HS.open_run {s : HS} {i t : Int} (h : s.isOpen i t = true) : ∃ rr, s.run i = some rr ∧ rr.st.gone = false ∧ t ∈ rr.st.open := by
  unfold HS.isOpen at h
  cases e : s.run i with
  | none => rw [e] at h; cases h
  | some rr =>
    rw [e] at h
    simp at h
    exact ⟨rr, rfl, h.1, h.2⟩
theorem HS.there_lt {s : HS} {i : Int} (h : s.there i = true) : i.toNat < s.runs.length ∧ ((i.toNat : Nat) : Int) = i := by
  obtain ⟨rr, h1, _⟩ := HS.there_run h
  exact ⟨(HS.run_some h1).2.1, (HS.run_some h1).2.2.2⟩
theorem HS.open_lt {s : HS} {i t : Int} (h : s.isOpen i t = true) : i.toNat < s.runs.length ∧ ((i.toNat : Nat) : Int) = i := by
  obtain ⟨rr, h1, _⟩ := HS.open_run h
  exact ⟨(HS.run_some h1).2.1, (HS.run_some h1).2.2.2⟩
theorem RowOk.mono {s s' : HS} {row : Row} (h : RowOk s row) (le : s.runs.length ≤ s'.runs.length) : RowOk s' row := fun p hp => ⟨Nat.lt_of_lt_of_le (h p hp).1 le, (h p hp).2⟩
theorem RowOk.nil {s : HS} : RowOk s [] := fun _ q => nomatch q
theorem RowOk.one {s : HS} {i : Nat} {h : Hap} (h1 : i < s.runs.length) (h2 : Hap.ok h) (h3 : Hap.gk h) : RowOk s [(i, h)] := fun p hp => by
  simp at hp
  rw [hp]
  exact ⟨h1, h2, h3⟩
theorem RowOk.append {s : HS} {r1 r2 : Row} (h1 : RowOk s r1) (h2 : RowOk s r2) : RowOk s (r1 ++ r2) := fun p hp => (List.mem_append.mp hp).elim (h1 p) (h2 p)
theorem Hk.newRun {s : HS} {n k : Nat} (h : Hk s n k) {nm : Str} {b : Option (Nat × Int)} {p : List Stm} (hp : blkOk p) (hn : gs nm) (lim : k + 1 ≤ 10000000) : Hk (s.newRun nm b p) n (k + 1) := by
  have w := h.weak (Nat.le_refl _) (Nat.le_succ k) h.ln lim
  refine ⟨h.pg, h.pn, fun r hr => ?_, ?_, w.ol, w.tl, h.ov, h.okd, h.tkd, h.ln, lim⟩
  · rcases List.mem_append.mp (show r ∈ s.runs ++ [_] from hr) with z | z
    · exact h.rr r z
    · simp at z
      rw [z]
      exact ⟨(init_ok hp).weak (Nat.zero_le _) (by have := h.ln; omega), hn, Nat.zero_le _, (fun _ q => nomatch q), (fun _ q => nomatch q)⟩
  · show (s.runs ++ [_]).length ≤ k + 1
    rw [List.length_append]
    exact Nat.succ_le_succ h.rl
theorem pt_ov {l : List ((Int × Int) × (Str × W))} {k : Int × Int} {a : Str × W} (h : ∀ p ∈ l, gs p.2.1 ∧ WB p.2.2) (ha : gs a.1 ∧ WB a.2) : ∀ p ∈ pt l k a, gs p.2.1 ∧ WB p.2.2 := fun p hp => by
  rcases pt_mem hp with e | e
  · rw [e]; exact ha
  · exact h p e
theorem follow_ok {s : HS} {n k : Nat} (h : Hk s n k) {i : Nat} (hi : i < s.runs.length) {c : Cmd} (hc : c.ok) (lim : k + 1 ≤ 10000000) :
    Hk (s.follow i c).1 n (k + 1) ∧ s.runs.length ≤ (s.follow i c).1.runs.length ∧ RowOk (s.follow i c).1 (s.follow i c).2.1 ∧ (s.follow i c).2.1.length ≤ 1 ∧ (s.follow i c).2.2.length ≤ 1 ∧ (s.follow i c).1.progs = s.progs ∧ (s.follow i c).1.now = s.now := by
  have w := h.weak (Nat.le_refl _) (Nat.le_succ k) h.ln lim
  cases c with
  | order t z a => exact ⟨⟨h.pg, h.pn, w.rr, w.rl, Nat.le_trans (pt_length _ _ _) (Nat.succ_le_succ h.ol), w.tl, pt_ov h.ov ⟨hc.2.1, hc.2.2⟩, keys_pt_nodup _ _ h.okd, h.tkd, w.ln, lim⟩, Nat.le_refl _, RowOk.nil, Nat.zero_le _, Nat.le_refl _, rfl, rfl⟩
  | timer t due => exact ⟨⟨h.pg, h.pn, w.rr, w.rl, w.ol, Nat.le_trans (pt_length _ _ _) (Nat.succ_le_succ h.tl), h.ov, h.okd, keys_pt_nodup _ _ h.tkd, w.ln, lim⟩, Nat.le_refl _, RowOk.nil, Nat.zero_le _, Nat.zero_le _, rfl, rfl⟩
  | child t p a =>
    cases e : lk s.progs p with
    | some b =>
      have hb := lk_mem e
      have ef : s.follow i (.child t p a) = (s.newRun p (some (i, t)) b, [(s.runs.length, .begin s.now a)], []) := by simp only [HS.follow, e]
      rw [ef]
      exact ⟨h.newRun (h.pg _ hb) (h.pn _ hb) lim, by show s.runs.length ≤ (s.runs ++ [_]).length; rw [List.length_append]; exact Nat.le_add_right _ _, RowOk.one (by show s.runs.length < (s.runs ++ [_]).length; rw [List.length_append]; exact Nat.lt_succ_self _) hc.2.2 trivial, Nat.le_refl _, Nat.zero_le _, rfl, rfl⟩
    | none =>
      have ef : s.follow i (.child t p a) = (s, [(i, .done s.now t none)], []) := by simp only [HS.follow, e]
      rw [ef]
      exact ⟨w, Nat.le_refl _, RowOk.one hi wb_none trivial, Nat.le_refl _, Nat.zero_le _, rfl, rfl⟩
  | send r key a =>
    unfold HS.follow
    cases r with
    | none => exact ⟨w, Nat.le_refl _, RowOk.nil, Nat.zero_le _, Nat.le_refl _, rfl, rfl⟩
    | some j =>
      dsimp only
      split
      · rename_i ht
        exact ⟨w, Nat.le_refl _, RowOk.one (HS.there_lt ht).1 hc.2.2 hc.2.1, Nat.le_refl _, Nat.zero_le _, rfl, rfl⟩
      · exact ⟨w, Nat.le_refl _, RowOk.nil, Nat.zero_le _, Nat.le_refl _, rfl, rfl⟩
  | drop t => exact ⟨w, Nat.le_refl _, RowOk.nil, Nat.zero_le _, Nat.zero_le _, rfl, rfl⟩
  | fin a =>
    unfold HS.follow
    dsimp only
    split
    · split
      · rename_i ho
        have := (HS.open_lt ho).1
        exact ⟨w, Nat.le_refl _, RowOk.one (by simpa using this) hc trivial, Nat.le_refl _, Nat.le_refl _, rfl, rfl⟩
      · exact ⟨w, Nat.le_refl _, RowOk.nil, Nat.zero_le _, Nat.le_refl _, rfl, rfl⟩
    · exact ⟨w, Nat.le_refl _, RowOk.nil, Nat.zero_le _, Nat.le_refl _, rfl, rfl⟩
  | worn => exact ⟨w, Nat.le_refl _, RowOk.nil, Nat.zero_le _, Nat.le_refl _, rfl, rfl⟩
theorem follows_ok {n : Nat} {i : Nat} : ∀ {cs : List Cmd} {s : HS} {k : Nat}, Hk s n k → i < s.runs.length → (∀ c ∈ cs, Cmd.ok c) → k + cs.length ≤ 10000000 →
    Hk (s.follows i cs).1 n (k + cs.length) ∧ s.runs.length ≤ (s.follows i cs).1.runs.length ∧ RowOk (s.follows i cs).1 (s.follows i cs).2.1 ∧ (s.follows i cs).2.1.length ≤ cs.length ∧ (s.follows i cs).2.2.length ≤ cs.length ∧ (s.follows i cs).1.progs = s.progs ∧ (s.follows i cs).1.now = s.now
  | [], s, k, h, _, _, _ => ⟨h, Nat.le_refl _, RowOk.nil, Nat.le_refl _, Nat.le_refl _, rfl, rfl⟩
  | c :: cs, s, k, h, hi, hc, lim => by
    simp only [List.length_cons] at lim ⊢
    obtain ⟨a1, a2, a3, a4, a5, a6, a7⟩ := follow_ok h hi (hc c List.mem_cons_self) (by omega)
    obtain ⟨b1, b2, b3, b4, b5, b6, b7⟩ := follows_ok a1 (Nat.lt_of_lt_of_le hi a2) (fun d hd => hc d (List.mem_cons_of_mem _ hd)) (by omega)
    simp only [HS.follows]
    refine ⟨by rw [show k + (cs.length + 1) = k + 1 + cs.length by omega]; exact b1, Nat.le_trans a2 b2, (a3.mono b2).append b3, ?_, ?_, b6.trans a6, b7.trans a7⟩
    · rw [List.length_append]; omega
    · rw [List.length_append]; omega
theorem step_ok {s : HS} {n k : Nat} (h : Hk s n k) {i : Nat} {p : Hap} (hi : i < s.runs.length) (hp : p.ok) (hg : p.gk) (lim : n + 1 ≤ 16000) (lim2 : k + 301 ≤ 10000000) :
    Hk (s.step i p).1 (n + 1) (k + 301) ∧ s.runs.length ≤ (s.step i p).1.runs.length ∧ RowOk (s.step i p).1 (s.step i p).2.1 ∧ (s.step i p).2.1.length ≤ 301 ∧ (s.step i p).2.2.length ≤ 301 ∧ (s.step i p).1.progs = s.progs ∧ (s.step i p).1.now = s.now := by
  have e : s.runs[i]? = some s.runs[i] := List.getElem?_eq_getElem hi
  unfold HS.step
  rw [e]
  dsimp only
  have hr := h.rr _ (List.mem_of_getElem? e)
  have hro := take_ok hr.ro hp (by omega)
  have k1 : Hk (s.setRun i { s.runs[i] with st := (s.runs[i]).st.take p, hap := (s.runs[i]).hap ++ [p] }) (n + 1) k := by
    refine ⟨h.pg, h.pn, fun r hm => ?_, by show (s.runs.set _ _).length ≤ k; rw [List.length_set]; exact h.rl, h.ol, h.tl, h.ov, h.okd, h.tkd, lim, h.lk⟩
    rcases List.mem_or_eq_of_mem_set (show r ∈ s.runs.set i _ from hm) with z | z
    · exact (h.rr r z).weak (by omega) (Nat.le_succ n) (by omega)
    · rw [z]
      refine ⟨hro.weak (by omega) (by omega), hr.nm, ?_, fun q hq => ?_, fun q hq => ?_⟩
      · show ((s.runs[i]).hap ++ [p]).length ≤ n + 1
        rw [List.length_append]
        exact Nat.succ_le_succ hr.hl
      · rcases List.mem_append.mp hq with z | z
        · exact hr.hk q z
        · simp at z; rw [z]; exact hg
      · rcases List.mem_append.mp hq with z | z
        · exact hr.ho q z
        · simp at z; rw [z]; exact hp
  have hol : ((s.runs[i]).st.take p).orders.length ≤ 301 := hro.os
  obtain ⟨b1, b2, b3, b4, b5, b6, b7⟩ := follows_ok (i := i) (cs := ((s.runs[i]).st.take p).orders) k1 (by show i < (s.runs.set _ _).length; rw [List.length_set]; exact hi) hro.rk.ord (by omega)
  have el : (s.setRun i { s.runs[i] with st := (s.runs[i]).st.take p, hap := (s.runs[i]).hap ++ [p] }).runs.length = s.runs.length := List.length_set ..
  exact ⟨b1.weak (Nat.le_refl _) (by omega) lim lim2, by rw [← el]; exact b2, b3, Nat.le_trans b4 hol, Nat.le_trans b5 hol, b6, b7⟩
theorem loop_hk : ∀ (m : Nat) {s : HS} {row : Row} {out : List PyData} {n k : Nat}, Hk s n k → RowOk s row → n + m ≤ 16000 → k + 301 * m ≤ 10000000 →
    Hk (HS.loop m s row out).1 (n + m) (k + 301 * m) ∧ RowOk (HS.loop m s row out).1 (HS.loop m s row out).2.1 ∧ (HS.loop m s row out).1.progs = s.progs
  | 0, s, row, out, n, k, h, hr, l1, l2 => ⟨h, hr, rfl⟩
  | m + 1, s, [], out, n, k, h, hr, l1, l2 => ⟨h.weak (by omega) (by omega) l1 l2, hr, rfl⟩
  | m + 1, s, (i, p) :: row, out, n, k, h, hr, l1, l2 => by
    obtain ⟨q1, q2, q3⟩ := hr (i, p) List.mem_cons_self
    obtain ⟨b1, b2, b3, b4, b5, b6, b7⟩ := step_ok h q1 q2 q3 (by omega) (by omega)
    have hr2 : RowOk (s.step i p).1 (row ++ (s.step i p).2.1) := (RowOk.mono (fun x hx => hr x (List.mem_cons_of_mem _ hx)) b2).append b3
    obtain ⟨c1, c2, c3⟩ := loop_hk m (out := out ++ (s.step i p).2.2) b1 hr2 (by omega) (by omega)
    simp only [HS.loop]
    exact ⟨by rw [show n + (m + 1) = n + 1 + m by omega, show k + 301 * (m + 1) = k + 301 + 301 * m by omega]; exact c1, c2, c3.trans b6⟩
def Inp.ok : Inp → Prop
  | .start m p a => 0 ≤ m ∧ m ≤ 1000000000000 ∧ WB a
  | .answer m r t a => 0 ≤ m ∧ m ≤ 1000000000000 ∧ WB a
  | .letter m r k a => 0 ≤ m ∧ m ≤ 1000000000000 ∧ WB a ∧ gs k
  | .tick m => 0 ≤ m ∧ m ≤ 1000000000000
theorem tm_open {s : HS} {t : Tm} (h : t ∈ s.openTimers) : s.isOpen t.2.1 t.2.2 = true := by
  have h2 := (List.mergeSort_perm s.timersRaw _).mem_iff.mp h
  obtain ⟨p, h3, rfl⟩ := List.mem_map.mp h2
  exact (List.mem_filter.mp h3).2
theorem first_ok {s : HS} {n k : Nat} (h : Hk s n k) {x : Inp} (hx : x.ok) (lim : k + 1 ≤ 10000000) : Hk (s.first x).1 n (k + 1) ∧ RowOk (s.first x).1 (s.first x).2 ∧ (s.first x).1.progs = s.progs ∧ (s.first x).2.length ≤ k + 1 := by
  have w := h.weak (Nat.le_refl _) (Nat.le_succ k) h.ln lim
  cases x with
  | tick m =>
    refine ⟨w, fun p hp => ?_, rfl, ?_⟩
    · obtain ⟨t, h1, rfl⟩ := List.mem_map.mp (show p ∈ List.map _ _ from hp)
      exact ⟨(HS.open_lt (tm_open (List.mem_filter.mp h1).1)).1, wb_none, trivial⟩
    · show (List.map _ _).length ≤ k + 1
      rw [List.length_map]
      refine Nat.le_trans (List.length_filter_le _ _) ?_
      unfold HS.openTimers HS.timersRaw
      rw [List.length_mergeSort, List.length_map]
      exact Nat.le_trans (List.length_filter_le _ _) w.tl
  | start m p a =>
    cases e : lk s.progs p with
    | some b =>
      have ef : s.first (.start m p a) = (s.newRun p none b, [(s.runs.length, .begin s.now a)]) := by simp only [HS.first, e]
      rw [ef]
      exact ⟨h.newRun (h.pg _ (lk_mem e)) (h.pn _ (lk_mem e)) lim, RowOk.one (by show s.runs.length < (s.runs ++ [_]).length; rw [List.length_append]; exact Nat.lt_succ_self _) hx.2.2 trivial, rfl, Nat.succ_le_succ (Nat.zero_le _)⟩
    | none =>
      have ef : s.first (.start m p a) = (s, []) := by simp only [HS.first, e]
      rw [ef]
      exact ⟨w, RowOk.nil, rfl, Nat.zero_le _⟩
  | answer m r t a =>
    unfold HS.first
    dsimp only
    split
    · rename_i hh
      exact ⟨w, RowOk.one (HS.open_lt hh.2).1 hx.2.2 trivial, rfl, Nat.succ_le_succ (Nat.zero_le _)⟩
    · exact ⟨w, RowOk.nil, rfl, Nat.zero_le _⟩
  | letter m r key a =>
    unfold HS.first
    dsimp only
    split
    · rename_i hh
      exact ⟨w, RowOk.one (HS.there_lt hh).1 hx.2.2.1 hx.2.2.2, rfl, Nat.succ_le_succ (Nat.zero_le _)⟩
    · exact ⟨w, RowOk.nil, rfl, Nat.zero_le _⟩
theorem Hk.at {s : HS} {n k : Nat} (h : Hk s n k) (m : Int) : Hk { s with now := m } n k := ⟨h.pg, h.pn, h.rr, h.rl, h.ol, h.tl, h.ov, h.okd, h.tkd, h.ln, h.lk⟩
theorem put_ok {s : HS} {n k : Nat} (h : Hk s n k) {x : Inp} (hx : x.ok) (lim : n + 300 ≤ 16000) (lim2 : k + 90301 ≤ 10000000) : Hk (s.put x).1 (n + 300) (k + 90301) ∧ (s.put x).1.progs = s.progs := by
  have k1 := h.at (max s.now x.mom)
  obtain ⟨a1, a2, a3, a4⟩ := first_ok k1 hx (by omega)
  obtain ⟨b1, b2, b3⟩ := loop_hk 300 (out := []) a1 a2 lim (by omega)
  exact ⟨b1.weak (Nat.le_refl _) (by omega) lim lim2, b3.trans a3⟩
theorem hinit_ok {p : List (Str × List Stm)} (h1 : ∀ q ∈ p, blkOk q.2) (h2 : ∀ q ∈ p, gs q.1) : Hk (HS.init p) 0 0 :=
  ⟨h1, h2, (fun _ q => nomatch q), Nat.le_refl _, Nat.le_refl _, Nat.le_refl _, (fun _ q => nomatch q), List.nodup_nil, List.nodup_nil, Nat.zero_le _, Nat.zero_le _⟩
end Ol
namespace Ol
open PySem PySem.Spec PyProof.Rows L2
/-! ### a house's runs in the heap -/
def byD : Option (Nat × Int) → PyData
  | none => .none
  | some p => .tuple [.int (p.1 : Int), .int p.2]
structure RX where
  a : Addr
  x : RA
  h : Addr
  hv : List V
  bv : V
  /-- the law's own list, if it is the law's -/
  qs : List Addr
def RX.F (y : RX) : List Addr := y.h :: (y.qs ++ y.x.F y.a)
structure RecAt (K : PySem.W.Frag) (H : Hp) (rr : RR) (y : RX) : Prop where
  run : RunAt K H y.a rr.st y.x
  hp : H y.h = some (.lst y.hv)
  th : TDs K H y.hv (rr.hap.map Hap.d)
  tb : TD K H y.bv (byD rr.by_)
  qq : ∀ q ∈ y.qs, H q = some (.lst [.ref y.a, .str rr.nm, y.bv, .ref y.h])
  nd : y.F.Nodup
section
variable {K : PySem.W.Frag} {H H' : Hp} {rr : RR} {y : RX}
theorem RX.xF {b : Addr} (h : b ∈ y.x.F y.a) : b ∈ y.F := List.mem_cons_of_mem _ (List.mem_append_right _ h)
theorem RecAt.keep (R : RecAt K H rr y) (hk : ∀ b o, H b = some o → b ∈ y.F → H' b = some o) (fx : Fx H H') : RecAt K H' rr y :=
  ⟨R.run.keep (fun b o h m => hk b o h (RX.xF m)) fx, hk _ _ R.hp List.mem_cons_self, TDs.fx fx _ _ R.th, TD.fx fx _ _ R.tb, fun q hq => hk _ _ (R.qq q hq) (List.mem_cons_of_mem _ (List.mem_append_left _ hq)), R.nd⟩
theorem RecAt.thing (R : RecAt K H rr y) {b : Addr} (hb : b ∈ y.F) : ∃ o, H b = some o ∧ (∀ xs, o ≠ .tup xs) ∧ ∀ q w, o ≠ .frz q w := by
  rcases List.mem_cons.mp hb with e | m
  · rw [e]; exact ⟨_, R.hp, (fun _ q => nomatch q), (fun _ _ q => nomatch q)⟩
  · rcases List.mem_append.mp m with m | m
    · exact ⟨_, R.qq b m, (fun _ q => nomatch q), (fun _ _ q => nomatch q)⟩
    · exact R.run.thing m
/-- a happening more -/
theorem RecAt.happens (R : RecAt K H rr y) {v : V} {p : Hap} (hv : TD K H v p.d) : RecAt K (upd H y.h (.lst (y.hv ++ [v]))) { rr with hap := rr.hap ++ [p] } { y with hv := y.hv ++ [v] } ∧ Upto y.F H (upd H y.h (.lst (y.hv ++ [v]))) y.F := by
  have U : Upto y.F H (upd H y.h (.lst (y.hv ++ [v]))) y.F := Upto.upd R.hp List.mem_cons_self (fun _ q => nomatch q) (fun _ _ q => nomatch q)
  have nd := List.nodup_cons.mp (show (y.h :: (y.qs ++ y.x.F y.a)).Nodup from R.nd)
  refine ⟨⟨R.run.keep (fun b o h m => by rw [upd_ne (fun q => nd.1 (by rw [← q]; exact List.mem_append_right _ m))]; exact h) U.fx, upd_same, ?_, TD.fx U.fx _ _ R.tb, fun q hq => by rw [upd_ne (fun z => nd.1 (by rw [← z]; exact List.mem_append_left _ hq))]; exact R.qq q hq, R.nd⟩, U⟩
  show TDs K _ (y.hv ++ [v]) ((rr.hap ++ [p]).map Hap.d)
  rw [List.map_append]
  exact (TDs.fx U.fx _ _ R.th).snoc (TD.fx U.fx _ _ hv)
/-- its run goes on -/
theorem RecAt.goes (R : RecAt K H rr y) {r' : RS} {x' : RA} (T : RunTo K H (y.x.F y.a) H' y.a r' x') : RecAt K H' { rr with st := r' } { y with x := x' } ∧ Upto y.F H H' ({ y with x := x' } : RX).F := by
  have nd := List.nodup_cons.mp (show (y.h :: (y.qs ++ y.x.F y.a)).Nodup from R.nd)
  have nq := List.nodup_append.mp nd.2
  have hh : y.h ∉ y.x.F y.a := fun m => nd.1 (List.mem_append_right _ m)
  have hq : ∀ q ∈ y.qs, q ∉ y.x.F y.a := fun q m m2 => nq.2.2 q m q m2 rfl
  have h1 := T.2.keep _ _ R.hp hh
  have h2 := fun q m => T.2.keep _ _ (R.qq q m) (hq q m)
  refine ⟨⟨T.1, h1, TDs.fx T.2.fx _ _ R.th, TD.fx T.2.fx _ _ R.tb, h2, ?_⟩, T.2.mono (fun b m => RX.xF m) (fun b m => ?_)⟩
  · refine List.nodup_cons.mpr ⟨fun m => ?_, List.nodup_append.mpr ⟨nq.1, T.1.dj, fun q m b m2 e => ?_⟩⟩
    · rcases List.mem_append.mp m with m | m
      · exact nd.1 (List.mem_append_left _ m)
      · rcases T.2.new _ m with z | z
        · exact hh z
        · have := R.hp; rw [show H y.h = none from z] at this; cases this
    · rw [← e] at m2
      rcases T.2.new _ m2 with z | z
      · exact hq q m z
      · have := R.qq q m; rw [z] at this; cases this
  · rcases List.mem_cons.mp m with e | m
    · exact .inr (by rw [e]; exact List.mem_cons_self)
    · rcases List.mem_append.mp m with m | m
      · exact .inr (List.mem_cons_of_mem _ (List.mem_append_left _ m))
      · exact .inl m
end
structure RunsAt (K : PySem.W.Frag) (H : Hp) (runs : List RR) (rs : List RX) (O : List Addr) : Prop where
  len : runs.length = rs.length
  at_ : ∀ (i : Nat) rr y, runs[i]? = some rr → rs[i]? = some y → RecAt K H rr y
  dj : ∀ (i j : Nat) y z, rs[i]? = some y → rs[j]? = some z → i ≠ j → ∀ b ∈ y.F, b ∉ z.F
  dO : ∀ y ∈ rs, ∀ b ∈ y.F, b ∉ O
def rsF (rs : List RX) : List Addr := rs.flatMap RX.F
section
variable {K : PySem.W.Frag} {H H' : Hp} {runs : List RR} {rs : List RX} {O : List Addr}
theorem RunsAt.get (R : RunsAt K H runs rs O) {i : Nat} {rr : RR} (h : runs[i]? = some rr) : ∃ y, rs[i]? = some y ∧ RecAt K H rr y := by
  have hi := (List.getElem?_eq_some_iff.mp h).1
  have e : rs[i]? = some (rs[i]'(by rw [← R.len]; exact hi)) := List.getElem?_eq_getElem _
  exact ⟨_, e, R.at_ i rr _ h e⟩
theorem RunsAt.getY (R : RunsAt K H runs rs O) {i : Nat} {y : RX} (h : rs[i]? = some y) : ∃ rr, runs[i]? = some rr ∧ RecAt K H rr y := by
  have hi := (List.getElem?_eq_some_iff.mp h).1
  have e : runs[i]? = some (runs[i]'(by rw [R.len]; exact hi)) := List.getElem?_eq_getElem _
  exact ⟨_, e, R.at_ i _ _ e h⟩
theorem RunsAt.keep (R : RunsAt K H runs rs O) (hk : ∀ b o, H b = some o → b ∈ rsF rs → H' b = some o) (fx : Fx H H') : RunsAt K H' runs rs O :=
  ⟨R.len, fun i rr y h1 h2 => (R.at_ i rr y h1 h2).keep (fun b o h m => hk b o h (List.mem_flatMap.mpr ⟨y, List.mem_of_getElem? h2, m⟩)) fx, R.dj, R.dO⟩
theorem RunsAt.thing (R : RunsAt K H runs rs O) {b : Addr} (hb : b ∈ rsF rs) : ∃ o, H b = some o ∧ (∀ xs, o ≠ .tup xs) ∧ ∀ q w, o ≠ .frz q w := by
  obtain ⟨y, hy, m⟩ := List.mem_flatMap.mp hb
  obtain ⟨i, hi⟩ := List.getElem?_of_mem hy
  obtain ⟨rr, _, R1⟩ := R.getY hi
  exact R1.thing m
theorem mem_set_get {α : Type} {l : List α} {i j : Nat} {a b : α} (h : (l.set i a)[j]? = some b) : (j = i ∧ b = a) ∨ (j ≠ i ∧ l[j]? = some b) := by
  rw [List.getElem?_set] at h
  by_cases e : i = j
  · rw [if_pos e] at h
    split at h
    · exact .inl ⟨e.symm, (Option.some.inj h).symm⟩
    · cases h
  · rw [if_neg e] at h
    exact .inr ⟨fun z => e z.symm, h⟩
theorem rsF_set {i : Nat} {y' : RX} {b : Addr} (h : b ∈ rsF (rs.set i y')) : b ∈ y'.F ∨ b ∈ rsF rs := by
  obtain ⟨z, hz, m⟩ := List.mem_flatMap.mp h
  rcases List.mem_or_eq_of_mem_set hz with z1 | z1
  · exact .inr (List.mem_flatMap.mpr ⟨z, z1, m⟩)
  · exact .inl (by rw [← z1]; exact m)
theorem rsF_get {i : Nat} {y : RX} (h : rs[i]? = some y) {b : Addr} (m : b ∈ y.F) : b ∈ rsF rs := List.mem_flatMap.mpr ⟨y, List.mem_of_getElem? h, m⟩
/-- one record is changed -/
theorem RunsAt.setRec (R : RunsAt K H runs rs O) {i : Nat} {y y' : RX} {rr' : RR} (hy : rs[i]? = some y) (R1 : RecAt K H' rr' y') (U : Upto y.F H H' y'.F) (hO : ∀ b ∈ O, H b ≠ none) : RunsAt K H' (runs.set i rr') (rs.set i y') O := by
  obtain ⟨rr, _, R0⟩ := R.getY hy
  have apart : ∀ j z, rs[j]? = some z → j ≠ i → ∀ b ∈ z.F, b ∉ y'.F := fun j z hz hj b m m2 => by
    obtain ⟨rz, _, Rz⟩ := R.getY hz
    rcases U.new b m2 with w | w
    · exact R.dj j i z y hz hy hj b m w
    · obtain ⟨o, ho, _⟩ := Rz.thing m
      rw [w] at ho
      cases ho
  refine ⟨by rw [List.length_set, List.length_set]; exact R.len, fun j rz z h1 h2 => ?_, fun j k z u h1 h2 hn b m m2 => ?_, fun z hz b m m2 => ?_⟩
  · rcases mem_set_get h2 with ⟨e, ez⟩ | ⟨e, hz⟩
    · rcases mem_set_get h1 with ⟨_, er⟩ | ⟨e2, _⟩
      · rw [er, ez]; exact R1
      · exact absurd e e2
    · rcases mem_set_get h1 with ⟨e2, _⟩ | ⟨_, hr⟩
      · exact absurd e2 e
      · exact (R.at_ j rz z hr hz).keep (fun b o h m => U.keep b o h fun m2 => R.dj j i z y hz hy e b m m2) U.fx
  · rcases mem_set_get h1 with ⟨e, ez⟩ | ⟨e, hz⟩
    · rcases mem_set_get h2 with ⟨e2, _⟩ | ⟨e2, hu⟩
      · exact hn (e.trans e2.symm)
      · rw [ez] at m
        exact apart k u hu e2 b m2 m
    · rcases mem_set_get h2 with ⟨e2, eu⟩ | ⟨e2, hu⟩
      · rw [eu] at m2
        exact apart j z hz e b m m2
      · exact R.dj j k z u hz hu hn b m m2
  · rcases List.mem_or_eq_of_mem_set hz with w | w
    · exact R.dO z w b m m2
    · rw [w] at m
      rcases U.new b m with q | q
      · exact R.dO y (List.mem_of_getElem? hy) b q m2
      · exact hO b m2 q
/-- one record more -/
theorem RunsAt.push (R : RunsAt K H runs rs O) {rr : RR} {y : RX} (R1 : RecAt K H rr y) (h1 : ∀ b ∈ y.F, b ∉ rsF rs) (h2 : ∀ b ∈ y.F, b ∉ O) : RunsAt K H (runs ++ [rr]) (rs ++ [y]) O := by
  have cs : ∀ {i : Nat} {z : RX}, (rs ++ [y])[i]? = some z → (rs[i]? = some z) ∨ (i = rs.length ∧ z = y) := fun {i z} h => by
    by_cases hi : i < rs.length
    · rw [List.getElem?_append_left hi] at h; exact .inl h
    · rw [List.getElem?_append_right (by omega)] at h
      have hl := (List.getElem?_eq_some_iff.mp h).1
      simp at hl
      have e : i - rs.length = 0 := by omega
      rw [e] at h
      exact .inr ⟨by omega, (Option.some.inj h).symm⟩
  refine ⟨by rw [List.length_append, List.length_append, R.len]; rfl, fun i rz z g1 g2 => ?_, fun i j z u g1 g2 hn b m m2 => ?_, fun z hz b m m2 => ?_⟩
  · rcases cs g2 with w | ⟨w, e⟩
    · have hi : i < runs.length := by rw [R.len]; exact (List.getElem?_eq_some_iff.mp w).1
      rw [List.getElem?_append_left hi] at g1
      exact R.at_ i rz z g1 w
    · rw [List.getElem?_append_right (by rw [R.len]; omega), w, R.len, Nat.sub_self] at g1
      rw [← Option.some.inj g1, e]
      exact R1
  · rcases cs g1 with w | ⟨w, e⟩
    · rcases cs g2 with w2 | ⟨w2, e2⟩
      · exact R.dj i j z u w w2 hn b m m2
      · rw [e2] at m2; exact h1 b m2 (rsF_get w m)
    · rcases cs g2 with w2 | ⟨w2, e2⟩
      · rw [e] at m; exact h1 b m (rsF_get w2 m2)
      · exact hn (w.trans w2.symm)
  · rcases List.mem_append.mp hz with w | w
    · exact R.dO z w b m m2
    · simp at w
      rw [w] at m
      exact h2 b m m2
end
/-- a dict of programs -/
def PgAt (K : PySem.W.Frag) (H : Hp) (pd : Addr) (progs : List (Str × List Stm)) : Prop := ∃ pgV : List (Str × V), H pd = some (.dK (mk2 Sum.inr id pgV)) ∧ PK2 (fun b v => TD K H v (.tuple (blkD b))) progs pgV
theorem PgAt.keep {K : PySem.W.Frag} {H H' : Hp} {pd : Addr} {progs : List (Str × List Stm)} (h : PgAt K H pd progs) (hk : ∀ o, H pd = some o → H' pd = some o) (fx : Fx H H') : PgAt K H' pd progs := by
  obtain ⟨pgV, h1, h2⟩ := h
  exact ⟨pgV, hk _ h1, PK2.mono h2 fun a b q => TD.fx fx _ _ q⟩
def ordVD (o : Str × W) : PyData := .tuple [.str o.1, wd o.2]
end Ol
namespace Ol
open PySem PySem.Spec PyProof.Rows L2
/-! ### a house in the heap -/
structure HX where
  dx : Addr
  pd : Addr
  cl : Addr
  rl : Addr
  nl : Addr
  bl : Addr
  hl : Addr
  od : Addr
  td : Addr
  cameV : List V
  ordV : List ((Int × Int) × V)
  rs : List RX
abbrev cH (K : PySem.W.Frag) : Addr := He.ga K "House"
def HX.O (X : HX) (a : Addr) : List Addr := [a, X.cl, X.rl, X.nl, X.bl, X.hl, X.od, X.td, X.pd]
def HX.F (X : HX) (a : Addr) : List Addr := X.O a ++ rsF X.rs
def hf (s : HS) (X : HX) : List (Str × V) := [(("programs" : Str), .ref X.pd), ("now", .int s.now), ("came", .ref X.cl), ("all_runs", .ref X.rl), ("names_of", .ref X.nl), ("begun_by", .ref X.bl), ("happened", .ref X.hl), ("orders", .ref X.od), ("timers", .ref X.td)]
structure HouseAt (K : PySem.W.Frag) (H : Hp) (a : Addr) (s : HS) (came : List Inp) (X : HX) : Prop where
  ob : H a = some (.ins (cH K) X.dx (hf s X))
  cl : H X.cl = some (.lst X.cameV)
  rl : H X.rl = some (.lst (X.rs.map fun y => .ref y.a))
  nl : H X.nl = some (.lst (s.runs.map fun r => .str r.nm))
  bl : H X.bl = some (.lst (X.rs.map (·.bv)))
  hl : H X.hl = some (.lst (X.rs.map fun y => .ref y.h))
  od : H X.od = some (.dT (mk2 kII id X.ordV))
  td : H X.td = some (.dT (mk2 kII V.int s.timers))
  tc : TDs K H X.cameV (came.map Inp.d)
  tor : PK2 (fun o v => TD K H v (ordVD o)) s.orders X.ordV
  pg : PgAt K H X.pd s.progs
  runs : RunsAt K H s.runs X.rs (X.O a)
  nd : (X.O a).Nodup
structure HouseRest (K : PySem.W.Frag) (H : Hp) (a : Addr) (s : HS) (came : List Inp) (X : HX) (S : List Nat) : Prop where
  ob : 0 ∉ S → H a = some (.ins (cH K) X.dx (hf s X))
  cl : 1 ∉ S → H X.cl = some (.lst X.cameV)
  rl : 2 ∉ S → H X.rl = some (.lst (X.rs.map fun y => .ref y.a))
  nl : 3 ∉ S → H X.nl = some (.lst (s.runs.map fun r => .str r.nm))
  bl : 4 ∉ S → H X.bl = some (.lst (X.rs.map (·.bv)))
  hl : 5 ∉ S → H X.hl = some (.lst (X.rs.map fun y => .ref y.h))
  od : 6 ∉ S → H X.od = some (.dT (mk2 kII id X.ordV))
  td : 7 ∉ S → H X.td = some (.dT (mk2 kII V.int s.timers))
  tc : TDs K H X.cameV (came.map Inp.d)
  tor : PK2 (fun o v => TD K H v (ordVD o)) s.orders X.ordV
  pg : 8 ∉ S → PgAt K H X.pd s.progs
  runs : RunsAt K H s.runs X.rs (X.O a)
section
variable {K : PySem.W.Frag} {H H' H0 : Hp} {F0 : List Addr} {a : Addr} {s : HS} {came : List Inp} {X : HX}
theorem HX.inO {b : Addr} (h : b ∈ X.O a) : b ∈ X.F a := List.mem_append_left _ h
theorem HX.inR {b : Addr} (h : b ∈ rsF X.rs) : b ∈ X.F a := List.mem_append_right _ h
theorem HouseAt.offR (R : HouseAt K H a s came X) {b : Addr} (h : b ∈ rsF X.rs) : b ∉ X.O a := by
  obtain ⟨y, hy, m⟩ := List.mem_flatMap.mp h
  exact R.runs.dO y hy b m
theorem HouseAt.rest (R : HouseAt K H a s came X) (S : List Nat) (hk : ∀ b o, H b = some o → (∀ i ∈ S, (X.O a)[i]? ≠ some b) → H' b = some o) (fx : Fx H H') : HouseRest K H' a s came X S where
  ob := fun h => hk _ _ R.ob fun i m e => h (by rw [nd_ix R.nd (rfl : (X.O a)[0]? = some a) e]; exact m)
  cl := fun h => hk _ _ R.cl fun i m e => h (by rw [nd_ix R.nd (rfl : (X.O a)[1]? = some X.cl) e]; exact m)
  rl := fun h => hk _ _ R.rl fun i m e => h (by rw [nd_ix R.nd (rfl : (X.O a)[2]? = some X.rl) e]; exact m)
  nl := fun h => hk _ _ R.nl fun i m e => h (by rw [nd_ix R.nd (rfl : (X.O a)[3]? = some X.nl) e]; exact m)
  bl := fun h => hk _ _ R.bl fun i m e => h (by rw [nd_ix R.nd (rfl : (X.O a)[4]? = some X.bl) e]; exact m)
  hl := fun h => hk _ _ R.hl fun i m e => h (by rw [nd_ix R.nd (rfl : (X.O a)[5]? = some X.hl) e]; exact m)
  od := fun h => hk _ _ R.od fun i m e => h (by rw [nd_ix R.nd (rfl : (X.O a)[6]? = some X.od) e]; exact m)
  td := fun h => hk _ _ R.td fun i m e => h (by rw [nd_ix R.nd (rfl : (X.O a)[7]? = some X.td) e]; exact m)
  tc := TDs.fx fx _ _ R.tc
  tor := PK2.mono R.tor fun _ _ q => TD.fx fx _ _ q
  pg := fun h => R.pg.keep (fun o h2 => hk _ _ h2 fun i m e => h (by rw [nd_ix R.nd (rfl : (X.O a)[8]? = some X.pd) e]; exact m)) fx
  runs := R.runs.keep (fun b o h m => hk _ _ h fun i _ e => R.offR m (List.mem_of_getElem? e)) fx
theorem HouseAt.thing (R : HouseAt K H a s came X) {b : Addr} (hb : b ∈ X.F a) : ∃ o, H b = some o ∧ (∀ xs, o ≠ .tup xs) ∧ ∀ q w, o ≠ .frz q w := by
  rcases List.mem_append.mp hb with m | m
  · unfold HX.O at m
    simp only [List.mem_cons, List.not_mem_nil, or_false] at m
    rcases m with e | e | e | e | e | e | e | e | e
    · rw [e]; exact ⟨_, R.ob, (fun _ q => nomatch q), (fun _ _ q => nomatch q)⟩
    · rw [e]; exact ⟨_, R.cl, (fun _ q => nomatch q), (fun _ _ q => nomatch q)⟩
    · rw [e]; exact ⟨_, R.rl, (fun _ q => nomatch q), (fun _ _ q => nomatch q)⟩
    · rw [e]; exact ⟨_, R.nl, (fun _ q => nomatch q), (fun _ _ q => nomatch q)⟩
    · rw [e]; exact ⟨_, R.bl, (fun _ q => nomatch q), (fun _ _ q => nomatch q)⟩
    · rw [e]; exact ⟨_, R.hl, (fun _ q => nomatch q), (fun _ _ q => nomatch q)⟩
    · rw [e]; exact ⟨_, R.od, (fun _ q => nomatch q), (fun _ _ q => nomatch q)⟩
    · rw [e]; exact ⟨_, R.td, (fun _ q => nomatch q), (fun _ _ q => nomatch q)⟩
    · rw [e]; obtain ⟨_, g, _⟩ := R.pg; exact ⟨_, g, (fun _ q => nomatch q), (fun _ _ q => nomatch q)⟩
  · exact R.runs.thing m
theorem HouseAt.notIn (R : HouseAt K H a s came X) {p : Addr} (hp : H p = none) : p ∉ X.F a := fun m => by
  obtain ⟨o, h, _⟩ := R.thing m
  rw [hp] at h
  cases h
theorem HouseAt.keep (R : HouseAt K H a s came X) (hk : ∀ b o, H b = some o → b ∈ X.F a ∨ b = X.pd → H' b = some o) (fx : Fx H H') : HouseAt K H' a s came X :=
  ⟨hk _ _ R.ob (.inl (HX.inO (List.mem_of_getElem? (rfl : (X.O a)[0]? = some a)))), hk _ _ R.cl (.inl (HX.inO (List.mem_of_getElem? (rfl : (X.O a)[1]? = some X.cl)))), hk _ _ R.rl (.inl (HX.inO (List.mem_of_getElem? (rfl : (X.O a)[2]? = some X.rl)))),
   hk _ _ R.nl (.inl (HX.inO (List.mem_of_getElem? (rfl : (X.O a)[3]? = some X.nl)))), hk _ _ R.bl (.inl (HX.inO (List.mem_of_getElem? (rfl : (X.O a)[4]? = some X.bl)))), hk _ _ R.hl (.inl (HX.inO (List.mem_of_getElem? (rfl : (X.O a)[5]? = some X.hl)))),
   hk _ _ R.od (.inl (HX.inO (List.mem_of_getElem? (rfl : (X.O a)[6]? = some X.od)))), hk _ _ R.td (.inl (HX.inO (List.mem_of_getElem? (rfl : (X.O a)[7]? = some X.td)))),
   TDs.fx fx _ _ R.tc, PK2.mono R.tor fun _ _ q => TD.fx fx _ _ q, R.pg.keep (fun o h => hk _ _ h (.inr rfl)) fx, R.runs.keep (fun b o h m => hk _ _ h (.inl (HX.inR m))) fx, R.nd⟩
theorem HouseAt.same (R : HouseAt K H a s came X) (e : Same H H') : HouseAt K H' a s came X := R.keep (fun b o h _ => e b o h) (Same.fx e)
/-- what else changes outside a house -/
theorem HouseAt.upto {F F' : List Addr} (R : HouseAt K H a s came X) (U : Upto F H H' F') (h1 : ∀ b ∈ X.F a, b ∉ F) (h2 : X.pd ∉ F) : HouseAt K H' a s came X :=
  R.keep (fun b o h m => U.keep b o h (m.elim (h1 b) fun e => by rw [e]; exact h2)) U.fx
def HouseTo (K : PySem.W.Frag) (H0 : Hp) (F0 : List Addr) (H : Hp) (a : Addr) (s : HS) (came : List Inp) (X : HX) : Prop := HouseAt K H a s came X ∧ Upto F0 H0 H (X.F a)
theorem HouseAt.to (R : HouseAt K H a s came X) : HouseTo K H (X.F a) H a s came X := ⟨R, Upto.refl⟩
theorem HouseTo.same (T : HouseTo K H0 F0 H a s came X) (e : Same H H') : HouseTo K H0 F0 H' a s came X := ⟨T.1.same e, T.2.same e⟩
theorem HouseTo.up (T : HouseTo K H0 F0 H a s came X) {p : Addr} {u o : HO} (i : Nat) (hp : (X.O a)[i]? = some p) (h : H p = some u) (h1 : ∀ xs, u ≠ .tup xs) (h2 : ∀ q w, u ≠ .frz q w) : HouseRest K (upd H p o) a s came X [i] ∧ Upto F0 H0 (upd H p o) (X.F a) :=
  have U : Upto (X.F a) H (upd H p o) (X.F a) := Upto.upd h (HX.inO (List.mem_of_getElem? hp)) h1 h2
  ⟨T.1.rest [i] (fun b v e n => by rw [upd_ne (fun q => n i (List.mem_singleton.mpr rfl) (by rw [q]; exact hp))]; exact e) U.fx, T.2.trans U⟩
theorem HouseTo.setNow (T : HouseTo K H0 F0 H a s came X) (m : Int) : HouseTo K H0 F0 (upd H a (.ins (cH K) X.dx (hf { s with now := m } X))) a { s with now := m } came X := by
  obtain ⟨E, U⟩ := T.up (o := .ins (cH K) X.dx (hf { s with now := m } X)) 0 rfl T.1.ob (fun _ q => nomatch q) (fun _ _ q => nomatch q)
  exact ⟨⟨upd_same, E.cl (by decide), E.rl (by decide), E.nl (by decide), E.bl (by decide), E.hl (by decide), E.od (by decide), E.td (by decide), E.tc, E.tor, E.pg (by decide), E.runs, T.1.nd⟩, U⟩
theorem HouseTo.addCame (T : HouseTo K H0 F0 H a s came X) (x : Inp) {v : V} (hv : TD K H v x.d) : HouseTo K H0 F0 (upd H X.cl (.lst (X.cameV ++ [v]))) a s (came ++ [x]) { X with cameV := X.cameV ++ [v] } := by
  obtain ⟨E, U⟩ := T.up (o := .lst (X.cameV ++ [v])) 1 rfl T.1.cl (fun _ q => nomatch q) (fun _ _ q => nomatch q)
  have fx : Fx H (upd H X.cl (.lst (X.cameV ++ [v]))) := (Upto.upd (F := X.F a) T.1.cl (HX.inO (List.mem_of_getElem? (rfl : (X.O a)[1]? = some X.cl))) (fun _ q => nomatch q) (fun _ _ q => nomatch q)).fx
  refine ⟨⟨E.ob (by decide), upd_same, E.rl (by decide), E.nl (by decide), E.bl (by decide), E.hl (by decide), E.od (by decide), E.td (by decide), ?_, E.tor, E.pg (by decide), E.runs, T.1.nd⟩, U⟩
  rw [List.map_append]
  exact E.tc.snoc (TD.fx fx _ _ hv)
theorem HouseTo.putOrder (T : HouseTo K H0 F0 H a s came X) (k : Int × Int) (o : Str × W) {v : V} (hv : TD K H v (ordVD o)) :
    HouseTo K H0 F0 (upd H X.od (.dT (putK (mk2 kII id X.ordV) (kII k) v))) a { s with orders := pt s.orders k o } came { X with ordV := pt X.ordV k v } := by
  obtain ⟨E, U⟩ := T.up (o := .dT (putK (mk2 kII id X.ordV) (kII k) v)) 6 rfl T.1.od (fun _ q => nomatch q) (fun _ _ q => nomatch q)
  have fx : Fx H (upd H X.od (.dT (putK (mk2 kII id X.ordV) (kII k) v))) := (Upto.upd (F := X.F a) T.1.od (HX.inO (List.mem_of_getElem? (rfl : (X.O a)[6]? = some X.od))) (fun _ q => nomatch q) (fun _ _ q => nomatch q)).fx
  refine ⟨⟨E.ob (by decide), E.cl (by decide), E.rl (by decide), E.nl (by decide), E.bl (by decide), E.hl (by decide), ?_, E.td (by decide), E.tc, PK2.put E.tor k (TD.fx fx _ _ hv), E.pg (by decide), E.runs, T.1.nd⟩, U⟩
  rw [upd_same]
  exact congrArg (fun l => some (HO.dT l)) (putK_mk2 (g := id) kII_inj X.ordV k v)
theorem HouseTo.putTimer (T : HouseTo K H0 F0 H a s came X) (k : Int × Int) (due : Int) :
    HouseTo K H0 F0 (upd H X.td (.dT (putK (mk2 kII V.int s.timers) (kII k) (.int due)))) a { s with timers := pt s.timers k due } came X := by
  obtain ⟨E, U⟩ := T.up (o := .dT (putK (mk2 kII V.int s.timers) (kII k) (.int due))) 7 rfl T.1.td (fun _ q => nomatch q) (fun _ _ q => nomatch q)
  exact ⟨⟨E.ob (by decide), E.cl (by decide), E.rl (by decide), E.nl (by decide), E.bl (by decide), E.hl (by decide), E.od (by decide), by rw [upd_same, putK_mk2 kII_inj], E.tc, E.tor, E.pg (by decide), E.runs, T.1.nd⟩, U⟩
theorem map_set_same {α β : Type} (f : α → β) {l : List α} {i : Nat} {x y : α} (h : l[i]? = some x) (e : f y = f x) : (l.set i y).map f = l.map f := by
  rw [List.map_set, e]
  obtain ⟨hi, hx⟩ := List.getElem?_eq_some_iff.mp h
  rw [← hx, ← List.getElem_map (f := f) (h := by rw [List.length_map]; exact hi)]
  exact List.set_getElem_self _
/-- a run's record is changed -/
theorem HouseTo.setRec (T : HouseTo K H0 F0 H a s came X) {i : Nat} {rr rr' : RR} {y y' : RX} (hr : s.runs[i]? = some rr) (hy : X.rs[i]? = some y) (R1 : RecAt K H' rr' y') (U : Upto y.F H H' y'.F) (e1 : y'.a = y.a) (e2 : y'.h = y.h) (e3 : y'.bv = y.bv) (e4 : rr'.nm = rr.nm) :
    HouseTo K H0 F0 H' a (s.setRun i rr') came { X with rs := X.rs.set i y' } := by
  have hO : ∀ b ∈ X.O a, b ∉ y.F := fun b m m2 => T.1.runs.dO y (List.mem_of_getElem? hy) b m2 m
  have hn : ∀ b ∈ X.O a, H b ≠ none := fun b m e => by
    obtain ⟨o, h, _⟩ := T.1.thing (HX.inO m)
    rw [e] at h
    cases h
  have hpd : X.pd ∉ y.F := hO _ (List.mem_of_getElem? (rfl : (X.O a)[8]? = some X.pd))
  have UF : Upto (X.F a) H H' (({ X with rs := X.rs.set i y' } : HX).F a) := U.mono (fun b m => HX.inR (rsF_get hy m)) fun b m => by
    rcases List.mem_append.mp m with m | m
    · exact .inr (HX.inO m)
    · rcases rsF_set m with m | m
      · exact .inl m
      · exact .inr (HX.inR m)
  refine ⟨⟨U.keep _ _ T.1.ob (hO _ (List.mem_of_getElem? (rfl : (X.O a)[0]? = some a))), U.keep _ _ T.1.cl (hO _ (List.mem_of_getElem? (rfl : (X.O a)[1]? = some X.cl))), ?_, ?_, ?_, ?_, U.keep _ _ T.1.od (hO _ (List.mem_of_getElem? (rfl : (X.O a)[6]? = some X.od))), U.keep _ _ T.1.td (hO _ (List.mem_of_getElem? (rfl : (X.O a)[7]? = some X.td))),
    TDs.fx U.fx _ _ T.1.tc, PK2.mono T.1.tor fun _ _ q => TD.fx U.fx _ _ q, T.1.pg.keep (fun o h => U.keep _ _ h hpd) U.fx, T.1.runs.setRec hy R1 U hn, T.1.nd⟩, T.2.trans UF⟩
  · show H' X.rl = some (.lst ((X.rs.set i y').map fun y => .ref y.a))
    rw [map_set_same (fun y : RX => V.ref y.a) hy (by rw [e1])]
    exact U.keep _ _ T.1.rl (hO _ (List.mem_of_getElem? (rfl : (X.O a)[2]? = some X.rl)))
  · show H' X.nl = some (.lst ((s.runs.set i rr').map fun r => .str r.nm))
    rw [map_set_same (fun r : RR => V.str r.nm) hr (by rw [e4])]
    exact U.keep _ _ T.1.nl (hO _ (List.mem_of_getElem? (rfl : (X.O a)[3]? = some X.nl)))
  · show H' X.bl = some (.lst ((X.rs.set i y').map (·.bv)))
    rw [map_set_same (·.bv) hy e3]
    exact U.keep _ _ T.1.bl (hO _ (List.mem_of_getElem? (rfl : (X.O a)[4]? = some X.bl)))
  · show H' X.hl = some (.lst ((X.rs.set i y').map fun y => .ref y.h))
    rw [map_set_same (fun y : RX => V.ref y.h) hy (by rw [e2])]
    exact U.keep _ _ T.1.hl (hO _ (List.mem_of_getElem? (rfl : (X.O a)[5]? = some X.hl)))
end
end Ol
namespace Ol
open PySem PySem.Spec PyProof.Rows L2
local macro_rules | `(tactic| walk_at "len") => `(tactic| (intro vs H Q E h; first | (rcases h with ⟨hh, _⟩; rw [hh]; rfl) | (rcases h with ⟨_, hh, _⟩; rw [hh]; rfl) | (rcases h with ⟨_, _, hh, _⟩; rw [hh]; rfl) | (rcases h with ⟨_, _, _, hh, _⟩; rw [hh]; rfl) | (rcases h with ⟨_, _, _, _, hh, _⟩; rw [hh]; rfl) | (rcases h with ⟨_, _, _, _, _, hh, _⟩; rw [hh]; rfl) | (rcases h with ⟨_, _, _, _, _, _, hh, _⟩; rw [hh]; rfl) | (rcases h with ⟨_, _, _, _, _, _, _, hh, _⟩; rw [hh]; rfl) | (rcases h with ⟨_, _, _, _, _, _, _, _, hh, _⟩; rw [hh]; rfl) | (rcases h with ⟨_, _, _, _, _, _, _, _, _, hh, _⟩; rw [hh]; rfl) | (rcases h with ⟨_, _, _, _, _, _, _, _, _, _, hh, _⟩; rw [hh]; rfl) | (rcases h with ⟨_, _, _, _, _, _, _, _, _, _, _, hh, _⟩; rw [hh]; rfl) | (rcases h with ⟨_, _, _, _, _, _, _, _, _, _, _, _, hh, _⟩; rw [hh]; rfl) | (rcases h with ⟨_, _, _, _, _, _, _, _, _, _, _, _, _, hh, _⟩; rw [hh]; rfl) | (rcases h with ⟨_, _, _, _, _, _, _, _, _, _, _, _, _, _, hh, _⟩; rw [hh]; rfl) | (rcases h with ⟨_, _, _, _, _, _, _, _, _, _, _, _, _, _, _, hh, _⟩; rw [hh]; rfl) | (rcases h with ⟨_, _, _, _, _, _, _, _, _, _, _, _, _, _, _, _, hh, _⟩; rw [hh]; rfl) | (rcases h with ⟨_, _, _, _, _, _, _, _, _, _, _, _, _, _, _, _, _, hh, _⟩; rw [hh]; rfl) | (rcases h with ⟨_, _, _, _, _, _, _, _, _, _, _, _, _, _, _, _, _, _, hh, _⟩; rw [hh]; rfl) | (rcases h with ⟨_, _, _, _, _, _, _, _, _, _, _, _, _, _, _, _, _, _, _, hh, _⟩; rw [hh]; rfl)))
/-- a house's runs, its timers perhaps locked -/
structure HRun (K : PySem.W.Frag) (H : Hp) (a : Addr) (s : HS) (X : HX) : Prop where
  ob : H a = some (.ins (cH K) X.dx (hf s X))
  rl : H X.rl = some (.lst (X.rs.map fun y => .ref y.a))
  runs : RunsAt K H s.runs X.rs (X.O a)
theorem HouseAt.hrun {K : PySem.W.Frag} {H : Hp} {a : Addr} {s : HS} {came : List Inp} {X : HX} (R : HouseAt K H a s came X) : HRun K H a s X := ⟨R.ob, R.rl, R.runs⟩
theorem HouseAt.lock {K : PySem.W.Frag} {H : Hp} {a : Addr} {s : HS} {came : List Inp} {X : HX} (R : HouseAt K H a s came X) (u : HO) : HRun K (upd H X.td u) a s X := by
  have U : Upto (X.F a) H (upd H X.td u) (X.F a) := Upto.upd R.td (HX.inO (List.mem_of_getElem? (rfl : (X.O a)[7]? = some X.td))) (fun _ q => nomatch q) (fun _ _ q => nomatch q)
  have E := R.rest (H' := upd H X.td u) [7] (fun b v e n => by rw [upd_ne (fun q => n 7 (List.mem_singleton.mpr rfl) (by rw [q]; rfl))]; exact e) U.fx
  exact ⟨E.ob (by decide), E.rl (by decide), E.runs⟩
theorem HRun.same {K : PySem.W.Frag} {H H' : Hp} {a : Addr} {s : HS} {X : HX} (R : HRun K H a s X) (e : Same H H') : HRun K H' a s X := ⟨e _ _ R.ob, e _ _ R.rl, R.runs.keep (fun b o h _ => e b o h) (Same.fx e)⟩
theorem Hk.run {s : HS} {n k : Nat} (h : Hk s n k) {i : Nat} {rr : RR} (hi : s.runs[i]? = some rr) : RRk rr (303 * n) n := h.rr _ (List.mem_of_getElem? hi)
theorem HouseAt.ne {K : PySem.W.Frag} {H : Hp} {a : Addr} {s : HS} {came : List Inp} {X : HX} (R : HouseAt K H a s came X) (i j : Nat) {p q : Addr} (hp : (X.O a)[i]? = some p) (hq : (X.O a)[j]? = some q) (hij : i ≠ j) : p ≠ q := fun e => hij (nd_ix R.nd (e ▸ hp) hq |> fun z => z)
/-- the house with a run more -/
theorem HouseTo.newRun {K : PySem.W.Frag} {H0 H H2 : Hp} {F0 : List Addr} {a : Addr} {s : HS} {came : List Inp} {X : HX} (T : HouseTo K H0 F0 H a s came X) (s2 : Same H H2) {x : Addr} {xa : RA} {prog : List Stm} (hr : RunAt K H2 x (RS.init prog) xa) (hf : ∀ b ∈ xa.F x, H b = none) (nm : Str) {b : Option (Nat × Int)} {bv : V} (hb : TD K H bv (byD b)) {h : Addr}
    (hh : upd (upd (upd H2 X.rl (.lst (X.rs.map (fun y => V.ref y.a) ++ [.ref x]))) X.nl (.lst (s.runs.map (fun r => V.str r.nm) ++ [.str nm]))) X.bl (.lst (X.rs.map (fun y => y.bv) ++ [bv])) h = none) :
    HouseTo K H0 F0 (upd (upd (upd (upd (upd H2 X.rl (.lst (X.rs.map (fun y => V.ref y.a) ++ [.ref x]))) X.nl (.lst (s.runs.map (fun r => V.str r.nm) ++ [.str nm]))) X.bl (.lst (X.rs.map (fun y => y.bv) ++ [bv]))) h (.lst [])) X.hl (.lst (X.rs.map (fun y => V.ref y.h) ++ [.ref h])))
      a (s.newRun nm b prog) came { X with rs := X.rs ++ [⟨x, xa, h, [], bv, []⟩] } := by
  have R2 := T.1.same s2
  have i2 : (X.O a)[2]? = some X.rl := rfl
  have i3 : (X.O a)[3]? = some X.nl := rfl
  have i4 : (X.O a)[4]? = some X.bl := rfl
  have i5 : (X.O a)[5]? = some X.hl := rfl
  have hne : ∀ p u, H2 p = some u → p ≠ h := fun p u e z => by
    rw [z] at e
    by_cases z4 : h = X.bl
    · rw [z4, upd_same] at hh; cases hh
    · rw [upd_ne z4] at hh
      by_cases z3 : h = X.nl
      · rw [z3, upd_same] at hh; cases hh
      · rw [upd_ne z3] at hh
        by_cases z2 : h = X.rl
        · rw [z2, upd_same] at hh; cases hh
        · rw [upd_ne z2, e] at hh; cases hh
  -- what stays
  have keep : ∀ p u, H2 p = some u → p ≠ X.rl → p ≠ X.nl → p ≠ X.bl → p ≠ X.hl → (upd (upd (upd (upd (upd H2 X.rl (.lst (X.rs.map (fun y => V.ref y.a) ++ [.ref x]))) X.nl (.lst (s.runs.map (fun r => V.str r.nm) ++ [.str nm]))) X.bl (.lst (X.rs.map (fun y => y.bv) ++ [bv]))) h (.lst [])) X.hl (.lst (X.rs.map (fun y => V.ref y.h) ++ [.ref h]))) p = some u := fun p u e n2 n3 n4 n5 => by
    rw [upd_ne n5, upd_ne (hne p u e), upd_ne n4, upd_ne n3, upd_ne n2]; exact e
  generalize eH7 : (upd (upd (upd (upd (upd H2 X.rl (.lst (X.rs.map (fun y => V.ref y.a) ++ [.ref x]))) X.nl (.lst (s.runs.map (fun r => V.str r.nm) ++ [.str nm]))) X.bl (.lst (X.rs.map (fun y => y.bv) ++ [bv]))) h (.lst [])) X.hl (.lst (X.rs.map (fun y => V.ref y.h) ++ [.ref h]))) = H7 at keep ⊢
  have fx : Fx H2 H7 := fun p u e k => keep p u e (fun z => by rw [z, R2.rl] at e; cases e; rcases k with ⟨_, k⟩ | ⟨_, _, k⟩ <;> cases k) (fun z => by rw [z, R2.nl] at e; cases e; rcases k with ⟨_, k⟩ | ⟨_, _, k⟩ <;> cases k)
    (fun z => by rw [z, R2.bl] at e; cases e; rcases k with ⟨_, k⟩ | ⟨_, _, k⟩ <;> cases k) (fun z => by rw [z, R2.hl] at e; cases e; rcases k with ⟨_, k⟩ | ⟨_, _, k⟩ <;> cases k)
  have E := R2.rest (H' := H7) [2, 3, 4, 5] (fun p u e n => keep p u e (fun z => n 2 (by decide) (by rw [z]; rfl)) (fun z => n 3 (by decide) (by rw [z]; rfl)) (fun z => n 4 (by decide) (by rw [z]; rfl)) (fun z => n 5 (by decide) (by rw [z]; rfl))) fx
  have hx : ∀ p ∈ xa.F x, p ≠ h ∧ p ∉ X.F a := fun p m => by
    obtain ⟨o, ho, _⟩ := hr.thing m
    refine ⟨hne p o ho, fun m2 => ?_⟩
    obtain ⟨o2, ho2, _⟩ := T.1.thing m2
    rw [hf p m] at ho2
    cases ho2
  have hhF : h ∉ X.F a := fun m => by
    obtain ⟨o2, ho2, _⟩ := R2.thing m
    exact hne h o2 ho2 rfl
  have hO : ∀ p, p ∉ X.F a → p ≠ X.rl ∧ p ≠ X.nl ∧ p ≠ X.bl ∧ p ≠ X.hl := fun p n => ⟨fun z => n (HX.inO (by rw [z]; exact List.mem_of_getElem? i2)), fun z => n (HX.inO (by rw [z]; exact List.mem_of_getElem? i3)), fun z => n (HX.inO (by rw [z]; exact List.mem_of_getElem? i4)), fun z => n (HX.inO (by rw [z]; exact List.mem_of_getElem? i5))⟩
  have n23 := R2.ne 2 3 i2 i3 (by decide)
  have n24 := R2.ne 2 4 i2 i4 (by decide)
  have n25 := R2.ne 2 5 i2 i5 (by decide)
  have n34 := R2.ne 3 4 i3 i4 (by decide)
  have n35 := R2.ne 3 5 i3 i5 (by decide)
  have n45 := R2.ne 4 5 i4 i5 (by decide)
  have g2 : H7 X.rl = some (.lst (X.rs.map (fun y => V.ref y.a) ++ [.ref x])) := by rw [← eH7, upd_ne n25, upd_ne (hne _ _ R2.rl), upd_ne n24, upd_ne n23, upd_same]
  have g3 : H7 X.nl = some (.lst (s.runs.map (fun r => V.str r.nm) ++ [.str nm])) := by rw [← eH7, upd_ne n35, upd_ne (hne _ _ R2.nl), upd_ne n34, upd_same]
  have g4 : H7 X.bl = some (.lst (X.rs.map (fun y => y.bv) ++ [bv])) := by rw [← eH7, upd_ne n45, upd_ne (hne _ _ R2.bl), upd_same]
  have g5 : H7 X.hl = some (.lst (X.rs.map (fun y => V.ref y.h) ++ [.ref h])) := by rw [← eH7, upd_same]
  have gh : H7 h = some (.lst []) := by rw [← eH7, upd_ne (hO h hhF).2.2.2, upd_same]
  have yF : ∀ p ∈ (⟨x, xa, h, [], bv, []⟩ : RX).F, p ∉ X.F a := fun p m => by
    rcases List.mem_cons.mp m with e | m
    · rw [e]; exact hhF
    · exact (hx p m).2
  have R1 : RecAt K H7 ⟨RS.init prog, nm, b, []⟩ ⟨x, xa, h, [], bv, []⟩ := by
    refine ⟨hr.keep (fun p u e m => by have z := hO p (hx p m).2; exact keep p u e z.1 z.2.1 z.2.2.1 z.2.2.2) fx, gh, TDs.nil, TD.fx fx _ _ (TD.fx (Same.fx s2) _ _ hb), (fun _ q => nomatch q), List.nodup_cons.mpr ⟨fun m => (hx h m).1 rfl, hr.dj⟩⟩
  have U : Upto (X.F a) H H7 (({ X with rs := X.rs ++ [⟨x, xa, h, [], bv, []⟩] } : HX).F a) := ⟨fun p u e n => by have z := hO p n; exact keep p u (s2 _ _ e) z.1 z.2.1 z.2.2.1 z.2.2.2, (Same.fx s2).trans fx, fun p m => by
    rcases List.mem_append.mp m with m | m
    · exact .inl (HX.inO m)
    · obtain ⟨y, hy, my⟩ := List.mem_flatMap.mp m
      rcases List.mem_append.mp hy with hy | hy
      · exact .inl (HX.inR (List.mem_flatMap.mpr ⟨y, hy, my⟩))
      · simp at hy
        rw [hy] at my
        rcases List.mem_cons.mp my with e | my
        · right
          cases eh : H p with
          | none => rfl
          | some o => exact absurd e (hne p o (s2 _ _ eh))
        · exact .inr (hf p my)⟩
  refine ⟨⟨E.ob (by decide), E.cl (by decide), ?_, ?_, ?_, ?_, E.od (by decide), E.td (by decide), E.tc, E.tor, E.pg (by decide), E.runs.push R1 (fun p m m2 => yF p m (HX.inR m2)) (fun p m m2 => yF p m (HX.inO m2)), T.1.nd⟩, T.2.trans U⟩
  · show H7 X.rl = some (.lst ((X.rs ++ [_]).map fun y : RX => .ref y.a))
    rw [List.map_append]; exact g2
  · show H7 X.nl = some (.lst ((s.runs ++ [_]).map fun r : RR => .str r.nm))
    rw [List.map_append]; exact g3
  · show H7 X.bl = some (.lst ((X.rs ++ [_]).map fun y : RX => y.bv))
    rw [List.map_append]; exact g4
  · show H7 X.hl = some (.lst ((X.rs ++ [_]).map fun y : RX => .ref y.h))
    rw [List.map_append]; exact g5
theorem lk_nodup {κ α : Type} [DecidableEq κ] : ∀ {l : List (κ × α)} {k : κ} {a : α}, (l.map (·.1)).Nodup → (k, a) ∈ l → lk l k = some a
  | p :: l, k, a, h, m => by
    rw [List.map_cons, List.nodup_cons] at h
    rw [lk_cons]
    rcases List.mem_cons.mp m with e | m
    · rw [← e, if_pos rfl]
    · rw [if_neg (fun z => h.1 (by rw [z]; exact List.mem_map.mpr ⟨_, m, rfl⟩))]
      exact lk_nodup h.2 m
def tmOf (p : (Int × Int) × Int) : Tm := (p.2, p.1.1, p.1.2)
theorem sd_tm (t : Tm) : Sd 1 (encTm t) := sd_tup (all3 sd_int sd_int sd_int)
def spMoment (K : PySem.W.Frag) : Sp := fun vs H Q _ => ∃ (a : Addr) (s : HS) (came : List Inp) (X : HX), vs = [.ref a] ∧ HouseAt K H a s came X ∧ Q (.int s.now) H
def spInputs (K : PySem.W.Frag) : Sp := fun vs H Q _ => ∃ (a : Addr) (s : HS) (came : List Inp) (X : HX), vs = [.ref a] ∧ HouseAt K H a s came X ∧ ∀ p, H p = none → Q (.ref p) (upd H p (.lst X.cameV))
def spRuns (K : PySem.W.Frag) : Sp := fun vs H Q _ => ∃ (a : Addr) (s : HS) (came : List Inp) (X : HX), vs = [.ref a] ∧ HouseAt K H a s came X ∧ Q (.int (s.runs.length : Int)) H
def spNeed (K : PySem.W.Frag) : Sp := fun vs H Q _ => ∃ (a : Addr) (s : HS) (came : List Inp) (X : HX) (i : Nat), vs = [.ref a, .int (i : Int)] ∧ HouseAt K H a s came X ∧ i < s.runs.length ∧ Q .non H
def spProgOf (K : PySem.W.Frag) : Sp := fun vs H Q _ => ∃ (a : Addr) (s : HS) (came : List Inp) (X : HX) (i : Nat) (rr : RR), vs = [.ref a, .int (i : Int)] ∧ HouseAt K H a s came X ∧ s.runs[i]? = some rr ∧ Q (.str rr.nm) H
def spHWaits (K : PySem.W.Frag) : Sp := fun vs H Q _ => ∃ (a : Addr) (s : HS) (came : List Inp) (X : HX) (i n k : Nat) (rr : RR), vs = [.ref a, .int (i : Int)] ∧ HouseAt K H a s came X ∧ Hk s n k ∧ s.runs[i]? = some rr ∧ ∀ v H', Same H H' → TD K H' v rr.st.waits → Q v H'
def spTaken (K : PySem.W.Frag) : Sp := fun vs H Q _ => ∃ (a : Addr) (s : HS) (came : List Inp) (X : HX) (i : Nat) (rr : RR), vs = [.ref a, .int (i : Int)] ∧ HouseAt K H a s came X ∧ s.runs[i]? = some rr ∧ ∀ p hv, H p = none → TDs K H hv (rr.hap.map Hap.d) → Q (.ref p) (upd H p (.lst hv))
def spParent (K : PySem.W.Frag) : Sp := fun vs H Q _ => ∃ (a : Addr) (s : HS) (came : List Inp) (X : HX) (i : Nat) (rr : RR), vs = [.ref a, .int (i : Int)] ∧ HouseAt K H a s came X ∧ s.runs[i]? = some rr ∧ ∀ v, TD K H v (byD rr.by_) → Q v H
def spThere (K : PySem.W.Frag) : Sp := fun vs H Q _ => ∃ (a : Addr) (s : HS) (X : HX) (n k : Nat) (i : Int), vs = [.ref a, .int i] ∧ HRun K H a s X ∧ Hk s n k ∧ ∀ H', Same H H' → Q (.bl (s.there i)) H'
def spIsOpen (K : PySem.W.Frag) : Sp := fun vs H Q _ => ∃ (a : Addr) (s : HS) (X : HX) (n k : Nat) (i t : Int), vs = [.ref a, .int i, .int t] ∧ HRun K H a s X ∧ Hk s n k ∧ ∀ H', Same H H' → Q (.bl (s.isOpen i t)) H'
def spOpenOrders (K : PySem.W.Frag) : Sp := fun vs H Q _ => ∃ (a : Addr) (s : HS) (came : List Inp) (X : HX) (n k : Nat), vs = [.ref a] ∧ HouseAt K H a s came X ∧ Hk s n k ∧ ∀ p xs H', Same H H' → H p = none → H' p = some (.lst xs) → TDs K H' xs s.openOrders → Q (.ref p) H'
def spOpenTimers (K : PySem.W.Frag) : Sp := fun vs H Q _ => ∃ (a : Addr) (s : HS) (came : List Inp) (X : HX) (n k : Nat), vs = [.ref a] ∧ HouseAt K H a s came X ∧ Hk s n k ∧ ∀ p xs H', Same H H' → H p = none → H' p = some (.lst xs) → TDs K H' xs (s.openTimers.map encTm) → Q (.ref p) H'
def spNextDue (K : PySem.W.Frag) : Sp := fun vs H Q _ => ∃ (a : Addr) (s : HS) (came : List Inp) (X : HX) (n k : Nat), vs = [.ref a] ∧ HouseAt K H a s came X ∧ Hk s n k ∧ ∀ H', Same H H' → Q (wv s.nextDue) H'
def spNewRun (K : PySem.W.Frag) : Sp := fun vs H Q _ => ∃ (a : Addr) (s : HS) (came : List Inp) (X : HX) (nm : Str) (b : Option (Nat × Int)) (bv : V) (prog : List Stm), vs = [.ref a, .str nm, bv] ∧ HouseAt K H a s came X ∧ lk s.progs nm = some prog ∧ TD K H bv (byD b) ∧ s.runs.length < 12000000 ∧
  ∀ H' X', HouseTo K H (X.F a) H' a (s.newRun nm b prog) came X' → Q (.int (s.runs.length : Int)) H'
section
variable {P : Program} {w : World} {K : PySem.W.Frag} {mg : Str → Option Value} {base : Heap}
section
variable (T : Tx w K mg) {H : Hp} {a : Addr} {s : HS} {X : HX} (ob : H a = some (.ins (cH K) X.dx (hf s X)))
include T ob
theorem hl_programs : Fl K H a "programs" (.ref X.pd) := ⟨_, _, _, ob, c_House T, n_House_programs T, rfl⟩
theorem hl_now : Fl K H a "now" (.int s.now) := ⟨_, _, _, ob, c_House T, n_House_now T, rfl⟩
theorem hl_came : Fl K H a "came" (.ref X.cl) := ⟨_, _, _, ob, c_House T, n_House_came T, rfl⟩
theorem hl_all_runs : Fl K H a "all_runs" (.ref X.rl) := ⟨_, _, _, ob, c_House T, n_House_all_runs T, rfl⟩
theorem hl_names_of : Fl K H a "names_of" (.ref X.nl) := ⟨_, _, _, ob, c_House T, n_House_names_of T, rfl⟩
theorem hl_begun_by : Fl K H a "begun_by" (.ref X.bl) := ⟨_, _, _, ob, c_House T, n_House_begun_by T, rfl⟩
theorem hl_happened : Fl K H a "happened" (.ref X.hl) := ⟨_, _, _, ob, c_House T, n_House_happened T, rfl⟩
theorem hl_orders : Fl K H a "orders" (.ref X.od) := ⟨_, _, _, ob, c_House T, n_House_orders T, rfl⟩
theorem hl_timers : Fl K H a "timers" (.ref X.td) := ⟨_, _, _, ob, c_House T, n_House_timers T, rfl⟩
theorem hs_now (m : Int) : Sl K H a "now" (.int m) (upd H a (.ins (cH K) X.dx (hf { s with now := m } X))) := ⟨_, _, _, ob, c_House T, n_House_now T, (by show 9 < 1000; decide), rfl⟩
end
theorem ml_house {K : PySem.W.Frag} {H : Hp} {a : Addr} {s : HS} {X : HX} (ob : H a = some (.ins (cH K) X.dx (hf s X))) {m : Str} (h : (hf s X).lookup m = none) : Ml (cH K) H a m := ⟨_, _, ob, h⟩
theorem gone_tup (T : Tx w K mg) (H : Hp) : SqT K H (He.ga K "GONE") [.str "ended", .str "worn"] := by
  obtain ⟨_, _, _, _, e⟩ := T
  unfold ex at e
  simp only [Bool.and_eq_true] at e
  exact He.tupB_ok e.2.1 H
theorem waits_head (r : RS) : ∃ ds, r.waits = .tuple (.str r.mode.s :: ds) := by
  unfold RS.waits
  cases r.mode <;> exact ⟨_, rfl⟩
theorem HS.run_nat {s : HS} (i : Nat) : s.run (i : Int) = s.runs[i]? := by
  unfold HS.run
  rw [if_pos (by omega), Int.toNat_natCast]
theorem HS.run_lt {s : HS} {i : Int} (h1 : 0 ≤ i) (h2 : i < (s.runs.length : Int)) : ∃ rr, s.run i = some rr ∧ s.runs[i.toNat]? = some rr := by
  have h3 : i.toNat < s.runs.length := by omega
  exact ⟨s.runs[i.toNat], by unfold HS.run; rw [if_pos h1]; exact List.getElem?_eq_getElem h3, List.getElem?_eq_getElem h3⟩
theorem HS.run_no {s : HS} {i : Int} (h : i < 0 ∨ (s.runs.length : Int) ≤ i) : s.run i = none := by
  unfold HS.run
  split
  · exact List.getElem?_eq_none (by omega)
  · rfl
theorem lk_of_key {κ α : Type} [DecidableEq κ] {l : List (κ × α)} {k : κ} (h : k ∈ l.map (·.1)) : ∃ a, lk l k = some a := by
  cases e : lk l k with
  | some a => exact ⟨a, rfl⟩
  | none =>
    have := any_lk l k
    rw [e] at this
    obtain ⟨p, hp, rfl⟩ := List.mem_map.mp h
    have h2 : (l.any fun q => decide (q.1 = p.1)) = true := List.any_eq_true.mpr ⟨p, hp, decide_eq_true rfl⟩
    rw [h2] at this
    cases this
theorem keys_mk2 {κ α γ : Type} (f : κ → γ) (g : α → V) (l : List (κ × α)) : (mk2 f g l).map (·.1) = (l.map (·.1)).map f := by
  unfold mk2
  rw [List.map_map, List.map_map]
  rfl
theorem sc_House_moment : FnScope ["self"] ["self"] (defScope s_House_moment) := ⟨rfl, rfl, rfl, by decide +kernel, rfl, by decide +kernel, by decide +kernel⟩
theorem ok_House_moment (T : Tx w K mg) : OkD P w K mg base d_House_moment 1 ["self"] (spMoment K) := by
  have sc := sc_House_moment
  refine okD_mk (F_House_moment T) sc (fun _ _ _ _ _ _ us hl => match us, hl with | [_], _ => rfl) ?len ?body
  case len => walk_at "len"
  intro cdv f A outer s H vs Q E hr h
  refine ⟨_, (pss_one (ps_ret (pe_fl (pv 0)))), ?_⟩
  obtain ⟨a, s, came, X, rfl, R, q⟩ := h
  exact ⟨_, rfl, a, _, rfl, hl_now T R.ob, q⟩
theorem sc_House_inputs : FnScope ["self"] ["self"] (defScope s_House_inputs) := ⟨rfl, rfl, rfl, by decide +kernel, rfl, by decide +kernel, by decide +kernel⟩
theorem ok_House_inputs (T : Tx w K mg) : OkD P w K mg base d_House_inputs 1 ["self"] (spInputs K) := by
  have sc := sc_House_inputs
  refine okD_mk (F_House_inputs T) sc (fun _ _ _ _ _ _ us hl => match us, hl with | [_], _ => rfl) ?len ?body
  case len => walk_at "len"
  intro cdv f A outer s H vs Q E hr h
  refine ⟨_, (pss_one (ps_ret (pe_callTy call_list_of (by rfl) (z_list T) (by decide +kernel) (pa_cons (pe_fl (pv 0)) pa_nil)))), ?_⟩
  obtain ⟨a, s, came, X, rfl, R, q⟩ := h
  exact ⟨_, rfl, a, _, rfl, hl_came T R.ob, _, _, rfl, .inl (SqL.of R.cl), q⟩
theorem sc_House_runs : FnScope ["self"] ["self"] (defScope s_House_runs) := ⟨rfl, rfl, rfl, by decide +kernel, rfl, by decide +kernel, by decide +kernel⟩
theorem ok_House_runs (T : Tx w K mg) : OkD P w K mg base d_House_runs 1 ["self"] (spRuns K) := by
  have sc := sc_House_runs
  refine okD_mk (F_House_runs T) sc (fun _ _ _ _ _ _ us hl => match us, hl with | [_], _ => rfl) ?len ?body
  case len => walk_at "len"
  intro cdv f A outer s H vs Q E hr h
  refine ⟨_, (pss_one (ps_ret (pe_callB call_len_seq (by rfl) (z_len T) (by decide +kernel) (pa_cons (pe_fl (pv 0)) pa_nil)))), ?_⟩
  obtain ⟨a, s, came, X, rfl, R, q⟩ := h
  have e : (X.rs.map fun y => V.ref y.a).length = s.runs.length := by rw [List.length_map, R.runs.len]
  refine ⟨_, rfl, a, _, rfl, hl_all_runs T R.ob, _, _, rfl, .inl (SqL.of R.rl), ?_⟩
  rw [e]
  exact q
theorem sc_House_need_run : FnScope ["self", "run"] ["self", "run"] (defScope s_House_need_run) := ⟨rfl, rfl, rfl, by decide +kernel, rfl, by decide +kernel, by decide +kernel⟩
theorem ok_House_need_run (T : Tx w K mg) : OkD P w K mg base d_House_need_run 1 ["self", "run"] (spNeed K) := by
  have sc := sc_House_need_run
  refine okD_mk (F_House_need_run T) sc (fun _ _ _ _ _ _ us hl => match us, hl with | [_, _], _ => rfl) ?len ?body
  case len => walk_at "len"
  intro cdv f A outer s H vs Q E hr h
  refine ⟨_, (pss_one (ps_if ((pw_or (pt_cmpR op_lt (pv 1) pe_int (nomark _)) (pw_or1 (pt_cmpR op_ge (pv 1) (pe_callB call_len_seq (by rfl) (z_len T) (by decide +kernel) (pa_cons (pe_fl (pv 0)) pa_nil)) (nomark _))))).pt (pss_one ps_never) pss_nil)), ?_⟩
  obtain ⟨a, s, came, X, i, rfl, R, hi, q⟩ := h
  have e : (X.rs.map fun y => V.ref y.a).length = s.runs.length := by rw [List.length_map, R.runs.len]
  refine ⟨_, rfl, _, _, rfl, rfl, _, rfl, ifF (decide_eq_false (by omega)) ⟨_, rfl, _, rfl, a, _, rfl, hl_all_runs T R.ob, _, _, rfl, .inl (SqL.of R.rl), _, _, rfl, rfl, _, rfl, ifF (decide_eq_false (by omega)) q⟩⟩
theorem sc_House_program_of : FnScope ["self", "run"] ["self", "run"] (defScope s_House_program_of) := ⟨rfl, rfl, rfl, by decide +kernel, rfl, by decide +kernel, by decide +kernel⟩
theorem ok_House_program_of (T : Tx w K mg) : OkD P w K mg base d_House_program_of 2 ["self", "run"] (spProgOf K) := by
  have sc := sc_House_program_of
  refine okD_mk (F_House_program_of T) sc (fun _ _ _ _ _ _ us hl => match us, hl with | [_, _], _ => rfl) ?len ?body
  case len => walk_at "len"
  intro cdv f A outer s H vs Q E hr h
  refine ⟨_, (pss_cons (ps_expr (pe_m (d := d_House_need_run) (c_House T) (m_House_need_run T) (ok_House_need_run T) (hr.mono (by decide)) (pv 0) (pa_cons (pv 1) pa_nil)))
    (pss_one (ps_ret (pe_ix ix_list (pe_fl (pv 0)) (pv 1) (fun _ _ => rfl))))), ?_⟩
  obtain ⟨a, s, came, X, i, rr, rfl, R, hi, q⟩ := h
  exact ⟨_, rfl, a, rfl, ml_house R.ob rfl, _, rfl, a, s, came, X, i, rfl, R, (List.getElem?_eq_some_iff.mp hi).1, _, rfl, a, _, rfl, hl_names_of T R.ob, _, rfl, X.nl, _, _, _, rfl, rfl, SqL.of R.nl, atI_nat (by rw [List.getElem?_map, hi]; rfl), q⟩
theorem sc_House_waits : FnScope ["self", "run"] ["self", "run"] (defScope s_House_waits) := ⟨rfl, rfl, rfl, by decide +kernel, rfl, by decide +kernel, by decide +kernel⟩
theorem ok_House_waits (T : Tx w K mg) : OkD P w K mg base d_House_waits 4 ["self", "run"] (spHWaits K) := by
  have sc := sc_House_waits
  refine okD_mk (F_House_waits T) sc (fun _ _ _ _ _ _ us hl => match us, hl with | [_, _], _ => rfl) ?len ?body
  case len => walk_at "len"
  intro cdv f A outer s H vs Q E hr h
  refine ⟨_, (pss_cons (ps_expr (pe_m (d := d_House_need_run) (c_House T) (m_House_need_run T) (ok_House_need_run T) (hr.mono (by decide)) (pv 0) (pa_cons (pv 1) pa_nil)))
    (pss_one (ps_ret (pe_m0 (d := d_Run_waits) (c_Run T) (m_Run_waits T) (ok_Run_waits T) (hr.mono (by decide)) (pe_ix ix_list (pe_fl (pv 0)) (pv 1) (fun _ _ => rfl)))))), ?_⟩
  obtain ⟨a, s, came, X, i, n, k, rr, rfl, R, hk, hi, q⟩ := h
  obtain ⟨y, hy, Y⟩ := R.runs.get hi
  have g := hk.run hi
  exact ⟨_, rfl, a, rfl, ml_house R.ob rfl, _, rfl, a, s, came, X, i, rfl, R, (List.getElem?_eq_some_iff.mp hi).1, _, rfl, a, _, rfl, hl_all_runs T R.ob, _, rfl, X.rl, _, _, _, rfl, rfl, SqL.of R.rl, atI_nat (by rw [List.getElem?_map, hy]; rfl), y.a, rfl, ml_run Y.run rfl, y.a, rr.st, y.x, rfl, Y.run, g.ro.rk.path, g.ro.rk.pl8, g.ro.rm.hear, q⟩
theorem sc_House_taken : FnScope ["self", "run"] ["self", "run"] (defScope s_House_taken) := ⟨rfl, rfl, rfl, by decide +kernel, rfl, by decide +kernel, by decide +kernel⟩
theorem ok_House_taken (T : Tx w K mg) : OkD P w K mg base d_House_taken 2 ["self", "run"] (spTaken K) := by
  have sc := sc_House_taken
  refine okD_mk (F_House_taken T) sc (fun _ _ _ _ _ _ us hl => match us, hl with | [_, _], _ => rfl) ?len ?body
  case len => walk_at "len"
  intro cdv f A outer s H vs Q E hr h
  refine ⟨_, (pss_cons (ps_expr (pe_m (d := d_House_need_run) (c_House T) (m_House_need_run T) (ok_House_need_run T) (hr.mono (by decide)) (pv 0) (pa_cons (pv 1) pa_nil)))
    (pss_one (ps_ret (pe_callTy call_list_of (by rfl) (z_list T) (by decide +kernel) (pa_cons (pe_ix ix_list (pe_fl (pv 0)) (pv 1) (fun _ _ => rfl)) pa_nil))))), ?_⟩
  obtain ⟨a, s, came, X, i, rr, rfl, R, hi, q⟩ := h
  obtain ⟨y, hy, Y⟩ := R.runs.get hi
  exact ⟨_, rfl, a, rfl, ml_house R.ob rfl, _, rfl, a, s, came, X, i, rfl, R, (List.getElem?_eq_some_iff.mp hi).1, _, rfl, a, _, rfl, hl_happened T R.ob, _, rfl, X.hl, _, _, _, rfl, rfl, SqL.of R.hl, atI_nat (by rw [List.getElem?_map, hy]; rfl), y.h, _, rfl, .inl (SqL.of Y.hp), fun p hp => q p _ hp Y.th⟩
theorem sc_House_parent : FnScope ["self", "run"] ["self", "run"] (defScope s_House_parent) := ⟨rfl, rfl, rfl, by decide +kernel, rfl, by decide +kernel, by decide +kernel⟩
theorem ok_House_parent (T : Tx w K mg) : OkD P w K mg base d_House_parent 2 ["self", "run"] (spParent K) := by
  have sc := sc_House_parent
  refine okD_mk (F_House_parent T) sc (fun _ _ _ _ _ _ us hl => match us, hl with | [_, _], _ => rfl) ?len ?body
  case len => walk_at "len"
  intro cdv f A outer s H vs Q E hr h
  refine ⟨_, (pss_cons (ps_expr (pe_m (d := d_House_need_run) (c_House T) (m_House_need_run T) (ok_House_need_run T) (hr.mono (by decide)) (pv 0) (pa_cons (pv 1) pa_nil)))
    (pss_one (ps_ret (pe_ix ix_list (pe_fl (pv 0)) (pv 1) (fun _ _ => rfl))))), ?_⟩
  obtain ⟨a, s, came, X, i, rr, rfl, R, hi, q⟩ := h
  obtain ⟨y, hy, Y⟩ := R.runs.get hi
  exact ⟨_, rfl, a, rfl, ml_house R.ob rfl, _, rfl, a, s, came, X, i, rfl, R, (List.getElem?_eq_some_iff.mp hi).1, _, rfl, a, _, rfl, hl_begun_by T R.ob, _, rfl, X.bl, _, _, _, rfl, rfl, SqL.of R.bl, atI_nat (by rw [List.getElem?_map, hy]; rfl), q _ Y.tb⟩
theorem sc_House_is_there : FnScope ["self", "run"] ["self", "run"] (defScope s_House_is_there) := ⟨rfl, rfl, rfl, by decide +kernel, rfl, by decide +kernel, by decide +kernel⟩
theorem ok_House_is_there (T : Tx w K mg) : OkD P w K mg base d_House_is_there 4 ["self", "run"] (spThere K) := by
  have sc := sc_House_is_there
  refine okD_mk (F_House_is_there T) sc (fun _ _ _ _ _ _ us hl => match us, hl with | [_, _], _ => rfl) ?len ?body
  case len => walk_at "len"
  intro cdv f A outer s H vs Q E hr h
  refine ⟨_, (pss_one (ps_ret (pe_and (pe_chain op_le op_lt pe_int (pv 1) (pe_callB call_len_seq (by rfl) (z_len T) (by decide +kernel) (pa_cons (pe_fl (pv 0)) pa_nil))) (pe_one (pe_cmpR op_notIn_seq (pe_ix ix_tup (pe_m0 (d := d_Run_waits) (c_Run T) (m_Run_waits T) (ok_Run_waits T) (hr.mono (by decide)) (pe_ix ix_list (pe_fl (pv 0)) (pv 1) (fun _ _ => rfl))) pe_int (fun _ _ => rfl)) (pe_gref (by rfl) (g_GONE T)) (by rfl)))))), ?_⟩
  obtain ⟨a, s, X, n, k, i, rfl, R, hk, q⟩ := h
  have e : (X.rs.map fun y => V.ref y.a).length = s.runs.length := by rw [List.length_map, R.runs.len]
  refine ⟨_, rfl, _, _, rfl, rfl, _, rfl, ?_⟩
  by_cases h0 : 0 ≤ i
  case neg => exact ifF (decide_eq_false h0) ⟨_, rfl, ifF rfl (by have := q H (fun _ _ h => h); unfold HS.there at this; rw [HS.run_no (.inl (by omega))] at this; exact this)⟩
  refine ifT (decide_eq_true h0) ⟨_, rfl, a, _, rfl, hl_all_runs T R.ob, _, _, rfl, .inl (SqL.of R.rl), _, _, rfl, rfl, _, rfl, ?_⟩
  rw [e]
  by_cases h1 : i < (s.runs.length : Int)
  case neg => exact ifF (decide_eq_false h1) (by have := q H (fun _ _ h => h); unfold HS.there at this; rw [HS.run_no (.inr (by omega))] at this; exact this)
  obtain ⟨rr, e1, hi⟩ := HS.run_lt h0 h1
  obtain ⟨y, hy, Y⟩ := R.runs.get hi
  have g := hk.run hi
  have ei : ((i.toNat : Nat) : Int) = i := by omega
  refine ifT (decide_eq_true h1) ⟨_, rfl, a, _, rfl, hl_all_runs T R.ob, _, rfl, X.rl, _, _, _, rfl, rfl, SqL.of R.rl, by rw [← ei]; exact atI_nat (by rw [List.getElem?_map, hy]; rfl), y.a, rfl, ml_run Y.run rfl, y.a, rr.st, y.x, rfl, Y.run, g.ro.rk.path, g.ro.rk.pl8, g.ro.rm.hear, fun v H1 s1 hv => ?_⟩
  obtain ⟨ds, ew⟩ := waits_head rr.st
  rw [ew] at hv
  obtain ⟨p, xs, rfl, hp, hx⟩ := td_tup.mp hv
  obtain ⟨v0, r0, rfl, hv0, _⟩ := tds_cons.mp hx
  cases td_str.mp hv0
  refine ⟨p, _, _, .str rr.st.mode.s, rfl, rfl, hp, atI_nat (j := 0) rfl, _, _, rfl, .inr (gone_tup T H1), rfl, rfl, ?_⟩
  have eg : inV (.str rr.st.mode.s) [.str "ended", .str "worn"] = rr.st.gone := by
    unfold RS.gone
    cases rr.st.mode <;> decide +kernel
  show Q (.bl (!inV (.str rr.st.mode.s) [.str "ended", .str "worn"])) H1
  rw [eg]
  have := q H1 s1
  unfold HS.there at this
  rw [e1] at this
  exact this
theorem sc_House_is_open : FnScope ["self", "run", "ticket"] ["self", "run", "ticket"] (defScope s_House_is_open) := ⟨rfl, rfl, rfl, by decide +kernel, rfl, by decide +kernel, by decide +kernel⟩
theorem ok_House_is_open (T : Tx w K mg) : OkD P w K mg base d_House_is_open 5 ["self", "run", "ticket"] (spIsOpen K) := by
  have sc := sc_House_is_open
  refine okD_mk (F_House_is_open T) sc (fun _ _ _ _ _ _ us hl => match us, hl with | [_, _, _], _ => rfl) ?len ?body
  case len => walk_at "len"
  intro cdv f A outer s H vs Q E hr h
  refine ⟨_, (pss_one (ps_ret (pe_and (pe_m (d := d_House_is_there) (c_House T) (m_House_is_there T) (ok_House_is_there T) (hr.mono (by decide)) (pv 0) (pa_cons (pv 1) pa_nil)) (pe_one (pe_cmpR op_in_seq (pv 2) (pe_m0 (d := d_Run_open_tickets) (c_Run T) (m_Run_open_tickets T) (ok_Run_open_tickets T) (hr.mono (by decide)) (pe_ix ix_list (pe_fl (pv 0)) (pv 1) (fun _ _ => rfl))) (by rfl)))))), ?_⟩
  obtain ⟨a, s, X, n, k, i, t, rfl, R, hk, q⟩ := h
  refine ⟨_, rfl, a, rfl, ml_house R.ob rfl, _, rfl, a, s, X, n, k, i, rfl, R, hk, fun H1 s1 => ⟨_, rfl, ?_⟩⟩
  have R1 := R.same s1
  cases ht : s.there i with
  | false =>
    have eo : s.isOpen i t = false := by
      unfold HS.isOpen
      unfold HS.there at ht
      cases e : s.run i with
      | none => rfl
      | some rr => rw [e] at ht; simp at ht; simp [ht]
    exact ifF rfl (by have := q H1 s1; rw [eo] at this; exact this)
  | true =>
    obtain ⟨rr, e1, hg⟩ := HS.there_run ht
    obtain ⟨_, _, hi, ei⟩ := HS.run_some e1
    obtain ⟨y, hy, Y⟩ := R1.runs.get hi
    refine ifT rfl ⟨_, rfl, _, rfl, a, _, rfl, hl_all_runs T R1.ob, _, rfl, X.rl, _, _, _, rfl, rfl, SqL.of R1.rl, by rw [← ei]; exact atI_nat (by rw [List.getElem?_map, hy]; rfl), y.a, rfl, ml_run Y.run rfl, y.a, rr.st, y.x, rfl, Y.run, fun p H2 hp s2 hl => ⟨p, _, rfl, .inl (SqL.of hl), rfl, all_flat_ints _, ?_⟩⟩
    have eo : s.isOpen i t = inV (.int t) (rr.st.open.map V.int) := by
      have e2 : inV (.int t) (rr.st.open.map V.int) = decide (some t ∈ rr.st.open.map some) := inV_ints (some t) _
      rw [e2]
      unfold HS.isOpen
      rw [e1]
      dsimp only
      rw [hg]
      by_cases hm : t ∈ rr.st.open
      · rw [decide_eq_true hm, decide_eq_true (List.mem_map.mpr ⟨t, hm, rfl⟩)]; rfl
      · rw [decide_eq_false hm, decide_eq_false (fun z => by obtain ⟨u, m1, m2⟩ := List.mem_map.mp z; cases m2; exact hm m1)]; rfl
    have := q H2 (s1.trans s2)
    rw [eo] at this
    exact this
theorem sc_House_open_orders : FnScope ["self", "found", "run", "ticket"] ["self"] (defScope s_House_open_orders) := ⟨rfl, rfl, rfl, by decide +kernel, rfl, by decide +kernel, by decide +kernel⟩
theorem ok_House_open_orders (T : Tx w K mg) : OkD P w K mg base d_House_open_orders 6 ["self"] (spOpenOrders K) := by
  have sc := sc_House_open_orders
  refine okD_mk (F_House_open_orders T) sc (fun _ _ _ _ _ _ us hl => match us, hl with | [_], _ => rfl) ?len ?body
  case len => walk_at "len"
  intro cdv f A outer s H vs Q E hr h
  refine ⟨_, (pss_cons (ps_set (i := 1) sc.nd rfl (Or.inl rfl) (pe_lst pa_nil))
    (pss_cons (ps_for PassesOwn.never (by rfl) (pi_list (pe_callB (cr_sortedDT (by rfl) hr.units) (by rfl) (z_sorted T) (by decide +kernel) (pa_cons (pe_fl (pv 0)) pa_nil))) (pg_tup (by rfl) (pgs_cons (pg_name (i := 2) sc.nd rfl (Or.inl rfl)) (pgs_cons (pg_name (i := 3) sc.nd rfl (Or.inl rfl)) pgs_nil))) (pss_one (ps_if (pt_val (pe_m (d := d_House_is_open) (c_House T) (m_House_is_open T) (ok_House_is_open T) (hr.mono (by decide)) (pv 0) (pa_cons (pv 2) (pa_cons (pv 3) pa_nil)))) (pss_one (ps_expr (pe_bm PySem.F.plainAttrs_list PySem.F.slot_list_append PySem.F.type_list_append mt_append (pv 1) (pa_cons (pe_op op_catT (pe_tup (pa_cons pe_str (pa_cons (pv 2) (pa_cons (pv 3) pa_nil)))) (pe_dget (hu_of hr) (pe_fl (pv 0)) (pe_tup (pa_cons (pv 2) (pa_cons (pv 3) pa_nil))) (fun _ _ => rfl))) pa_nil)))) pss_nil)))
    (pss_one (ps_ret (pv 1))))), ?_⟩
  obtain ⟨a, s, came, X, n, k, rfl, R, hk, q⟩ := h
  refine ⟨Nat.zero_le _, fun p hp => ?_⟩
  have s1 := Same.new (o := .lst []) hp
  have R1 := R.same s1
  have hkeys : (mk2 kII id X.ordV).map (·.1) = (s.orders.map (·.1)).map kII := by rw [keys_mk2, PK2.keys R.tor]
  have hspl : s.spots.length = s.orders.length := by unfold HS.spots; rw [List.length_mergeSort, List.length_map]
  refine ⟨_, rfl, a, _, rfl, hl_orders T R1.ob, X.od, _, s.orders.map (·.1), rfl, R1.od, hkeys, fun l qs0 hl hqs0 => ⟨l, rfl, ⟨_, SqL.of upd_same⟩, ?_⟩⟩
  have hys := SpotsAt.tds (K := K) hqs0
  generalize qs0.map V.ref = ys at *
  have s2 := Same.new (o := .lst ys) hl
  have hyl : ys.length = s.orders.length := by rw [hys.length, List.length_map, List.length_mergeSort, List.length_map]
  refine for_list (xs := ys) (fun i σ H' => ∃ u v acc, σ = [some (.ref a), some (.ref p), u, v] ∧ Same H H' ∧ H' l = some (.lst ys) ∧ TDs K H' ys (s.spots.map encII) ∧ H' p = some (.lst acc) ∧ TDs K H' acc (((s.spots.take i).filter fun k => s.isOpen k.1 k.2).map (ordD s)) ∧ acc.length ≤ i)
    ⟨_, _, [], rfl, s1.trans s2, upd_same, TDs.fx (Same.fx s2) _ _ hys, s2 _ _ upd_same, TDs.nil, Nat.le_refl _⟩ (fun i σ H' _ ⟨u, v, acc, _, _, h, _⟩ => SqL.of h) ?_ ?_
  · rintro i v σ H' hx ⟨u1, u2, acc, rfl, s3, hl3, hy3, hp3, ha3, hn3⟩
    have hi : i < s.orders.length := by rw [← hyl]; exact (List.getElem?_eq_some_iff.mp hx).1
    have hol := hk.ol
    have hlk := hk.lk
    obtain ⟨d, hd1, hd2⟩ := hy3.getV hx
    rw [List.getElem?_map, Option.map_eq_some_iff] at hd1
    obtain ⟨key, hk1, rfl⟩ := hd1
    obtain ⟨pp, w1, w2, rfl, g1, g2, g3⟩ := td2 hd2
    cases td_int.mp g2
    cases td_int.mp g3
    have R3 := R.same s3
    refine ⟨pp, _, rfl, g1, rfl, _, _, rfl, _, _, rfl, rfl, ?_⟩
    refine ⟨_, rfl, a, rfl, ml_house R3.ob rfl, _, rfl, _, rfl, a, s, X, n, k, key.1, key.2, rfl, R3.hrun, hk, fun H4 s4 => ⟨_, rfl, ?_⟩⟩
    have R4 := R3.same s4
    cases ho : s.isOpen key.1 key.2 with
    | false =>
      refine ifF rfl ⟨_, _, acc, rfl, s3.trans s4, s4 _ _ hl3, TDs.fx (Same.fx s4) _ _ hy3, s4 _ _ hp3, ?_, by omega⟩
      rw [take_filt_neg (fun k : Int × Int => s.isOpen k.1 k.2) (ordD s) hk1 ho]
      exact TDs.fx (Same.fx s4) _ _ ha3
    | true =>
      have hkm : key ∈ s.orders.map (·.1) := (List.mergeSort_perm (s.orders.map (·.1)) _).mem_iff.mp (List.mem_of_getElem? hk1)
      obtain ⟨o, eo⟩ := lk_of_key hkm
      have hov : ∃ v, lk X.ordV key = some v ∧ TD K H4 v (ordVD o) := by
        rcases PK2.look key R4.tor with ⟨z, _⟩ | ⟨o2, v, z1, z2, z3⟩
        · rw [eo] at z; cases z
        · rw [eo] at z1; cases z1; exact ⟨v, z2, z3⟩
      obtain ⟨v, ev, hv⟩ := hov
      obtain ⟨ov, o1, o2, rfl, ht, hv1, hv2⟩ := td2 hv
      cases td_str.mp hv1
      cases td_wd.mp hv2
      refine ifT rfl ⟨_, rfl, .inl ⟨rfl, _, SqL.of (s4 _ _ hp3)⟩, _, rfl, _, rfl, (by show 3 ≤ sizeLine; decide), fun q1 hq1 => ?_⟩
      have s5 := Same.new (o := .tup [.str "order", .int key.1, .int key.2]) hq1
      have R5 := R4.same s5
      refine ⟨_, rfl, a, _, rfl, hl_orders T R5.ob, _, rfl, _, rfl, (by show 2 ≤ sizeLine; decide), fun q2 hq2 => ?_⟩
      have s6 := Same.new (o := .tup [.int key.1, .int key.2]) hq2
      have R6 := R5.same s6
      have hg : some (V.ref ov) = valV (mk2 kII id X.ordV) (kII key) := by rw [valV_mk2 kII_inj, ev]; rfl
      refine ⟨X.od, .ref ov, rfl, by rw [hg]; exact DGet.t (k := kII key) R6.od upd_same, ?_⟩
      refine ⟨q1, ov, _, _, rfl, rfl, SqT.of (s6 _ _ upd_same), Fx.t (Same.fx (s5.trans s6)) ht, (fun z => nomatch z), (by show 3 + 2 ≤ sizeLine; decide), (fun z => nomatch z), fun _ q3 hq3 => ?_⟩
      have s7 := Same.new (o := .tup ([.str "order", .int key.1, .int key.2] ++ [.str o.1, wv o.2])) hq3
      have s47 := (s4.trans s5).trans (s6.trans s7)
      have hp7 := s47 _ _ hp3
      refine ⟨p, acc, _, rfl, rfl, hp7, by rw [sizeLine_eq]; omega, ⟨_, _, acc ++ [.ref q3], rfl, ?_, ?_, ?_, upd_same, ?_, by rw [List.length_append]; exact Nat.succ_le_succ hn3⟩⟩
      · intro b o hb
        have hne : b ≠ p := fun z => by rw [z, hp] at hb; cases hb
        rw [upd_ne hne]
        exact s47 _ _ (s3 _ _ hb)
      · have hne : l ≠ p := fun z => by rw [z, hp3] at hl3; rw [z] at hl; rw [upd_same] at hl; cases hl
        rw [upd_ne hne]
        exact s47 _ _ hl3
      · have fx := (Upto.upd (F := [p]) (o := .lst (acc ++ [.ref q3])) hp7 List.mem_cons_self (fun _ q => nomatch q) (fun _ _ q => nomatch q)).fx
        exact TDs.fx fx _ _ (TDs.fx (Same.fx s47) _ _ hy3)
      · have fx := (Upto.upd (F := [p]) (o := .lst (acc ++ [.ref q3])) hp7 List.mem_cons_self (fun _ q => nomatch q) (fun _ _ q => nomatch q)).fx
        rw [take_filt_pos (fun k : Int × Int => s.isOpen k.1 k.2) (ordD s) hk1 ho]
        refine (TDs.fx fx _ _ (TDs.fx (Same.fx s47) _ _ ha3)).snoc (TD.fx fx _ _ ?_)
        unfold ordD
        rw [eo]
        exact TD.new upd_same (TDs.mk (td_str.mpr rfl) (TDs.mk (td_int.mpr rfl) (TDs.mk (td_int.mpr rfl) (TDs.mk (td_str.mpr rfl) (TDs.mk (td_wd.mpr rfl) TDs.nil)))))
  · rintro σ H' ⟨u1, u2, acc, rfl, s3, hl3, hy3, hp3, ha3, hn3⟩
    rw [hyl, ← hspl, List.take_length] at ha3
    exact ⟨_, rfl, q p acc H' s3 hp hp3 ha3⟩
theorem sc_House_open_timers : FnScope ["self", "found", "run", "ticket"] ["self"] (defScope s_House_open_timers) := ⟨rfl, rfl, rfl, by decide +kernel, rfl, by decide +kernel, by decide +kernel⟩
theorem ok_House_open_timers (T : Tx w K mg) : OkD P w K mg base d_House_open_timers 6 ["self"] (spOpenTimers K) := by
  have sc := sc_House_open_timers
  refine okD_mk (F_House_open_timers T) sc (fun _ _ _ _ _ _ us hl => match us, hl with | [_], _ => rfl) ?len ?body
  case len => walk_at "len"
  intro cdv f A outer s H vs Q E hr h
  refine ⟨_, (pss_cons (ps_set (i := 1) sc.nd rfl (Or.inl rfl) (pe_lst pa_nil))
    (pss_cons (ps_lock (ps_for PassesOwn.never (by rfl) (pi_keys (pe_fl (pv 0))) (pg_tup (by rfl) (pgs_cons (pg_name (i := 2) sc.nd rfl (Or.inl rfl)) (pgs_cons (pg_name (i := 3) sc.nd rfl (Or.inl rfl)) pgs_nil))) (pss_one (ps_if (pt_val (pe_m (d := d_House_is_open) (c_House T) (m_House_is_open T) (ok_House_is_open T) (hr.mono (by decide)) (pv 0) (pa_cons (pv 2) (pa_cons (pv 3) pa_nil)))) (pss_one (ps_expr (pe_bm PySem.F.plainAttrs_list PySem.F.slot_list_append PySem.F.type_list_append mt_append (pv 1) (pa_cons (pe_tup (pa_cons (pe_dget (hu_of hr) (pe_fl (pv 0)) (pe_tup (pa_cons (pv 2) (pa_cons (pv 3) pa_nil))) (fun _ _ => rfl)) (pa_cons (pv 2) (pa_cons (pv 3) pa_nil)))) pa_nil)))) pss_nil))))
    (pss_one (ps_ret (pe_callB (cr_sortedD (enc := encTm) hr.units) (by rfl) (z_sorted T) (by decide +kernel) (pa_cons (pv 1) pa_nil)))))), ?_⟩
  obtain ⟨a, s, came, X, n, k, rfl, R, hk, q⟩ := h
  refine ⟨Nat.zero_le _, fun p hp => ?_⟩
  have s1 := Same.new (o := .lst []) hp
  have R1 := R.same s1
  have htl := hk.tl
  have hlk := hk.lk
  refine ⟨X.td, _, R1.td, trivial, fun od => ?_⟩
  have tdp : X.td ≠ p := fun z => by have := R.td; rw [z, hp] at this; cases this
  have RL := R.lock (.frz od (.dT (mk2 kII V.int s.timers)))
  have sL : Same (upd H X.td (.frz od (.dT (mk2 kII V.int s.timers)))) (upd (upd H p (.lst [])) X.td (.frz od (.dT (mk2 kII V.int s.timers)))) := fun b o e => by
    by_cases z : b = X.td
    · rw [z, upd_same] at e ⊢; exact e
    · rw [upd_ne z] at e ⊢; exact s1 _ _ e
  refine ⟨_, rfl, a, _, rfl, hl_timers T (RL.same sL).ob, X.td, od, rfl, .inr ⟨_, upd_same, ?_⟩⟩
  refine for_it walk_keysT (fun i σ H' => ∃ u v acc, σ = [some (.ref a), some (.ref p), u, v] ∧ Same (upd H X.td (.frz od (.dT (mk2 kII V.int s.timers)))) H' ∧ H' p = some (.lst acc) ∧ TDs K H' acc (((s.timers.take i).filter fun q => s.isOpen q.1.1 q.1.2).map fun q => encTm (tmOf q)) ∧ acc.length ≤ i)
    ⟨_, _, [], rfl, sL, by rw [upd_ne tdp.symm, upd_same], TDs.nil, Nat.le_refl _⟩ (fun i σ H' _ ⟨u, v, acc, _, h, _⟩ => h _ _ upd_same) ?_ ?_
  · rintro i v σ H' H'' hi ⟨u1, u2, acc, rfl, s3, hp3, ha3, hn3⟩ ⟨rfl, key, v0, qa, hkv, rfl, hqa⟩
    have hkv2 : ∃ e, s.timers[i]? = some e ∧ key = kII e.1 := by
      unfold mk2 at hkv
      rw [List.getElem?_map, Option.map_eq_some_iff] at hkv
      obtain ⟨e, h1, h2⟩ := hkv
      exact ⟨e, h1, (congrArg Prod.fst h2).symm⟩
    obtain ⟨⟨⟨r0, t0⟩, due⟩, hti, rfl⟩ := hkv2
    rw [mk2_length] at hi
    have R3 := RL.same s3
    refine ⟨qa, _, rfl, SqT.of hqa, rfl, _, _, rfl, _, _, rfl, rfl, ?_⟩
    refine ⟨_, rfl, a, rfl, ml_house R3.ob rfl, _, rfl, _, rfl, a, s, X, n, k, r0, t0, rfl, R3, hk, fun H4 s4 => ⟨_, rfl, ?_⟩⟩
    have R4 := R3.same s4
    cases ho : s.isOpen r0 t0 with
    | false =>
      refine ifF rfl ⟨_, _, acc, rfl, s3.trans s4, s4 _ _ hp3, ?_, by omega⟩
      rw [take_filt_neg (fun q : (Int × Int) × Int => s.isOpen q.1.1 q.1.2) (fun q => encTm (tmOf q)) hti ho]
      exact TDs.fx (Same.fx s4) _ _ ha3
    | true =>
      refine ifT rfl ⟨_, rfl, .inl ⟨rfl, _, SqL.of (s4 _ _ hp3)⟩, _, rfl, a, _, rfl, hl_timers T R4.ob, _, rfl, _, rfl, (by show 2 ≤ sizeLine; decide), fun q2 hq2 => ?_⟩
      have s6 := Same.new (o := .tup [.int r0, .int t0]) hq2
      have R6 := R4.same s6
      have hg : some (V.int due) = valV (mk2 kII V.int s.timers) (kII (r0, t0)) := by rw [valV_mk2 kII_inj, lk_nodup hk.tkd (List.mem_of_getElem? hti)]; rfl
      have hfz : upd H4 q2 (.tup [.int r0, .int t0]) X.td = some (.frz od (.dT (mk2 kII V.int s.timers))) := s6 _ _ (s4 _ _ (s3 _ _ upd_same))
      refine ⟨X.td, .int due, rfl, by rw [hg]; exact .inr ⟨_, kII (r0, t0), q2, .inr ⟨od, hfz⟩, rfl, upd_same, rfl⟩, ?_⟩
      refine ⟨_, rfl, _, rfl, (by show 3 ≤ sizeLine; decide), fun q3 hq3 => ?_⟩
      have s7 := Same.new (o := .tup [.int due, .int r0, .int t0]) hq3
      have s47 := (s4.trans s6).trans s7
      have hp7 := s47 _ _ hp3
      refine ⟨p, acc, _, rfl, rfl, hp7, by rw [sizeLine_eq]; omega, ⟨_, _, acc ++ [.ref q3], rfl, ?_, upd_same, ?_, by rw [List.length_append]; exact Nat.succ_le_succ hn3⟩⟩
      · intro b o hb
        have hne : b ≠ p := fun z => by rw [z, upd_ne tdp.symm, hp] at hb; cases hb
        rw [upd_ne hne]
        exact s47 _ _ (s3 _ _ hb)
      · have fx := (Upto.upd (F := [p]) (o := .lst (acc ++ [.ref q3])) hp7 List.mem_cons_self (fun _ q => nomatch q) (fun _ _ q => nomatch q)).fx
        rw [take_filt_pos (fun q : (Int × Int) × Int => s.isOpen q.1.1 q.1.2) (fun q => encTm (tmOf q)) hti ho]
        exact (TDs.fx fx _ _ (TDs.fx (Same.fx s47) _ _ ha3)).snoc (TD.fx fx _ _ (TD.new upd_same (TDs.mk (td_int.mpr rfl) (TDs.mk (td_int.mpr rfl) (TDs.mk (td_int.mpr rfl) TDs.nil)))))
  · rintro σ H' ⟨u1, u2, acc, rfl, s3, hp3, ha3, hn3⟩
    rw [mk2_length, List.take_length] at ha3
    have hfz : H' X.td = some (.frz od (.dT (mk2 kII V.int s.timers))) := s3 _ _ upd_same
    refine ⟨hfz, ?_⟩
    have sU : Same H (upd H' X.td (.dT (mk2 kII V.int s.timers))) := fun b o e => by
      by_cases z : b = X.td
      · rw [z, R.td] at e; rw [z, upd_same]; exact e
      · rw [upd_ne z]; exact s3 _ _ (by rw [upd_ne z]; exact e)
    have fxU : Fx H' (upd H' X.td (.dT (mk2 kII V.int s.timers))) := fun b o e kk => by
      have z : b ≠ X.td := fun z => by
        rw [z, hfz] at e
        cases e
        rcases kk with ⟨_, kk⟩ | ⟨_, _, kk⟩ <;> cases kk
      rw [upd_ne z]; exact e
    have hpU : upd H' X.td (.dT (mk2 kII V.int s.timers)) p = some (.lst acc) := by rw [upd_ne tdp.symm]; exact hp3
    have haU : TDs K (upd H' X.td (.dT (mk2 kII V.int s.timers))) acc (s.timersRaw.map encTm) := by
      have := TDs.fx fxU _ _ ha3
      unfold HS.timersRaw
      rw [List.map_map]
      exact this
    refine ⟨_, rfl, p, acc, s.timersRaw, rfl, SqL.of hpU, haU, (fun b b' => by simp [encTm, PySem.W.alike, PySem.W.alikeAll]), (fun b => ⟨_, _, rfl⟩), (fun b => by simp [encTm, PyData.depth, PyData.depthAll]), fun p2 ys hp2 hys => ?_⟩
    have hn2 : H p2 = none := by
      cases e : H p2 with
      | none => rfl
      | some o => rw [sU _ _ e] at hp2; cases hp2
    exact q p2 ys _ (sU.trans (Same.new hp2)) hn2 upd_same (TDs.fx (Same.fx (Same.new hp2)) _ _ hys)
theorem sc_House_next_due : FnScope ["self", "found"] ["self"] (defScope s_House_next_due) := ⟨rfl, rfl, rfl, by decide +kernel, rfl, by decide +kernel, by decide +kernel⟩
theorem ok_House_next_due (T : Tx w K mg) : OkD P w K mg base d_House_next_due 7 ["self"] (spNextDue K) := by
  have sc := sc_House_next_due
  refine okD_mk (F_House_next_due T) sc (fun _ _ _ _ _ _ us hl => match us, hl with | [_], _ => rfl) ?len ?body
  case len => walk_at "len"
  intro cdv f A outer s H vs Q E hr h
  refine ⟨_, (pss_cons (ps_set (i := 1) sc.nd rfl (Or.inl rfl) (pe_m0 (d := d_House_open_timers) (c_House T) (m_House_open_timers T) (ok_House_open_timers T) (hr.mono (by decide)) (pv 0)))
    (pss_cons (ps_if (pt_cmpR (op_eqD hr.units) (pv 1) (pe_lst pa_nil) (nomark _)) (pss_one (ps_ret pe_non)) pss_nil)
    (pss_one (ps_ret (pe_ix ix_tup (pe_ix ix_list (pv 1) pe_int (fun _ _ => rfl)) pe_int (fun _ _ => rfl)))))), ?_⟩
  obtain ⟨a, s, came, X, n, k, rfl, R, hk, q⟩ := h
  refine ⟨_, rfl, a, rfl, ml_house R.ob rfl, a, s, came, X, n, k, rfl, R, hk, fun p xs H1 s1 hp hx ht => ?_⟩
  refine ⟨_, rfl, Nat.zero_le _, fun p2 hp2 => ?_⟩
  have s2 := Same.new (o := .lst []) hp2
  refine eqNil 1 (s2 _ _ hx) (TDs.fx (Same.fx s2) _ _ ht) (fun d hd => by obtain ⟨t, _, rfl⟩ := List.mem_map.mp hd; exact sd_tm t) upd_same ⟨_, rfl, ?_⟩
  have qq := q _ (s1.trans s2)
  unfold HS.nextDue at qq
  cases e : s.openTimers with
  | nil =>
    rw [e] at qq
    exact ifT rfl qq
  | cons t tl =>
    rw [e] at qq ht
    obtain ⟨v, r0, rfl, hv, _⟩ := tds_cons.mp ht
    obtain ⟨pt, w1, w2, w3, rfl, g1, g2, g3, g4⟩ := td3 hv
    cases td_int.mp g2
    exact ifF rfl ⟨_, rfl, p, _, _, _, rfl, rfl, SqL.of (s2 _ _ hx), atI_nat (j := 0) rfl, pt, _, _, _, rfl, rfl, Fx.t (Same.fx s2) g1, atI_nat (j := 0) rfl, qq⟩
theorem sc_House_new_run : FnScope ["self", "name", "by"] ["self", "name", "by"] (defScope s_House_new_run) := ⟨rfl, rfl, rfl, by decide +kernel, rfl, by decide +kernel, by decide +kernel⟩
theorem ok_House_new_run (T : Tx w K mg) : OkD P w K mg base d_House_new_run 3 ["self", "name", "by"] (spNewRun K) := by
  have sc := sc_House_new_run
  refine okD_mk (F_House_new_run T) sc (fun _ _ _ _ _ _ us hl => match us, hl with | [_, _, _], _ => rfl) ?len ?body
  case len => walk_at "len"
  intro cdv f A outer s H vs Q E hr h
  refine ⟨_, (pss_cons (ps_expr (pe_bm PySem.F.plainAttrs_list PySem.F.slot_list_append PySem.F.type_list_append mt_append (pe_fl (pv 0)) (pa_cons (pe_mk (d := d_Run___init__) (mk_Run T) (ok_Run___init__ T) (hr.mono (by decide)) (by rfl) (g_Run T) (pa_cons (pe_dget (hu_of hr) (pe_fl (pv 0)) (pv 1) (fun _ _ => rfl)) pa_nil)) pa_nil)))
    (pss_cons (ps_expr (pe_bm PySem.F.plainAttrs_list PySem.F.slot_list_append PySem.F.type_list_append mt_append (pe_fl (pv 0)) (pa_cons (pv 1) pa_nil)))
    (pss_cons (ps_expr (pe_bm PySem.F.plainAttrs_list PySem.F.slot_list_append PySem.F.type_list_append mt_append (pe_fl (pv 0)) (pa_cons (pv 2) pa_nil)))
    (pss_cons (ps_expr (pe_bm PySem.F.plainAttrs_list PySem.F.slot_list_append PySem.F.type_list_append mt_append (pe_fl (pv 0)) (pa_cons (pe_lst pa_nil) pa_nil)))
    (pss_one (ps_ret (pe_op op_sub (pe_callB call_len_seq (by rfl) (z_len T) (by decide +kernel) (pa_cons (pe_fl (pv 0)) pa_nil)) pe_int))))))), ?_⟩
  obtain ⟨a, s, came, X, nm, b, bv, prog, rfl, R, hp, hb, hl, q⟩ := h
  obtain ⟨pgV, hpd, htp⟩ := R.pg
  have hpv : ∃ v, lk pgV nm = some v ∧ TD K H v (.tuple (blkD prog)) := by
    rcases PK2.look nm htp with ⟨z, _⟩ | ⟨o2, v, z1, z2, z3⟩
    · rw [hp] at z; cases z
    · rw [hp] at z1; cases z1; exact ⟨v, z2, z3⟩
  obtain ⟨pv, epv, hpv⟩ := hpv
  have hg : some pv = valV (mk2 (Sum.inr : Str → Key) id pgV) (Sum.inr nm) := by rw [valV_mk2 inr_inj, epv]; rfl
  refine ⟨_, rfl, a, _, rfl, hl_all_runs T R.ob, .inl ⟨rfl, _, SqL.of R.rl⟩, _, rfl, a, _, rfl, hl_programs T R.ob, _, rfl, X.pd, pv, rfl, by rw [hg]; exact DGet.k (k := Sum.inr nm) hpd, fun x dx hx hdx hne => ?_⟩
  have s1 : Same H (upd (upd H dx (.own x)) x (.ins (cR K) dx [])) := (Same.new hdx).trans (Same.new (by rw [upd_ne (fun z => hne z.symm)]; exact hx))
  refine ⟨x, dx, pv, prog, rfl, upd_same, TD.fx (Same.fx s1) _ _ hpv, fun H2 xa hr hkeep hfresh => ⟨rfl, ?_⟩⟩
  have s2 : Same H H2 := fun b o e => hkeep b o (s1 b o e) (fun z => by rw [z, hx] at e; cases e)
  have R2 := R.same s2
  have hll : ∀ {α : Type} (f : RX → α), (X.rs.map f).length < sizeLine := fun f => by rw [List.length_map, ← R.runs.len, sizeLine_eq]; omega
  have i0 : (X.O a)[0]? = some a := rfl
  have i2 : (X.O a)[2]? = some X.rl := rfl
  have i3 : (X.O a)[3]? = some X.nl := rfl
  have i4 : (X.O a)[4]? = some X.bl := rfl
  have i5 : (X.O a)[5]? = some X.hl := rfl
  refine ⟨X.rl, _, _, rfl, rfl, R2.rl, hll _, ?_⟩
  have ob3 : upd H2 X.rl (.lst (X.rs.map (fun y => V.ref y.a) ++ [.ref x])) a = some (.ins (cH K) X.dx (hf s X)) := by rw [upd_ne (R.ne 0 2 i0 i2 (by decide))]; exact R2.ob
  have nl3 : upd H2 X.rl (.lst (X.rs.map (fun y => V.ref y.a) ++ [.ref x])) X.nl = some (.lst (s.runs.map fun r => .str r.nm)) := by rw [upd_ne (R.ne 3 2 i3 i2 (by decide))]; exact R2.nl
  refine ⟨_, rfl, a, _, rfl, hl_names_of T ob3, .inl ⟨rfl, _, SqL.of nl3⟩, _, rfl, X.nl, _, _, rfl, rfl, nl3, by rw [List.length_map, sizeLine_eq]; omega, ?_⟩
  have ob4 : upd (upd H2 X.rl (.lst (X.rs.map (fun y => V.ref y.a) ++ [.ref x]))) X.nl (.lst (s.runs.map (fun r => V.str r.nm) ++ [.str nm])) a = some (.ins (cH K) X.dx (hf s X)) := by rw [upd_ne (R.ne 0 3 i0 i3 (by decide))]; exact ob3
  have bl4 : upd (upd H2 X.rl (.lst (X.rs.map (fun y => V.ref y.a) ++ [.ref x]))) X.nl (.lst (s.runs.map (fun r => V.str r.nm) ++ [.str nm])) X.bl = some (.lst (X.rs.map (fun y => y.bv))) := by
    rw [upd_ne (R.ne 4 3 i4 i3 (by decide)), upd_ne (R.ne 4 2 i4 i2 (by decide))]; exact R2.bl
  refine ⟨_, rfl, a, _, rfl, hl_begun_by T ob4, .inl ⟨rfl, _, SqL.of bl4⟩, _, rfl, X.bl, _, _, rfl, rfl, bl4, hll _, ?_⟩
  have ob5 : upd (upd (upd H2 X.rl (.lst (X.rs.map (fun y => V.ref y.a) ++ [.ref x]))) X.nl (.lst (s.runs.map (fun r => V.str r.nm) ++ [.str nm]))) X.bl (.lst (X.rs.map (fun y => y.bv) ++ [bv])) a = some (.ins (cH K) X.dx (hf s X)) := by rw [upd_ne (R.ne 0 4 i0 i4 (by decide))]; exact ob4
  have hl5 : upd (upd (upd H2 X.rl (.lst (X.rs.map (fun y => V.ref y.a) ++ [.ref x]))) X.nl (.lst (s.runs.map (fun r => V.str r.nm) ++ [.str nm]))) X.bl (.lst (X.rs.map (fun y => y.bv) ++ [bv])) X.hl = some (.lst (X.rs.map fun y => .ref y.h)) := by
    rw [upd_ne (R.ne 5 4 i5 i4 (by decide)), upd_ne (R.ne 5 3 i5 i3 (by decide)), upd_ne (R.ne 5 2 i5 i2 (by decide))]; exact R2.hl
  refine ⟨_, rfl, a, _, rfl, hl_happened T ob5, .inl ⟨rfl, _, SqL.of hl5⟩, Nat.zero_le _, fun h hh => ?_⟩
  refine ⟨X.hl, _, _, rfl, rfl, Same.new hh _ _ hl5, hll _, ?_⟩
  have T7 := R.to.newRun s2 hr (fun b m => (hfresh b m).elim (fun e => by rw [e]; exact hx) fun z => by
    by_cases e1 : b = x
    · rw [e1]; exact hx
    · rw [upd_ne e1] at z
      by_cases e2 : b = dx
      · rw [e2]; exact hdx
      · rw [upd_ne e2] at z; exact z) nm hb hh
  refine ⟨_, rfl, a, _, rfl, hl_all_runs T T7.1.ob, _, _, rfl, .inl (SqL.of T7.1.rl), _, _, rfl, rfl, ?_⟩
  have e : ((((X.rs ++ [(⟨x, xa, h, [], bv, []⟩ : RX)]).map fun y : RX => V.ref y.a).length : Nat) : Int) - 1 = (s.runs.length : Int) := by
    rw [List.length_map, List.length_append, ← R.runs.len]
    simp only [List.length_cons, List.length_nil]
    omega
  have := q _ _ T7
  rw [← e] at this
  exact this
end
end Ol
namespace Ol
open PySem PySem.Spec PyProof.Rows L2
local macro_rules | `(tactic| walk_at "len") => `(tactic| (intro vs H Q E h; first | (rcases h with ⟨hh, _⟩; rw [hh]; rfl) | (rcases h with ⟨_, hh, _⟩; rw [hh]; rfl) | (rcases h with ⟨_, _, hh, _⟩; rw [hh]; rfl) | (rcases h with ⟨_, _, _, hh, _⟩; rw [hh]; rfl) | (rcases h with ⟨_, _, _, _, hh, _⟩; rw [hh]; rfl) | (rcases h with ⟨_, _, _, _, _, hh, _⟩; rw [hh]; rfl) | (rcases h with ⟨_, _, _, _, _, _, hh, _⟩; rw [hh]; rfl) | (rcases h with ⟨_, _, _, _, _, _, _, hh, _⟩; rw [hh]; rfl) | (rcases h with ⟨_, _, _, _, _, _, _, _, hh, _⟩; rw [hh]; rfl) | (rcases h with ⟨_, _, _, _, _, _, _, _, _, hh, _⟩; rw [hh]; rfl) | (rcases h with ⟨_, _, _, _, _, _, _, _, _, _, hh, _⟩; rw [hh]; rfl) | (rcases h with ⟨_, _, _, _, _, _, _, _, _, _, _, hh, _⟩; rw [hh]; rfl) | (rcases h with ⟨_, _, _, _, _, _, _, _, _, _, _, _, hh, _⟩; rw [hh]; rfl) | (rcases h with ⟨_, _, _, _, _, _, _, _, _, _, _, _, _, hh, _⟩; rw [hh]; rfl) | (rcases h with ⟨_, _, _, _, _, _, _, _, _, _, _, _, _, _, hh, _⟩; rw [hh]; rfl) | (rcases h with ⟨_, _, _, _, _, _, _, _, _, _, _, _, _, _, _, hh, _⟩; rw [hh]; rfl) | (rcases h with ⟨_, _, _, _, _, _, _, _, _, _, _, _, _, _, _, _, hh, _⟩; rw [hh]; rfl) | (rcases h with ⟨_, _, _, _, _, _, _, _, _, _, _, _, _, _, _, _, _, hh, _⟩; rw [hh]; rfl) | (rcases h with ⟨_, _, _, _, _, _, _, _, _, _, _, _, _, _, _, _, _, _, hh, _⟩; rw [hh]; rfl) | (rcases h with ⟨_, _, _, _, _, _, _, _, _, _, _, _, _, _, _, _, _, _, _, hh, _⟩; rw [hh]; rfl)))
/-- a house with a row and what goes out beside it -/
structure HW (K : PySem.W.Frag) (H : Hp) (a : Addr) (s : HS) (came : List Inp) (X : HX) (pr : Addr) (rd : List PyData) (po : Addr) (od : List PyData) : Prop where
  h : HouseAt K H a s came X
  r : ∃ rv, H pr = some (.lst rv) ∧ TDs K H rv rd
  o : ∃ ov, H po = some (.lst ov) ∧ TDs K H ov od
  ne : pr ≠ po
  nr : pr ∉ X.F a
  no : po ∉ X.F a
def HWTo (K : PySem.W.Frag) (H0 : Hp) (F0 : List Addr) (H : Hp) (a : Addr) (s : HS) (came : List Inp) (X : HX) (pr : Addr) (rd : List PyData) (po : Addr) (od : List PyData) : Prop :=
  HW K H a s came X pr rd po od ∧ Upto F0 H0 H (pr :: po :: X.F a)
section
variable {K : PySem.W.Frag} {H0 H H' : Hp} {F0 : List Addr} {a : Addr} {s s' : HS} {came came' : List Inp} {X X' : HX} {pr po : Addr} {rd od : List PyData}
theorem HW.to (W : HW K H a s came X pr rd po od) : HWTo K H (pr :: po :: X.F a) H a s came X pr rd po od := ⟨W, Upto.refl⟩
theorem HWTo.same (W : HWTo K H0 F0 H a s came X pr rd po od) (e : Same H H') : HWTo K H0 F0 H' a s came X pr rd po od := by
  obtain ⟨rv, r1, r2⟩ := W.1.r
  obtain ⟨ov, o1, o2⟩ := W.1.o
  exact ⟨⟨W.1.h.same e, ⟨rv, e _ _ r1, TDs.fx (Same.fx e) _ _ r2⟩, ⟨ov, e _ _ o1, TDs.fx (Same.fx e) _ _ o2⟩, W.1.ne, W.1.nr, W.1.no⟩, W.2.same e⟩
theorem HWTo.house (W : HWTo K H0 F0 H a s came X pr rd po od) (T : HouseTo K H (X.F a) H' a s' came' X') : HWTo K H0 F0 H' a s' came' X' pr rd po od := by
  obtain ⟨rv, r1, r2⟩ := W.1.r
  obtain ⟨ov, o1, o2⟩ := W.1.o
  have n : ∀ p o, H p = some o → p ∉ X.F a → p ∉ X'.F a := fun p o e n m => by
    rcases T.2.new p m with z | z
    · exact n z
    · rw [e] at z; cases z
  refine ⟨⟨T.1, ⟨rv, T.2.keep _ _ r1 W.1.nr, TDs.fx T.2.fx _ _ r2⟩, ⟨ov, T.2.keep _ _ o1 W.1.no, TDs.fx T.2.fx _ _ o2⟩, W.1.ne, n _ _ r1 W.1.nr, n _ _ o1 W.1.no⟩, W.2.trans (T.2.mono (fun b m => List.mem_cons_of_mem _ (List.mem_cons_of_mem _ m)) (fun b m => ?_))⟩
  rcases List.mem_cons.mp m with e | m
  · exact .inr (by rw [e]; exact List.mem_cons_self)
  · rcases List.mem_cons.mp m with e | m
    · exact .inr (by rw [e]; exact List.mem_cons_of_mem _ List.mem_cons_self)
    · exact .inl m
theorem HWTo.setRow (W : HWTo K H0 F0 H a s came X pr rd po od) (rv' : List V) (rd' : List PyData) (hv : TDs K H rv' rd') : HWTo K H0 F0 (upd H pr (.lst rv')) a s came X pr rd' po od := by
  obtain ⟨rv, r1, r2⟩ := W.1.r
  obtain ⟨ov, o1, o2⟩ := W.1.o
  have U : Upto (pr :: po :: X.F a) H (upd H pr (.lst rv')) (pr :: po :: X.F a) := Upto.upd r1 List.mem_cons_self (fun _ q => nomatch q) (fun _ _ q => nomatch q)
  have U1 : Upto [pr] H (upd H pr (.lst rv')) [pr] := Upto.upd r1 List.mem_cons_self (fun _ q => nomatch q) (fun _ _ q => nomatch q)
  have npd : X.pd ∉ [pr] := fun m => by
    obtain ⟨pgV, h1, _⟩ := W.1.h.pg
    simp at m
    rw [m, r1] at h1
    cases h1
  exact ⟨⟨W.1.h.upto U1 (fun b m z => W.1.nr (by simp at z; rw [← z]; exact m)) npd, ⟨rv', upd_same, TDs.fx U.fx _ _ hv⟩, ⟨ov, by rw [upd_ne W.1.ne.symm]; exact o1, TDs.fx U.fx _ _ o2⟩, W.1.ne, W.1.nr, W.1.no⟩, W.2.trans U⟩
theorem HWTo.setOut (W : HWTo K H0 F0 H a s came X pr rd po od) (ov' : List V) (od' : List PyData) (hv : TDs K H ov' od') : HWTo K H0 F0 (upd H po (.lst ov')) a s came X pr rd po od' := by
  obtain ⟨rv, r1, r2⟩ := W.1.r
  obtain ⟨ov, o1, o2⟩ := W.1.o
  have U : Upto (pr :: po :: X.F a) H (upd H po (.lst ov')) (pr :: po :: X.F a) := Upto.upd o1 (List.mem_cons_of_mem _ List.mem_cons_self) (fun _ q => nomatch q) (fun _ _ q => nomatch q)
  have U1 : Upto [po] H (upd H po (.lst ov')) [po] := Upto.upd o1 List.mem_cons_self (fun _ q => nomatch q) (fun _ _ q => nomatch q)
  have npd : X.pd ∉ [po] := fun m => by
    obtain ⟨pgV, h1, _⟩ := W.1.h.pg
    simp at m
    rw [m, o1] at h1
    cases h1
  exact ⟨⟨W.1.h.upto U1 (fun b m z => W.1.no (by simp at z; rw [← z]; exact m)) npd, ⟨rv, by rw [upd_ne W.1.ne]; exact r1, TDs.fx U.fx _ _ r2⟩, ⟨ov', upd_same, TDs.fx U.fx _ _ hv⟩, W.1.ne, W.1.nr, W.1.no⟩, W.2.trans U⟩
end
theorem follows_snoc (i : Nat) (c : Cmd) : ∀ (l : List Cmd) (s : HS), s.follows i (l ++ [c]) = (((s.follows i l).1.follow i c).1, (s.follows i l).2.1 ++ ((s.follows i l).1.follow i c).2.1, (s.follows i l).2.2 ++ ((s.follows i l).1.follow i c).2.2)
  | [], s => by simp [HS.follows]
  | d :: l, s => by
    show (((s.follow i d).1.follows i (l ++ [c])).1, (s.follow i d).2.1 ++ ((s.follow i d).1.follows i (l ++ [c])).2.1, (s.follow i d).2.2 ++ ((s.follow i d).1.follows i (l ++ [c])).2.2) = _
    rw [follows_snoc i c l]
    simp [HS.follows, List.append_assoc]
theorem inp_mom {K : PySem.W.Frag} {H : Hp} {v : V} {x : Inp} (h : TD K H v x.d) : ∃ p xs, v = .ref p ∧ SqT K H p xs ∧ xs[1]? = some (.int x.mom) := by
  cases x with
  | start m nm u =>
    simp only [Inp.d] at h
    obtain ⟨p, v1, v2, v3, v4, rfl, ht, h1, h2, h3, h4⟩ := td4 h
    cases td_int.mp h2
    exact ⟨p, _, rfl, ht, rfl⟩
  | answer m r t u =>
    simp only [Inp.d] at h
    obtain ⟨p, vs, rfl, ht, hx⟩ := td_tup.mp h
    obtain ⟨v1, r1, rfl, h1, hx⟩ := tds_cons.mp hx
    obtain ⟨v2, r2, rfl, h2, hx⟩ := tds_cons.mp hx
    cases td_int.mp h2
    exact ⟨p, _, rfl, ht, rfl⟩
  | letter m r k u =>
    simp only [Inp.d] at h
    obtain ⟨p, vs, rfl, ht, hx⟩ := td_tup.mp h
    obtain ⟨v1, r1, rfl, h1, hx⟩ := tds_cons.mp hx
    obtain ⟨v2, r2, rfl, h2, hx⟩ := tds_cons.mp hx
    cases td_int.mp h2
    exact ⟨p, _, rfl, ht, rfl⟩
  | tick m =>
    simp only [Inp.d] at h
    obtain ⟨p, v1, v2, rfl, ht, h1, h2⟩ := td2 h
    cases td_int.mp h2
    exact ⟨p, _, rfl, ht, rfl⟩
theorem sd_hap {h : Hap} (g : h.gk) : Sd 1 h.d := by
  cases h with
  | «begin» m a => exact sd_tup (all3 (sd_str (by decide +kernel)) sd_int sd_wd)
  | done m t a => exact sd_tup (all4 (sd_str (by decide +kernel)) sd_int sd_int sd_wd)
  | letter m k a => exact sd_tup (all4 (sd_str (by decide +kernel)) sd_int (sd_str g) sd_wd)
theorem sd_row {s : HS} {row : Row} (h : RowOk s row) : ∀ d ∈ row.map rowD, Sd 2 d := fun d hd => by
  obtain ⟨p, hp, rfl⟩ := List.mem_map.mp hd
  exact sd_tup (all2 sd_int (sd_hap (h p hp).2.2))
theorem td5 {K : PySem.W.Frag} {H : Hp} {v : V} {a b c d e : PyData} (h : TD K H v (.tuple [a, b, c, d, e])) : ∃ p x y z u r, v = .ref p ∧ SqT K H p [x, y, z, u, r] ∧ TD K H x a ∧ TD K H y b ∧ TD K H z c ∧ TD K H u d ∧ TD K H r e := by
  obtain ⟨p, vs, e1, hp, hx⟩ := td_tup.mp h
  obtain ⟨v1, r1, rfl, h1, hx⟩ := tds_cons.mp hx
  obtain ⟨v2, r2, rfl, h2, hx⟩ := tds_cons.mp hx
  obtain ⟨v3, r3, rfl, h3, hx⟩ := tds_cons.mp hx
  obtain ⟨v4, r4, rfl, h4, hx⟩ := tds_cons.mp hx
  obtain ⟨v5, r5, rfl, h5, hx⟩ := tds_cons.mp hx
  cases tds_nil.mp hx
  exact ⟨p, v1, v2, v3, v4, v5, e1, hp, h1, h2, h3, h4, h5⟩
theorem row_td {K : PySem.W.Frag} {H : Hp} {p q : Addr} {j : Nat} {h : Hap} {vs : List V} {ds : List PyData} (e : h.d = .tuple ds) (hq : H q = some (.tup [.int (j : Int), .ref p])) (hp : H p = some (.tup vs)) (hv : TDs K H vs ds) : TD K H (.ref q) (rowD (j, h)) := by
  unfold rowD
  rw [e]
  exact TD.new hq (TDs.mk (td_int.mpr rfl) (TDs.mk (TD.new hp hv) TDs.nil))
theorem HWTo.addRow {K : PySem.W.Frag} {H0 H : Hp} {F0 : List Addr} {a : Addr} {s : HS} {came : List Inp} {X : HX} {pr po : Addr} {rd od : List PyData} (W : HWTo K H0 F0 H a s came X pr rd po od) {rv : List V} (hr : H pr = some (.lst rv)) {v : V} {d : PyData} (hv : TD K H v d) : HWTo K H0 F0 (upd H pr (.lst (rv ++ [v]))) a s came X pr (rd ++ [d]) po od := by
  obtain ⟨rv2, r1, r2⟩ := W.1.r
  rw [hr] at r1
  cases r1
  exact W.setRow _ _ (r2.snoc hv)
theorem HWTo.addOut {K : PySem.W.Frag} {H0 H : Hp} {F0 : List Addr} {a : Addr} {s : HS} {came : List Inp} {X : HX} {pr po : Addr} {rd od : List PyData} (W : HWTo K H0 F0 H a s came X pr rd po od) {ov : List V} (ho : H po = some (.lst ov)) {v : V} {d : PyData} (hv : TD K H v d) : HWTo K H0 F0 (upd H po (.lst (ov ++ [v]))) a s came X pr rd po (od ++ [d]) := by
  obtain ⟨ov2, o1, o2⟩ := W.1.o
  rw [ho] at o1
  cases o1
  exact W.setOut _ _ (o2.snoc hv)
theorem HWTo.rowAt {K : PySem.W.Frag} {H0 H : Hp} {F0 : List Addr} {a : Addr} {s : HS} {came : List Inp} {X : HX} {pr po : Addr} {rd od : List PyData} (W : HWTo K H0 F0 H a s came X pr rd po od) : ∃ rv, H pr = some (.lst rv) ∧ rv.length = rd.length := by
  obtain ⟨rv, r1, r2⟩ := W.1.r
  exact ⟨rv, r1, r2.length⟩
theorem HWTo.outAt {K : PySem.W.Frag} {H0 H : Hp} {F0 : List Addr} {a : Addr} {s : HS} {came : List Inp} {X : HX} {pr po : Addr} {rd od : List PyData} (W : HWTo K H0 F0 H a s came X pr rd po od) : ∃ ov, H po = some (.lst ov) ∧ ov.length = od.length := by
  obtain ⟨ov, o1, o2⟩ := W.1.o
  exact ⟨ov, o1, o2.length⟩
theorem PgAt.get {K : PySem.W.Frag} {H : Hp} {pd : Addr} {progs : List (Str × List Stm)} (h : PgAt K H pd progs) (p : Str) : ∃ o, DGet H pd (.str p) o ∧ o.isSome = (lk progs p).isSome := by
  obtain ⟨pgV, h1, h2⟩ := h
  refine ⟨_, DGet.k (k := Sum.inr p) h1, ?_⟩
  rw [show valV (mk2 (Sum.inr : Str → Key) id pgV) (Sum.inr p) = (lk pgV p).map id from valV_mk2 inr_inj pgV p]
  rcases PK2.look p h2 with ⟨z, z2⟩ | ⟨o2, v, z1, z2, z3⟩
  · rw [z, z2]; rfl
  · rw [z1, z2]; rfl
theorem line16 {n : Nat} (h : n < 16000000) : n < sizeLine := by rw [sizeLine_eq]; omega
def spHInit (K : PySem.W.Frag) : Sp := fun vs H Q _ => ∃ (a dx pd : Addr) (progs : List (Str × List Stm)), vs = [.ref a, .ref pd] ∧ H a = some (.ins (cH K) dx []) ∧ PgAt K H pd progs ∧ pd ≠ a ∧
  ∀ H' X, HouseAt K H' a (HS.init progs) [] X → (∀ b o, H b = some o → b ≠ a → H' b = some o) → (∀ b ∈ X.F a, b = a ∨ H b = none) → H X.pd = none → Q .non H'
def spFirst (K : PySem.W.Frag) : Sp := fun vs H Q _ => ∃ (a : Addr) (s : HS) (came : List Inp) (X : HX) (n k : Nat) (x : Inp) (iv : V), vs = [.ref a, iv] ∧ HouseAt K H a s came X ∧ Hk s n k ∧ TD K H iv x.d ∧ x.ok ∧ k < 9999999 ∧
  ∀ H' X' p rv, HouseTo K H (X.F a) H' a (s.first x).1 came X' → H' p = some (.lst rv) → (p ∈ X.F a ∨ H p = none) → p ∉ X'.F a → TDs K H' rv ((s.first x).2.map rowD) → Q (.ref p) H'
def spSend (K : PySem.W.Frag) : Sp := fun vs H Q _ => ∃ (a : Addr) (s : HS) (came : List Inp) (X : HX) (n k i : Nat) (r : W) (key : Str) (u : W) (cv : V) (pr po : Addr) (rd od : List PyData), vs = [.ref a, .int (i : Int), cv, .ref pr, .ref po] ∧ HW K H a s came X pr rd po od ∧ Hk s n k ∧ TD K H cv (Cmd.send r key u).d ∧ rd.length < 16000000 ∧ od.length < 16000000 ∧
  ∀ H' X', HWTo K H (pr :: po :: X.F a) H' a (s.follow i (.send r key u)).1 came X' pr (rd ++ (s.follow i (.send r key u)).2.1.map rowD) po (od ++ (s.follow i (.send r key u)).2.2) → Q .non H'
def spBeget (K : PySem.W.Frag) : Sp := fun vs H Q _ => ∃ (a : Addr) (s : HS) (came : List Inp) (X : HX) (n k i : Nat) (t : Int) (p : Str) (u : W) (cv : V) (pr po : Addr) (rd od : List PyData), vs = [.ref a, .int (i : Int), cv, .ref pr] ∧ HW K H a s came X pr rd po od ∧ Hk s n k ∧ TD K H cv (Cmd.child t p u).d ∧ rd.length < 16000000 ∧
  ∀ H' X', HWTo K H (pr :: po :: X.F a) H' a (s.follow i (.child t p u)).1 came X' pr (rd ++ (s.follow i (.child t p u)).2.1.map rowD) po (od ++ (s.follow i (.child t p u)).2.2) → Q .non H'
def spFollow (K : PySem.W.Frag) : Sp := fun vs H Q _ => ∃ (a : Addr) (s : HS) (came : List Inp) (X : HX) (n k i : Nat) (c : Cmd) (cv : V) (pr po : Addr) (rd od : List PyData), vs = [.ref a, .int (i : Int), cv, .ref pr, .ref po] ∧ HW K H a s came X pr rd po od ∧ Hk s n k ∧ TD K H cv c.d ∧ i < s.runs.length ∧ rd.length < 16000000 ∧ od.length < 16000000 ∧
  ∀ H' X', HWTo K H (pr :: po :: X.F a) H' a (s.follow i c).1 came X' pr (rd ++ (s.follow i c).2.1.map rowD) po (od ++ (s.follow i c).2.2) → Q .non H'
def spHTake (K : PySem.W.Frag) : Sp := fun vs H Q _ => ∃ (a : Addr) (s : HS) (came : List Inp) (X : HX) (n k : Nat) (x : Inp) (iv : V), vs = [.ref a, iv] ∧ HouseAt K H a s came X ∧ Hk s n k ∧ TD K H iv x.d ∧ x.ok ∧ n + 300 ≤ 16000 ∧ k + 90301 ≤ 9999999 ∧ came.length < 16000000 ∧
  ∀ H' X' p ov, HouseTo K H (X.F a) H' a (s.put x).1 (came ++ [x]) X' → H' p = some (.lst ov) → (p ∈ X.F a ∨ H p = none) → p ∉ X'.F a → TDs K H' ov (s.put x).2 → Q (.ref p) H'
section
variable {P : Program} {w : World} {K : PySem.W.Frag} {mg : Str → Option Value} {base : Heap}
theorem sc_House___init__ : FnScope ["self", "programs"] ["self", "programs"] (defScope s_House___init__) := ⟨rfl, rfl, rfl, by decide +kernel, rfl, by decide +kernel, by decide +kernel⟩
theorem ok_House___init__ (T : Tx w K mg) : OkD P w K mg base d_House___init__ 1 ["self", "programs"] (spHInit K) := by
  have sc := sc_House___init__
  refine okD_mk (F_House___init__ T) sc (fun _ _ _ _ _ _ us hl => match us, hl with | [_, _], _ => rfl) ?len ?body
  case len => walk_at "len"
  intro cdv f A outer s H vs Q E hr h
  refine ⟨_, (pss_cons (ps_fl (pv 0) (pe_callTy call_dictD (by rfl) (z_dict T) (by decide +kernel) (pa_cons (pv 1) pa_nil)))
    (pss_cons (ps_fl (pv 0) pe_int)
    (pss_cons (ps_fl (pv 0) (pe_lst pa_nil))
    (pss_cons (ps_fl (pv 0) (pe_lst pa_nil))
    (pss_cons (ps_fl (pv 0) (pe_lst pa_nil))
    (pss_cons (ps_fl (pv 0) (pe_lst pa_nil))
    (pss_cons (ps_fl (pv 0) (pe_lst pa_nil))
    (pss_cons (ps_fl (pv 0) pe_dnewT)
    (pss_one (ps_fl (pv 0) pe_dnewT)))))))))), ?_⟩
  obtain ⟨a, dx, pd, progs, rfl, R, hpg, hne, q⟩ := h
  obtain ⟨pgV, hpd, htp⟩ := hpg
  have B0 := Bld.init R
  refine ⟨_, rfl, _, _, rfl, .inl hpd, fun p1 hp1 => ⟨_, rfl, a, _, rfl, ⟨_, _, _, (B0.add hp1).ob, c_House T, n_House_programs T, (by show 0 < 1000; decide), rfl⟩, ?_⟩⟩
  have B1 := (B0.add (o := .dK (mk2 (Sum.inr : Str → Key) id pgV)) hp1).sc (putF "programs" (.ref p1) [])
  refine ⟨_, rfl, a, _, rfl, ⟨_, _, _, B1.ob, c_House T, n_House_now T, (by show 1 < 1000; decide), rfl⟩, ?_⟩
  have B2 := B1.sc (putF "now" (.int 0) (putF "programs" (.ref p1) []))
  refine ⟨Nat.zero_le _, fun p2 hp2 => ⟨_, rfl, a, _, rfl, ⟨_, _, _, (B2.add hp2).ob, c_House T, n_House_came T, (by show 2 < 1000; decide), rfl⟩, ?_⟩⟩
  have B3 := (B2.add (o := .lst []) hp2).sc (putF "came" (.ref p2) (putF "now" (.int 0) (putF "programs" (.ref p1) [])))
  refine ⟨Nat.zero_le _, fun p3 hp3 => ⟨_, rfl, a, _, rfl, ⟨_, _, _, (B3.add hp3).ob, c_House T, n_House_all_runs T, (by show 3 < 1000; decide), rfl⟩, ?_⟩⟩
  have B4 := (B3.add (o := .lst []) hp3).sc (putF "all_runs" (.ref p3) (putF "came" (.ref p2) (putF "now" (.int 0) (putF "programs" (.ref p1) []))))
  refine ⟨Nat.zero_le _, fun p4 hp4 => ⟨_, rfl, a, _, rfl, ⟨_, _, _, (B4.add hp4).ob, c_House T, n_House_names_of T, (by show 4 < 1000; decide), rfl⟩, ?_⟩⟩
  have B5 := (B4.add (o := .lst []) hp4).sc (putF "names_of" (.ref p4) (putF "all_runs" (.ref p3) (putF "came" (.ref p2) (putF "now" (.int 0) (putF "programs" (.ref p1) [])))))
  refine ⟨Nat.zero_le _, fun p5 hp5 => ⟨_, rfl, a, _, rfl, ⟨_, _, _, (B5.add hp5).ob, c_House T, n_House_begun_by T, (by show 5 < 1000; decide), rfl⟩, ?_⟩⟩
  have B6 := (B5.add (o := .lst []) hp5).sc (putF "begun_by" (.ref p5) (putF "names_of" (.ref p4) (putF "all_runs" (.ref p3) (putF "came" (.ref p2) (putF "now" (.int 0) (putF "programs" (.ref p1) []))))))
  refine ⟨Nat.zero_le _, fun p6 hp6 => ⟨_, rfl, a, _, rfl, ⟨_, _, _, (B6.add hp6).ob, c_House T, n_House_happened T, (by show 6 < 1000; decide), rfl⟩, ?_⟩⟩
  have B7 := (B6.add (o := .lst []) hp6).sc (putF "happened" (.ref p6) (putF "begun_by" (.ref p5) (putF "names_of" (.ref p4) (putF "all_runs" (.ref p3) (putF "came" (.ref p2) (putF "now" (.int 0) (putF "programs" (.ref p1) [])))))))
  refine fun p7 hp7 => ⟨_, rfl, a, _, rfl, ⟨_, _, _, (B7.add hp7).ob, c_House T, n_House_orders T, (by show 7 < 1000; decide), rfl⟩, ?_⟩
  have B8 := (B7.add (o := .dT []) hp7).sc (putF "orders" (.ref p7) (putF "happened" (.ref p6) (putF "begun_by" (.ref p5) (putF "names_of" (.ref p4) (putF "all_runs" (.ref p3) (putF "came" (.ref p2) (putF "now" (.int 0) (putF "programs" (.ref p1) []))))))))
  refine fun p8 hp8 => ⟨_, rfl, a, _, rfl, ⟨_, _, _, (B8.add hp8).ob, c_House T, n_House_timers T, (by show 8 < 1000; decide), rfl⟩, ?_⟩
  have B9 := (B8.add (o := .dT []) hp8).sc (putF "timers" (.ref p8) (putF "orders" (.ref p7) (putF "happened" (.ref p6) (putF "begun_by" (.ref p5) (putF "names_of" (.ref p4) (putF "all_runs" (.ref p3) (putF "came" (.ref p2) (putF "now" (.int 0) (putF "programs" (.ref p1) [])))))))))
  have hL := fun p hp => B9.at_ p hp
  have nd := B9.nd
  have hsub : [a, p2, p3, p4, p5, p6, p7, p8, p1].Perm (a :: [(p1, (.dK (mk2 (Sum.inr : Str → Key) id pgV) : HO)), (p2, .lst []), (p3, .lst []), (p4, .lst []), (p5, .lst []), (p6, .lst []), (p7, .dT []), (p8, .dT [])].map (·.1)) :=
    List.Perm.cons a (List.perm_append_comm (l₁ := [p2, p3, p4, p5, p6, p7, p8]) (l₂ := [p1]))
  have up := B9.up
  have hnew : ∀ b ∈ a :: [(p1, (.dK (mk2 (Sum.inr : Str → Key) id pgV) : HO)), (p2, .lst []), (p3, .lst []), (p4, .lst []), (p5, .lst []), (p6, .lst []), (p7, .dT []), (p8, .dT [])].map (·.1), b = a ∨ H b = none := fun b hb => by
    rcases up.new b hb with z | z
    · exact .inl (by simpa using z)
    · exact .inr z
  refine q _ ⟨dx, p1, p2, p3, p4, p5, p6, p7, p8, [], [], []⟩ ⟨B9.ob, hL (p2, .lst []) (by simp), hL (p3, .lst []) (by simp), hL (p4, .lst []) (by simp), hL (p5, .lst []) (by simp), hL (p6, .lst []) (by simp), hL (p7, .dT []) (by simp), hL (p8, .dT []) (by simp), TDs.nil, .nil, ⟨pgV, hL (p1, .dK (mk2 (Sum.inr : Str → Key) id pgV)) (by simp), PK2.mono htp fun _ _ z => TD.fx up.fx _ _ z⟩, ⟨rfl, (fun i rr y z _ => by cases z), (fun i j y z e _ _ _ _ => by cases e), (fun y m => nomatch m)⟩, hsub.nodup_iff.mpr nd⟩ (fun b o hb hn => up.keep b o hb (by simpa using hn)) (fun b hb => hnew b (hsub.subset (by simpa [HX.F, rsF, HX.O] using hb))) ?_
  · rcases hnew p1 (List.mem_cons_of_mem _ List.mem_cons_self) with e | e
    · exact absurd e fun z => (List.nodup_cons.mp nd).1 (by rw [← z]; exact List.mem_cons_self)
    · exact e
theorem sc_House_first_row : FnScope ["self", "some", "word", "due", "timer", "at", "run", "ticket"] ["self", "some"] (defScope s_House_first_row) := ⟨rfl, rfl, rfl, by decide +kernel, rfl, by decide +kernel, by decide +kernel⟩
theorem ok_House_first_row (T : Tx w K mg) : OkD P w K mg base d_House_first_row 8 ["self", "some"] (spFirst K) := by
  have sc := sc_House_first_row
  refine okD_mk (F_House_first_row T) sc (fun _ _ _ _ _ _ us hl => match us, hl with | [_, _], _ => rfl) ?len ?body
  case len => walk_at "len"
  intro cdv f A outer s H vs Q E hr h
  refine ⟨_, (pss_cons (ps_set (i := 2) sc.nd rfl (Or.inl rfl) (pe_ix ix_tup (pv 1) pe_int (fun _ _ => rfl)))
    (pss_cons (ps_if (pt_cmpR op_eq (pv 2) pe_str (nomark _)) (pss_cons (ps_setLc (i := 3) (own := [("timer", 4)]) (by rfl) sc.nd rfl rfl (sw_true rfl rfl rfl (by decide +kernel)) (pi_list (pe_m0 (d := d_House_open_timers) (c_House T) (m_House_open_timers T) (ok_House_open_timers T) (hr.mono (by decide)) (pv 0))) (blkOk_by (N := ["self", "some", "word", "due", "timer", "at", "run", "ticket"]) (sc := defScope s_House_first_row) (by decide +kernel)) (fun _ _ _ _ _ => pg_name (i := 4) sc.nd rfl (Or.inl rfl)) (fun _ _ _ _ _ => (pts_one (pt_cmpR op_le (pe_ix (ix_tupK (K := K) rfl) (pv 4) pe_int (fun _ _ => rfl)) (pe_flK (K := K) rfl (pv 0)) (nomark _)))) (fun _ _ _ _ _ => (pv 4)))
    (pss_one (ps_ret (pe_lc (own := [("at", 5), ("run", 6), ("ticket", 7)]) (by rfl) sc.nd (pi_list (pv 3)) (blkOk_by (N := ["self", "some", "word", "due", "timer", "at", "run", "ticket"]) (sc := defScope s_House_first_row) (by decide +kernel)) (fun _ _ _ _ _ => pg_tupK (K := K) 3 rfl rfl (pgs_cons (pg_name (i := 5) sc.nd rfl (Or.inl rfl)) (pgs_cons (pg_name (i := 6) sc.nd rfl (Or.inl rfl)) (pgs_cons (pg_name (i := 7) sc.nd rfl (Or.inl rfl)) pgs_nil)))) (fun _ _ _ _ _ => pts_nil) (fun _ _ _ _ _ => (pe_tup (pa_cons (pv 6) (pa_cons (pe_tup (pa_cons pe_str (pa_cons (pe_flK (K := K) rfl (pv 0)) (pa_cons (pv 7) (pa_cons pe_non pa_nil))))) pa_nil)))))))) pss_nil)
    (pss_cons (ps_if (pt_cmpR op_eq (pv 2) pe_str (nomark _)) (pss_cons (ps_if (pt_cmp (pc_dnotin (hu_of hr) (pe_ix ix_tup (pv 1) pe_int (fun _ _ => rfl)) (pe_fl (pv 0))) (by rfl)) (pss_one (ps_ret (pe_lst pa_nil))) pss_nil)
    (pss_one (ps_ret (pe_lst (pa_cons (pe_tup (pa_cons (pe_m (d := d_House_new_run) (c_House T) (m_House_new_run T) (ok_House_new_run T) (hr.mono (by decide)) (pv 0) (pa_cons (pe_ix ix_tup (pv 1) pe_int (fun _ _ => rfl)) (pa_cons pe_non pa_nil))) (pa_cons (pe_tup (pa_cons pe_str (pa_cons (pe_fl (pv 0)) (pa_cons (pe_ix ix_tup (pv 1) pe_int (fun _ _ => rfl)) pa_nil)))) pa_nil))) pa_nil))))) pss_nil)
    (pss_cons (ps_if (pt_cmpR op_eq (pv 2) pe_str (nomark _)) (pss_cons (ps_if ((pw_or (pt_cmp (pc_dnotin (hu_of hr) (pe_tup (pa_cons (pe_ix ix_tup (pv 1) pe_int (fun _ _ => rfl)) (pa_cons (pe_ix ix_tup (pv 1) pe_int (fun _ _ => rfl)) pa_nil))) (pe_fl (pv 0))) (by rfl)) (pw_or1 (pt_not (pt_val (pe_m (d := d_House_is_open) (c_House T) (m_House_is_open T) (ok_House_is_open T) (hr.mono (by decide)) (pv 0) (pa_cons (pe_ix ix_tup (pv 1) pe_int (fun _ _ => rfl)) (pa_cons (pe_ix ix_tup (pv 1) pe_int (fun _ _ => rfl)) pa_nil)))))))).pt (pss_one (ps_ret (pe_lst pa_nil))) pss_nil)
    (pss_one (ps_ret (pe_lst (pa_cons (pe_tup (pa_cons (pe_ix ix_tup (pv 1) pe_int (fun _ _ => rfl)) (pa_cons (pe_tup (pa_cons pe_str (pa_cons (pe_fl (pv 0)) (pa_cons (pe_ix ix_tup (pv 1) pe_int (fun _ _ => rfl)) (pa_cons (pe_ix ix_tup (pv 1) pe_int (fun _ _ => rfl)) pa_nil))))) pa_nil))) pa_nil))))) pss_nil)
    (pss_cons (ps_if (pt_not (pt_val (pe_m (d := d_House_is_there) (c_House T) (m_House_is_there T) (ok_House_is_there T) (hr.mono (by decide)) (pv 0) (pa_cons (pe_ix ix_tup (pv 1) pe_int (fun _ _ => rfl)) pa_nil)))) (pss_one (ps_ret (pe_lst pa_nil))) pss_nil)
    (pss_one (ps_ret (pe_lst (pa_cons (pe_tup (pa_cons (pe_ix ix_tup (pv 1) pe_int (fun _ _ => rfl)) (pa_cons (pe_tup (pa_cons pe_str (pa_cons (pe_fl (pv 0)) (pa_cons (pe_ix ix_tup (pv 1) pe_int (fun _ _ => rfl)) (pa_cons (pe_ix ix_tup (pv 1) pe_int (fun _ _ => rfl)) pa_nil))))) pa_nil))) pa_nil))))))))), ?_⟩
  obtain ⟨a, s, came, X, n, k, x, iv, rfl, R, hk, hiv, hok, hkl, q⟩ := h
  have hrl := hk.rl
  have hlk := hk.lk
  have htl := hk.tl
  have empty : ∀ (H1 : Hp), Same H H1 → s.first x = (s, []) → ∀ q0, H1 q0 = none → Q (.ref q0) (upd H1 q0 (.lst [])) := fun H1 s1 e q0 hq0 => by
    have hn : H q0 = none := by
      cases e2 : H q0 with
      | none => rfl
      | some o => rw [s1 _ _ e2] at hq0; cases hq0
    have T1 := R.to.same (s1.trans (Same.new (o := .lst []) hq0))
    exact q _ X q0 [] (by rw [e]; exact T1) upd_same (.inr hn) (R.notIn hn) (by rw [e]; exact TDs.nil)
  have one : ∀ (H0 : Hp) (s' : HS) (X' : HX) (j : Nat) (h : Hap) (ds : List PyData) (vs : List V) (q1 q2 q3 : Addr), HouseTo K H (X.F a) H0 a s' came X' → s.first x = (s', [(j, h)]) → h.d = .tuple ds → TDs K H0 vs ds → H0 q1 = none → upd H0 q1 (.tup vs) q2 = none → upd (upd H0 q1 (.tup vs)) q2 (.tup [.int (j : Int), .ref q1]) q3 = none →
      Q (.ref q3) (upd (upd (upd H0 q1 (.tup vs)) q2 (.tup [.int (j : Int), .ref q1])) q3 (.lst [.ref q2])) := fun H0 s' X' j h ds vs q1 q2 q3 T0 e eh hv h1 h2 h3 => by
    have s1 := Same.new (o := .tup vs) h1
    have s2 := Same.new (o := .tup [.int (j : Int), .ref q1]) h2
    have s3 := Same.new (o := .lst [.ref q2]) h3
    have T3 := ((T0.same s1).same s2).same s3
    have hn0 : H0 q3 = none := by
      cases e2 : H0 q3 with
      | none => rfl
      | some o => rw [s2 _ _ (s1 _ _ e2)] at h3; cases h3
    have hnF := T0.1.notIn hn0
    have hn : q3 ∈ X.F a ∨ H q3 = none := if m : q3 ∈ X.F a then .inl m else .inr (T0.2.free hn0 m)
    have td := row_td (K := K) (j := j) (h := h) eh upd_same (s2 _ _ upd_same) (TDs.fx (Same.fx (s1.trans s2)) _ _ hv)
    exact q _ X' q3 [.ref q2] (by rw [e]; exact T3) upd_same hn hnF (by rw [e]; exact TDs.mk (TD.fx (Same.fx s3) _ _ td) TDs.nil)
  cases x with
  | tick m =>
    simp only [Inp.d] at hiv
    obtain ⟨p, v1, v2, rfl, ht, h1, h2⟩ := td2 hiv
    cases td_str.mp h1
    refine ⟨_, rfl, p, _, _, _, rfl, rfl, ht, rfl, _, rfl, rfl, _, rfl, ifT (by decide +kernel) ?_⟩
    refine ⟨_, rfl, a, rfl, ml_house R.ob rfl, a, s, came, X, n, k, rfl, R, hk, fun p1 xs H1 s1 hp1 hx1 ht1 => ⟨p1, rfl, ⟨_, SqL.of hx1⟩, fun D1 hD1 => ?_⟩⟩
    have R1 := R.same s1
    have hxl : xs.length = s.openTimers.length := by rw [ht1.length, List.length_map]
    have hol : s.openTimers.length ≤ s.timers.length := by
      unfold HS.openTimers HS.timersRaw
      rw [List.length_mergeSort, List.length_map]
      exact List.length_filter_le _ _
    refine lc_dataL hD1 (fun i => ((s.openTimers.take i).filter fun t => decide (t.1 ≤ s.now)).map encTm) rfl hx1 (by rw [sizeLine_eq]; omega) ?_ ?_
    · intro i v H' Qy Qn hx s2 ky kn
      obtain ⟨d, hd1, hd2⟩ := ht1.getV hx
      rw [List.getElem?_map, Option.map_eq_some_iff] at hd1
      obtain ⟨tm, htm, rfl⟩ := hd1
      have hd3 := TD.fx (Same.fx s2) _ _ hd2
      obtain ⟨pt, w1, w2, w3, rfl, g1, g2, g3, g4⟩ := td3 hd3
      cases td_int.mp g2
      have R2 := R1.same s2
      refine ⟨rfl, _, rfl, pt, _, _, _, rfl, rfl, g1, rfl, _, rfl, a, _, rfl, hl_now T R2.ob, _, _, rfl, rfl, _, rfl, ?_⟩
      by_cases hle : tm.1 ≤ s.now
      · exact ifT (decide_eq_true hle) ⟨_, rfl, ky _ _ (encTm tm) (fun _ _ h => h) hd3 (take_filt_pos (fun t : Tm => decide (t.1 ≤ s.now)) encTm htm (decide_eq_true hle))⟩
      · exact ifF (decide_eq_false hle) (kn _ (fun _ _ h => h) (take_filt_neg (fun t : Tm => decide (t.1 ≤ s.now)) encTm htm (decide_eq_false hle)))
    · intro H2 acc s2 hD2 ha2
      rw [hxl, List.take_length] at ha2
      have R2 := R1.same s2
      have hal : acc.length = (s.openTimers.filter fun t => decide (t.1 ≤ s.now)).length := by rw [ha2.length, List.length_map]
      have hal2 := List.length_filter_le (fun t : Tm => decide (t.1 ≤ s.now)) s.openTimers
      refine ⟨_, rfl, D1, rfl, ⟨_, SqL.of hD2⟩, fun D2 hD2' => lc_dataL hD2' (fun i => ((s.openTimers.filter fun t => decide (t.1 ≤ s.now)).take i).map fun t => rowD (t.2.1.toNat, .done s.now t.2.2 none)) rfl hD2 (by rw [sizeLine_eq]; omega) ?_ ?_⟩
      · intro i v H' Qy Qn hx s3 ky kn
        obtain ⟨d, hd1, hd2⟩ := ha2.getV hx
        rw [List.getElem?_map, Option.map_eq_some_iff] at hd1
        obtain ⟨tm, htm, rfl⟩ := hd1
        have hd3 := TD.fx (Same.fx s3) _ _ hd2
        obtain ⟨pt, w1, w2, w3, rfl, g1, g2, g3, g4⟩ := td3 hd3
        cases td_int.mp g2
        cases td_int.mp g3
        cases td_int.mp g4
        have R3 := R2.same s3
        have htm2 : tm ∈ s.openTimers := (List.mem_filter.mp (List.mem_of_getElem? htm)).1
        have ej := (HS.open_lt (tm_open htm2)).2
        refine ⟨pt, _, rfl, g1, rfl, _, _, rfl, _, _, rfl, _, _, rfl, rfl, rfl, ifT (B := Qn H') rfl ⟨_, rfl, _, rfl, a, _, rfl, hl_now T R3.ob, _, rfl, (by show 4 ≤ sizeLine; decide), fun q1 hq1 => ⟨(by show 2 ≤ sizeLine; decide), fun q2 hq2 => ?_⟩⟩⟩
        have s4 := Same.new (o := .tup [.str "done", .int s.now, .int tm.2.2, .non]) hq1
        have s5 := Same.new (o := .tup [.int tm.2.1, .ref q1]) hq2
        refine ky _ _ (rowD (tm.2.1.toNat, .done s.now tm.2.2 none)) (s4.trans s5) (row_td rfl (by rw [upd_same, ej]) (s5 _ _ upd_same) (TDs.mk (td_str.mpr rfl) (TDs.mk (td_int.mpr rfl) (TDs.mk (td_int.mpr rfl) (TDs.mk (td_wd.mpr rfl) TDs.nil))))) (take_map_succ (fun t : Tm => rowD (t.2.1.toNat, .done s.now t.2.2 none)) htm)
      · intro H3 acc3 s3 hD3 ha3
        rw [hal, List.take_length] at ha3
        have s13 := (s1.trans s2).trans s3
        have hn : H D2 = none := by
          cases e2 : H D2 with
          | none => rfl
          | some o => rw [(s1.trans s2) _ _ e2] at hD2'; cases hD2'
        have T3 := R.to.same s13
        refine q H3 X D2 acc3 T3 hD3 (.inr hn) (R.notIn hn) ?_
        show TDs K H3 acc3 (List.map rowD (List.map _ _))
        rw [List.map_map]
        exact ha3
  | start m nm u =>
    simp only [Inp.d] at hiv
    obtain ⟨p, v1, v2, v3, v4, rfl, ht, h1, h2, h3, h4⟩ := td4 hiv
    cases td_str.mp h1
    cases td_str.mp h3
    cases td_wd.mp h4
    obtain ⟨o, hg, ho⟩ := R.pg.get nm
    refine ⟨_, rfl, p, _, _, _, rfl, rfl, ht, rfl, ?_⟩
    refine ⟨_, rfl, rfl, _, rfl, ifF (by decide +kernel) ⟨_, rfl, rfl, _, rfl, ifT (by decide +kernel) ?_⟩⟩
    refine ⟨_, rfl, p, _, _, _, rfl, rfl, ht, rfl, _, rfl, a, _, rfl, hl_programs T R.ob, X.pd, o, rfl, hg, _, rfl, ?_⟩
    cases e : lk s.progs nm with
    | none =>
      have ef : s.first (.start m nm u) = (s, []) := by simp only [HS.first, e]
      exact ifT (by rw [ho, e]; rfl) ⟨Nat.zero_le _, fun q0 hq0 => empty H (fun _ _ h => h) ef q0 hq0⟩
    | some b =>
      have ef : s.first (.start m nm u) = (s.newRun nm none b, [(s.runs.length, .begin s.now u)]) := by simp only [HS.first, e]
      refine ifF (by rw [ho, e]; rfl) ⟨_, rfl, a, rfl, ml_house R.ob rfl, _, rfl, p, _, _, _, rfl, rfl, ht, rfl, a, s, came, X, nm, none, .non, b, rfl, R, e, td_none.mpr rfl, (by omega), fun H2 X2 T2 => ?_⟩
      have ht2 := Fx.t T2.2.fx ht
      refine ⟨_, rfl, a, _, rfl, hl_now T T2.1.ob, _, rfl, p, _, _, _, rfl, rfl, ht2, rfl, (by show 3 ≤ sizeLine; decide), fun q1 hq1 => ⟨(by show 2 ≤ sizeLine; decide), fun q2 hq2 => ⟨(by show 1 ≤ sizeLine; decide), fun q3 hq3 => ?_⟩⟩⟩
      exact one H2 _ X2 s.runs.length (.begin s.now u) _ _ q1 q2 q3 T2 ef rfl (TDs.mk (td_str.mpr rfl) (TDs.mk (td_int.mpr rfl) (TDs.mk (td_wd.mpr rfl) TDs.nil))) hq1 hq2 hq3
  | answer m r t u =>
    simp only [Inp.d] at hiv
    obtain ⟨p, v1, v2, v3, v4, v5, rfl, ht, h1, h2, h3, h4, h5⟩ := td5 hiv
    cases td_str.mp h1
    cases td_int.mp h3
    cases td_int.mp h4
    cases td_wd.mp h5
    refine ⟨_, rfl, p, _, _, _, rfl, rfl, ht, rfl, ?_⟩
    refine ⟨_, rfl, rfl, _, rfl, ifF (by decide +kernel) ⟨_, rfl, rfl, _, rfl, ifF (by decide +kernel) ⟨_, rfl, rfl, _, rfl, ifT (by decide +kernel) ?_⟩⟩⟩
    refine ⟨_, rfl, p, _, _, _, rfl, rfl, ht, rfl, _, rfl, p, _, _, _, rfl, rfl, ht, rfl, (by show 2 ≤ sizeLine; decide), fun q0 hq0 => ?_⟩
    have s0 := Same.new (o := .tup [.int r, .int t]) hq0
    have R0 := R.same s0
    have ht0 := Fx.t (Same.fx s0) ht
    have hsome : (valV (mk2 kII id X.ordV) (kII (r, t))).isSome = (lk s.orders (r, t)).isSome := by
      rw [valV_mk2 kII_inj]
      rcases PK2.look (r, t) R.tor with ⟨z, z2⟩ | ⟨o2, v, z1, z2, z3⟩
      · rw [z, z2]; rfl
      · rw [z1, z2]; rfl
    refine ⟨_, rfl, a, _, rfl, hl_orders T R0.ob, X.od, _, rfl, DGet.t (k := kII (r, t)) R0.od upd_same, _, rfl, ?_⟩
    cases ho : (lk s.orders (r, t)).isSome with
    | false =>
      have ef : s.first (.answer m r t u) = (s, []) := if_neg (fun z => by rw [ho] at z; cases z.1)
      exact ifT (by rw [hsome, ho]; rfl) (ifT rfl ⟨Nat.zero_le _, fun q1 hq1 => empty _ s0 ef q1 hq1⟩)
    | true =>
      refine ifF (by rw [hsome, ho]; rfl) ⟨_, rfl, a, rfl, ml_house R0.ob rfl, _, rfl, p, _, _, _, rfl, rfl, ht0, rfl, _, rfl, p, _, _, _, rfl, rfl, ht0, rfl, a, s, X, n, k, r, t, rfl, R0.hrun, hk, fun H1 s1 => ⟨_, rfl, ?_⟩⟩
      have s01 := s0.trans s1
      have R1 := R.same s01
      have ht1 := Fx.t (Same.fx s01) ht
      cases hop : s.isOpen r t with
      | false =>
        have ef : s.first (.answer m r t u) = (s, []) := if_neg (fun z => by rw [hop] at z; cases z.2)
        exact ifT rfl ⟨Nat.zero_le _, fun q1 hq1 => empty _ s01 ef q1 hq1⟩
      | true =>
        have ej := (HS.open_lt hop).2
        have ef : s.first (.answer m r t u) = (s, [(r.toNat, .done s.now t u)]) := if_pos ⟨ho, hop⟩
        refine ifF rfl ⟨_, rfl, p, _, _, _, rfl, rfl, ht1, rfl, _, rfl, a, _, rfl, hl_now T R1.ob, _, rfl, p, _, _, _, rfl, rfl, ht1, rfl, _, rfl, p, _, _, _, rfl, rfl, ht1, rfl, (by show 4 ≤ sizeLine; decide), fun q1 hq1 => ⟨(by show 2 ≤ sizeLine; decide), fun q2 hq2 => ⟨(by show 1 ≤ sizeLine; decide), fun q3 hq3 => ?_⟩⟩⟩
        rw [← ej] at hq3 ⊢
        exact one H1 s X r.toNat (.done s.now t u) _ _ q1 q2 q3 (R.to.same s01) ef rfl (TDs.mk (td_str.mpr rfl) (TDs.mk (td_int.mpr rfl) (TDs.mk (td_int.mpr rfl) (TDs.mk (td_wd.mpr rfl) TDs.nil)))) hq1 hq2 hq3
  | letter m r key u =>
    simp only [Inp.d] at hiv
    obtain ⟨p, v1, v2, v3, v4, v5, rfl, ht, h1, h2, h3, h4, h5⟩ := td5 hiv
    cases td_str.mp h1
    cases td_int.mp h3
    cases td_str.mp h4
    cases td_wd.mp h5
    refine ⟨_, rfl, p, _, _, _, rfl, rfl, ht, rfl, ?_⟩
    refine ⟨_, rfl, rfl, _, rfl, ifF (by decide +kernel) ⟨_, rfl, rfl, _, rfl, ifF (by decide +kernel) ⟨_, rfl, rfl, _, rfl, ifF (by decide +kernel) ?_⟩⟩⟩
    refine ⟨_, rfl, a, rfl, ml_house R.ob rfl, _, rfl, p, _, _, _, rfl, rfl, ht, rfl, a, s, X, n, k, r, rfl, R.hrun, hk, fun H1 s1 => ⟨_, rfl, ?_⟩⟩
    have R1 := R.same s1
    have ht1 := Fx.t (Same.fx s1) ht
    cases hop : s.there r with
    | false =>
      have ef : s.first (.letter m r key u) = (s, []) := if_neg (fun z => by rw [hop] at z; cases z)
      exact ifT rfl ⟨Nat.zero_le _, fun q1 hq1 => empty _ s1 ef q1 hq1⟩
    | true =>
      have ej := (HS.there_lt hop).2
      have ef : s.first (.letter m r key u) = (s, [(r.toNat, .letter s.now key u)]) := if_pos hop
      refine ifF rfl ⟨_, rfl, p, _, _, _, rfl, rfl, ht1, rfl, _, rfl, a, _, rfl, hl_now T R1.ob, _, rfl, p, _, _, _, rfl, rfl, ht1, rfl, _, rfl, p, _, _, _, rfl, rfl, ht1, rfl, (by show 4 ≤ sizeLine; decide), fun q1 hq1 => ⟨(by show 2 ≤ sizeLine; decide), fun q2 hq2 => ⟨(by show 1 ≤ sizeLine; decide), fun q3 hq3 => ?_⟩⟩⟩
      rw [← ej] at hq3 ⊢
      exact one H1 s X r.toNat (.letter s.now key u) _ _ q1 q2 q3 (R.to.same s1) ef rfl (TDs.mk (td_str.mpr rfl) (TDs.mk (td_int.mpr rfl) (TDs.mk (td_str.mpr rfl) (TDs.mk (td_wd.mpr rfl) TDs.nil)))) hq1 hq2 hq3
theorem sc_House_send : FnScope ["self", "run", "command", "row", "out"] ["self", "run", "command", "row", "out"] (defScope s_House_send) := ⟨rfl, rfl, rfl, by decide +kernel, rfl, by decide +kernel, by decide +kernel⟩
theorem ok_House_send (T : Tx w K mg) : OkD P w K mg base d_House_send 8 ["self", "run", "command", "row", "out"] (spSend K) := by
  have sc := sc_House_send
  refine okD_mk (F_House_send T) sc (fun _ _ _ _ _ _ us hl => match us, hl with | [_, _, _, _, _], _ => rfl) ?len ?body
  case len => walk_at "len"
  intro cdv f A outer s H vs Q E hr h
  refine ⟨_, (pss_one (ps_if ((pw_and (pt_cmp (pc_notN (pe_ix ix_tup (pv 2) pe_int (fun _ _ => rfl)))) (pw_and1 (pt_val (pe_m (d := d_House_is_there) (c_House T) (m_House_is_there T) (ok_House_is_there T) (hr.mono (by decide)) (pv 0) (pa_cons (pe_ix ix_tup (pv 2) pe_int (fun _ _ => rfl)) pa_nil)))))).pt (pss_one (ps_expr (pe_bm PySem.F.plainAttrs_list PySem.F.slot_list_append PySem.F.type_list_append mt_append (pv 3) (pa_cons (pe_tup (pa_cons (pe_ix ix_tup (pv 2) pe_int (fun _ _ => rfl)) (pa_cons (pe_tup (pa_cons pe_str (pa_cons (pe_fl (pv 0)) (pa_cons (pe_ix ix_tup (pv 2) pe_int (fun _ _ => rfl)) (pa_cons (pe_ix ix_tup (pv 2) pe_int (fun _ _ => rfl)) pa_nil))))) pa_nil))) pa_nil)))) (pss_one (ps_expr (pe_bm PySem.F.plainAttrs_list PySem.F.slot_list_append PySem.F.type_list_append mt_append (pv 4) (pa_cons (pe_tup (pa_cons pe_str (pa_cons (pv 1) (pa_cons (pe_ix ix_tup (pv 2) pe_int (fun _ _ => rfl)) (pa_cons (pe_ix ix_tup (pv 2) pe_int (fun _ _ => rfl)) (pa_cons (pe_ix ix_tup (pv 2) pe_int (fun _ _ => rfl)) pa_nil)))))) pa_nil)))))), ?_⟩
  obtain ⟨a, s, came, X, n, k, i, r, key, u, cv, pr, po, rd, od, rfl, W, hk, hcv, hrl, hol, q⟩ := h
  simp only [Cmd.d] at hcv
  obtain ⟨p, v1, v2, v3, v4, rfl, ht, h1, h2, h3, h4⟩ := td4 hcv
  cases td_str.mp h1
  cases td_wd.mp h2
  cases td_str.mp h3
  cases td_wd.mp h4
  have W0 := W.to
  have lost : ∀ (H1 : Hp) (s1 : Same H H1), s.follow i (.send r key u) = (s, [], [.tuple [.str "lost", .int (i : Int), wd r, .str key, wd u]]) →
      tDrop (tBM K "list" rAppend (tVar 4) (tCons (tTup (tCons (tC (.str "lost")) (tCons (tVar 1) (tCons (tOp (rIxT K) (tVar 2) (tC (.int 1))) (tCons (tOp (rIxT K) (tVar 2) (tC (.int 2))) (tCons (tOp (rIxT K) (tVar 2) (tC (.int 3))) tNil)))))) tNil)) { nx := fun x H' => Q .non H', rt := Q } (L2.start ["self", "run", "command", "row", "out"] [.ref a, .int (i : Int), .ref p, .ref pr, .ref po]) H1 := fun H1 s1 ef => by
    have W1 := W0.same s1
    obtain ⟨ov, o1, o2⟩ := W1.outAt
    have ht1 := Fx.t (Same.fx s1) ht
    refine ⟨_, rfl, .inl ⟨rfl, _, SqL.of o1⟩, _, rfl, _, rfl, p, _, _, _, rfl, rfl, ht1, rfl, _, rfl, p, _, _, _, rfl, rfl, ht1, rfl, _, rfl, p, _, _, _, rfl, rfl, ht1, rfl, (by show 5 ≤ sizeLine; decide), fun q1 hq1 => ?_⟩
    have s2 := Same.new (o := .tup [.str "lost", .int (i : Int), wv r, .str key, wv u]) hq1
    have W2 := W1.same s2
    refine ⟨po, ov, _, rfl, rfl, s2 _ _ o1, by rw [o2]; exact line16 hol, ?_⟩
    have W3 := W2.addOut (s2 _ _ o1) (v := .ref q1) (d := .tuple [.str "lost", .int (i : Int), wd r, .str key, wd u]) (TD.new upd_same (TDs.mk (td_str.mpr rfl) (TDs.mk (td_int.mpr rfl) (TDs.mk (td_wd.mpr rfl) (TDs.mk (td_str.mpr rfl) (TDs.mk (td_wd.mpr rfl) TDs.nil))))))
    refine q _ X ?_
    rw [ef]
    rw [List.map_nil, List.append_nil]
    exact W3
  cases r with
  | none => exact ⟨_, rfl, p, _, _, _, rfl, rfl, ht, rfl, _, rfl, ifF rfl (ifF rfl (lost H (fun _ _ h => h) rfl))⟩
  | some j =>
    refine ⟨_, rfl, p, _, _, _, rfl, rfl, ht, rfl, _, rfl, ifT rfl ⟨_, rfl, a, rfl, ml_house W.h.ob rfl, _, rfl, p, _, _, _, rfl, rfl, ht, rfl, a, s, X, n, k, j, rfl, W.h.hrun, hk, fun H1 s1 => ⟨_, rfl, ?_⟩⟩⟩
    cases htr : s.there j with
    | false =>
      have ef : s.follow i (.send (some j) key u) = (s, [], [.tuple [.str "lost", .int (i : Int), wd (some j), .str key, wd u]]) := by simp only [HS.follow, htr]; rfl
      exact ifF rfl (lost H1 s1 ef)
    | true =>
      have ef : s.follow i (.send (some j) key u) = (s, [(j.toNat, .letter s.now key u)], []) := by simp only [HS.follow, htr]; rfl
      have ej := (HS.there_lt htr).2
      have W1 := W0.same s1
      obtain ⟨rv, r1, r2⟩ := W1.rowAt
      have ht1 := Fx.t (Same.fx s1) ht
      refine ifT rfl ⟨_, rfl, .inl ⟨rfl, _, SqL.of r1⟩, _, rfl, p, _, _, _, rfl, rfl, ht1, rfl, _, rfl, a, _, rfl, hl_now T W1.1.h.ob, _, rfl, p, _, _, _, rfl, rfl, ht1, rfl, _, rfl, p, _, _, _, rfl, rfl, ht1, rfl, (by show 4 ≤ sizeLine; decide), fun q1 hq1 => ⟨(by show 2 ≤ sizeLine; decide), fun q2 hq2 => ?_⟩⟩
      have s2 := Same.new (o := .tup [.str "letter", .int s.now, .str key, wv u]) hq1
      have s3 := Same.new (o := .tup [.int j, .ref q1]) hq2
      have W3 := (W1.same s2).same s3
      refine ⟨pr, rv, _, rfl, rfl, s3 _ _ (s2 _ _ r1), by rw [r2]; exact line16 hrl, ?_⟩
      have W4 := W3.addRow (s3 _ _ (s2 _ _ r1)) (v := .ref q2) (d := rowD (j.toNat, .letter s.now key u)) (row_td rfl (by rw [upd_same, ej]) (s3 _ _ upd_same) (TDs.mk (td_str.mpr rfl) (TDs.mk (td_int.mpr rfl) (TDs.mk (td_str.mpr rfl) (TDs.mk (td_wd.mpr rfl) TDs.nil)))))
      refine q _ X ?_
      rw [ef]
      rw [List.append_nil]
      exact W4
theorem sc_House_beget : FnScope ["self", "run", "command", "row", "child"] ["self", "run", "command", "row"] (defScope s_House_beget) := ⟨rfl, rfl, rfl, by decide +kernel, rfl, by decide +kernel, by decide +kernel⟩
theorem ok_House_beget (T : Tx w K mg) : OkD P w K mg base d_House_beget 8 ["self", "run", "command", "row"] (spBeget K) := by
  have sc := sc_House_beget
  refine okD_mk (F_House_beget T) sc (fun _ _ _ _ _ _ us hl => match us, hl with | [_, _, _, _], _ => rfl) ?len ?body
  case len => walk_at "len"
  intro cdv f A outer s H vs Q E hr h
  refine ⟨_, (pss_one (ps_if (pt_cmp (pc_din (hu_of hr) (pe_ix ix_tup (pv 2) pe_int (fun _ _ => rfl)) (pe_fl (pv 0))) (by rfl)) (pss_cons (ps_set (i := 4) sc.nd rfl (Or.inl rfl) (pe_m (d := d_House_new_run) (c_House T) (m_House_new_run T) (ok_House_new_run T) (hr.mono (by decide)) (pv 0) (pa_cons (pe_ix ix_tup (pv 2) pe_int (fun _ _ => rfl)) (pa_cons (pe_tup (pa_cons (pv 1) (pa_cons (pe_ix ix_tup (pv 2) pe_int (fun _ _ => rfl)) pa_nil))) pa_nil))))
    (pss_one (ps_expr (pe_bm PySem.F.plainAttrs_list PySem.F.slot_list_append PySem.F.type_list_append mt_append (pv 3) (pa_cons (pe_tup (pa_cons (pv 4) (pa_cons (pe_tup (pa_cons pe_str (pa_cons (pe_fl (pv 0)) (pa_cons (pe_ix ix_tup (pv 2) pe_int (fun _ _ => rfl)) pa_nil)))) pa_nil))) pa_nil))))) (pss_one (ps_expr (pe_bm PySem.F.plainAttrs_list PySem.F.slot_list_append PySem.F.type_list_append mt_append (pv 3) (pa_cons (pe_tup (pa_cons (pv 1) (pa_cons (pe_tup (pa_cons pe_str (pa_cons (pe_fl (pv 0)) (pa_cons (pe_ix ix_tup (pv 2) pe_int (fun _ _ => rfl)) (pa_cons pe_non pa_nil))))) pa_nil))) pa_nil)))))), ?_⟩
  obtain ⟨a, s, came, X, n, k, i, t, p, u, cv, pr, po, rd, od, rfl, W, hk, hcv, hrl, q⟩ := h
  simp only [Cmd.d] at hcv
  obtain ⟨cp, v1, v2, v3, v4, rfl, ht, h1, h2, h3, h4⟩ := td4 hcv
  cases td_str.mp h1
  cases td_int.mp h2
  cases td_str.mp h3
  cases td_wd.mp h4
  have W0 := W.to
  obtain ⟨o, hg, ho⟩ := W.h.pg.get p
  refine ⟨_, rfl, cp, _, _, _, rfl, rfl, ht, rfl, _, rfl, a, _, rfl, hl_programs T W.h.ob, X.pd, o, rfl, hg, _, rfl, ?_⟩
  cases e : lk s.progs p with
  | none =>
    have ef : s.follow i (.child t p u) = (s, [(i, .done s.now t none)], []) := by simp only [HS.follow, e]
    obtain ⟨rv, r1, r2⟩ := W0.rowAt
    refine ifF (by rw [ho, e]; rfl) ⟨_, rfl, .inl ⟨rfl, _, SqL.of r1⟩, _, rfl, _, rfl, a, _, rfl, hl_now T W.h.ob, _, rfl, cp, _, _, _, rfl, rfl, ht, rfl, (by show 4 ≤ sizeLine; decide), fun q1 hq1 => ⟨(by show 2 ≤ sizeLine; decide), fun q2 hq2 => ?_⟩⟩
    have s2 := Same.new (o := .tup [.str "done", .int s.now, .int t, .non]) hq1
    have s3 := Same.new (o := .tup [.int (i : Int), .ref q1]) hq2
    have W3 := (W0.same s2).same s3
    refine ⟨pr, rv, _, rfl, rfl, s3 _ _ (s2 _ _ r1), by rw [r2]; exact line16 hrl, ?_⟩
    have W4 := W3.addRow (s3 _ _ (s2 _ _ r1)) (v := .ref q2) (d := rowD (i, .done s.now t none)) (row_td rfl upd_same (s3 _ _ upd_same) (TDs.mk (td_str.mpr rfl) (TDs.mk (td_int.mpr rfl) (TDs.mk (td_int.mpr rfl) (TDs.mk (td_wd.mpr rfl) TDs.nil)))))
    refine q _ X ?_
    rw [ef]
    rw [List.append_nil]
    exact W4
  | some b =>
    have ef : s.follow i (.child t p u) = (s.newRun p (some (i, t)) b, [(s.runs.length, .begin s.now u)], []) := by simp only [HS.follow, e]
    have hrlen : s.runs.length < 12000000 := by have := hk.rl; have := hk.lk; omega
    refine ifT (by rw [ho, e]; rfl) ⟨_, rfl, a, rfl, ml_house W.h.ob rfl, _, rfl, cp, _, _, _, rfl, rfl, ht, rfl, _, rfl, _, rfl, cp, _, _, _, rfl, rfl, ht, rfl, (by show 2 ≤ sizeLine; decide), fun q0 hq0 => ?_⟩
    have s0 := Same.new (o := .tup [.int (i : Int), .int t]) hq0
    have W1 := W0.same s0
    refine ⟨a, s, came, X, p, some (i, t), .ref q0, b, rfl, W1.1.h, e, TD.new upd_same (TDs.mk (td_int.mpr rfl) (TDs.mk (td_int.mpr rfl) TDs.nil)), hrlen, fun H2 X2 T2 => ?_⟩
    have W2 := W1.house T2
    obtain ⟨rv, r1, r2⟩ := W2.rowAt
    have ht2 := Fx.t T2.2.fx (Fx.t (Same.fx s0) ht)
    refine ⟨_, rfl, .inl ⟨rfl, _, SqL.of r1⟩, _, rfl, _, rfl, a, _, rfl, hl_now T W2.1.h.ob, _, rfl, cp, _, _, _, rfl, rfl, ht2, rfl, (by show 3 ≤ sizeLine; decide), fun q1 hq1 => ⟨(by show 2 ≤ sizeLine; decide), fun q2 hq2 => ?_⟩⟩
    have s2 := Same.new (o := .tup [.str "begin", .int s.now, wv u]) hq1
    have s3 := Same.new (o := .tup [.int (s.runs.length : Int), .ref q1]) hq2
    have W3 := (W2.same s2).same s3
    refine ⟨pr, rv, _, rfl, rfl, s3 _ _ (s2 _ _ r1), by rw [r2]; exact line16 hrl, ?_⟩
    have W4 := W3.addRow (s3 _ _ (s2 _ _ r1)) (v := .ref q2) (d := rowD (s.runs.length, .begin s.now u)) (row_td rfl upd_same (s3 _ _ upd_same) (TDs.mk (td_str.mpr rfl) (TDs.mk (td_int.mpr rfl) (TDs.mk (td_wd.mpr rfl) TDs.nil))))
    refine q _ X2 ?_
    rw [ef]
    rw [List.append_nil]
    exact W4
theorem sc_House_follow : FnScope ["self", "run", "command", "row", "out", "word", "by"] ["self", "run", "command", "row", "out"] (defScope s_House_follow) := ⟨rfl, rfl, rfl, by decide +kernel, rfl, by decide +kernel, by decide +kernel⟩
theorem ok_House_follow (T : Tx w K mg) : OkD P w K mg base d_House_follow 9 ["self", "run", "command", "row", "out"] (spFollow K) := by
  have sc := sc_House_follow
  refine okD_mk (F_House_follow T) sc (fun _ _ _ _ _ _ us hl => match us, hl with | [_, _, _, _, _], _ => rfl) ?len ?body
  case len => walk_at "len"
  intro cdv f A outer s H vs Q E hr h
  refine ⟨_, (pss_cons (ps_set (i := 5) sc.nd rfl (Or.inl rfl) (pe_ix ix_tup (pv 2) pe_int (fun _ _ => rfl)))
    (pss_one (ps_if (pt_cmpR op_eq (pv 5) pe_str (nomark _)) (pss_cons (ps_dput (hu_of hr) (pe_fl (pv 0)) (pe_tup (pa_cons (pv 1) (pa_cons (pe_ix ix_tup (pv 2) pe_int (fun _ _ => rfl)) pa_nil))) (pe_tup (pa_cons (pe_ix ix_tup (pv 2) pe_int (fun _ _ => rfl)) (pa_cons (pe_ix ix_tup (pv 2) pe_int (fun _ _ => rfl)) pa_nil))) rfl)
    (pss_one (ps_expr (pe_bm PySem.F.plainAttrs_list PySem.F.slot_list_append PySem.F.type_list_append mt_append (pv 4) (pa_cons (pe_tup (pa_cons pe_str (pa_cons (pv 1) (pa_cons (pe_ix ix_tup (pv 2) pe_int (fun _ _ => rfl)) (pa_cons (pe_ix ix_tup (pv 2) pe_int (fun _ _ => rfl)) (pa_cons (pe_ix ix_tup (pv 2) pe_int (fun _ _ => rfl)) pa_nil)))))) pa_nil))))) (pss_one (ps_if (pt_cmpR op_eq (pv 5) pe_str (nomark _)) (pss_one (ps_dput (hu_of hr) (pe_fl (pv 0)) (pe_tup (pa_cons (pv 1) (pa_cons (pe_ix ix_tup (pv 2) pe_int (fun _ _ => rfl)) pa_nil))) (pe_ix ix_tup (pv 2) pe_int (fun _ _ => rfl)) rfl)) (pss_one (ps_if (pt_cmpR op_eq (pv 5) pe_str (nomark _)) (pss_one (ps_expr (pe_m (d := d_House_beget) (c_House T) (m_House_beget T) (ok_House_beget T) (hr.mono (by decide)) (pv 0) (pa_cons (pv 1) (pa_cons (pv 2) (pa_cons (pv 3) pa_nil)))))) (pss_one (ps_if (pt_cmpR op_eq (pv 5) pe_str (nomark _)) (pss_one (ps_expr (pe_m (d := d_House_send) (c_House T) (m_House_send T) (ok_House_send T) (hr.mono (by decide)) (pv 0) (pa_cons (pv 1) (pa_cons (pv 2) (pa_cons (pv 3) (pa_cons (pv 4) pa_nil))))))) (pss_one (ps_if (pt_cmpR op_eq (pv 5) pe_str (nomark _)) (pss_cons (ps_expr (pe_bm PySem.F.plainAttrs_list PySem.F.slot_list_append PySem.F.type_list_append mt_append (pv 4) (pa_cons (pe_tup (pa_cons pe_str (pa_cons (pv 1) (pa_cons (pe_ix ix_tup (pv 2) pe_int (fun _ _ => rfl)) pa_nil)))) pa_nil)))
    (pss_cons (ps_set (i := 6) sc.nd rfl (Or.inl rfl) (pe_ix ix_list (pe_fl (pv 0)) (pv 1) (fun _ _ => rfl)))
    (pss_one (ps_if ((pw_and (pt_cmp (pc_notN (pv 6))) (pw_and1 (pt_val (pe_m (d := d_House_is_open) (c_House T) (m_House_is_open T) (ok_House_is_open T) (hr.mono (by decide)) (pv 0) (pa_cons (pe_ix ix_tup (pv 6) pe_int (fun _ _ => rfl)) (pa_cons (pe_ix ix_tup (pv 6) pe_int (fun _ _ => rfl)) pa_nil))))))).pt (pss_one (ps_expr (pe_bm PySem.F.plainAttrs_list PySem.F.slot_list_append PySem.F.type_list_append mt_append (pv 3) (pa_cons (pe_tup (pa_cons (pe_ix ix_tup (pv 6) pe_int (fun _ _ => rfl)) (pa_cons (pe_tup (pa_cons pe_str (pa_cons (pe_fl (pv 0)) (pa_cons (pe_ix ix_tup (pv 6) pe_int (fun _ _ => rfl)) (pa_cons (pe_ix ix_tup (pv 2) pe_int (fun _ _ => rfl)) pa_nil))))) pa_nil))) pa_nil)))) pss_nil)))) (pss_one (ps_if (pt_cmpR op_eq (pv 5) pe_str (nomark _)) (pss_one (ps_expr (pe_bm PySem.F.plainAttrs_list PySem.F.slot_list_append PySem.F.type_list_append mt_append (pv 4) (pa_cons (pe_tup (pa_cons pe_str (pa_cons (pv 1) pa_nil))) pa_nil)))) pss_nil))))))))))))), ?_⟩
  obtain ⟨a, s, came, X, n, k, i, c, cv, pr, po, rd, od, rfl, W, hk, hcv, hi, hrl, hol, q⟩ := h
  have W0 := W.to
  have hol9 := hk.ol
  have htl9 := hk.tl
  have hlk9 := hk.lk
  cases c with
  | order t z u =>
    have hcv' := hcv
    simp only [Cmd.d] at hcv
    obtain ⟨p, v1, v2, v3, v4, rfl, ht, h1, h2, h3, h4⟩ := td4 hcv
    cases td_str.mp h1
    cases td_int.mp h2
    cases td_str.mp h3
    cases td_wd.mp h4
    refine ⟨_, rfl, p, _, _, _, rfl, rfl, ht, rfl, ?_⟩
    refine ⟨_, rfl, rfl, _, rfl, ifT (by decide +kernel) ?_⟩
    refine ⟨_, rfl, p, _, _, _, rfl, rfl, ht, rfl, _, rfl, p, _, _, _, rfl, rfl, ht, rfl, (by show 2 ≤ sizeLine; decide), fun q0 hq0 => ?_⟩
    have s0 := Same.new (o := .tup [.str z, wv u]) hq0
    have W1 := W0.same s0
    have ht1 := Fx.t (Same.fx s0) ht
    refine ⟨_, rfl, a, _, rfl, hl_orders T W1.1.h.ob, _, rfl, _, rfl, p, _, _, _, rfl, rfl, ht1, rfl, (by show 2 ≤ sizeLine; decide), fun q1 hq1 => ?_⟩
    have s1 := Same.new (o := .tup [.int (i : Int), .int t]) hq1
    have W2 := W1.same s1
    have hlen : (mk2 kII id X.ordV).length < sizeLine := by rw [mk2_length, ← PK2.len W.h.tor, sizeLine_eq]; omega
    refine ⟨X.od, _, rfl, DPut.t (k := kII ((i : Int), t)) W2.1.h.od upd_same hlen, ?_⟩
    have T3 := W2.1.h.to.putOrder ((i : Int), t) (z, u) (v := .ref q0) (TD.new (s1 _ _ upd_same) (TDs.mk (td_str.mpr rfl) (TDs.mk (td_wd.mpr rfl) TDs.nil)))
    have W3 := W2.house T3
    have ht3 := Fx.t T3.2.fx (Fx.t (Same.fx s1) ht1)
    obtain ⟨ov, o1, o2⟩ := W3.outAt
    refine ⟨_, rfl, .inl ⟨rfl, _, SqL.of o1⟩, _, rfl, _, rfl, p, _, _, _, rfl, rfl, ht3, rfl, _, rfl, p, _, _, _, rfl, rfl, ht3, rfl, _, rfl, p, _, _, _, rfl, rfl, ht3, rfl, (by show 5 ≤ sizeLine; decide), fun q2 hq2 => ?_⟩
    have s4 := Same.new (o := .tup [.str "order", .int (i : Int), .int t, .str z, wv u]) hq2
    have W4 := W3.same s4
    refine ⟨po, ov, _, rfl, rfl, s4 _ _ o1, by rw [o2]; exact line16 hol, ?_⟩
    have W5 := W4.addOut (s4 _ _ o1) (v := .ref q2) (d := .tuple [.str "order", .int (i : Int), .int t, .str z, wd u]) (TD.new upd_same (TDs.mk (td_str.mpr rfl) (TDs.mk (td_int.mpr rfl) (TDs.mk (td_int.mpr rfl) (TDs.mk (td_str.mpr rfl) (TDs.mk (td_wd.mpr rfl) TDs.nil))))))
    refine q _ { X with ordV := pt X.ordV ((i : Int), t) (.ref q0) } ?_
    have e0 : rd ++ (s.follow i (.order t z u)).2.1.map rowD = rd := List.append_nil _
    rw [e0]
    exact W5
  | timer t due =>
    have hcv' := hcv
    simp only [Cmd.d] at hcv
    obtain ⟨p, v1, v2, v3, rfl, ht, h1, h2, h3⟩ := td3 hcv
    cases td_str.mp h1
    cases td_int.mp h2
    cases td_int.mp h3
    refine ⟨_, rfl, p, _, _, _, rfl, rfl, ht, rfl, ?_⟩
    refine ⟨_, rfl, rfl, _, rfl, ifF (by decide +kernel) ⟨_, rfl, rfl, _, rfl, ifT (by decide +kernel) ?_⟩⟩
    refine ⟨_, rfl, p, _, _, _, rfl, rfl, ht, rfl, _, rfl, a, _, rfl, hl_timers T W.h.ob, _, rfl, _, rfl, p, _, _, _, rfl, rfl, ht, rfl, (by show 2 ≤ sizeLine; decide), fun q1 hq1 => ?_⟩
    have s1 := Same.new (o := .tup [.int (i : Int), .int t]) hq1
    have W2 := W0.same s1
    have hlen : (mk2 kII V.int s.timers).length < sizeLine := by rw [mk2_length, sizeLine_eq]; omega
    refine ⟨X.td, _, rfl, DPut.t (k := kII ((i : Int), t)) W2.1.h.td upd_same hlen, ?_⟩
    have T3 := W2.1.h.to.putTimer ((i : Int), t) due
    have W3 := W2.house T3
    refine q _ X ?_
    have e0 : rd ++ (s.follow i (.timer t due)).2.1.map rowD = rd := List.append_nil _
    have e1 : od ++ (s.follow i (.timer t due)).2.2 = od := List.append_nil _
    rw [e0, e1]
    exact W3
  | child t z u =>
    have hcv' := hcv
    simp only [Cmd.d] at hcv
    obtain ⟨p, v1, v2, v3, v4, rfl, ht, h1, h2, h3, h4⟩ := td4 hcv
    cases td_str.mp h1
    cases td_int.mp h2
    cases td_str.mp h3
    cases td_wd.mp h4
    refine ⟨_, rfl, p, _, _, _, rfl, rfl, ht, rfl, ?_⟩
    refine ⟨_, rfl, rfl, _, rfl, ifF (by decide +kernel) ⟨_, rfl, rfl, _, rfl, ifF (by decide +kernel) ⟨_, rfl, rfl, _, rfl, ifT (by decide +kernel) ?_⟩⟩⟩
    exact ⟨_, rfl, a, rfl, ml_house W.h.ob rfl, _, rfl, _, rfl, _, rfl, a, s, came, X, n, k, i, t, z, u, .ref p, pr, po, rd, od, rfl, W, hk, hcv', hrl, q⟩
  | send r z u =>
    have hcv' := hcv
    simp only [Cmd.d] at hcv
    obtain ⟨p, v1, v2, v3, v4, rfl, ht, h1, h2, h3, h4⟩ := td4 hcv
    cases td_str.mp h1
    cases td_wd.mp h2
    cases td_str.mp h3
    cases td_wd.mp h4
    refine ⟨_, rfl, p, _, _, _, rfl, rfl, ht, rfl, ?_⟩
    refine ⟨_, rfl, rfl, _, rfl, ifF (by decide +kernel) ⟨_, rfl, rfl, _, rfl, ifF (by decide +kernel) ⟨_, rfl, rfl, _, rfl, ifF (by decide +kernel) ⟨_, rfl, rfl, _, rfl, ifT (by decide +kernel) ?_⟩⟩⟩⟩
    exact ⟨_, rfl, a, rfl, ml_house W.h.ob rfl, _, rfl, _, rfl, _, rfl, _, rfl, a, s, came, X, n, k, i, r, z, u, .ref p, pr, po, rd, od, rfl, W, hk, hcv', hrl, hol, q⟩
  | drop t =>
    have hcv' := hcv
    simp only [Cmd.d] at hcv
    obtain ⟨p, v1, v2, rfl, ht, h1, h2⟩ := td2 hcv
    cases td_str.mp h1
    cases td_int.mp h2
    refine ⟨_, rfl, p, _, _, _, rfl, rfl, ht, rfl, ?_⟩
    refine ⟨_, rfl, rfl, _, rfl, ifF (by decide +kernel) ⟨_, rfl, rfl, _, rfl, ifF (by decide +kernel) ⟨_, rfl, rfl, _, rfl, ifF (by decide +kernel) ⟨_, rfl, rfl, _, rfl, ifF (by decide +kernel) ⟨_, rfl, rfl, _, rfl, ifF (by decide +kernel) ⟨_, rfl, rfl, _, rfl, ifF (by decide +kernel) ?_⟩⟩⟩⟩⟩⟩
    refine q _ X ?_
    have e0 : rd ++ (s.follow i (.drop t)).2.1.map rowD = rd := List.append_nil _
    have e1 : od ++ (s.follow i (.drop t)).2.2 = od := List.append_nil _
    rw [e0, e1]
    exact W0
  | fin u =>
    have hcv' := hcv
    simp only [Cmd.d] at hcv
    obtain ⟨p, v1, v2, rfl, ht, h1, h2⟩ := td2 hcv
    cases td_str.mp h1
    cases td_wd.mp h2
    refine ⟨_, rfl, p, _, _, _, rfl, rfl, ht, rfl, ?_⟩
    refine ⟨_, rfl, rfl, _, rfl, ifF (by decide +kernel) ⟨_, rfl, rfl, _, rfl, ifF (by decide +kernel) ⟨_, rfl, rfl, _, rfl, ifF (by decide +kernel) ⟨_, rfl, rfl, _, rfl, ifF (by decide +kernel) ⟨_, rfl, rfl, _, rfl, ifT (by decide +kernel) ?_⟩⟩⟩⟩⟩
    obtain ⟨ov, o1, o2⟩ := W0.outAt
    refine ⟨_, rfl, .inl ⟨rfl, _, SqL.of o1⟩, _, rfl, _, rfl, p, _, _, _, rfl, rfl, ht, rfl, (by show 3 ≤ sizeLine; decide), fun q2 hq2 => ?_⟩
    have s1 := Same.new (o := .tup [.str "ended", .int (i : Int), wv u]) hq2
    have W1 := W0.same s1
    refine ⟨po, ov, _, rfl, rfl, s1 _ _ o1, by rw [o2]; exact line16 hol, ?_⟩
    have W2 := W1.addOut (s1 _ _ o1) (v := .ref q2) (d := .tuple [.str "ended", .int (i : Int), wd u]) (TD.new upd_same (TDs.mk (td_str.mpr rfl) (TDs.mk (td_int.mpr rfl) (TDs.mk (td_wd.mpr rfl) TDs.nil))))
    have ht2 := Fx.t W2.2.fx ht
    obtain ⟨rr, hrr⟩ : ∃ rr, s.runs[i]? = some rr := ⟨_, List.getElem?_eq_getElem hi⟩
    obtain ⟨y, hy, Y⟩ := W2.1.h.runs.get hrr
    refine ⟨_, rfl, a, _, rfl, hl_begun_by T W2.1.h.ob, _, rfl, X.bl, _, _, y.bv, rfl, rfl, SqL.of W2.1.h.bl, atI_nat (by rw [List.getElem?_map, hy]; rfl), ?_⟩
    have none_ : (s.follow i (.fin u)).2.1 = [] → (s.follow i (.fin u)).1 = s → HWTo K H (pr :: po :: X.F a) (upd (upd H q2 (.tup [.str "ended", .int (i : Int), wv u])) po (.lst (ov ++ [.ref q2]))) a (s.follow i (.fin u)).1 came X pr (rd ++ (s.follow i (.fin u)).2.1.map rowD) po (od ++ (s.follow i (.fin u)).2.2) := fun e1 e2 => by
      rw [e1, e2, List.map_nil, List.append_nil]
      exact W2
    cases eb : rr.by_ with
    | none =>
      have hb := Y.tb
      rw [eb] at hb
      have hb2 : y.bv = .non := td_none.mp hb
      have ef : (s.follow i (.fin u)).2.1 = [] := by simp only [HS.follow, hrr, Option.bind_some, eb]
      rw [hb2]
      exact ⟨_, rfl, _, rfl, ifF rfl (ifF rfl (q _ X (none_ ef rfl)))⟩
    | some bt =>
      obtain ⟨b, t⟩ := bt
      have hb := Y.tb
      rw [eb] at hb
      obtain ⟨bp, w1, w2, hbv, g1, g2, g3⟩ := td2 hb
      cases td_int.mp g2
      cases td_int.mp g3
      rw [hbv]
      refine ⟨_, rfl, _, rfl, ifT rfl ⟨_, rfl, a, rfl, ml_house W2.1.h.ob rfl, _, rfl, bp, _, _, _, rfl, rfl, g1, rfl, _, rfl, bp, _, _, _, rfl, rfl, g1, rfl, a, s, X, n, k, (b : Int), t, rfl, W2.1.h.hrun, hk, fun H3 s3 => ⟨_, rfl, ?_⟩⟩⟩
      have W3 := W2.same s3
      cases ho : s.isOpen (b : Int) t with
      | false =>
        have ef : (s.follow i (.fin u)).2.1 = [] := by simp only [HS.follow, hrr, Option.bind_some, eb, ho]; rfl
        refine ifF rfl (q _ X ?_)
        have z := none_ ef rfl
        exact z.same s3
      | true =>
        have ef : s.follow i (.fin u) = (s, [(b, .done s.now t u)], [.tuple [.str "ended", .int (i : Int), wd u]]) := by simp only [HS.follow, hrr, Option.bind_some, eb, ho]; rfl
        obtain ⟨rv, r1, r2⟩ := W3.rowAt
        have g1' := Fx.t (Same.fx s3) g1
        have ht3 := Fx.t (Same.fx s3) ht2
        refine ifT rfl ⟨_, rfl, .inl ⟨rfl, _, SqL.of r1⟩, _, rfl, bp, _, _, _, rfl, rfl, g1', rfl, _, rfl, a, _, rfl, hl_now T W3.1.h.ob, _, rfl, bp, _, _, _, rfl, rfl, g1', rfl, _, rfl, p, _, _, _, rfl, rfl, ht3, rfl, (by show 4 ≤ sizeLine; decide), fun q5 hq5 => ⟨(by show 2 ≤ sizeLine; decide), fun q6 hq6 => ?_⟩⟩
        have s5 := Same.new (o := .tup [.str "done", .int s.now, .int t, wv u]) hq5
        have s6 := Same.new (o := .tup [.int (b : Int), .ref q5]) hq6
        have W6 := (W3.same s5).same s6
        refine ⟨pr, rv, _, rfl, rfl, s6 _ _ (s5 _ _ r1), by rw [r2]; exact line16 hrl, ?_⟩
        have W7 := W6.addRow (s6 _ _ (s5 _ _ r1)) (v := .ref q6) (d := rowD (b, .done s.now t u)) (row_td rfl upd_same (s6 _ _ upd_same) (TDs.mk (td_str.mpr rfl) (TDs.mk (td_int.mpr rfl) (TDs.mk (td_int.mpr rfl) (TDs.mk (td_wd.mpr rfl) TDs.nil)))))
        refine q _ X ?_
        rw [ef]
        exact W7
  | worn =>
    have hcv' := hcv
    simp only [Cmd.d] at hcv
    obtain ⟨p, xs, rfl, ht, hx⟩ := td_tup.mp hcv
    obtain ⟨v1, r0, rfl, h1, hr0⟩ := tds_cons.mp hx
    cases tds_nil.mp hr0
    cases td_str.mp h1
    refine ⟨_, rfl, p, _, _, _, rfl, rfl, ht, rfl, ?_⟩
    refine ⟨_, rfl, rfl, _, rfl, ifF (by decide +kernel) ⟨_, rfl, rfl, _, rfl, ifF (by decide +kernel) ⟨_, rfl, rfl, _, rfl, ifF (by decide +kernel) ⟨_, rfl, rfl, _, rfl, ifF (by decide +kernel) ⟨_, rfl, rfl, _, rfl, ifF (by decide +kernel) ⟨_, rfl, rfl, _, rfl, ifT (by decide +kernel) ?_⟩⟩⟩⟩⟩⟩
    obtain ⟨ov, o1, o2⟩ := W0.outAt
    refine ⟨_, rfl, .inl ⟨rfl, _, SqL.of o1⟩, _, rfl, (by show 2 ≤ sizeLine; decide), fun q2 hq2 => ?_⟩
    have s1 := Same.new (o := .tup [.str "worn", .int (i : Int)]) hq2
    have W1 := W0.same s1
    refine ⟨po, ov, _, rfl, rfl, s1 _ _ o1, by rw [o2]; exact line16 hol, ?_⟩
    have W2 := W1.addOut (s1 _ _ o1) (v := .ref q2) (d := .tuple [.str "worn", .int (i : Int)]) (TD.new upd_same (TDs.mk (td_str.mpr rfl) (TDs.mk (td_int.mpr rfl) TDs.nil)))
    refine q _ X ?_
    have e0 : rd ++ (s.follow i .worn).2.1.map rowD = rd := List.append_nil _
    rw [e0]
    exact W2
theorem sc_House_take : FnScope ["self", "some", "row", "out", "many", "run", "happening", "command"] ["self", "some"] (defScope s_House_take) := ⟨rfl, rfl, rfl, by decide +kernel, rfl, by decide +kernel, by decide +kernel⟩
theorem ok_House_take (T : Tx w K mg) : OkD P w K mg base d_House_take 13 ["self", "some"] (spHTake K) := by
  have sc := sc_House_take
  refine okD_mk (F_House_take T) sc (fun _ _ _ _ _ _ us hl => match us, hl with | [_, _], _ => rfl) ?len ?body
  case len => walk_at "len"
  intro cdv f A outer s H vs Q E hr h
  refine ⟨_, (pss_cons (ps_expr (pe_bm PySem.F.plainAttrs_list PySem.F.slot_list_append PySem.F.type_list_append mt_append (pe_fl (pv 0)) (pa_cons (pv 1) pa_nil)))
    (pss_cons (ps_fl (pv 0) (pe_callB (call_max2 rfl) (by rfl) (z_max T) (by decide +kernel) (pa_cons (pe_fl (pv 0)) (pa_cons (pe_ix ix_tup (pv 1) pe_int (fun _ _ => rfl)) pa_nil))))
    (pss_cons (ps_set (i := 2) sc.nd rfl (Or.inl rfl) (pe_m (d := d_House_first_row) (c_House T) (m_House_first_row T) (ok_House_first_row T) (hr.mono (by decide)) (pv 0) (pa_cons (pv 1) pa_nil)))
    (pss_cons (ps_set (i := 3) sc.nd rfl (Or.inl rfl) (pe_lst pa_nil))
    (pss_cons (ps_set (i := 4) sc.nd rfl (Or.inl rfl) pe_int)
    (pss_cons (ps_while PassesOwn.never ((pw_and (pt_cmpR (op_neD hr.units) (pv 2) (pe_lst pa_nil) (nomark _)) (pw_and1 (pt_cmpR op_lt (pv 4) (pe_gint (by rfl) (i_MOST_TAKEN T)) (nomark _))))).pt (pss_cons (ps_asg (pe_bm PySem.F.plainAttrs_list PySem.F.slot_list_pop PySem.F.type_list_pop mt_popAt (pv 2) (pa_cons pe_int pa_nil)) (pg_tup (by rfl) (pgs_cons (pg_name (i := 5) sc.nd rfl (Or.inl rfl)) (pgs_cons (pg_name (i := 6) sc.nd rfl (Or.inl rfl)) pgs_nil))))
    (pss_cons (ps_aug (i := 4) sc.nd rfl (Or.inl rfl) pe_int ip_add)
    (pss_cons (ps_expr (pe_bm PySem.F.plainAttrs_list PySem.F.slot_list_append PySem.F.type_list_append mt_append (pe_ix ix_list (pe_fl (pv 0)) (pv 5) (fun _ _ => rfl)) (pa_cons (pv 6) pa_nil)))
    (pss_one (ps_for PassesOwn.never (by rfl) (pi_list (pe_m (d := d_Run_take) (c_Run T) (m_Run_take T) (ok_Run_take T) (hr.mono (by decide)) (pe_ix ix_list (pe_fl (pv 0)) (pv 5) (fun _ _ => rfl)) (pa_cons (pv 6) pa_nil))) (pg_name (i := 7) sc.nd rfl (Or.inl rfl)) (pss_one (ps_expr (pe_m (d := d_House_follow) (c_House T) (m_House_follow T) (ok_House_follow T) (hr.mono (by decide)) (pv 0) (pa_cons (pv 5) (pa_cons (pv 7) (pa_cons (pv 2) (pa_cons (pv 3) pa_nil)))))))))))))
    (pss_cons (ps_if (pt_cmpR (op_neD hr.units) (pv 2) (pe_lst pa_nil) (nomark _)) (pss_one (ps_expr (pe_bm PySem.F.plainAttrs_list PySem.F.slot_list_append PySem.F.type_list_append mt_append (pv 3) (pa_cons (pe_tup (pa_cons pe_str pa_nil)) pa_nil)))) pss_nil)
    (pss_one (ps_ret (pv 3)))))))))), ?_⟩
  obtain ⟨a, s, came, X, n, k, x, iv, rfl, R, hk, hiv, hok, hn, hkl, hcl, q⟩ := h
  obtain ⟨ip, ixs, rfl, hit, himom⟩ := inp_mom hiv
  refine ⟨_, rfl, a, _, rfl, hl_came T R.ob, .inl ⟨rfl, _, SqL.of R.cl⟩, _, rfl, X.cl, _, _, rfl, rfl, R.cl, by rw [R.tc.length, List.length_map]; exact line16 hcl, ?_⟩
  have T1 := R.to.addCame x hiv
  refine ⟨_, rfl, a, _, rfl, hl_now T T1.1.ob, _, rfl, ip, _, _, .int x.mom, rfl, rfl, Fx.t T1.2.fx hit, atI_nat (j := 1) himom, _, _, rfl, _, rfl, a, _, rfl, hs_now T T1.1.ob _, ?_⟩
  rw [max_if s.now x.mom]
  have T2 := T1.setNow (max s.now x.mom)
  have hk2 := hk.at (max s.now x.mom)
  obtain ⟨f1, f2, f3, f4⟩ := first_ok hk2 hok (by omega)
  have hput : s.put x = ((HS.loop 300 (({ s with now := max s.now x.mom } : HS).first x).1 (({ s with now := max s.now x.mom } : HS).first x).2 []).1, (HS.loop 300 (({ s with now := max s.now x.mom } : HS).first x).1 (({ s with now := max s.now x.mom } : HS).first x).2 []).2.2 ++ (if (HS.loop 300 (({ s with now := max s.now x.mom } : HS).first x).1 (({ s with now := max s.now x.mom } : HS).first x).2 []).2.1 ≠ [] then [.tuple [.str "spent"]] else [])) := rfl
  refine ⟨_, rfl, a, rfl, ml_house T2.1.ob rfl, _, rfl, a, _, _, _, n, k, x, .ref ip, rfl, T2.1, hk2, TD.fx T2.2.fx _ _ hiv, hok, (by omega), fun H3 X3 pr rv T3 hpr hprn hprF htr => ?_⟩
  refine ⟨Nat.zero_le _, fun po hpo => ?_⟩
  have T23 : HouseTo K H (X.F a) H3 a _ _ X3 := ⟨T3.1, T2.2.trans T3.2⟩
  have T24 := T23.same (Same.new (o := .lst []) hpo)
  have nep : pr ≠ po := fun z => by rw [z, hpo] at hpr; cases hpr
  have hprF0 : pr ∈ X.F a ∨ H pr = none := by
    rcases hprn with z | z
    · exact T2.2.new pr z
    · exact if m : pr ∈ X.F a then .inl m else .inr (T2.2.free z m)
  have hpoF0 : po ∈ X.F a ∨ H po = none := if m : po ∈ X.F a then .inl m else .inr (T23.2.free hpo m)
  have W0 : HWTo K H (X.F a) (upd H3 po (.lst [])) a (({ s with now := max s.now x.mom } : HS).first x).1 (came ++ [x]) X3 pr ((({ s with now := max s.now x.mom } : HS).first x).2.map rowD) po [] :=
    ⟨⟨T24.1, ⟨rv, by rw [upd_ne nep]; exact hpr, TDs.fx (Same.fx (Same.new hpo)) _ _ htr⟩, ⟨[], upd_same, TDs.nil⟩, nep, hprF, T3.1.notIn hpo⟩, T24.2.keep, T24.2.fx, fun b m => by
      rcases List.mem_cons.mp m with e | m
      · rw [e]; exact hprF0
      · rcases List.mem_cons.mp m with e | m
        · rw [e]; exact hpoF0
        · exact T24.2.new b m⟩
  generalize (({ s with now := max s.now x.mom } : HS).first x).1 = s3 at *
  generalize (({ s with now := max s.now x.mom } : HS).first x).2 = row0 at *
  refine ⟨fun m σ H5 => ∃ (j : Nat) (s5 : HS) (X5 : HX) (row : Row) (od : List PyData) (u5 u6 u7 : Option V), σ = [some (.ref a), some (.ref ip), some (.ref pr), some (.ref po), some (.int (j : Int)), u5, u6, u7] ∧ j ≤ 300 ∧ HWTo K H (X.F a) H5 a s5 (came ++ [x]) X5 pr (row.map rowD) po od ∧
    Hk s5 (n + j) (k + 1 + 301 * j) ∧ RowOk s5 row ∧ row.length ≤ k + 1 + 301 * j ∧ od.length ≤ 301 * j ∧ HS.loop (300 - j) s5 row od = HS.loop 300 s3 row0 [] ∧ m = 300 - j, ⟨300, 0, s3, X3, row0, [], _, _, _, rfl, by omega, W0, f1, f2, f4, Nat.zero_le _, rfl, rfl⟩, ?_⟩
  rintro m σ H5 ⟨j, s5, X5, row, od, u5, u6, u7, rfl, hj, W, hk5, hro, hrl, hodl, hloop, rfl⟩
  obtain ⟨rv5, r1, r2⟩ := W.1.r
  refine ⟨_, rfl, Nat.zero_le _, fun q0 hq0 => ?_⟩
  have s0 := Same.new (o := .lst []) hq0
  have W1 := W.same s0
  refine neNil 2 (s0 _ _ r1) (TDs.fx (Same.fx s0) _ _ r2) (sd_row hro) upd_same ⟨_, rfl, ?_⟩
  -- the end
  have fin : HS.loop 300 s3 row0 [] = (s5, row, od) → ∀ (H6 : Hp), HWTo K H (X.F a) H6 a s5 (came ++ [x]) X5 pr (row.map rowD) po od → tSeq (tIfS (tTest (tOp (rNeD K) (tVar 2) (tLst tNil))) (tDrop (tBM K "list" rAppend (tVar 3) (tCons (tTup (tCons (tC (.str "spent")) tNil)) tNil))) tNext) (tRet (tVar 3)) { nx := fun x H' => Q .non H', rt := Q } [some (.ref a), some (.ref ip), some (.ref pr), some (.ref po), some (.int (j : Int)), u5, u6, u7] H6 := fun e H6 W6 => by
    rw [e] at hput
    obtain ⟨rv6, r61, r62⟩ := W6.1.r
    refine ⟨_, rfl, Nat.zero_le _, fun q1 hq1 => ?_⟩
    have s1 := Same.new (o := .lst []) hq1
    have W7 := W6.same s1
    refine neNil 2 (s1 _ _ r61) (TDs.fx (Same.fx s1) _ _ r62) (sd_row hro) upd_same ⟨_, rfl, ?_⟩
    have done : ∀ (H8 : Hp) (od8 : List PyData), HWTo K H (X.F a) H8 a s5 (came ++ [x]) X5 pr (row.map rowD) po od8 → (s.put x).2 = od8 → Q (.ref po) H8 := fun H8 od8 W8 e8 => by
      obtain ⟨ov, o1, o2⟩ := W8.1.o
      refine q H8 X5 po ov ?_ o1 hpoF0 W8.1.no (by rw [e8]; exact o2)
      rw [hput]
      exact ⟨W8.1.h, W8.2.keep, W8.2.fx, fun b m => W8.2.new b (List.mem_cons_of_mem _ (List.mem_cons_of_mem _ m))⟩
    cases row with
    | nil =>
      exact ifF rfl ⟨_, rfl, done _ od W7 (by rw [hput]; simp)⟩
    | cons rw0 row1 =>
      obtain ⟨ov, o1, o2⟩ := W7.outAt
      refine ifT rfl ⟨_, rfl, .inl ⟨rfl, _, SqL.of o1⟩, (by show 1 ≤ sizeLine; decide), fun q2 hq2 => ?_⟩
      have s2 := Same.new (o := .tup [.str "spent"]) hq2
      have W8 := W7.same s2
      refine ⟨po, ov, _, rfl, rfl, s2 _ _ o1, by rw [o2, sizeLine_eq]; omega, ?_⟩
      have W9 := W8.addOut (s2 _ _ o1) (v := .ref q2) (d := .tuple [.str "spent"]) (TD.new upd_same (TDs.mk (td_str.mpr rfl) TDs.nil))
      exact ⟨_, rfl, done _ _ W9 (by rw [hput]; simp)⟩
  cases row with
  | nil =>
    have e : HS.loop 300 s3 row0 [] = (s5, [], od) := by
      rw [← hloop]
      cases 300 - j <;> rfl
    exact ifF rfl (ifF rfl (fin e _ W1))
  | cons rw0 row1 =>
    obtain ⟨i0, h0⟩ := rw0
    refine ifT rfl ⟨_, rfl, _, _, rfl, rfl, _, rfl, ?_⟩
    by_cases hj3 : j < 300
    case neg =>
      have e : HS.loop 300 s3 row0 [] = (s5, (i0, h0) :: row1, od) := by
        rw [← hloop, show 300 - j = 0 by omega]
        rfl
      exact ifF (decide_eq_false (by omega)) (fin e _ W1)
    refine ifT (decide_eq_true (by omega)) ⟨fun σ' H' => ∃ (s7 : HS) (X7 : HX) (row7 : Row) (od7 : List PyData) (w5 w6 w7 : Option V), σ' = [some (.ref a), some (.ref ip), some (.ref pr), some (.ref po), some (.int ((j : Int) + 1)), w5, w6, w7] ∧ HWTo K H (X.F a) H' a s7 (came ++ [x]) X7 pr (row7.map rowD) po od7 ∧
      Hk s7 (n + (j + 1)) (k + 1 + 301 * (j + 1)) ∧ RowOk s7 row7 ∧ row7.length ≤ k + 1 + 301 * (j + 1) ∧ od7.length ≤ 301 * (j + 1) ∧ HS.loop (300 - (j + 1)) s7 row7 od7 = HS.loop 300 s3 row0 [], fun σ' H' ⟨s7, X7, row7, od7, w5, w6, w7, e1, e2, e3, e4, e5, e6, e7⟩ => ⟨300 - (j + 1), by omega, j + 1, s7, X7, row7, od7, w5, w6, w7, e1, by omega, e2, e3, e4, e5, e6, e7, rfl⟩, ?_⟩
    -- row.pop(0)
    obtain ⟨hi0, hh0, hg0⟩ := hro (i0, h0) List.mem_cons_self
    obtain ⟨rv6, r61, r62⟩ := W1.1.r
    obtain ⟨v0, rv7, rfl, hv0, hv7⟩ := tds_cons.mp (show TDs K _ rv6 (rowD (i0, h0) :: row1.map rowD) from r62)
    obtain ⟨tp, w1, w2, rfl, g1, g2, g3⟩ := td2 (show TD K _ v0 (.tuple [.int (i0 : Int), h0.d]) from hv0)
    cases td_int.mp g2
    refine ⟨_, rfl, .inl ⟨rfl, _, SqL.of r61⟩, pr, _, 0, 0, .ref tp, rfl, rfl, r61, by decide, by decide, seqIx0 (Nat.succ_pos _), rfl, ?_⟩
    have W2 := W1.setRow rv7 _ hv7
    have g12 := Fx.t (Upto.upd (F := [pr]) (o := .lst rv7) r61 List.mem_cons_self (fun _ q => nomatch q) (fun _ _ q => nomatch q)).fx g1
    have g32 := TD.fx (Upto.upd (F := [pr]) (o := .lst rv7) r61 List.mem_cons_self (fun _ q => nomatch q) (fun _ _ q => nomatch q)).fx _ _ g3
    refine ⟨tp, _, rfl, g12, rfl, _, _, rfl, _, _, rfl, rfl, ?_⟩
    refine ⟨_, rfl, _, _, rfl, rfl, ?_⟩
    -- happened
    obtain ⟨rr, hrr⟩ : ∃ rr, s5.runs[i0]? = some rr := ⟨_, List.getElem?_eq_getElem hi0⟩
    obtain ⟨y, hy, Y⟩ := W2.1.h.runs.get hrr
    have hrk := hk5.run hrr
    have hyl : y.hv.length < sizeLine := by rw [Y.th.length, List.length_map, sizeLine_eq]; have := hrk.hl; have := hk5.ln; omega
    refine ⟨_, rfl, a, _, rfl, hl_happened T W2.1.h.ob, _, rfl, X5.hl, _, _, .ref y.h, rfl, rfl, SqL.of W2.1.h.hl, atI_nat (by rw [List.getElem?_map, hy]; rfl), .inl ⟨rfl, _, SqL.of Y.hp⟩, _, rfl, y.h, _, _, rfl, rfl, Y.hp, hyl, ?_⟩
    obtain ⟨Y3, U3⟩ := Y.happens (p := h0) g32
    have T3' := W2.1.h.to.setRec hrr hy Y3 U3 rfl rfl rfl rfl
    have W3 := W2.house T3'
    have g33 := TD.fx U3.fx _ _ g32
    have hil : i0 < X5.rs.length := by rw [← W2.1.h.runs.len]; exact hi0
    have hy3 : (X5.rs.set i0 { y with hv := y.hv ++ [w2] })[i0]? = some { y with hv := y.hv ++ [w2] } := by rw [List.getElem?_set_self hil]
    have hrr3 : (s5.setRun i0 { rr with hap := rr.hap ++ [h0] }).runs[i0]? = some { rr with hap := rr.hap ++ [h0] } := by
      show (s5.runs.set i0 _)[i0]? = _
      rw [List.getElem?_set_self hi0]
    -- take
    have hlim : 303 * (n + j) + 303 ≤ 5000000 := by omega
    refine ⟨_, rfl, a, _, rfl, hl_all_runs T W3.1.h.ob, _, rfl, X5.rl, _, _, .ref y.a, rfl, rfl, SqL.of W3.1.h.rl, atI_nat (by show ((X5.rs.set i0 _).map _)[i0]? = _; rw [List.getElem?_map, hy3]; rfl), y.a, rfl, ml_run Y3.run rfl, _, rfl, y.a, rr.st, y.x, h0, w2, 303 * (n + j), rfl, Y3.run, hrk.ro, g33, hh0, hlim, fun Hm xm pc cvs Rm hpc hcvs => ?_⟩
    obtain ⟨Y4, U4⟩ := Y3.goes Rm
    have T4 := W3.1.h.to.setRec hrr3 hy3 Y4 U4 rfl rfl rfl rfl
    have W4 := W3.house T4
    have es : (s5.setRun i0 { rr with hap := rr.hap ++ [h0] }).setRun i0 { rr with hap := rr.hap ++ [h0], st := rr.st.take h0 } = s5.setRun i0 { rr with st := rr.st.take h0, hap := rr.hap ++ [h0] } := by
      unfold HS.setRun
      dsimp only
      rw [List.set_set]
    have W5 : HWTo K H (X.F a) Hm a (s5.setRun i0 { rr with st := rr.st.take h0, hap := rr.hap ++ [h0] }) (came ++ [x]) { X5 with rs := (X5.rs.set i0 { y with hv := y.hv ++ [w2] }).set i0 { y with hv := y.hv ++ [w2], x := xm } } pr (row1.map rowD) po od := by rw [← es]; exact W4
    have s6 := Same.new (o := .lst cvs) hpc
    have W6 := W5.same s6
    have hro4 := take_ok hrk.ro hh0 hlim
    have hk6 : Hk (s5.setRun i0 { rr with st := rr.st.take h0, hap := rr.hap ++ [h0] }) (n + (j + 1)) (k + 1 + 301 * j) := by
      refine ⟨hk5.pg, hk5.pn, fun r hm => ?_, by show (s5.runs.set _ _).length ≤ _; rw [List.length_set]; exact hk5.rl, hk5.ol, hk5.tl, hk5.ov, hk5.okd, hk5.tkd, by omega, hk5.lk⟩
      rcases List.mem_or_eq_of_mem_set (show r ∈ s5.runs.set i0 _ from hm) with z | z
      · exact (hk5.rr r z).weak (by omega) (by omega) (by omega)
      · rw [z]
        refine ⟨hro4.weak (by omega) (by omega), hrk.nm, ?_, fun q hq => ?_, fun q hq => ?_⟩
        · show (rr.hap ++ [h0]).length ≤ _
          rw [List.length_append]
          have := hrk.hl
          simp only [List.length_cons, List.length_nil]
          omega
        · rcases List.mem_append.mp hq with z | z
          · exact hrk.hk q z
          · simp at z; rw [z]; exact hg0
        · rcases List.mem_append.mp hq with z | z
          · exact hrk.ho q z
          · simp at z; rw [z]; exact hh0
    have hi6 : i0 < (s5.setRun i0 { rr with st := rr.st.take h0, hap := rr.hap ++ [h0] }).runs.length := by show i0 < (s5.runs.set _ _).length; rw [List.length_set]; exact hi0
    have estep : s5.step i0 h0 = (s5.setRun i0 { rr with st := rr.st.take h0, hap := rr.hap ++ [h0] }).follows i0 (rr.st.take h0).orders := by simp only [HS.step, hrr]
    have hcsl : (rr.st.take h0).orders.length ≤ 301 := hro4.os
    have hcso := hro4.rk.ord
    have hrl1 : row1.length + 1 ≤ k + 1 + 301 * j := hrl
    have hro1 : RowOk (s5.setRun i0 { rr with st := rr.st.take h0, hap := rr.hap ++ [h0] }) row1 := RowOk.mono (fun p hp => hro p (List.mem_cons_of_mem _ hp)) (by show s5.runs.length ≤ (s5.runs.set _ _).length; rw [List.length_set]; exact Nat.le_refl _)
    have hloop2 : HS.loop (300 - (j + 1)) (s5.step i0 h0).1 (row1 ++ (s5.step i0 h0).2.1) (od ++ (s5.step i0 h0).2.2) = HS.loop 300 s3 row0 [] := by
      rw [← hloop, show 300 - j = (300 - (j + 1)) + 1 by omega]
      rfl
    rw [estep] at hloop2
    have hpcF : pc ∉ pr :: po :: (({ X5 with rs := (X5.rs.set i0 { y with hv := y.hv ++ [w2] }).set i0 { y with hv := y.hv ++ [w2], x := xm } } : HX).F a) := fun m => by
      obtain ⟨rvz, z1, _⟩ := W5.1.r
      obtain ⟨ovz, z2, _⟩ := W5.1.o
      rcases List.mem_cons.mp m with e | m
      · rw [e, z1] at hpc; cases hpc
      · rcases List.mem_cons.mp m with e | m
        · rw [e, z2] at hpc; cases hpc
        · exact W5.1.h.notIn hpc m
    have hcl2 : cvs.length = (rr.st.take h0).orders.length := by rw [hcvs.length, List.length_map]
    generalize (rr.st.take h0).orders = cs at *
    generalize s5.setRun i0 { rr with st := rr.st.take h0, hap := rr.hap ++ [h0] } = s6 at *
    refine ⟨pc, rfl, ⟨_, SqL.of upd_same⟩, for_list (xs := cvs) (fun i σ H' => ∃ (X7 : HX) (w7 : Option V), σ = [some (.ref a), some (.ref ip), some (.ref pr), some (.ref po), some (.int ((j : Int) + 1)), some (.int (i0 : Int)), some w2, w7] ∧
      HWTo K H (X.F a) H' a (s6.follows i0 (cs.take i)).1 (came ++ [x]) X7 pr (row1.map rowD ++ (s6.follows i0 (cs.take i)).2.1.map rowD) po (od ++ (s6.follows i0 (cs.take i)).2.2) ∧ H' pc = some (.lst cvs) ∧ pc ∉ pr :: po :: X7.F a ∧ TDs K H' cvs (cs.map Cmd.d))
      ⟨_, _, rfl, by simpa [HS.follows] using W6, upd_same, hpcF, TDs.fx (Same.fx (Same.new hpc)) _ _ hcvs⟩ (fun i σ H' _ ⟨_, _, _, _, h, _⟩ => SqL.of h) ?_ ?_⟩
    · rintro i cv σ H7 hx7 ⟨X7, w7, rfl, W7, hp7, hn7, ht7⟩
      obtain ⟨d, hd1, hd2⟩ := ht7.getV hx7
      rw [List.getElem?_map, Option.map_eq_some_iff] at hd1
      obtain ⟨c, hc, rfl⟩ := hd1
      have hci := (List.getElem?_eq_some_iff.mp hc).1
      have htl : (cs.take i).length ≤ 301 := Nat.le_trans (by rw [List.length_take]; exact Nat.min_le_right _ _) hcsl
      obtain ⟨b1, b2, b3, b4, b5, b6, b7⟩ := follows_ok (i := i0) (cs := cs.take i) hk6 hi6 (fun c hc => hcso c (List.mem_of_mem_take hc)) (by omega)
      refine ⟨_, rfl, a, rfl, ml_house W7.1.h.ob rfl, _, rfl, _, rfl, _, rfl, _, rfl, a, _, _, X7, _, _, i0, c, cv, pr, po, _, _, rfl, W7.1, b1, hd2, Nat.lt_of_lt_of_le hi6 b2, ?_, ?_, fun H8 X8 W8 => ?_⟩
      · rw [List.length_append, List.length_map, List.length_map]; omega
      · rw [List.length_append]; omega
      · have et : cs.take (i + 1) = cs.take i ++ [c] := by rw [List.take_add_one, hc]; rfl
        rw [et, follows_snoc]
        refine ⟨X8, _, rfl, ?_, W8.2.keep _ _ hp7 hn7, fun m => ?_, TDs.fx W8.2.fx _ _ ht7⟩
        · dsimp only
          rw [List.map_append, ← List.append_assoc, ← List.append_assoc]
          exact ⟨W8.1, W7.2.trans W8.2⟩
        · rcases W8.2.new _ m with z | z
          · exact hn7 z
          · rw [hp7] at z; cases z
    · rintro σ H7 ⟨X7, w7, rfl, W7, hp7, hn7, ht7⟩
      rw [hcl2, List.take_length] at W7
      obtain ⟨b1, b2, b3, b4, b5, b6, b7⟩ := follows_ok (i := i0) (cs := cs) hk6 hi6 hcso (by omega)
      refine ⟨_, X7, row1 ++ (s6.follows i0 cs).2.1, _, _, _, _, rfl, by rw [List.map_append]; exact W7, b1.weak (Nat.le_refl _) (by omega) (by omega) (by omega), (hro1.mono b2).append b3, ?_, ?_, hloop2⟩
      · rw [List.length_append]; omega
      · rw [List.length_append]; omega
end
end Ol
namespace Ol
open PySem PySem.Spec PyProof.Rows L2
local macro_rules | `(tactic| walk_at "len") => `(tactic| (intro vs H Q E h; first | (rcases h with ⟨hh, _⟩; rw [hh]; rfl) | (rcases h with ⟨_, hh, _⟩; rw [hh]; rfl) | (rcases h with ⟨_, _, hh, _⟩; rw [hh]; rfl) | (rcases h with ⟨_, _, _, hh, _⟩; rw [hh]; rfl) | (rcases h with ⟨_, _, _, _, hh, _⟩; rw [hh]; rfl) | (rcases h with ⟨_, _, _, _, _, hh, _⟩; rw [hh]; rfl) | (rcases h with ⟨_, _, _, _, _, _, hh, _⟩; rw [hh]; rfl) | (rcases h with ⟨_, _, _, _, _, _, _, hh, _⟩; rw [hh]; rfl) | (rcases h with ⟨_, _, _, _, _, _, _, _, hh, _⟩; rw [hh]; rfl) | (rcases h with ⟨_, _, _, _, _, _, _, _, _, hh, _⟩; rw [hh]; rfl) | (rcases h with ⟨_, _, _, _, _, _, _, _, _, _, hh, _⟩; rw [hh]; rfl) | (rcases h with ⟨_, _, _, _, _, _, _, _, _, _, _, hh, _⟩; rw [hh]; rfl) | (rcases h with ⟨_, _, _, _, _, _, _, _, _, _, _, _, hh, _⟩; rw [hh]; rfl) | (rcases h with ⟨_, _, _, _, _, _, _, _, _, _, _, _, _, hh, _⟩; rw [hh]; rfl) | (rcases h with ⟨_, _, _, _, _, _, _, _, _, _, _, _, _, _, hh, _⟩; rw [hh]; rfl) | (rcases h with ⟨_, _, _, _, _, _, _, _, _, _, _, _, _, _, _, hh, _⟩; rw [hh]; rfl) | (rcases h with ⟨_, _, _, _, _, _, _, _, _, _, _, _, _, _, _, _, hh, _⟩; rw [hh]; rfl) | (rcases h with ⟨_, _, _, _, _, _, _, _, _, _, _, _, _, _, _, _, _, hh, _⟩; rw [hh]; rfl) | (rcases h with ⟨_, _, _, _, _, _, _, _, _, _, _, _, _, _, _, _, _, _, hh, _⟩; rw [hh]; rfl) | (rcases h with ⟨_, _, _, _, _, _, _, _, _, _, _, _, _, _, _, _, _, _, _, hh, _⟩; rw [hh]; rfl)))
/-! ### the law's own house in the heap -/
structure LX where
  pd : Addr
  rl : Addr
  od : Addr
  td : Addr
  ordV : List ((Int × Int) × V)
  rs : List RX
def RX.q (y : RX) : Addr := y.qs.headD 0
def LX.O (X : LX) (a : Addr) : List Addr := [a, X.rl, X.od, X.td]
def LX.F (X : LX) (a : Addr) : List Addr := X.O a ++ rsF X.rs
def lf (s : HS) (X : LX) : List (Key × V) := [(.inr "programs", .ref X.pd), (.inr "now", .int s.now), (.inr "runs", .ref X.rl), (.inr "orders", .ref X.od), (.inr "timers", .ref X.td)]
theorem lf_programs (s : HS) (X : LX) : valV (lf s X) (Sum.inr "programs") = some (.ref X.pd) := rfl
theorem lf_now (s : HS) (X : LX) : valV (lf s X) (Sum.inr "now") = some (.int s.now) := rfl
theorem lf_runs (s : HS) (X : LX) : valV (lf s X) (Sum.inr "runs") = some (.ref X.rl) := rfl
theorem lf_orders (s : HS) (X : LX) : valV (lf s X) (Sum.inr "orders") = some (.ref X.od) := rfl
theorem lf_timers (s : HS) (X : LX) : valV (lf s X) (Sum.inr "timers") = some (.ref X.td) := rfl
theorem lf_put (s : HS) (X : LX) (m : Int) : putK (lf s X) (Sum.inr "now") (.int m) = lf { s with now := m } X := rfl
structure LawAt (K : PySem.W.Frag) (H : Hp) (a : Addr) (s : HS) (X : LX) : Prop where
  ob : H a = some (.dK (lf s X))
  rl : H X.rl = some (.lst (X.rs.map fun y => .ref y.q))
  od : H X.od = some (.dT (mk2 kII id X.ordV))
  td : H X.td = some (.dT (mk2 kII V.int s.timers))
  tor : PK2 (fun o v => TD K H v (ordVD o)) s.orders X.ordV
  pg : PgAt K H X.pd s.progs
  pdn : X.pd ∉ X.F a
  runs : RunsAt K H s.runs X.rs (X.O a)
  nd : (X.O a).Nodup
  qs : ∀ y ∈ X.rs, y.qs = [y.q]
structure LawRest (K : PySem.W.Frag) (H : Hp) (a : Addr) (s : HS) (X : LX) (S : List Nat) : Prop where
  ob : 0 ∉ S → H a = some (.dK (lf s X))
  rl : 1 ∉ S → H X.rl = some (.lst (X.rs.map fun y => .ref y.q))
  od : 2 ∉ S → H X.od = some (.dT (mk2 kII id X.ordV))
  td : 3 ∉ S → H X.td = some (.dT (mk2 kII V.int s.timers))
  tor : PK2 (fun o v => TD K H v (ordVD o)) s.orders X.ordV
  pg : PgAt K H X.pd s.progs
  runs : RunsAt K H s.runs X.rs (X.O a)
section
variable {K : PySem.W.Frag} {H H' H0 : Hp} {F0 : List Addr} {a : Addr} {s : HS} {X : LX}
theorem LX.inO {b : Addr} (h : b ∈ X.O a) : b ∈ X.F a := List.mem_append_left _ h
theorem LX.inR {b : Addr} (h : b ∈ rsF X.rs) : b ∈ X.F a := List.mem_append_right _ h
theorem LawAt.offR (R : LawAt K H a s X) {b : Addr} (h : b ∈ rsF X.rs) : b ∉ X.O a := by
  obtain ⟨y, hy, m⟩ := List.mem_flatMap.mp h
  exact R.runs.dO y hy b m
theorem LawAt.rest (R : LawAt K H a s X) (S : List Nat) (hk : ∀ b o, H b = some o → (∀ i ∈ S, (X.O a)[i]? ≠ some b) → H' b = some o) (fx : Fx H H') : LawRest K H' a s X S where
  ob := fun h => hk _ _ R.ob fun i m e => h (by rw [nd_ix R.nd (rfl : (X.O a)[0]? = some a) e]; exact m)
  rl := fun h => hk _ _ R.rl fun i m e => h (by rw [nd_ix R.nd (rfl : (X.O a)[1]? = some X.rl) e]; exact m)
  od := fun h => hk _ _ R.od fun i m e => h (by rw [nd_ix R.nd (rfl : (X.O a)[2]? = some X.od) e]; exact m)
  td := fun h => hk _ _ R.td fun i m e => h (by rw [nd_ix R.nd (rfl : (X.O a)[3]? = some X.td) e]; exact m)
  tor := PK2.mono R.tor fun _ _ q => TD.fx fx _ _ q
  pg := R.pg.keep (fun o h => hk _ _ h fun i m e => R.pdn (LX.inO (List.mem_of_getElem? e))) fx
  runs := R.runs.keep (fun b o h m => hk _ _ h fun i _ e => R.offR m (List.mem_of_getElem? e)) fx
theorem LawAt.thing (R : LawAt K H a s X) {b : Addr} (hb : b ∈ X.F a) : ∃ o, H b = some o ∧ (∀ xs, o ≠ .tup xs) ∧ ∀ q w, o ≠ .frz q w := by
  rcases List.mem_append.mp hb with m | m
  · unfold LX.O at m
    simp only [List.mem_cons, List.not_mem_nil, or_false] at m
    rcases m with e | e | e | e
    · rw [e]; exact ⟨_, R.ob, (fun _ q => nomatch q), (fun _ _ q => nomatch q)⟩
    · rw [e]; exact ⟨_, R.rl, (fun _ q => nomatch q), (fun _ _ q => nomatch q)⟩
    · rw [e]; exact ⟨_, R.od, (fun _ q => nomatch q), (fun _ _ q => nomatch q)⟩
    · rw [e]; exact ⟨_, R.td, (fun _ q => nomatch q), (fun _ _ q => nomatch q)⟩
  · exact R.runs.thing m
theorem LawAt.notIn (R : LawAt K H a s X) {p : Addr} (hp : H p = none) : p ∉ X.F a := fun m => by
  obtain ⟨o, h, _⟩ := R.thing m
  rw [hp] at h
  cases h
theorem LawAt.keep (R : LawAt K H a s X) (hk : ∀ b o, H b = some o → b ∈ X.F a ∨ b = X.pd → H' b = some o) (fx : Fx H H') : LawAt K H' a s X :=
  ⟨hk _ _ R.ob (.inl (LX.inO (List.mem_of_getElem? (rfl : (X.O a)[0]? = some a)))), hk _ _ R.rl (.inl (LX.inO (List.mem_of_getElem? (rfl : (X.O a)[1]? = some X.rl)))),
   hk _ _ R.od (.inl (LX.inO (List.mem_of_getElem? (rfl : (X.O a)[2]? = some X.od)))), hk _ _ R.td (.inl (LX.inO (List.mem_of_getElem? (rfl : (X.O a)[3]? = some X.td)))),
   PK2.mono R.tor fun _ _ q => TD.fx fx _ _ q, R.pg.keep (fun o h => hk _ _ h (.inr rfl)) fx, R.pdn, R.runs.keep (fun b o h m => hk _ _ h (.inl (LX.inR m))) fx, R.nd, R.qs⟩
theorem LawAt.same (R : LawAt K H a s X) (e : Same H H') : LawAt K H' a s X := R.keep (fun b o h _ => e b o h) (Same.fx e)
theorem LawAt.upto {F F' : List Addr} (R : LawAt K H a s X) (U : Upto F H H' F') (h1 : ∀ b ∈ X.F a, b ∉ F) (h2 : X.pd ∉ F) : LawAt K H' a s X :=
  R.keep (fun b o h m => U.keep b o h (m.elim (h1 b) fun e => by rw [e]; exact h2)) U.fx
def LawTo (K : PySem.W.Frag) (H0 : Hp) (F0 : List Addr) (H : Hp) (a : Addr) (s : HS) (X : LX) : Prop := LawAt K H a s X ∧ Upto F0 H0 H (X.F a)
theorem LawAt.to (R : LawAt K H a s X) : LawTo K H (X.F a) H a s X := ⟨R, Upto.refl⟩
theorem LawTo.same (T : LawTo K H0 F0 H a s X) (e : Same H H') : LawTo K H0 F0 H' a s X := ⟨T.1.same e, T.2.same e⟩
theorem LawTo.up (T : LawTo K H0 F0 H a s X) {p : Addr} {u o : HO} (i : Nat) (hp : (X.O a)[i]? = some p) (h : H p = some u) (h1 : ∀ xs, u ≠ .tup xs) (h2 : ∀ q w, u ≠ .frz q w) : LawRest K (upd H p o) a s X [i] ∧ Upto F0 H0 (upd H p o) (X.F a) :=
  have U : Upto (X.F a) H (upd H p o) (X.F a) := Upto.upd h (LX.inO (List.mem_of_getElem? hp)) h1 h2
  ⟨T.1.rest [i] (fun b v e n => by rw [upd_ne (fun q => n i (List.mem_singleton.mpr rfl) (by rw [q]; exact hp))]; exact e) U.fx, T.2.trans U⟩
theorem LawTo.setNow (T : LawTo K H0 F0 H a s X) (m : Int) : LawTo K H0 F0 (upd H a (.dK (putK (lf s X) (Sum.inr "now") (.int m)))) a { s with now := m } X := by
  obtain ⟨E, U⟩ := T.up (o := .dK (putK (lf s X) (Sum.inr "now") (.int m))) 0 rfl T.1.ob (fun _ q => nomatch q) (fun _ _ q => nomatch q)
  exact ⟨⟨by rw [upd_same, lf_put], E.rl (by decide), E.od (by decide), E.td (by decide), E.tor, E.pg, T.1.pdn, E.runs, T.1.nd, T.1.qs⟩, U⟩
theorem LawTo.putOrder (T : LawTo K H0 F0 H a s X) (k : Int × Int) (o : Str × W) {v : V} (hv : TD K H v (ordVD o)) :
    LawTo K H0 F0 (upd H X.od (.dT (putK (mk2 kII id X.ordV) (kII k) v))) a { s with orders := pt s.orders k o } { X with ordV := pt X.ordV k v } := by
  obtain ⟨E, U⟩ := T.up (o := .dT (putK (mk2 kII id X.ordV) (kII k) v)) 2 rfl T.1.od (fun _ q => nomatch q) (fun _ _ q => nomatch q)
  have fx : Fx H (upd H X.od (.dT (putK (mk2 kII id X.ordV) (kII k) v))) := (Upto.upd (F := X.F a) T.1.od (LX.inO (List.mem_of_getElem? (rfl : (X.O a)[2]? = some X.od))) (fun _ q => nomatch q) (fun _ _ q => nomatch q)).fx
  refine ⟨⟨E.ob (by decide), E.rl (by decide), ?_, E.td (by decide), PK2.put E.tor k (TD.fx fx _ _ hv), E.pg, T.1.pdn, E.runs, T.1.nd, T.1.qs⟩, U⟩
  rw [upd_same]
  exact congrArg (fun l => some (HO.dT l)) (putK_mk2 (g := id) kII_inj X.ordV k v)
theorem LawTo.putTimer (T : LawTo K H0 F0 H a s X) (k : Int × Int) (due : Int) :
    LawTo K H0 F0 (upd H X.td (.dT (putK (mk2 kII V.int s.timers) (kII k) (.int due)))) a { s with timers := pt s.timers k due } X := by
  obtain ⟨E, U⟩ := T.up (o := .dT (putK (mk2 kII V.int s.timers) (kII k) (.int due))) 3 rfl T.1.td (fun _ q => nomatch q) (fun _ _ q => nomatch q)
  exact ⟨⟨E.ob (by decide), E.rl (by decide), E.od (by decide), by rw [upd_same, putK_mk2 kII_inj], E.tor, E.pg, T.1.pdn, E.runs, T.1.nd, T.1.qs⟩, U⟩
theorem LawTo.setRec (T : LawTo K H0 F0 H a s X) {i : Nat} {rr' : RR} {y y' : RX} (hy : X.rs[i]? = some y) (R1 : RecAt K H' rr' y') (U : Upto y.F H H' y'.F) (e1 : y'.qs = y.qs) :
    LawTo K H0 F0 H' a (s.setRun i rr') { X with rs := X.rs.set i y' } := by
  have hO : ∀ b ∈ X.O a, b ∉ y.F := fun b m m2 => T.1.runs.dO y (List.mem_of_getElem? hy) b m2 m
  have hn : ∀ b ∈ X.O a, H b ≠ none := fun b m e => by
    obtain ⟨o, h, _⟩ := T.1.thing (LX.inO m)
    rw [e] at h
    cases h
  have hpd : X.pd ∉ y.F := fun m => T.1.pdn (LX.inR (rsF_get hy m))
  have UF : Upto (X.F a) H H' (({ X with rs := X.rs.set i y' } : LX).F a) := U.mono (fun b m => LX.inR (rsF_get hy m)) fun b m => by
    rcases List.mem_append.mp m with m | m
    · exact .inr (LX.inO m)
    · rcases rsF_set m with m | m
      · exact .inl m
      · exact .inr (LX.inR m)
  refine ⟨⟨U.keep _ _ T.1.ob (hO _ (List.mem_of_getElem? (rfl : (X.O a)[0]? = some a))), ?_, U.keep _ _ T.1.od (hO _ (List.mem_of_getElem? (rfl : (X.O a)[2]? = some X.od))), U.keep _ _ T.1.td (hO _ (List.mem_of_getElem? (rfl : (X.O a)[3]? = some X.td))),
    PK2.mono T.1.tor fun _ _ q => TD.fx U.fx _ _ q, T.1.pg.keep (fun o h => U.keep _ _ h hpd) U.fx, fun m => ?_, T.1.runs.setRec hy R1 U hn, T.1.nd, fun z hz => ?_⟩, T.2.trans UF⟩
  · show H' X.rl = some (.lst ((X.rs.set i y').map fun y : RX => .ref y.q))
    rw [map_set_same (fun y : RX => V.ref y.q) hy (by unfold RX.q; rw [e1])]
    exact U.keep _ _ T.1.rl (hO _ (List.mem_of_getElem? (rfl : (X.O a)[1]? = some X.rl)))
  · rcases UF.new _ m with w | w
    · exact T.1.pdn w
    · obtain ⟨pgV, h1, _⟩ := T.1.pg
      rw [show H X.pd = none from w] at h1
      cases h1
  · rcases List.mem_or_eq_of_mem_set hz with w | w
    · exact T.1.qs z w
    · rw [w]
      unfold RX.q
      rw [e1]
      exact T.1.qs y (List.mem_of_getElem? hy)
/-- a run more: its list q, its happenings' list h -/
theorem LawTo.newRun (T : LawTo K H0 F0 H a s X) {H2 : Hp} (s2 : Same H H2) {x : Addr} {xa : RA} {prog : List Stm} (hr : RunAt K H2 x (RS.init prog) xa) (hf : ∀ b ∈ xa.F x, H b = none) (nm : Str) {b : Option (Nat × Int)} {bv : V} (hb : TD K H bv (byD b)) {h q : Addr}
    (hh : H2 h = none) (hq : upd H2 h (.lst []) q = none) :
    LawTo K H0 F0 (upd (upd (upd H2 h (.lst [])) q (.lst [.ref x, .str nm, bv, .ref h])) X.rl (.lst (X.rs.map (fun y => V.ref y.q) ++ [.ref q])))
      a (s.newRun nm b prog) { X with rs := X.rs ++ [⟨x, xa, h, [], bv, [q]⟩] } := by
  have R2 := T.1.same s2
  have s3 := Same.new (o := .lst []) hh
  have s4 := Same.new (o := .lst [.ref x, .str nm, bv, .ref h]) hq
  have s24 := s3.trans s4
  have nqh : q ≠ h := fun z => by rw [z, upd_same] at hq; cases hq
  have hq2 : H2 q = none := by rw [upd_ne nqh] at hq; exact hq
  have R4 := R2.same s24
  have i1 : (X.O a)[1]? = some X.rl := rfl
  have keep : ∀ p u, H2 p = some u → p ≠ X.rl → (upd (upd (upd H2 h (.lst [])) q (.lst [.ref x, .str nm, bv, .ref h])) X.rl (.lst (X.rs.map (fun y => V.ref y.q) ++ [.ref q]))) p = some u := fun p u e n => by
    rw [upd_ne n]; exact s24 _ _ e
  have grl : (upd (upd (upd H2 h (.lst [])) q (.lst [.ref x, .str nm, bv, .ref h])) X.rl (.lst (X.rs.map (fun y => V.ref y.q) ++ [.ref q]))) X.rl = some (.lst (X.rs.map (fun y => V.ref y.q) ++ [.ref q])) := upd_same
  have nhr : h ≠ X.rl := fun z => by rw [z, R2.rl] at hh; cases hh
  have nqr : q ≠ X.rl := fun z => by rw [z, R2.rl] at hq2; cases hq2
  have gh : (upd (upd (upd H2 h (.lst [])) q (.lst [.ref x, .str nm, bv, .ref h])) X.rl (.lst (X.rs.map (fun y => V.ref y.q) ++ [.ref q]))) h = some (.lst []) := by rw [upd_ne nhr, upd_ne nqh.symm, upd_same]
  have gq : (upd (upd (upd H2 h (.lst [])) q (.lst [.ref x, .str nm, bv, .ref h])) X.rl (.lst (X.rs.map (fun y => V.ref y.q) ++ [.ref q]))) q = some (.lst [.ref x, .str nm, bv, .ref h]) := by rw [upd_ne nqr, upd_same]
  generalize (upd (upd (upd H2 h (.lst [])) q (.lst [.ref x, .str nm, bv, .ref h])) X.rl (.lst (X.rs.map (fun y => V.ref y.q) ++ [.ref q]))) = H5 at keep grl gh gq ⊢
  have fx : Fx H2 H5 := fun p u e k => keep p u e (fun z => by rw [z, R2.rl] at e; cases e; rcases k with ⟨_, k⟩ | ⟨_, _, k⟩ <;> cases k)
  have E := R2.rest (H' := H5) [1] (fun p u e n => keep p u e (fun z => n 1 (by decide) (by rw [z]; rfl))) fx
  have hx : ∀ p ∈ xa.F x, p ≠ h ∧ p ≠ q ∧ p ∉ X.F a := fun p m => by
    obtain ⟨o, ho, _⟩ := hr.thing m
    refine ⟨(fun z => by rw [z, hh] at ho; cases ho), (fun z => by rw [z, hq2] at ho; cases ho), fun m2 => ?_⟩
    obtain ⟨o2, ho2, _⟩ := T.1.thing m2
    rw [hf p m] at ho2
    cases ho2
  have hhF : h ∉ X.F a := R2.notIn hh
  have hqF : q ∉ X.F a := R2.notIn hq2
  have hO : ∀ p, p ∉ X.F a → p ≠ X.rl := fun p n z => n (LX.inO (by rw [z]; exact List.mem_of_getElem? i1))
  have yF : ∀ p ∈ (⟨x, xa, h, [], bv, [q]⟩ : RX).F, p ∉ X.F a := fun p m => by
    rcases List.mem_cons.mp m with e | m
    · rw [e]; exact hhF
    · rcases List.mem_append.mp m with m | m
      · simp at m; rw [m]; exact hqF
      · exact (hx p m).2.2
  have R1 : RecAt K H5 ⟨RS.init prog, nm, b, []⟩ ⟨x, xa, h, [], bv, [q]⟩ := by
    refine ⟨hr.keep (fun p u e m => keep p u e (hO p (hx p m).2.2)) fx, gh, TDs.nil, TD.fx fx _ _ (TD.fx (Same.fx s2) _ _ hb), (fun z hz => by simp at hz; rw [hz]; exact gq), List.nodup_cons.mpr ⟨fun m => ?_, List.nodup_append.mpr ⟨by simp, hr.dj, fun z hz p hp e => ?_⟩⟩⟩
    · rcases List.mem_append.mp m with m | m
      · simp at m; exact nqh m.symm
      · exact (hx h m).1 rfl
    · simp at hz
      exact (hx p hp).2.1 (by rw [← e, hz])
  have U : Upto (X.F a) H H5 (({ X with rs := X.rs ++ [⟨x, xa, h, [], bv, [q]⟩] } : LX).F a) := ⟨fun p u e n => keep p u (s2 _ _ e) (hO p n), (Same.fx s2).trans fx, fun p m => by
    have live : ∀ z, H2 z = none → H z = none := fun z e => by
      cases eh : H z with
      | none => rfl
      | some o => rw [s2 _ _ eh] at e; cases e
    rcases List.mem_append.mp m with m | m
    · exact .inl (LX.inO m)
    · obtain ⟨y, hy, my⟩ := List.mem_flatMap.mp m
      rcases List.mem_append.mp hy with hy | hy
      · exact .inl (LX.inR (List.mem_flatMap.mpr ⟨y, hy, my⟩))
      · simp at hy
        rw [hy] at my
        rcases List.mem_cons.mp my with e | my
        · exact .inr (by rw [e]; exact live h hh)
        · rcases List.mem_append.mp my with my | my
          · simp at my; exact .inr (by rw [my]; exact live q hq2)
          · exact .inr (hf p my)⟩
  refine ⟨⟨E.ob (by decide), ?_, E.od (by decide), E.td (by decide), E.tor, E.pg, fun m => ?_, E.runs.push R1 (fun p m m2 => yF p m (LX.inR m2)) (fun p m m2 => yF p m (LX.inO m2)), T.1.nd, fun y hy => ?_⟩, T.2.trans U⟩
  · show H5 X.rl = some (.lst ((X.rs ++ [_]).map fun y : RX => .ref y.q))
    rw [List.map_append]; exact grl
  · rcases U.new _ m with w | w
    · exact T.1.pdn w
    · obtain ⟨pgV, h1, _⟩ := T.1.pg
      rw [show H X.pd = none from w] at h1
      cases h1
  · rcases List.mem_append.mp hy with w | w
    · exact T.1.qs y w
    · simp at w; rw [w]; rfl
end
/-- the law's runs, its timers perhaps locked -/
structure LRun (K : PySem.W.Frag) (H : Hp) (a : Addr) (s : HS) (X : LX) : Prop where
  ob : H a = some (.dK (lf s X))
  rl : H X.rl = some (.lst (X.rs.map fun y => .ref y.q))
  runs : RunsAt K H s.runs X.rs (X.O a)
  qs : ∀ y ∈ X.rs, y.qs = [y.q]
theorem LawAt.lrun {K : PySem.W.Frag} {H : Hp} {a : Addr} {s : HS} {X : LX} (R : LawAt K H a s X) : LRun K H a s X := ⟨R.ob, R.rl, R.runs, R.qs⟩
theorem LawAt.lock {K : PySem.W.Frag} {H : Hp} {a : Addr} {s : HS} {X : LX} (R : LawAt K H a s X) (u : HO) : LRun K (upd H X.td u) a s X := by
  have U : Upto (X.F a) H (upd H X.td u) (X.F a) := Upto.upd R.td (LX.inO (List.mem_of_getElem? (rfl : (X.O a)[3]? = some X.td))) (fun _ q => nomatch q) (fun _ _ q => nomatch q)
  have E := R.rest (H' := upd H X.td u) [3] (fun b v e n => by rw [upd_ne (fun q => n 3 (List.mem_singleton.mpr rfl) (by rw [q]; rfl))]; exact e) U.fx
  exact ⟨E.ob (by decide), E.rl (by decide), E.runs, R.qs⟩
theorem LRun.same {K : PySem.W.Frag} {H H' : Hp} {a : Addr} {s : HS} {X : LX} (R : LRun K H a s X) (e : Same H H') : LRun K H' a s X := ⟨e _ _ R.ob, e _ _ R.rl, R.runs.keep (fun b o h _ => e b o h) (Same.fx e), R.qs⟩
/-- the i-th list of the law's runs -/
theorem LRun.get {K : PySem.W.Frag} {H : Hp} {a : Addr} {s : HS} {X : LX} (R : LRun K H a s X) {i : Nat} {rr : RR} (h : s.runs[i]? = some rr) : ∃ y, X.rs[i]? = some y ∧ RecAt K H rr y ∧ H y.q = some (.lst [.ref y.a, .str rr.nm, y.bv, .ref y.h]) ∧ (X.rs.map fun y => V.ref y.q)[i]? = some (.ref y.q) := by
  obtain ⟨y, hy, Y⟩ := R.runs.get h
  exact ⟨y, hy, Y, Y.qq _ (by rw [R.qs y (List.mem_of_getElem? hy)]; exact List.mem_cons_self), by rw [List.getElem?_map, hy]; rfl⟩
theorem LRun.len {K : PySem.W.Frag} {H : Hp} {a : Addr} {s : HS} {X : LX} (R : LRun K H a s X) : (X.rs.map fun y => V.ref y.q).length = s.runs.length := by rw [List.length_map, R.runs.len]
end Ol
namespace Ol
open PySem PySem.Spec PyProof.Rows L2
local macro_rules | `(tactic| walk_at "len") => `(tactic| (intro vs H Q E h; first | (rcases h with ⟨hh, _⟩; rw [hh]; rfl) | (rcases h with ⟨_, hh, _⟩; rw [hh]; rfl) | (rcases h with ⟨_, _, hh, _⟩; rw [hh]; rfl) | (rcases h with ⟨_, _, _, hh, _⟩; rw [hh]; rfl) | (rcases h with ⟨_, _, _, _, hh, _⟩; rw [hh]; rfl) | (rcases h with ⟨_, _, _, _, _, hh, _⟩; rw [hh]; rfl) | (rcases h with ⟨_, _, _, _, _, _, hh, _⟩; rw [hh]; rfl) | (rcases h with ⟨_, _, _, _, _, _, _, hh, _⟩; rw [hh]; rfl) | (rcases h with ⟨_, _, _, _, _, _, _, _, hh, _⟩; rw [hh]; rfl) | (rcases h with ⟨_, _, _, _, _, _, _, _, _, hh, _⟩; rw [hh]; rfl) | (rcases h with ⟨_, _, _, _, _, _, _, _, _, _, hh, _⟩; rw [hh]; rfl) | (rcases h with ⟨_, _, _, _, _, _, _, _, _, _, _, hh, _⟩; rw [hh]; rfl) | (rcases h with ⟨_, _, _, _, _, _, _, _, _, _, _, _, hh, _⟩; rw [hh]; rfl) | (rcases h with ⟨_, _, _, _, _, _, _, _, _, _, _, _, _, hh, _⟩; rw [hh]; rfl) | (rcases h with ⟨_, _, _, _, _, _, _, _, _, _, _, _, _, _, hh, _⟩; rw [hh]; rfl) | (rcases h with ⟨_, _, _, _, _, _, _, _, _, _, _, _, _, _, _, hh, _⟩; rw [hh]; rfl) | (rcases h with ⟨_, _, _, _, _, _, _, _, _, _, _, _, _, _, _, _, hh, _⟩; rw [hh]; rfl) | (rcases h with ⟨_, _, _, _, _, _, _, _, _, _, _, _, _, _, _, _, _, hh, _⟩; rw [hh]; rfl) | (rcases h with ⟨_, _, _, _, _, _, _, _, _, _, _, _, _, _, _, _, _, _, hh, _⟩; rw [hh]; rfl) | (rcases h with ⟨_, _, _, _, _, _, _, _, _, _, _, _, _, _, _, _, _, _, _, hh, _⟩; rw [hh]; rfl)))
/-- the law's house with a row beside it -/
structure LW (K : PySem.W.Frag) (H : Hp) (a : Addr) (s : HS) (X : LX) (pr : Addr) (rd : List PyData) : Prop where
  h : LawAt K H a s X
  r : ∃ rv, H pr = some (.lst rv) ∧ TDs K H rv rd
  nr : pr ∉ X.F a
def LWTo (K : PySem.W.Frag) (H0 : Hp) (F0 : List Addr) (H : Hp) (a : Addr) (s : HS) (X : LX) (pr : Addr) (rd : List PyData) : Prop := LW K H a s X pr rd ∧ Upto F0 H0 H (pr :: X.F a)
section
variable {K : PySem.W.Frag} {H0 H H' : Hp} {F0 : List Addr} {a : Addr} {s s' : HS} {X X' : LX} {pr : Addr} {rd : List PyData}
theorem LW.to (W : LW K H a s X pr rd) : LWTo K H (pr :: X.F a) H a s X pr rd := ⟨W, Upto.refl⟩
theorem LWTo.same (W : LWTo K H0 F0 H a s X pr rd) (e : Same H H') : LWTo K H0 F0 H' a s X pr rd := by
  obtain ⟨rv, r1, r2⟩ := W.1.r
  exact ⟨⟨W.1.h.same e, ⟨rv, e _ _ r1, TDs.fx (Same.fx e) _ _ r2⟩, W.1.nr⟩, W.2.same e⟩
theorem LWTo.house (W : LWTo K H0 F0 H a s X pr rd) (T : LawTo K H (X.F a) H' a s' X') : LWTo K H0 F0 H' a s' X' pr rd := by
  obtain ⟨rv, r1, r2⟩ := W.1.r
  refine ⟨⟨T.1, ⟨rv, T.2.keep _ _ r1 W.1.nr, TDs.fx T.2.fx _ _ r2⟩, fun m => ?_⟩, W.2.trans (T.2.mono (fun b m => List.mem_cons_of_mem _ m) (fun b m => ?_))⟩
  · rcases T.2.new _ m with z | z
    · exact W.1.nr z
    · rw [r1] at z; cases z
  · rcases List.mem_cons.mp m with e | m
    · exact .inr (by rw [e]; exact List.mem_cons_self)
    · exact .inl m
theorem LWTo.addRow (W : LWTo K H0 F0 H a s X pr rd) {rv : List V} (hr : H pr = some (.lst rv)) {v : V} {d : PyData} (hv : TD K H v d) : LWTo K H0 F0 (upd H pr (.lst (rv ++ [v]))) a s X pr (rd ++ [d]) := by
  obtain ⟨rv2, r1, r2⟩ := W.1.r
  rw [hr] at r1
  cases r1
  have U : Upto (pr :: X.F a) H (upd H pr (.lst (rv ++ [v]))) (pr :: X.F a) := Upto.upd hr List.mem_cons_self (fun _ q => nomatch q) (fun _ _ q => nomatch q)
  have U1 : Upto [pr] H (upd H pr (.lst (rv ++ [v]))) [pr] := Upto.upd hr List.mem_cons_self (fun _ q => nomatch q) (fun _ _ q => nomatch q)
  have npd : X.pd ∉ [pr] := fun m => by
    obtain ⟨pgV, h1, _⟩ := W.1.h.pg
    simp at m
    rw [m, hr] at h1
    cases h1
  exact ⟨⟨W.1.h.upto U1 (fun b m z => W.1.nr (by simp at z; rw [← z]; exact m)) npd, ⟨_, upd_same, (TDs.fx U.fx _ _ r2).snoc (TD.fx U.fx _ _ hv)⟩, W.1.nr⟩, W.2.trans U⟩
theorem LWTo.rowAt (W : LWTo K H0 F0 H a s X pr rd) : ∃ rv, H pr = some (.lst rv) ∧ rv.length = rd.length := by
  obtain ⟨rv, r1, r2⟩ := W.1.r
  exact ⟨rv, r1, r2.length⟩
end
section
variable {H : Hp} {a : Addr} {s : HS} {X : LX} (ob : H a = some (.dK (lf s X)))
include ob
theorem dg_programs : DGet H a (.str "programs") (some (.ref X.pd)) := DGet.k (k := Sum.inr "programs") ob
theorem dg_now : DGet H a (.str "now") (some (.int s.now)) := DGet.k (k := Sum.inr "now") ob
theorem dg_runs : DGet H a (.str "runs") (some (.ref X.rl)) := DGet.k (k := Sum.inr "runs") ob
theorem dg_orders : DGet H a (.str "orders") (some (.ref X.od)) := DGet.k (k := Sum.inr "orders") ob
theorem dg_timers : DGet H a (.str "timers") (some (.ref X.td)) := DGet.k (k := Sum.inr "timers") ob
end
theorem spots_snoc {H : Hp} {q : Addr} {k : Int × Int} (h : H q = some (.tup [.int k.1, .int k.2])) : ∀ {qs : List Addr} {ks : List (Int × Int)}, SpotsAt H qs ks → SpotsAt H (qs ++ [q]) (ks ++ [k])
  | _, _, .nil => .cons h .nil
  | _, _, .cons h1 t => .cons h1 (spots_snoc h t)
def HS.thereW (s : HS) : W → Bool
  | none => false
  | some i => s.there i
def spLNew (K : PySem.W.Frag) : Sp := fun vs H Q _ => ∃ (pd : Addr) (progs : List (Str × List Stm)), vs = [.ref pd] ∧ PgAt K H pd progs ∧ ∀ a H' X, LawAt K H' a (HS.init progs) X → X.pd = pd → Same H H' → (∀ b ∈ X.F a, H b = none) → Q (.ref a) H'
def spLThere (K : PySem.W.Frag) : Sp := fun vs H Q _ => ∃ (a : Addr) (s : HS) (X : LX) (n k : Nat) (r : W), vs = [.ref a, wv r] ∧ LRun K H a s X ∧ Hk s n k ∧ ∀ H', Same H H' → Q (.bl (s.thereW r)) H'
def spLOpen (K : PySem.W.Frag) : Sp := fun vs H Q _ => ∃ (a : Addr) (s : HS) (X : LX) (n k : Nat) (i t : Int), vs = [.ref a, .int i, .int t] ∧ LRun K H a s X ∧ Hk s n k ∧ ∀ H', Same H H' → Q (.bl (s.isOpen i t)) H'
def spLMade (K : PySem.W.Frag) : Sp := fun vs H Q _ => ∃ (a : Addr) (s : HS) (X : LX) (nm : Str) (b : Option (Nat × Int)) (bv : V) (prog : List Stm), vs = [.ref a, .str nm, bv] ∧ LawAt K H a s X ∧ lk s.progs nm = some prog ∧ TD K H bv (byD b) ∧ s.runs.length < 12000000 ∧
  ∀ H' X', LawTo K H (X.F a) H' a (s.newRun nm b prog) X' → X'.pd = X.pd → Q (.int (s.runs.length : Int)) H'
def spLTimers (K : PySem.W.Frag) : Sp := fun vs H Q _ => ∃ (a : Addr) (s : HS) (X : LX) (n k : Nat), vs = [.ref a] ∧ LawAt K H a s X ∧ Hk s n k ∧ ∀ p xs H', Same H H' → H p = none → H' p = some (.lst xs) → TDs K H' xs (s.openTimers.map encTm) → Q (.ref p) H'
def spLOrders (K : PySem.W.Frag) : Sp := fun vs H Q _ => ∃ (a : Addr) (s : HS) (X : LX) (n k : Nat), vs = [.ref a] ∧ LawAt K H a s X ∧ Hk s n k ∧ ∀ p xs H', Same H H' → H p = none → H' p = some (.lst xs) → TDs K H' xs s.openOrders → Q (.ref p) H'
def spLFirst (K : PySem.W.Frag) : Sp := fun vs H Q _ => ∃ (a : Addr) (s : HS) (X : LX) (n k : Nat) (x : Inp) (iv : V), vs = [.ref a, iv] ∧ LawAt K H a s X ∧ Hk s n k ∧ TD K H iv x.d ∧ x.ok ∧ k < 9999999 ∧
  ∀ H' X' p rv, LawTo K H (X.F a) H' a (s.first x).1 X' → H' p = some (.lst rv) → (p ∈ X.F a ∨ H p = none) → p ∉ X'.F a → TDs K H' rv ((s.first x).2.map rowD) → X'.pd = X.pd → Q (.ref p) H'
def spLFollow (K : PySem.W.Frag) : Sp := fun vs H Q _ => ∃ (a : Addr) (s : HS) (X : LX) (n k i : Nat) (c : Cmd) (cv : V) (pr : Addr) (rd : List PyData), vs = [.ref a, .int (i : Int), cv, .ref pr] ∧ LW K H a s X pr rd ∧ Hk s n k ∧ TD K H cv c.d ∧ i < s.runs.length ∧ rd.length < 16000000 ∧
  ∀ H' X' p ov, LWTo K H (pr :: X.F a) H' a (s.follow i c).1 X' pr (rd ++ (s.follow i c).2.1.map rowD) → H' p = some (.lst ov) → TDs K H' ov (s.follow i c).2.2 → X'.pd = X.pd → Q (.ref p) H'
def spLIn (K : PySem.W.Frag) : Sp := fun vs H Q _ => ∃ (a : Addr) (s : HS) (X : LX) (n k : Nat) (x : Inp) (iv : V), vs = [.ref a, iv] ∧ LawAt K H a s X ∧ Hk s n k ∧ TD K H iv x.d ∧ x.ok ∧ n + 300 ≤ 16000 ∧ k + 90301 ≤ 9999999 ∧
  ∀ H' X' p ov, LawTo K H (X.F a) H' a (s.put x).1 X' → H' p = some (.lst ov) → (p ∈ X.F a ∨ H p = none) → p ∉ X'.F a → TDs K H' ov (s.put x).2 → X'.pd = X.pd → Q (.ref p) H'
section
variable {P : Program} {w : World} {K : PySem.W.Frag} {mg : Str → Option Value} {base : Heap}
theorem sc__law_new : FnScope ["programs"] ["programs"] (defScope s__law_new) := ⟨rfl, rfl, rfl, by decide +kernel, rfl, by decide +kernel, by decide +kernel⟩
theorem ok__law_new (T : Tx w K mg) : OkD P w K mg base d__law_new 1 ["programs"] (spLNew K) := by
  have sc := sc__law_new
  refine okD_mk (F__law_new T) sc (fun _ _ _ _ _ _ us hl => match us, hl with | [_], _ => rfl) ?len ?body
  case len => walk_at "len"
  intro cdv f A outer s H vs Q E hr h
  refine ⟨_, (pss_one (ps_ret (pe_disp (pps_cons pe_str (pv 0) (pps_cons pe_str pe_int (pps_cons pe_str (pe_lst pa_nil) (pps_cons pe_str pe_dnewT (pps_cons pe_str pe_dnewT pps_nil))))) (by rfl) (by rfl) (fun z => by cases z) (by decide)))), ?_⟩
  obtain ⟨pd, progs, rfl, hpg, q⟩ := h
  refine fun p hp => ⟨_, rfl, Nat.zero_le _, fun p1 h1 => fun p2 h2 => fun p3 h3 => ?_⟩
  have s0 := Same.new (o := .dK []) hp
  have s1 := Same.new (o := .lst []) h1
  have s2 := Same.new (o := .dT []) h2
  have s3 := Same.new (o := .dT []) h3
  have n1 : p ≠ p1 := fun z => by rw [← z, upd_same] at h1; cases h1
  have e1 : upd H p (.dK []) p1 = none := h1
  have hp3 := (s1.trans (s2.trans s3)) _ _ (upd_same (H := H) (a := p) (o := .dK []))
  have hl3 := (s2.trans s3) _ _ (upd_same (H := upd H p (.dK [])) (a := p1) (o := .lst []))
  have ho3 := s3 _ _ (upd_same (H := upd (upd H p (.dK [])) p1 (.lst [])) (a := p2) (o := .dT []))
  refine ⟨hp3, [(.inr "programs", .ref pd), (.inr "now", .int 0), (.inr "runs", .ref p1), (.inr "orders", .ref p2), (.inr "timers", .ref p3)], rfl, (by show 5 ≤ 15; decide), ?_⟩
  have q2 : p ≠ p2 := fun z => by have := (s1 _ _ (upd_same (H := H) (a := p) (o := .dK []))); rw [← z] at h2; rw [this] at h2; cases h2
  have q3 : p ≠ p3 := fun z => by have := ((s1.trans s2) _ _ (upd_same (H := H) (a := p) (o := .dK []))); rw [← z] at h3; rw [this] at h3; cases h3
  have q12 : p1 ≠ p2 := fun z => by have := (upd_same (H := upd H p (.dK [])) (a := p1) (o := .lst [])); rw [z] at this; rw [z] at h2; rw [this] at h2; cases h2
  have q13 : p1 ≠ p3 := fun z => by have := s2 _ _ (upd_same (H := upd H p (.dK [])) (a := p1) (o := .lst [])); rw [z] at this; rw [z] at h3; rw [this] at h3; cases h3
  have q23 : p2 ≠ p3 := fun z => by have := (upd_same (H := upd (upd H p (.dK [])) p1 (.lst [])) (a := p2) (o := .dT [])); rw [z] at this; rw [z] at h3; rw [this] at h3; cases h3
  have f1 : H p1 = none := by rw [upd_ne n1.symm] at h1; exact h1
  have f2 : H p2 = none := by rw [upd_ne q12.symm, upd_ne q2.symm] at h2; exact h2
  have f3 : H p3 = none := by rw [upd_ne q23.symm, upd_ne q13.symm, upd_ne q3.symm] at h3; exact h3
  have sA : Same H (upd (upd (upd (upd (upd H p (.dK [])) p1 (.lst [])) p2 (.dT [])) p3 (.dT [])) p (.dK (mergeK [] [(Sum.inr "programs", V.ref pd), (Sum.inr "now", V.int 0), (Sum.inr "runs", V.ref p1), (Sum.inr "orders", V.ref p2), (Sum.inr "timers", V.ref p3)]))) := fun b o e => by
    rw [upd_ne (fun z => by rw [z, hp] at e; cases e)]
    exact (s0.trans (s1.trans (s2.trans s3))) _ _ e
  refine q p _ ⟨pd, p1, p2, p3, [], []⟩ ⟨upd_same, by rw [upd_ne n1.symm]; exact hl3, by rw [upd_ne q2.symm]; exact ho3, by rw [upd_ne q3.symm, upd_same]; rfl, .nil, hpg.keep (fun o e => sA _ _ e) (Same.fx sA), ?_, ⟨rfl, (fun i rr y z _ => by cases z), (fun i j y z e _ _ _ _ => by cases e), (fun y m => nomatch m)⟩, ?_, (fun y m => nomatch m)⟩ rfl sA ?_
  · intro m
    obtain ⟨pgV, hpd, _⟩ := hpg
    have m2 : pd ∈ [p, p1, p2, p3] := by simpa [LX.F, rsF, LX.O] using m
    simp only [List.mem_cons, List.not_mem_nil, or_false] at m2
    rcases m2 with e | e | e | e
    · rw [e, hp] at hpd; cases hpd
    · rw [e, f1] at hpd; cases hpd
    · rw [e, f2] at hpd; cases hpd
    · rw [e, f3] at hpd; cases hpd
  · show [p, p1, p2, p3].Nodup
    simp only [List.nodup_cons, List.mem_cons, List.not_mem_nil, or_false, not_or, not_false_eq_true, List.nodup_nil, and_true]
    exact ⟨⟨n1, q2, q3⟩, ⟨q12, q13⟩, q23⟩
  · intro b m
    have m2 : b ∈ [p, p1, p2, p3] := by simpa [LX.F, rsF, LX.O] using m
    simp only [List.mem_cons, List.not_mem_nil, or_false] at m2
    rcases m2 with e | e | e | e
    · rw [e]; exact hp
    · rw [e]; exact f1
    · rw [e]; exact f2
    · rw [e]; exact f3
theorem sc__law_there : FnScope ["house", "run"] ["house", "run"] (defScope s__law_there) := ⟨rfl, rfl, rfl, by decide +kernel, rfl, by decide +kernel, by decide +kernel⟩
theorem ok__law_there (T : Tx w K mg) : OkD P w K mg base d__law_there 4 ["house", "run"] (spLThere K) := by
  have sc := sc__law_there
  refine okD_mk (F__law_there T) sc (fun _ _ _ _ _ _ us hl => match us, hl with | [_, _], _ => rfl) ?len ?body
  case len => walk_at "len"
  intro cdv f A outer s H vs Q E hr h
  refine ⟨_, (pss_cons (ps_if ((pw_or (pt_cmp (pc_isN (pv 1))) (pw_or (pt_cmpR op_lt (pv 1) pe_int (nomark _)) (pw_or1 (pt_cmpR op_ge (pv 1) (pe_callB call_len_seq (by rfl) (z_len T) (by decide +kernel) (pa_cons (pe_dget (hu_of hr) (pv 0) pe_str (fun _ _ => rfl)) pa_nil)) (nomark _)))))).pt (pss_one (ps_ret pe_bl)) pss_nil)
    (pss_one (ps_ret (pe_cmpR op_notIn_seq (pe_ix ix_tup (pe_m0 (d := d_Run_waits) (c_Run T) (m_Run_waits T) (ok_Run_waits T) (hr.mono (by decide)) (pe_ix ix_list (pe_ix ix_list (pe_dget (hu_of hr) (pv 0) pe_str (fun _ _ => rfl)) (pv 1) (fun _ _ => rfl)) pe_int (fun _ _ => rfl))) pe_int (fun _ _ => rfl)) (pe_tup (pa_cons pe_str (pa_cons pe_str pa_nil))) (by rfl))))), ?_⟩
  obtain ⟨a, s, X, n, k, r, rfl, R, hk, q⟩ := h
  cases r with
  | none => exact ⟨_, rfl, _, rfl, ifT rfl (q H (fun _ _ h => h))⟩
  | some i =>
    refine ⟨_, rfl, _, rfl, ifF rfl ⟨_, rfl, _, _, rfl, rfl, _, rfl, ?_⟩⟩
    by_cases h0 : i < 0
    · refine ifT (decide_eq_true h0) (ifT rfl ?_)
      have := q H (fun _ _ h => h)
      unfold HS.thereW HS.there at this
      dsimp only at this
      rw [HS.run_no (.inl h0)] at this
      exact this
    refine ifF (decide_eq_false h0) ⟨_, rfl, _, rfl, a, _, rfl, dg_runs R.ob, _, _, rfl, .inl (SqL.of R.rl), _, _, rfl, rfl, _, rfl, ?_⟩
    rw [R.len]
    by_cases h1 : (s.runs.length : Int) ≤ i
    · refine ifT (decide_eq_true h1) ?_
      have := q H (fun _ _ h => h)
      unfold HS.thereW HS.there at this
      dsimp only at this
      rw [HS.run_no (.inr h1)] at this
      exact this
    obtain ⟨rr, e1, hi⟩ := HS.run_lt (s := s) (i := i) (by omega) (by omega)
    obtain ⟨y, hy, Y, hq, hix⟩ := R.get hi
    have g := hk.run hi
    have ei : ((i.toNat : Nat) : Int) = i := by omega
    refine ifF (decide_eq_false h1) ⟨_, rfl, a, _, rfl, dg_runs R.ob, _, rfl, X.rl, _, _, .ref y.q, rfl, rfl, SqL.of R.rl, by rw [← ei]; exact atI_nat hix, y.q, _, _, .ref y.a, rfl, rfl, SqL.of hq, atI_nat (j := 0) rfl, y.a, rfl, ml_run Y.run rfl, y.a, rr.st, y.x, rfl, Y.run, g.ro.rk.path, g.ro.rk.pl8, g.ro.rm.hear, fun v H1 s1 hv => ?_⟩
    obtain ⟨ds, ew⟩ := waits_head rr.st
    rw [ew] at hv
    obtain ⟨p, xs, rfl, hp, hx⟩ := td_tup.mp hv
    obtain ⟨v0, r0, rfl, hv0, _⟩ := tds_cons.mp hx
    cases td_str.mp hv0
    refine ⟨p, _, _, .str rr.st.mode.s, rfl, rfl, hp, atI_nat (j := 0) rfl, (by show 2 ≤ sizeLine; decide), fun p2 hp2 => ⟨p2, _, rfl, .inr (SqT.of upd_same), rfl, rfl, ?_⟩⟩
    have eg : inV (.str rr.st.mode.s) [.str "ended", .str "worn"] = rr.st.gone := by
      unfold RS.gone
      cases rr.st.mode <;> decide +kernel
    show Q (.bl (!inV (.str rr.st.mode.s) [.str "ended", .str "worn"])) _
    rw [eg]
    have := q _ (s1.trans (Same.new (o := .tup [.str "ended", .str "worn"]) hp2))
    unfold HS.thereW HS.there at this
    dsimp only at this
    rw [e1] at this
    exact this
theorem sc__law_open : FnScope ["house", "run", "ticket"] ["house", "run", "ticket"] (defScope s__law_open) := ⟨rfl, rfl, rfl, by decide +kernel, rfl, by decide +kernel, by decide +kernel⟩
theorem ok__law_open (T : Tx w K mg) : OkD P w K mg base d__law_open 5 ["house", "run", "ticket"] (spLOpen K) := by
  have sc := sc__law_open
  refine okD_mk (F__law_open T) sc (fun _ _ _ _ _ _ us hl => match us, hl with | [_, _, _], _ => rfl) ?len ?body
  case len => walk_at "len"
  intro cdv f A outer s H vs Q E hr h
  refine ⟨_, (pss_one (ps_ret (pe_and (pe_f (ok__law_there T) (hr.mono (by decide)) (by rfl) (g__law_there T) (pa_cons (pv 0) (pa_cons (pv 1) pa_nil))) (pe_one (pe_cmpR op_in_seq (pv 2) (pe_m0 (d := d_Run_open_tickets) (c_Run T) (m_Run_open_tickets T) (ok_Run_open_tickets T) (hr.mono (by decide)) (pe_ix ix_list (pe_ix ix_list (pe_dget (hu_of hr) (pv 0) pe_str (fun _ _ => rfl)) (pv 1) (fun _ _ => rfl)) pe_int (fun _ _ => rfl))) (by rfl)))))), ?_⟩
  obtain ⟨a, s, X, n, k, i, t, rfl, R, hk, q⟩ := h
  refine ⟨_, rfl, _, rfl, a, s, X, n, k, some i, rfl, R, hk, fun H1 s1 => ⟨_, rfl, ?_⟩⟩
  have R1 := R.same s1
  cases ht : s.there i with
  | false =>
    have eo : s.isOpen i t = false := by
      unfold HS.isOpen
      unfold HS.there at ht
      cases e : s.run i with
      | none => rfl
      | some rr => rw [e] at ht; simp at ht; simp [ht]
    exact ifF ht (by have := q H1 s1; rw [eo] at this; exact this)
  | true =>
    obtain ⟨rr, e1, hg⟩ := HS.there_run ht
    obtain ⟨_, _, hi, ei⟩ := HS.run_some e1
    obtain ⟨y, hy, Y, hq, hix⟩ := R1.get hi
    refine ifT ht ⟨_, rfl, _, rfl, a, _, rfl, dg_runs R1.ob, _, rfl, X.rl, _, _, .ref y.q, rfl, rfl, SqL.of R1.rl, by rw [← ei]; exact atI_nat hix, y.q, _, _, .ref y.a, rfl, rfl, SqL.of hq, atI_nat (j := 0) rfl, y.a, rfl, ml_run Y.run rfl, y.a, rr.st, y.x, rfl, Y.run, fun p H2 hp s2 hl => ⟨p, _, rfl, .inl (SqL.of hl), rfl, all_flat_ints _, ?_⟩⟩
    have eo : s.isOpen i t = inV (.int t) (rr.st.open.map V.int) := by
      have e2 : inV (.int t) (rr.st.open.map V.int) = decide (some t ∈ rr.st.open.map some) := inV_ints (some t) _
      rw [e2]
      unfold HS.isOpen
      rw [e1]
      dsimp only
      rw [hg]
      by_cases hm : t ∈ rr.st.open
      · rw [decide_eq_true hm, decide_eq_true (List.mem_map.mpr ⟨t, hm, rfl⟩)]; rfl
      · rw [decide_eq_false hm, decide_eq_false (fun z => by obtain ⟨u, m1, m2⟩ := List.mem_map.mp z; cases m2; exact hm m1)]; rfl
    have := q H2 (s1.trans s2)
    rw [eo] at this
    exact this
theorem sc__law_made : FnScope ["house", "name", "by"] ["house", "name", "by"] (defScope s__law_made) := ⟨rfl, rfl, rfl, by decide +kernel, rfl, by decide +kernel, by decide +kernel⟩
theorem ok__law_made (T : Tx w K mg) : OkD P w K mg base d__law_made 3 ["house", "name", "by"] (spLMade K) := by
  have sc := sc__law_made
  refine okD_mk (F__law_made T) sc (fun _ _ _ _ _ _ us hl => match us, hl with | [_, _, _], _ => rfl) ?len ?body
  case len => walk_at "len"
  intro cdv f A outer s H vs Q E hr h
  refine ⟨_, (pss_cons (ps_expr (pe_bm PySem.F.plainAttrs_list PySem.F.slot_list_append PySem.F.type_list_append mt_append (pe_dget (hu_of hr) (pv 0) pe_str (fun _ _ => rfl)) (pa_cons (pe_lst (pa_cons (pe_mk (d := d_Run___init__) (mk_Run T) (ok_Run___init__ T) (hr.mono (by decide)) (by rfl) (g_Run T) (pa_cons (pe_dget (hu_of hr) (pe_dget (hu_of hr) (pv 0) pe_str (fun _ _ => rfl)) (pv 1) (fun _ _ => rfl)) pa_nil)) (pa_cons (pv 1) (pa_cons (pv 2) (pa_cons (pe_lst pa_nil) pa_nil))))) pa_nil)))
    (pss_one (ps_ret (pe_op op_sub (pe_callB call_len_seq (by rfl) (z_len T) (by decide +kernel) (pa_cons (pe_dget (hu_of hr) (pv 0) pe_str (fun _ _ => rfl)) pa_nil)) pe_int)))), ?_⟩
  obtain ⟨a, s, X, nm, b, bv, prog, rfl, R, hp, hb, hl, q⟩ := h
  obtain ⟨pgV, hpd, htp⟩ := R.pg
  have hpv : ∃ v, lk pgV nm = some v ∧ TD K H v (.tuple (blkD prog)) := by
    rcases PK2.look nm htp with ⟨z, _⟩ | ⟨o2, v, z1, z2, z3⟩
    · rw [hp] at z; cases z
    · rw [hp] at z1; cases z1; exact ⟨v, z2, z3⟩
  obtain ⟨pv, epv, hpv⟩ := hpv
  have hg : some pv = valV (mk2 (Sum.inr : Str → Key) id pgV) (Sum.inr nm) := by rw [valV_mk2 inr_inj, epv]; rfl
  refine ⟨_, rfl, a, _, rfl, dg_runs R.ob, .inl ⟨rfl, _, SqL.of R.rl⟩, _, rfl, a, _, rfl, dg_programs R.ob, _, rfl, X.pd, pv, rfl, by rw [hg]; exact DGet.k (k := Sum.inr nm) hpd, fun x dx hx hdx hne => ?_⟩
  have s1 : Same H (upd (upd H dx (.own x)) x (.ins (cR K) dx [])) := (Same.new hdx).trans (Same.new (by rw [upd_ne (fun z => hne z.symm)]; exact hx))
  refine ⟨x, dx, pv, prog, rfl, upd_same, TD.fx (Same.fx s1) _ _ hpv, fun H2 xa hr hkeep hfresh => ⟨rfl, ?_⟩⟩
  have s2 : Same H H2 := fun b o e => hkeep b o (s1 b o e) (fun z => by rw [z, hx] at e; cases e)
  have R2 := R.same s2
  refine ⟨_, rfl, _, rfl, Nat.zero_le _, fun h hh => ⟨(by show 4 ≤ sizeLine; decide), fun q0 hq0 => ?_⟩⟩
  have s3 := Same.new (o := .lst []) hh
  have s4 := Same.new (o := .lst [.ref x, .str nm, bv, .ref h]) hq0
  refine ⟨X.rl, _, _, rfl, rfl, s4 _ _ (s3 _ _ R2.rl), by rw [R.lrun.len, sizeLine_eq]; omega, ?_⟩
  have T5 := R.to.newRun s2 hr (fun b m => (hfresh b m).elim (fun e => by rw [e]; exact hx) fun z => by
    by_cases e1 : b = x
    · rw [e1]; exact hx
    · rw [upd_ne e1] at z
      by_cases e2 : b = dx
      · rw [e2]; exact hdx
      · rw [upd_ne e2] at z; exact z) nm hb hh hq0
  refine ⟨_, rfl, a, _, rfl, dg_runs T5.1.ob, _, _, rfl, .inl (SqL.of T5.1.rl), _, _, rfl, rfl, ?_⟩
  have e : ((((X.rs ++ [(⟨x, xa, h, [], bv, [q0]⟩ : RX)]).map fun y : RX => V.ref y.q).length : Nat) : Int) - 1 = (s.runs.length : Int) := by
    rw [List.length_map, List.length_append, ← R.runs.len]
    simp only [List.length_cons, List.length_nil]
    omega
  have := q _ _ T5
  rw [← e] at this
  exact this rfl
theorem sc__law_timers : FnScope ["house", "told", "spot"] ["house"] (defScope s__law_timers) := ⟨rfl, rfl, rfl, by decide +kernel, rfl, by decide +kernel, by decide +kernel⟩
theorem ok__law_timers (T : Tx w K mg) : OkD P w K mg base d__law_timers 6 ["house"] (spLTimers K) := by
  have sc := sc__law_timers
  refine okD_mk (F__law_timers T) sc (fun _ _ _ _ _ _ us hl => match us, hl with | [_], _ => rfl) ?len ?body
  case len => walk_at "len"
  intro cdv f A outer s H vs Q E hr h
  refine ⟨_, (pss_cons (ps_lock (ps_setLc (i := 1) (own := [("spot", 2)]) (by rfl) sc.nd rfl rfl (sw_true rfl rfl rfl (by decide +kernel)) (pi_keys (pe_dget (hu_of hr) (pv 0) pe_str (fun _ _ => rfl))) (blkOk_by (N := ["house", "told", "spot"]) (sc := defScope s__law_timers) (by decide +kernel)) (fun _ _ _ _ _ => pg_name (i := 2) sc.nd rfl (Or.inl rfl)) (fun _ _ _ _ _ => (pts_one (pt_val (pe_f (ok__law_open T) (hr.mono (by decide)) (by rfl) (g__law_open T) (pa_cons (pv 0) (pa_cons (pe_ix (ix_tupK (K := K) rfl) (pv 2) pe_int (fun _ _ => rfl)) (pa_cons (pe_ix (ix_tupK (K := K) rfl) (pv 2) pe_int (fun _ _ => rfl)) pa_nil))))))) (fun _ _ _ _ _ => (pe_op (op_catTK (K := K) rfl) (pe_tup (pa_cons (pe_dget (hu_of hr) (pe_dget (hu_of hr) (pv 0) pe_str (fun _ _ => rfl)) (pv 2) (fun _ _ => rfl)) pa_nil)) (pv 2)))))
    (pss_one (ps_ret (pe_callB (cr_sortedD (enc := encTm) hr.units) (by rfl) (z_sorted T) (by decide +kernel) (pa_cons (pv 1) pa_nil))))), ?_⟩
  obtain ⟨a, s, X, n, k, rfl, R, hk, q⟩ := h
  have htl := hk.tl
  have hlk := hk.lk
  refine ⟨X.td, _, R.td, trivial, fun od => ?_⟩
  have RL := R.lock (.frz od (.dT (mk2 kII V.int s.timers)))
  refine ⟨_, rfl, a, _, rfl, dg_timers RL.ob, X.td, od, rfl, .inr ⟨_, upd_same, fun D hD => ?_⟩⟩
  have tdD : X.td ≠ D := fun z => by rw [← z, upd_same] at hD; cases hD
  refine lc_it walk_keysT (fun i H' => Same (upd H X.td (.frz od (.dT (mk2 kII V.int s.timers)))) H' ∧ ∃ acc, H' D = some (.lst acc) ∧ TDs K H' acc (((s.timers.take i).filter fun q => s.isOpen q.1.1 q.1.2).map fun q => encTm (tmOf q)) ∧ acc.length ≤ i)
    ⟨Same.new hD, [], upd_same, TDs.nil, Nat.le_refl _⟩ (fun i H' _ h => h.1 _ _ upd_same) ?_ ?_
  · rintro i v H' H'' hi ⟨s3, acc, hp3, ha3, hn3⟩ ⟨rfl, key, v0, qa, hkv, rfl, hqa⟩
    have hkv2 : ∃ e, s.timers[i]? = some e ∧ key = kII e.1 := by
      unfold mk2 at hkv
      rw [List.getElem?_map, Option.map_eq_some_iff] at hkv
      obtain ⟨e, h1, h2⟩ := hkv
      exact ⟨e, h1, (congrArg Prod.fst h2).symm⟩
    obtain ⟨⟨⟨r0, t0⟩, due⟩, hti, rfl⟩ := hkv2
    rw [mk2_length] at hi
    have R3 := RL.same s3
    have hq1 := SqT.of (K := K) hqa
    refine ⟨rfl, _, rfl, _, rfl, qa, _, _, .int r0, rfl, rfl, hq1, atI_nat (j := 0) rfl, _, rfl, qa, _, _, .int t0, rfl, rfl, hq1, atI_nat (j := 1) rfl, a, s, X, n, k, r0, t0, rfl, R3, hk, fun H4 s4 => ⟨_, rfl, ?_⟩⟩
    have R4 := R3.same s4
    cases ho : s.isOpen r0 t0 with
    | false =>
      refine ifF rfl ⟨s3.trans s4, acc, s4 _ _ hp3, ?_, by omega⟩
      rw [take_filt_neg (fun q : (Int × Int) × Int => s.isOpen q.1.1 q.1.2) (fun q => encTm (tmOf q)) hti ho]
      exact TDs.fx (Same.fx s4) _ _ ha3
    | true =>
      have hg : some (V.int due) = valV (mk2 kII V.int s.timers) (kII (r0, t0)) := by rw [valV_mk2 kII_inj, lk_nodup hk.tkd (List.mem_of_getElem? hti)]; rfl
      have hfz : H4 X.td = some (.frz od (.dT (mk2 kII V.int s.timers))) := s4 _ _ (s3 _ _ upd_same)
      refine ifT rfl ⟨_, rfl, a, _, rfl, dg_timers R4.ob, _, rfl, X.td, .int due, rfl, by rw [hg]; exact .inr ⟨_, kII (r0, t0), qa, .inr ⟨od, hfz⟩, rfl, s4 _ _ hqa, rfl⟩, (by show 1 ≤ sizeLine; decide), fun q1 hq1' => ?_⟩
      have s6 := Same.new (o := .tup [.int due]) hq1'
      refine ⟨_, rfl, q1, qa, _, _, rfl, rfl, SqT.of upd_same, SqT.of (s6 _ _ (s4 _ _ hqa)), (fun z => nomatch z), (by show 1 + 2 ≤ sizeLine; decide), (fun z => nomatch z), fun _ q3 hq3 => ?_⟩
      have s7 := Same.new (o := .tup ([V.int due] ++ [.int r0, .int t0])) hq3
      have s47 := (s4.trans s6).trans s7
      have hp7 := s47 _ _ hp3
      refine ⟨acc, hp7, by rw [sizeLine_eq]; omega, ?_, acc ++ [.ref q3], upd_same, ?_, by rw [List.length_append]; exact Nat.succ_le_succ hn3⟩
      · intro b o hb
        have hne : b ≠ D := fun z => by rw [z, hD] at hb; cases hb
        rw [upd_ne hne]
        exact s47 _ _ (s3 _ _ hb)
      · have fx := (Upto.upd (F := [D]) (o := .lst (acc ++ [.ref q3])) hp7 List.mem_cons_self (fun _ q => nomatch q) (fun _ _ q => nomatch q)).fx
        rw [take_filt_pos (fun q : (Int × Int) × Int => s.isOpen q.1.1 q.1.2) (fun q => encTm (tmOf q)) hti ho]
        exact (TDs.fx fx _ _ (TDs.fx (Same.fx s47) _ _ ha3)).snoc (TD.fx fx _ _ (TD.new upd_same (TDs.mk (td_int.mpr rfl) (TDs.mk (td_int.mpr rfl) (TDs.mk (td_int.mpr rfl) TDs.nil)))))
  · rintro H' ⟨s3, acc, hp3, ha3, hn3⟩
    rw [mk2_length, List.take_length] at ha3
    have hfz : H' X.td = some (.frz od (.dT (mk2 kII V.int s.timers))) := s3 _ _ upd_same
    refine ⟨hfz, ?_⟩
    have sU : Same H (upd H' X.td (.dT (mk2 kII V.int s.timers))) := fun b o e => by
      by_cases z : b = X.td
      · rw [z, R.td] at e; rw [z, upd_same]; exact e
      · rw [upd_ne z]; exact s3 _ _ (by rw [upd_ne z]; exact e)
    have fxU : Fx H' (upd H' X.td (.dT (mk2 kII V.int s.timers))) := fun b o e kk => by
      have z : b ≠ X.td := fun z => by
        rw [z, hfz] at e
        cases e
        rcases kk with ⟨_, kk⟩ | ⟨_, _, kk⟩ <;> cases kk
      rw [upd_ne z]; exact e
    have hpU : upd H' X.td (.dT (mk2 kII V.int s.timers)) D = some (.lst acc) := by rw [upd_ne tdD.symm]; exact hp3
    have haU : TDs K (upd H' X.td (.dT (mk2 kII V.int s.timers))) acc (s.timersRaw.map encTm) := by
      have := TDs.fx fxU _ _ ha3
      unfold HS.timersRaw
      rw [List.map_map]
      exact this
    refine ⟨_, rfl, D, acc, s.timersRaw, rfl, SqL.of hpU, haU, (fun b b' => by simp [encTm, PySem.W.alike, PySem.W.alikeAll]), (fun b => ⟨_, _, rfl⟩), (fun b => by simp [encTm, PyData.depth, PyData.depthAll]), fun p2 ys hp2 hys => ?_⟩
    have hn2 : H p2 = none := by
      cases e : H p2 with
      | none => rfl
      | some o => rw [sU _ _ e] at hp2; cases hp2
    exact q p2 ys _ (sU.trans (Same.new hp2)) hn2 upd_same (TDs.fx (Same.fx (Same.new hp2)) _ _ hys)
theorem sc__law_orders : FnScope ["house", "spots", "spot"] ["house"] (defScope s__law_orders) := ⟨rfl, rfl, rfl, by decide +kernel, rfl, by decide +kernel, by decide +kernel⟩
theorem ok__law_orders (T : Tx w K mg) : OkD P w K mg base d__law_orders 6 ["house"] (spLOrders K) := by
  have sc := sc__law_orders
  refine okD_mk (F__law_orders T) sc (fun _ _ _ _ _ _ us hl => match us, hl with | [_], _ => rfl) ?len ?body
  case len => walk_at "len"
  intro cdv f A outer s H vs Q E hr h
  refine ⟨_, (pss_cons (ps_setLc (i := 1) (own := [("spot", 2)]) (by rfl) sc.nd rfl rfl (sw_true rfl rfl rfl (by decide +kernel)) (pi_list (pe_callB (cr_sortedDT (by rfl) hr.units) (by rfl) (z_sorted T) (by decide +kernel) (pa_cons (pe_dget (hu_of hr) (pv 0) pe_str (fun _ _ => rfl)) pa_nil))) (blkOk_by (N := ["house", "spots", "spot"]) (sc := defScope s__law_orders) (by decide +kernel)) (fun _ _ _ _ _ => pg_name (i := 2) sc.nd rfl (Or.inl rfl)) (fun _ _ _ _ _ => (pts_one (pt_val (pe_f (ok__law_open T) (hr.mono (by decide)) (by rfl) (g__law_open T) (pa_cons (pv 0) (pa_cons (pe_ix (ix_tupK (K := K) rfl) (pv 2) pe_int (fun _ _ => rfl)) (pa_cons (pe_ix (ix_tupK (K := K) rfl) (pv 2) pe_int (fun _ _ => rfl)) pa_nil))))))) (fun _ _ _ _ _ => (pv 2)))
    (pss_one (ps_ret (pe_lc (own := [("spot", 2)]) (by rfl) sc.nd (pi_list (pv 1)) (blkOk_by (N := ["house", "spots", "spot"]) (sc := defScope s__law_orders) (by decide +kernel)) (fun _ _ _ _ _ => pg_name (i := 2) sc.nd rfl (Or.inl rfl)) (fun _ _ _ _ _ => pts_nil) (fun _ _ _ _ _ => (pe_op (op_catTK (K := K) rfl) (pe_op (op_catTK (K := K) rfl) (pe_tup (pa_cons pe_str pa_nil)) (pv 2)) (pe_dget (hu_of hr) (pe_dget (hu_of hr) (pv 0) pe_str (fun _ _ => rfl)) (pv 2) (fun _ _ => rfl)))))))), ?_⟩
  obtain ⟨a, s, X, n, k, rfl, R, hk, q⟩ := h
  have hol := hk.ol
  have hlk := hk.lk
  have hkeys : (mk2 kII id X.ordV).map (·.1) = (s.orders.map (·.1)).map kII := by rw [keys_mk2, PK2.keys R.tor]
  have hspl : s.spots.length = s.orders.length := by unfold HS.spots; rw [List.length_mergeSort, List.length_map]
  refine ⟨_, rfl, a, _, rfl, dg_orders R.ob, X.od, _, s.orders.map (·.1), rfl, R.od, hkeys, fun l qs hl hqs => ⟨l, rfl, ⟨_, SqL.of upd_same⟩, fun D hD => ?_⟩⟩
  have hqs2 : SpotsAt H qs s.spots := hqs
  have hql : qs.length = s.orders.length := by rw [hqs2.length, hspl]
  have s1 := Same.new (o := .lst (qs.map V.ref)) hl
  refine lc_list (xs := qs.map V.ref) (fun i H' => Same (upd H l (.lst (qs.map V.ref))) H' ∧ ∃ aq, H' D = some (.lst (aq.map V.ref)) ∧ SpotsAt H' aq ((s.spots.take i).filter fun k => s.isOpen k.1 k.2) ∧ aq.length ≤ i)
    ⟨Same.new hD, [], upd_same, .nil, Nat.le_refl _⟩ (fun i H' _ h => SqL.of (h.1 _ _ upd_same)) ?_ ?_
  · rintro i v H' hx ⟨s3, aq, hp3, ha3, hn3⟩
    rw [List.getElem?_map, Option.map_eq_some_iff] at hx
    obtain ⟨q0, hq0, rfl⟩ := hx
    have hi : i < s.orders.length := by rw [← hql]; exact (List.getElem?_eq_some_iff.mp hq0).1
    obtain ⟨key, hk1, hq1⟩ := spots_get i (hqs2.same (s1.trans s3)) hq0
    have R3 := R.same (s1.trans s3)
    have hsq : SqT K H' q0 [.int key.1, .int key.2] := SqT.of hq1
    refine ⟨rfl, _, rfl, _, rfl, q0, _, _, _, rfl, rfl, hsq, atI_nat (j := 0) rfl, _, rfl, q0, _, _, _, rfl, rfl, hsq, atI_nat (j := 1) rfl, a, s, X, n, k, key.1, key.2, rfl, R3.lrun, hk, fun H4 s4 => ⟨_, rfl, ?_⟩⟩
    cases ho : s.isOpen key.1 key.2 with
    | false =>
      refine ifF rfl ⟨s3.trans s4, aq, s4 _ _ hp3, ?_, by omega⟩
      have e : (s.spots.take (i + 1)).filter (fun k => s.isOpen k.1 k.2) = (s.spots.take i).filter fun k => s.isOpen k.1 k.2 := by
        rw [List.take_add_one, hk1]
        simp [ho]
      rw [e]
      exact SpotsAt.same ha3 s4
    | true =>
      have e : (s.spots.take (i + 1)).filter (fun k => s.isOpen k.1 k.2) = (s.spots.take i).filter (fun k => s.isOpen k.1 k.2) ++ [key] := by
        rw [List.take_add_one, hk1]
        simp [ho]
      refine ifT rfl ⟨_, rfl, aq.map V.ref, s4 _ _ hp3, by rw [List.length_map, sizeLine_eq]; omega, ?_, aq ++ [q0], by rw [List.map_append]; exact upd_same, ?_, by rw [List.length_append]; exact Nat.succ_le_succ hn3⟩
      · intro b o hb
        have hne : b ≠ D := fun z => by rw [z, hD] at hb; cases hb
        rw [upd_ne hne]
        exact s4 _ _ (s3 _ _ hb)
      · rw [e]
        have hD4 := s4 _ _ hp3
        have mv : ∀ {qs : List Addr} {ks : List (Int × Int)}, SpotsAt H4 qs ks → SpotsAt (upd H4 D (.lst (aq.map V.ref ++ [.ref q0]))) qs ks := fun h => h.mono fun q k z => by
          rw [upd_ne (fun e => by rw [e, hD4] at z; cases z)]; exact z
        refine mv (spots_snoc (s4 _ _ hq1) (SpotsAt.same ha3 s4))
  · rintro H' ⟨s3, aq, hp3, ha3, hn3⟩
    rw [List.length_map, hql, ← hspl, List.take_length] at ha3
    have s13 := s1.trans s3
    have R3 := R.same s13
    have hal : aq.length = s.openSpots.length := ha3.length
    have hal2 : s.openSpots.length ≤ s.spots.length := List.length_filter_le _ _
    refine ⟨_, rfl, D, rfl, ⟨_, SqL.of hp3⟩, fun D2 hD2 => lc_dataL hD2 (fun i => (s.openSpots.take i).map (ordD s)) rfl hp3 (by rw [List.length_map, sizeLine_eq]; omega) ?_ ?_⟩
    · intro i v H5 Qy Qn hx s5 ky kn
      rw [List.getElem?_map, Option.map_eq_some_iff] at hx
      obtain ⟨q0, hq0, rfl⟩ := hx
      obtain ⟨key, hk1, hq1⟩ := spots_get i (SpotsAt.same ha3 s5) hq0
      have hkm : key ∈ s.orders.map (·.1) := (List.mergeSort_perm (s.orders.map (·.1)) _).mem_iff.mp (List.mem_filter.mp (List.mem_of_getElem? hk1)).1
      obtain ⟨o, eo⟩ := lk_of_key hkm
      have R5 := R3.same s5
      have hov : ∃ v, lk X.ordV key = some v ∧ TD K H5 v (ordVD o) := by
        rcases PK2.look key R5.tor with ⟨z, _⟩ | ⟨o2, v, z1, z2, z3⟩
        · rw [eo] at z; cases z
        · rw [eo] at z1; cases z1; exact ⟨v, z2, z3⟩
      obtain ⟨v, ev, hv⟩ := hov
      obtain ⟨ov, o1, o2, rfl, ht, hv1, hv2⟩ := td2 hv
      cases td_str.mp hv1
      cases td_wd.mp hv2
      refine ⟨rfl, ifT (B := Qn H5) rfl ⟨(by show 1 ≤ sizeLine; decide), fun q1 hq1' => ?_⟩⟩
      have s6 := Same.new (o := .tup [.str "order"]) hq1'
      refine ⟨_, rfl, q1, q0, _, _, rfl, rfl, SqT.of upd_same, SqT.of (s6 _ _ hq1), (fun z => nomatch z), (by show 1 + 2 ≤ sizeLine; decide), (fun z => nomatch z), fun _ q3 hq3 => ?_⟩
      have s7 := Same.new (o := .tup ([V.str "order"] ++ [.int key.1, .int key.2])) hq3
      have R7 := R5.same (s6.trans s7)
      have hg : some (V.ref ov) = valV (mk2 kII id X.ordV) (kII key) := by rw [valV_mk2 kII_inj, ev]; rfl
      refine ⟨_, rfl, a, _, rfl, dg_orders R7.ob, _, rfl, X.od, .ref ov, rfl, by rw [hg]; exact DGet.t (k := kII key) R7.od ((s6.trans s7) _ _ hq1), ?_⟩
      refine ⟨q3, ov, _, _, rfl, rfl, SqT.of upd_same, Fx.t (Same.fx (s6.trans s7)) ht, (fun z => nomatch z), (by show 3 + 2 ≤ sizeLine; decide), (fun z => nomatch z), fun _ q5 hq5 => ?_⟩
      have s8 := Same.new (o := .tup (([V.str "order"] ++ [.int key.1, .int key.2]) ++ [.str o.1, wv o.2])) hq5
      refine ky _ _ (ordD s key) ((s6.trans s7).trans s8) ?_ (take_map_succ (ordD s) hk1)
      unfold ordD
      rw [eo]
      exact TD.new upd_same (TDs.mk (td_str.mpr rfl) (TDs.mk (td_int.mpr rfl) (TDs.mk (td_int.mpr rfl) (TDs.mk (td_str.mpr rfl) (TDs.mk (td_wd.mpr rfl) TDs.nil)))))
    · intro H5 acc s5 hD5 ha5
      rw [List.length_map, hal, List.take_length] at ha5
      have hn : H D2 = none := by
        cases e2 : H D2 with
        | none => rfl
        | some o => rw [s13 _ _ e2] at hD2; cases hD2
      exact q D2 acc H5 (s13.trans s5) hn hD5 ha5
end
end Ol
namespace Ol
open PySem PySem.Spec PyProof.Rows L2
local macro_rules | `(tactic| walk_at "len") => `(tactic| (intro vs H Q E h; first | (rcases h with ⟨hh, _⟩; rw [hh]; rfl) | (rcases h with ⟨_, hh, _⟩; rw [hh]; rfl) | (rcases h with ⟨_, _, hh, _⟩; rw [hh]; rfl) | (rcases h with ⟨_, _, _, hh, _⟩; rw [hh]; rfl) | (rcases h with ⟨_, _, _, _, hh, _⟩; rw [hh]; rfl) | (rcases h with ⟨_, _, _, _, _, hh, _⟩; rw [hh]; rfl) | (rcases h with ⟨_, _, _, _, _, _, hh, _⟩; rw [hh]; rfl) | (rcases h with ⟨_, _, _, _, _, _, _, hh, _⟩; rw [hh]; rfl) | (rcases h with ⟨_, _, _, _, _, _, _, _, hh, _⟩; rw [hh]; rfl) | (rcases h with ⟨_, _, _, _, _, _, _, _, _, hh, _⟩; rw [hh]; rfl) | (rcases h with ⟨_, _, _, _, _, _, _, _, _, _, hh, _⟩; rw [hh]; rfl) | (rcases h with ⟨_, _, _, _, _, _, _, _, _, _, _, hh, _⟩; rw [hh]; rfl) | (rcases h with ⟨_, _, _, _, _, _, _, _, _, _, _, _, hh, _⟩; rw [hh]; rfl) | (rcases h with ⟨_, _, _, _, _, _, _, _, _, _, _, _, _, hh, _⟩; rw [hh]; rfl) | (rcases h with ⟨_, _, _, _, _, _, _, _, _, _, _, _, _, _, hh, _⟩; rw [hh]; rfl) | (rcases h with ⟨_, _, _, _, _, _, _, _, _, _, _, _, _, _, _, hh, _⟩; rw [hh]; rfl) | (rcases h with ⟨_, _, _, _, _, _, _, _, _, _, _, _, _, _, _, _, hh, _⟩; rw [hh]; rfl) | (rcases h with ⟨_, _, _, _, _, _, _, _, _, _, _, _, _, _, _, _, _, hh, _⟩; rw [hh]; rfl) | (rcases h with ⟨_, _, _, _, _, _, _, _, _, _, _, _, _, _, _, _, _, _, hh, _⟩; rw [hh]; rfl) | (rcases h with ⟨_, _, _, _, _, _, _, _, _, _, _, _, _, _, _, _, _, _, _, hh, _⟩; rw [hh]; rfl)))
theorem Same.put {H H2 : Hp} {p : Addr} {o : HO} (hp : H p = none) (s : Same H H2) : Same H (upd H2 p o) := fun b u e => by
  rw [upd_ne (fun z => by rw [z, hp] at e; cases e)]
  exact s _ _ e
section
variable {P : Program} {w : World} {K : PySem.W.Frag} {mg : Str → Option Value} {base : Heap}
theorem sc__law_first : FnScope ["house", "some", "due", "one"] ["house", "some"] (defScope s__law_first) := ⟨rfl, rfl, rfl, by decide +kernel, rfl, by decide +kernel, by decide +kernel⟩
theorem ok__law_first (T : Tx w K mg) : OkD P w K mg base d__law_first 8 ["house", "some"] (spLFirst K) := by
  have sc := sc__law_first
  refine okD_mk (F__law_first T) sc (fun _ _ _ _ _ _ us hl => match us, hl with | [_, _], _ => rfl) ?len ?body
  case len => walk_at "len"
  intro cdv f A outer s H vs Q E hr h
  refine ⟨_, (pss_cons (ps_if (pt_cmpR op_eq (pe_ix ix_tup (pv 1) pe_int (fun _ _ => rfl)) pe_str (nomark _)) (pss_cons (ps_setLc (i := 2) (own := [("one", 3)]) (by rfl) sc.nd rfl rfl (sw_true rfl rfl rfl (by decide +kernel)) (pi_list (pe_f (ok__law_timers T) (hr.mono (by decide)) (by rfl) (g__law_timers T) (pa_cons (pv 0) pa_nil))) (blkOk_by (N := ["house", "some", "due", "one"]) (sc := defScope s__law_first) (by decide +kernel)) (fun _ _ _ _ _ => pg_name (i := 3) sc.nd rfl (Or.inl rfl)) (fun _ _ _ _ _ => (pts_one (pt_cmpR op_le (pe_ix (ix_tupK (K := K) rfl) (pv 3) pe_int (fun _ _ => rfl)) (pe_dget (hu_of hr) (pv 0) pe_str (fun _ _ => rfl)) (nomark _)))) (fun _ _ _ _ _ => (pv 3)))
    (pss_one (ps_ret (pe_lc (own := [("one", 3)]) (by rfl) sc.nd (pi_list (pv 2)) (blkOk_by (N := ["house", "some", "due", "one"]) (sc := defScope s__law_first) (by decide +kernel)) (fun _ _ _ _ _ => pg_name (i := 3) sc.nd rfl (Or.inl rfl)) (fun _ _ _ _ _ => pts_nil) (fun _ _ _ _ _ => (pe_tup (pa_cons (pe_ix (ix_tupK (K := K) rfl) (pv 3) pe_int (fun _ _ => rfl)) (pa_cons (pe_tup (pa_cons pe_str (pa_cons (pe_dget (hu_of hr) (pv 0) pe_str (fun _ _ => rfl)) (pa_cons (pe_ix (ix_tupK (K := K) rfl) (pv 3) pe_int (fun _ _ => rfl)) (pa_cons pe_non pa_nil))))) pa_nil)))))))) pss_nil)
    (pss_cons (ps_if ((pw_and (pt_cmpR op_eq (pe_ix ix_tup (pv 1) pe_int (fun _ _ => rfl)) pe_str (nomark _)) (pw_and1 (pt_cmp (pc_din (hu_of hr) (pe_ix ix_tup (pv 1) pe_int (fun _ _ => rfl)) (pe_dget (hu_of hr) (pv 0) pe_str (fun _ _ => rfl))) (by rfl))))).pt (pss_one (ps_ret (pe_lst (pa_cons (pe_tup (pa_cons (pe_f (ok__law_made T) (hr.mono (by decide)) (by rfl) (g__law_made T) (pa_cons (pv 0) (pa_cons (pe_ix ix_tup (pv 1) pe_int (fun _ _ => rfl)) (pa_cons pe_non pa_nil)))) (pa_cons (pe_tup (pa_cons pe_str (pa_cons (pe_dget (hu_of hr) (pv 0) pe_str (fun _ _ => rfl)) (pa_cons (pe_ix ix_tup (pv 1) pe_int (fun _ _ => rfl)) pa_nil)))) pa_nil))) pa_nil)))) pss_nil)
    (pss_cons (ps_if ((pw_and (pt_cmpR op_eq (pe_ix ix_tup (pv 1) pe_int (fun _ _ => rfl)) pe_str (nomark _)) (pw_and (pt_cmp (pc_din (hu_of hr) (pe_slice sl_tup (pv 1) (po_some pe_int) (po_some pe_int)) (pe_dget (hu_of hr) (pv 0) pe_str (fun _ _ => rfl))) (by rfl)) (pw_and1 (pt_val (pe_f (ok__law_open T) (hr.mono (by decide)) (by rfl) (g__law_open T) (pa_cons (pv 0) (pa_cons (pe_ix ix_tup (pv 1) pe_int (fun _ _ => rfl)) (pa_cons (pe_ix ix_tup (pv 1) pe_int (fun _ _ => rfl)) pa_nil))))))))).pt (pss_one (ps_ret (pe_lst (pa_cons (pe_tup (pa_cons (pe_ix ix_tup (pv 1) pe_int (fun _ _ => rfl)) (pa_cons (pe_tup (pa_cons pe_str (pa_cons (pe_dget (hu_of hr) (pv 0) pe_str (fun _ _ => rfl)) (pa_cons (pe_ix ix_tup (pv 1) pe_int (fun _ _ => rfl)) (pa_cons (pe_ix ix_tup (pv 1) pe_int (fun _ _ => rfl)) pa_nil))))) pa_nil))) pa_nil)))) pss_nil)
    (pss_cons (ps_if ((pw_and (pt_cmpR op_eq (pe_ix ix_tup (pv 1) pe_int (fun _ _ => rfl)) pe_str (nomark _)) (pw_and1 (pt_val (pe_f (ok__law_there T) (hr.mono (by decide)) (by rfl) (g__law_there T) (pa_cons (pv 0) (pa_cons (pe_ix ix_tup (pv 1) pe_int (fun _ _ => rfl)) pa_nil))))))).pt (pss_one (ps_ret (pe_lst (pa_cons (pe_tup (pa_cons (pe_ix ix_tup (pv 1) pe_int (fun _ _ => rfl)) (pa_cons (pe_tup (pa_cons pe_str (pa_cons (pe_dget (hu_of hr) (pv 0) pe_str (fun _ _ => rfl)) (pa_cons (pe_ix ix_tup (pv 1) pe_int (fun _ _ => rfl)) (pa_cons (pe_ix ix_tup (pv 1) pe_int (fun _ _ => rfl)) pa_nil))))) pa_nil))) pa_nil)))) pss_nil)
    (pss_one (ps_ret (pe_lst pa_nil))))))), ?_⟩
  obtain ⟨a, s, X, n, k, x, iv, rfl, R, hk, hiv, hok, hkl, q⟩ := h
  have hrl := hk.rl
  have hlk := hk.lk
  have htl := hk.tl
  have empty : ∀ (H1 : Hp), Same H H1 → s.first x = (s, []) → ∀ q0, H1 q0 = none → Q (.ref q0) (upd H1 q0 (.lst [])) := fun H1 s1 e q0 hq0 => by
    have hn : H q0 = none := by
      cases e2 : H q0 with
      | none => rfl
      | some o => rw [s1 _ _ e2] at hq0; cases hq0
    have T1 := R.to.same (s1.trans (Same.new (o := .lst []) hq0))
    exact q _ X q0 [] (by rw [e]; exact T1) upd_same (.inr hn) (R.notIn hn) (by rw [e]; exact TDs.nil) rfl
  have one : ∀ (H0 : Hp) (s' : HS) (X' : LX) (j : Nat) (h : Hap) (ds : List PyData) (vs : List V) (q1 q2 q3 : Addr), LawTo K H (X.F a) H0 a s' X' → X'.pd = X.pd → s.first x = (s', [(j, h)]) → h.d = .tuple ds → TDs K H0 vs ds → H0 q1 = none → upd H0 q1 (.tup vs) q2 = none → upd (upd H0 q1 (.tup vs)) q2 (.tup [.int (j : Int), .ref q1]) q3 = none →
      Q (.ref q3) (upd (upd (upd H0 q1 (.tup vs)) q2 (.tup [.int (j : Int), .ref q1])) q3 (.lst [.ref q2])) := fun H0 s' X' j h ds vs q1 q2 q3 T0 ep e eh hv h1 h2 h3 => by
    have s1 := Same.new (o := .tup vs) h1
    have s2 := Same.new (o := .tup [.int (j : Int), .ref q1]) h2
    have s3 := Same.new (o := .lst [.ref q2]) h3
    have T3 := ((T0.same s1).same s2).same s3
    have hn0 : H0 q3 = none := by
      cases e2 : H0 q3 with
      | none => rfl
      | some o => rw [s2 _ _ (s1 _ _ e2)] at h3; cases h3
    have hnF := T0.1.notIn hn0
    have hn : q3 ∈ X.F a ∨ H q3 = none := if m : q3 ∈ X.F a then .inl m else .inr (T0.2.free hn0 m)
    have td := row_td (K := K) (j := j) (h := h) eh upd_same (s2 _ _ upd_same) (TDs.fx (Same.fx (s1.trans s2)) _ _ hv)
    exact q _ X' q3 [.ref q2] (by rw [e]; exact T3) upd_same hn hnF (by rw [e]; exact TDs.mk (TD.fx (Same.fx s3) _ _ td) TDs.nil) ep
  cases x with
  | tick m =>
    simp only [Inp.d] at hiv
    obtain ⟨p, v1, v2, rfl, ht, h1, h2⟩ := td2 hiv
    cases td_str.mp h1
    refine ⟨_, rfl, p, _, _, _, rfl, rfl, ht, rfl, rfl, _, rfl, ifT (by decide +kernel) ?_⟩
    refine ⟨_, rfl, a, s, X, n, k, rfl, R, hk, fun p1 xs H1 s1 hp1 hx1 ht1 => ⟨p1, rfl, ⟨_, SqL.of hx1⟩, fun D1 hD1 => ?_⟩⟩
    have R1 := R.same s1
    have hxl : xs.length = s.openTimers.length := by rw [ht1.length, List.length_map]
    have hol : s.openTimers.length ≤ s.timers.length := by
      unfold HS.openTimers HS.timersRaw
      rw [List.length_mergeSort, List.length_map]
      exact List.length_filter_le _ _
    refine lc_dataL hD1 (fun i => ((s.openTimers.take i).filter fun t => decide (t.1 ≤ s.now)).map encTm) rfl hx1 (by rw [sizeLine_eq]; omega) ?_ ?_
    · intro i v H' Qy Qn hx s2 ky kn
      obtain ⟨d, hd1, hd2⟩ := ht1.getV hx
      rw [List.getElem?_map, Option.map_eq_some_iff] at hd1
      obtain ⟨tm, htm, rfl⟩ := hd1
      have hd3 := TD.fx (Same.fx s2) _ _ hd2
      obtain ⟨pt, w1, w2, w3, rfl, g1, g2, g3, g4⟩ := td3 hd3
      cases td_int.mp g2
      have R2 := R1.same s2
      refine ⟨rfl, _, rfl, pt, _, _, _, rfl, rfl, g1, rfl, _, rfl, a, _, rfl, dg_now R2.ob, _, _, rfl, rfl, _, rfl, ?_⟩
      by_cases hle : tm.1 ≤ s.now
      · exact ifT (decide_eq_true hle) ⟨_, rfl, ky _ _ (encTm tm) (fun _ _ h => h) hd3 (take_filt_pos (fun t : Tm => decide (t.1 ≤ s.now)) encTm htm (decide_eq_true hle))⟩
      · exact ifF (decide_eq_false hle) (kn _ (fun _ _ h => h) (take_filt_neg (fun t : Tm => decide (t.1 ≤ s.now)) encTm htm (decide_eq_false hle)))
    · intro H2 acc s2 hD2 ha2
      rw [hxl, List.take_length] at ha2
      have R2 := R1.same s2
      have hal : acc.length = (s.openTimers.filter fun t => decide (t.1 ≤ s.now)).length := by rw [ha2.length, List.length_map]
      have hal2 := List.length_filter_le (fun t : Tm => decide (t.1 ≤ s.now)) s.openTimers
      refine ⟨_, rfl, D1, rfl, ⟨_, SqL.of hD2⟩, fun D2 hD2' => lc_dataL hD2' (fun i => ((s.openTimers.filter fun t => decide (t.1 ≤ s.now)).take i).map fun t => rowD (t.2.1.toNat, .done s.now t.2.2 none)) rfl hD2 (by rw [sizeLine_eq]; omega) ?_ ?_⟩
      · intro i v H' Qy Qn hx s3 ky kn
        obtain ⟨d, hd1, hd2⟩ := ha2.getV hx
        rw [List.getElem?_map, Option.map_eq_some_iff] at hd1
        obtain ⟨tm, htm, rfl⟩ := hd1
        have hd3 := TD.fx (Same.fx s3) _ _ hd2
        obtain ⟨pt, w1, w2, w3, rfl, g1, g2, g3, g4⟩ := td3 hd3
        cases td_int.mp g2
        cases td_int.mp g3
        cases td_int.mp g4
        have R3 := R2.same s3
        have htm2 : tm ∈ s.openTimers := (List.mem_filter.mp (List.mem_of_getElem? htm)).1
        have ej := (HS.open_lt (tm_open htm2)).2
        refine ⟨rfl, ifT (B := Qn H') rfl ⟨_, rfl, pt, _, _, _, rfl, rfl, g1, rfl, _, rfl, a, _, rfl, dg_now R3.ob, _, rfl, pt, _, _, _, rfl, rfl, g1, rfl, (by show 4 ≤ sizeLine; decide), fun q1 hq1 => ⟨(by show 2 ≤ sizeLine; decide), fun q2 hq2 => ?_⟩⟩⟩
        have s4 := Same.new (o := .tup [.str "done", .int s.now, .int tm.2.2, .non]) hq1
        have s5 := Same.new (o := .tup [.int tm.2.1, .ref q1]) hq2
        refine ky _ _ (rowD (tm.2.1.toNat, .done s.now tm.2.2 none)) (s4.trans s5) (row_td rfl (by rw [upd_same, ej]) (s5 _ _ upd_same) (TDs.mk (td_str.mpr rfl) (TDs.mk (td_int.mpr rfl) (TDs.mk (td_int.mpr rfl) (TDs.mk (td_wd.mpr rfl) TDs.nil))))) (take_map_succ (fun t : Tm => rowD (t.2.1.toNat, .done s.now t.2.2 none)) htm)
      · intro H3 acc3 s3 hD3 ha3
        rw [hal, List.take_length] at ha3
        have s13 := (s1.trans s2).trans s3
        have hn : H D2 = none := by
          cases e2 : H D2 with
          | none => rfl
          | some o => rw [(s1.trans s2) _ _ e2] at hD2'; cases hD2'
        have T3 := R.to.same s13
        refine q H3 X D2 acc3 T3 hD3 (.inr hn) (R.notIn hn) ?_ rfl
        show TDs K H3 acc3 (List.map rowD (List.map _ _))
        rw [List.map_map]
        exact ha3
  | start m nm u =>
    simp only [Inp.d] at hiv
    obtain ⟨p, v1, v2, v3, v4, rfl, ht, h1, h2, h3, h4⟩ := td4 hiv
    cases td_str.mp h1
    cases td_str.mp h3
    cases td_wd.mp h4
    obtain ⟨o, hg, ho⟩ := R.pg.get nm
    refine ⟨_, rfl, p, _, _, _, rfl, rfl, ht, rfl, rfl, _, rfl, ifF (by decide +kernel) ⟨_, rfl, p, _, _, _, rfl, rfl, ht, rfl, rfl, _, rfl, ifT (by decide +kernel) ⟨_, rfl, p, _, _, _, rfl, rfl, ht, rfl, _, rfl, a, _, rfl, dg_programs R.ob, X.pd, o, rfl, hg, _, rfl, ?_⟩⟩⟩
    cases e : lk s.progs nm with
    | none =>
      have ef : s.first (.start m nm u) = (s, []) := by simp only [HS.first, e]
      exact ifF (by rw [ho, e]; rfl) ⟨_, rfl, p, _, _, _, rfl, rfl, ht, rfl, rfl, _, rfl, ifF (by decide +kernel) (ifF rfl ⟨_, rfl, p, _, _, _, rfl, rfl, ht, rfl, rfl, _, rfl, ifF (by decide +kernel) (ifF rfl ⟨Nat.zero_le _, fun q0 hq0 => empty H (fun _ _ h => h) ef q0 hq0⟩)⟩)⟩
    | some b =>
      have ef : s.first (.start m nm u) = (s.newRun nm none b, [(s.runs.length, .begin s.now u)]) := by simp only [HS.first, e]
      refine ifT (by rw [ho, e]; rfl) ⟨_, rfl, _, rfl, p, _, _, _, rfl, rfl, ht, rfl, a, s, X, nm, none, .non, b, rfl, R, e, td_none.mpr rfl, (by omega), fun H2 X2 T2 e2p => ?_⟩
      have ht2 := Fx.t T2.2.fx ht
      refine ⟨_, rfl, a, _, rfl, dg_now T2.1.ob, _, rfl, p, _, _, _, rfl, rfl, ht2, rfl, (by show 3 ≤ sizeLine; decide), fun q1 hq1 => ⟨(by show 2 ≤ sizeLine; decide), fun q2 hq2 => ⟨(by show 1 ≤ sizeLine; decide), fun q3 hq3 => ?_⟩⟩⟩
      exact one H2 _ X2 s.runs.length (.begin s.now u) _ _ q1 q2 q3 T2 e2p ef rfl (TDs.mk (td_str.mpr rfl) (TDs.mk (td_int.mpr rfl) (TDs.mk (td_wd.mpr rfl) TDs.nil))) hq1 hq2 hq3
  | answer m r t u =>
    simp only [Inp.d] at hiv
    obtain ⟨p, v1, v2, v3, v4, v5, rfl, ht, h1, h2, h3, h4, h5⟩ := td5 hiv
    cases td_str.mp h1
    cases td_int.mp h3
    cases td_int.mp h4
    cases td_wd.mp h5
    refine ⟨_, rfl, p, _, _, _, rfl, rfl, ht, rfl, rfl, _, rfl, ifF (by decide +kernel) ⟨_, rfl, p, _, _, _, rfl, rfl, ht, rfl, rfl, _, rfl, ifF (by decide +kernel) (ifF rfl ⟨_, rfl, p, _, _, _, rfl, rfl, ht, rfl, rfl, _, rfl, ifT (by decide +kernel) ⟨_, rfl, _, rfl, _, rfl, p, _, rfl, ht, (by show ¬ (2 = 0 ∧ 4 = 5); decide), fun q0 hq0 => ?_⟩⟩)⟩⟩
    have s0 := Same.new (o := .tup [.int r, .int t]) hq0
    have R0 := R.same s0
    have ht0 := Fx.t (Same.fx s0) ht
    have hsome : (valV (mk2 kII id X.ordV) (kII (r, t))).isSome = (lk s.orders (r, t)).isSome := by
      rw [valV_mk2 kII_inj]
      rcases PK2.look (r, t) R.tor with ⟨z, z2⟩ | ⟨o2, v, z1, z2, z3⟩
      · rw [z, z2]; rfl
      · rw [z1, z2]; rfl
    refine ⟨_, rfl, a, _, rfl, dg_orders R0.ob, X.od, _, rfl, DGet.t (k := kII (r, t)) R0.od upd_same, _, rfl, ?_⟩
    cases ho : (lk s.orders (r, t)).isSome with
    | false =>
      have ef : s.first (.answer m r t u) = (s, []) := if_neg (fun z => by rw [ho] at z; cases z.1)
      exact ifF (by rw [hsome, ho]) (ifF rfl ⟨_, rfl, p, _, _, _, rfl, rfl, ht0, rfl, rfl, _, rfl, ifF (by decide +kernel) (ifF rfl ⟨Nat.zero_le _, fun q1 hq1 => empty _ s0 ef q1 hq1⟩)⟩)
    | true =>
      refine ifT (by rw [hsome, ho]) ⟨_, rfl, _, rfl, p, _, _, _, rfl, rfl, ht0, rfl, _, rfl, p, _, _, _, rfl, rfl, ht0, rfl, a, s, X, n, k, r, t, rfl, R0.lrun, hk, fun H1 s1 => ⟨_, rfl, ?_⟩⟩
      have s01 := s0.trans s1
      have R1 := R.same s01
      have ht1 := Fx.t (Same.fx s01) ht
      cases hop : s.isOpen r t with
      | false =>
        have ef : s.first (.answer m r t u) = (s, []) := if_neg (fun z => by rw [hop] at z; cases z.2)
        exact ifF rfl ⟨_, rfl, p, _, _, _, rfl, rfl, ht1, rfl, rfl, _, rfl, ifF (by decide +kernel) (ifF rfl ⟨Nat.zero_le _, fun q1 hq1 => empty _ s01 ef q1 hq1⟩)⟩
      | true =>
        have ej := (HS.open_lt hop).2
        have ef : s.first (.answer m r t u) = (s, [(r.toNat, .done s.now t u)]) := if_pos ⟨ho, hop⟩
        refine ifT rfl ⟨_, rfl, p, _, _, _, rfl, rfl, ht1, rfl, _, rfl, a, _, rfl, dg_now R1.ob, _, rfl, p, _, _, _, rfl, rfl, ht1, rfl, _, rfl, p, _, _, _, rfl, rfl, ht1, rfl, (by show 4 ≤ sizeLine; decide), fun q1 hq1 => ⟨(by show 2 ≤ sizeLine; decide), fun q2 hq2 => ⟨(by show 1 ≤ sizeLine; decide), fun q3 hq3 => ?_⟩⟩⟩
        rw [← ej] at hq3 ⊢
        exact one H1 s X r.toNat (.done s.now t u) _ _ q1 q2 q3 (R.to.same s01) rfl ef rfl (TDs.mk (td_str.mpr rfl) (TDs.mk (td_int.mpr rfl) (TDs.mk (td_int.mpr rfl) (TDs.mk (td_wd.mpr rfl) TDs.nil)))) hq1 hq2 hq3
  | letter m r key u =>
    simp only [Inp.d] at hiv
    obtain ⟨p, v1, v2, v3, v4, v5, rfl, ht, h1, h2, h3, h4, h5⟩ := td5 hiv
    cases td_str.mp h1
    cases td_int.mp h3
    cases td_str.mp h4
    cases td_wd.mp h5
    refine ⟨_, rfl, p, _, _, _, rfl, rfl, ht, rfl, rfl, _, rfl, ifF (by decide +kernel) ⟨_, rfl, p, _, _, _, rfl, rfl, ht, rfl, rfl, _, rfl, ifF (by decide +kernel) (ifF rfl ⟨_, rfl, p, _, _, _, rfl, rfl, ht, rfl, rfl, _, rfl, ifF (by decide +kernel) (ifF rfl ⟨_, rfl, p, _, _, _, rfl, rfl, ht, rfl, rfl, _, rfl, ifT (by decide +kernel) ⟨_, rfl, _, rfl, p, _, _, _, rfl, rfl, ht, rfl, a, s, X, n, k, some r, rfl, R.lrun, hk, fun H1 s1 => ⟨_, rfl, ?_⟩⟩⟩)⟩)⟩⟩
    have R1 := R.same s1
    have ht1 := Fx.t (Same.fx s1) ht
    cases hop : s.there r with
    | false =>
      have ef : s.first (.letter m r key u) = (s, []) := if_neg (fun z => by rw [hop] at z; cases z)
      exact ifF hop ⟨Nat.zero_le _, fun q1 hq1 => empty _ s1 ef q1 hq1⟩
    | true =>
      have ej := (HS.there_lt hop).2
      have ef : s.first (.letter m r key u) = (s, [(r.toNat, .letter s.now key u)]) := if_pos hop
      refine ifT hop ⟨_, rfl, p, _, _, _, rfl, rfl, ht1, rfl, _, rfl, a, _, rfl, dg_now R1.ob, _, rfl, p, _, _, _, rfl, rfl, ht1, rfl, _, rfl, p, _, _, _, rfl, rfl, ht1, rfl, (by show 4 ≤ sizeLine; decide), fun q1 hq1 => ⟨(by show 2 ≤ sizeLine; decide), fun q2 hq2 => ⟨(by show 1 ≤ sizeLine; decide), fun q3 hq3 => ?_⟩⟩⟩
      rw [← ej] at hq3 ⊢
      exact one H1 s X r.toNat (.letter s.now key u) _ _ q1 q2 q3 (R.to.same s1) rfl ef rfl (TDs.mk (td_str.mpr rfl) (TDs.mk (td_int.mpr rfl) (TDs.mk (td_str.mpr rfl) (TDs.mk (td_wd.mpr rfl) TDs.nil)))) hq1 hq2 hq3
theorem sc__law_follow : FnScope ["house", "run", "command", "row", "by"] ["house", "run", "command", "row"] (defScope s__law_follow) := ⟨rfl, rfl, rfl, by decide +kernel, rfl, by decide +kernel, by decide +kernel⟩
theorem ok__law_follow (T : Tx w K mg) : OkD P w K mg base d__law_follow 8 ["house", "run", "command", "row"] (spLFollow K) := by
  have sc := sc__law_follow
  refine okD_mk (F__law_follow T) sc (fun _ _ _ _ _ _ us hl => match us, hl with | [_, _, _, _], _ => rfl) ?len ?body
  case len => walk_at "len"
  intro cdv f A outer s H vs Q E hr h
  refine ⟨_, (pss_cons (ps_if (pt_cmpR op_eq (pe_ix ix_tup (pv 2) pe_int (fun _ _ => rfl)) pe_str (nomark _)) (pss_cons (ps_dput (hu_of hr) (pe_dget (hu_of hr) (pv 0) pe_str (fun _ _ => rfl)) (pe_tup (pa_cons (pv 1) (pa_cons (pe_ix ix_tup (pv 2) pe_int (fun _ _ => rfl)) pa_nil))) (pe_slice sl_tup (pv 2) (po_some pe_int) po_none) rfl)
    (pss_one (ps_ret (pe_lst (pa_cons (pe_op op_catT (pe_tup (pa_cons pe_str (pa_cons (pv 1) pa_nil))) (pe_slice sl_tup (pv 2) (po_some pe_int) po_none)) pa_nil))))) pss_nil)
    (pss_cons (ps_if (pt_cmpR op_eq (pe_ix ix_tup (pv 2) pe_int (fun _ _ => rfl)) pe_str (nomark _)) (pss_one (ps_dput (hu_of hr) (pe_dget (hu_of hr) (pv 0) pe_str (fun _ _ => rfl)) (pe_tup (pa_cons (pv 1) (pa_cons (pe_ix ix_tup (pv 2) pe_int (fun _ _ => rfl)) pa_nil))) (pe_ix ix_tup (pv 2) pe_int (fun _ _ => rfl)) rfl)) pss_nil)
    (pss_cons (ps_if ((pw_and (pt_cmpR op_eq (pe_ix ix_tup (pv 2) pe_int (fun _ _ => rfl)) pe_str (nomark _)) (pw_and1 (pt_cmp (pc_din (hu_of hr) (pe_ix ix_tup (pv 2) pe_int (fun _ _ => rfl)) (pe_dget (hu_of hr) (pv 0) pe_str (fun _ _ => rfl))) (by rfl))))).pt (pss_one (ps_expr (pe_bm PySem.F.plainAttrs_list PySem.F.slot_list_append PySem.F.type_list_append mt_append (pv 3) (pa_cons (pe_tup (pa_cons (pe_f (ok__law_made T) (hr.mono (by decide)) (by rfl) (g__law_made T) (pa_cons (pv 0) (pa_cons (pe_ix ix_tup (pv 2) pe_int (fun _ _ => rfl)) (pa_cons (pe_tup (pa_cons (pv 1) (pa_cons (pe_ix ix_tup (pv 2) pe_int (fun _ _ => rfl)) pa_nil))) pa_nil)))) (pa_cons (pe_tup (pa_cons pe_str (pa_cons (pe_dget (hu_of hr) (pv 0) pe_str (fun _ _ => rfl)) (pa_cons (pe_ix ix_tup (pv 2) pe_int (fun _ _ => rfl)) pa_nil)))) pa_nil))) pa_nil)))) (pss_one (ps_if (pt_cmpR op_eq (pe_ix ix_tup (pv 2) pe_int (fun _ _ => rfl)) pe_str (nomark _)) (pss_one (ps_expr (pe_bm PySem.F.plainAttrs_list PySem.F.slot_list_append PySem.F.type_list_append mt_append (pv 3) (pa_cons (pe_tup (pa_cons (pv 1) (pa_cons (pe_tup (pa_cons pe_str (pa_cons (pe_dget (hu_of hr) (pv 0) pe_str (fun _ _ => rfl)) (pa_cons (pe_ix ix_tup (pv 2) pe_int (fun _ _ => rfl)) (pa_cons pe_non pa_nil))))) pa_nil))) pa_nil)))) pss_nil)))
    (pss_cons (ps_if (pt_cmpR op_eq (pe_ix ix_tup (pv 2) pe_int (fun _ _ => rfl)) pe_str (nomark _)) (pss_cons (ps_if (pt_not (pt_val (pe_f (ok__law_there T) (hr.mono (by decide)) (by rfl) (g__law_there T) (pa_cons (pv 0) (pa_cons (pe_ix ix_tup (pv 2) pe_int (fun _ _ => rfl)) pa_nil))))) (pss_one (ps_ret (pe_lst (pa_cons (pe_op op_catT (pe_tup (pa_cons pe_str (pa_cons (pv 1) pa_nil))) (pe_slice sl_tup (pv 2) (po_some pe_int) po_none)) pa_nil)))) pss_nil)
    (pss_one (ps_expr (pe_bm PySem.F.plainAttrs_list PySem.F.slot_list_append PySem.F.type_list_append mt_append (pv 3) (pa_cons (pe_tup (pa_cons (pe_ix ix_tup (pv 2) pe_int (fun _ _ => rfl)) (pa_cons (pe_op op_catT (pe_tup (pa_cons pe_str (pa_cons (pe_dget (hu_of hr) (pv 0) pe_str (fun _ _ => rfl)) pa_nil))) (pe_slice sl_tup (pv 2) (po_some pe_int) po_none)) pa_nil))) pa_nil))))) pss_nil)
    (pss_cons (ps_set (i := 4) sc.nd rfl (Or.inl rfl) (pe_ix ix_list (pe_ix ix_list (pe_dget (hu_of hr) (pv 0) pe_str (fun _ _ => rfl)) (pv 1) (fun _ _ => rfl)) pe_int (fun _ _ => rfl)))
    (pss_cons (ps_if ((pw_and (pt_cmpR op_eq (pe_ix ix_tup (pv 2) pe_int (fun _ _ => rfl)) pe_str (nomark _)) (pw_and (pt_cmp (pc_notN (pv 4))) (pw_and1 (pt_val (pe_f (ok__law_open T) (hr.mono (by decide)) (by rfl) (g__law_open T) (pa_cons (pv 0) (pa_cons (pe_ix ix_tup (pv 4) pe_int (fun _ _ => rfl)) (pa_cons (pe_ix ix_tup (pv 4) pe_int (fun _ _ => rfl)) pa_nil))))))))).pt (pss_one (ps_expr (pe_bm PySem.F.plainAttrs_list PySem.F.slot_list_append PySem.F.type_list_append mt_append (pv 3) (pa_cons (pe_tup (pa_cons (pe_ix ix_tup (pv 4) pe_int (fun _ _ => rfl)) (pa_cons (pe_tup (pa_cons pe_str (pa_cons (pe_dget (hu_of hr) (pv 0) pe_str (fun _ _ => rfl)) (pa_cons (pe_ix ix_tup (pv 4) pe_int (fun _ _ => rfl)) (pa_cons (pe_ix ix_tup (pv 2) pe_int (fun _ _ => rfl)) pa_nil))))) pa_nil))) pa_nil)))) pss_nil)
    (pss_one (ps_ret (pe_dget2 (hu_of hr) (pe_disp (pps_cons pe_str (pe_lst (pa_cons (pe_op op_catT (pe_tup (pa_cons pe_str (pa_cons (pv 1) pa_nil))) (pe_slice sl_tup (pv 2) (po_some pe_int) po_none)) pa_nil)) (pps_cons pe_str (pe_lst (pa_cons (pe_tup (pa_cons pe_str (pa_cons (pv 1) pa_nil))) pa_nil)) pps_nil)) (by rfl) (by rfl) (fun z => by cases z) (by decide)) (pe_ix ix_tup (pv 2) pe_int (fun _ _ => rfl)) (pe_lst pa_nil) ⟨by rfl, by rfl, by rfl, by rfl⟩))))))))), ?_⟩
  obtain ⟨a, s, X, n, k, i, c, cv, pr, rd, rfl, W, hk, hcv, hi, hrl, q⟩ := h
  have W0 := W.to
  have hol9 := hk.ol
  have htl9 := hk.tl
  have hlk9 := hk.lk
  have hrl9 := hk.rl
  obtain ⟨rr, hrr⟩ : ∃ rr, s.runs[i]? = some rr := ⟨_, List.getElem?_eq_getElem hi⟩
  cases c with
  | order t z u =>
    have hcv' := hcv
    simp only [Cmd.d] at hcv
    obtain ⟨p, v1, v2, v3, v4, rfl, ht, h1, h2, h3, h4⟩ := td4 hcv
    cases td_str.mp h1
    cases td_int.mp h2
    cases td_str.mp h3
    cases td_wd.mp h4
    refine ⟨_, rfl, p, _, _, _, rfl, rfl, ht, rfl, rfl, _, rfl, ifT (by decide +kernel) ?_⟩
    refine ⟨_, rfl, _, rfl, p, _, rfl, ht, (by show ¬ (2 = 0 ∧ 4 = 4); decide), fun q0 hq0 => ?_⟩
    have s0 := Same.new (o := .tup [.str z, wv u]) hq0
    have W1 := W0.same s0
    have ht1 := Fx.t (Same.fx s0) ht
    refine ⟨_, rfl, a, _, rfl, dg_orders W1.1.h.ob, _, rfl, _, rfl, p, _, _, _, rfl, rfl, ht1, rfl, (by show 2 ≤ sizeLine; decide), fun q1 hq1 => ?_⟩
    have s1 := Same.new (o := .tup [.int (i : Int), .int t]) hq1
    have W2 := W1.same s1
    have hlen : (mk2 kII id X.ordV).length < sizeLine := by rw [mk2_length, ← PK2.len W.h.tor, sizeLine_eq]; omega
    refine ⟨X.od, _, rfl, DPut.t (k := kII ((i : Int), t)) W2.1.h.od upd_same hlen, ?_⟩
    have T3 := W2.1.h.to.putOrder ((i : Int), t) (z, u) (v := .ref q0) (TD.new (s1 _ _ upd_same) (TDs.mk (td_str.mpr rfl) (TDs.mk (td_wd.mpr rfl) TDs.nil)))
    have W3 := W2.house T3
    have ht3 := Fx.t T3.2.fx (Fx.t (Same.fx s1) ht1)
    refine ⟨_, rfl, (by show 2 ≤ sizeLine; decide), fun e1 he1 => ⟨_, rfl, _, rfl, p, _, rfl, Fx.t (Same.fx (Same.new (o := .tup [.str "order", .int (i : Int)]) he1)) ht3, (by show ¬ (1 = 0 ∧ 4 = 4); decide), fun e2 he2 => ?_⟩⟩
    have t2 := Same.new (o := .tup [.str "order", .int (i : Int)]) he1
    have t3 := Same.new (o := .tup [.int t, .str z, wv u]) he2
    refine ⟨e1, e2, _, _, rfl, rfl, SqT.of (t3 _ _ upd_same), SqT.of upd_same, (fun z => nomatch z), (by show 2 + 3 ≤ sizeLine; decide), (fun z => nomatch z), fun _ e3 he3 => ⟨(by show 1 ≤ sizeLine; decide), fun e4 he4 => ?_⟩⟩
    have t35 := Same.new (o := .tup ([.str "order", .int (i : Int)] ++ [.int t, .str z, wv u])) he3
    have t4 := Same.new (o := .lst [.ref e3]) he4
    refine q _ { X with ordV := pt X.ordV ((i : Int), t) (.ref q0) } e4 [.ref e3] ?_ upd_same (TDs.mk (TD.new (t4 _ _ upd_same) (TDs.mk (td_str.mpr rfl) (TDs.mk (td_int.mpr rfl) (TDs.mk (td_int.mpr rfl) (TDs.mk (td_str.mpr rfl) (TDs.mk (td_wd.mpr rfl) TDs.nil)))))) TDs.nil) rfl
    have e0 : rd ++ (s.follow i (.order t z u)).2.1.map rowD = rd := List.append_nil _
    rw [e0]
    exact W3.same (t2.trans (t3.trans (t35.trans t4)))
  | timer t due =>
    have hcv' := hcv
    simp only [Cmd.d] at hcv
    obtain ⟨p, v1, v2, v3, rfl, ht, h1, h2, h3⟩ := td3 hcv
    cases td_str.mp h1
    cases td_int.mp h2
    cases td_int.mp h3
    refine ⟨_, rfl, p, _, _, _, rfl, rfl, ht, rfl, rfl, _, rfl, ifF (by decide +kernel) ⟨_, rfl, p, _, _, _, rfl, rfl, ht, rfl, rfl, _, rfl, ifT (by decide +kernel) ?_⟩⟩
    refine ⟨_, rfl, p, _, _, _, rfl, rfl, ht, rfl, _, rfl, a, _, rfl, dg_timers W.h.ob, _, rfl, _, rfl, p, _, _, _, rfl, rfl, ht, rfl, (by show 2 ≤ sizeLine; decide), fun q1 hq1 => ?_⟩
    have s1 := Same.new (o := .tup [.int (i : Int), .int t]) hq1
    have W2 := W0.same s1
    have hlen : (mk2 kII V.int s.timers).length < sizeLine := by rw [mk2_length, sizeLine_eq]; omega
    refine ⟨X.td, _, rfl, DPut.t (k := kII ((i : Int), t)) W2.1.h.td upd_same hlen, ?_⟩
    have T3 := W2.1.h.to.putTimer ((i : Int), t) due
    have W3 := W2.house T3
    have ht3 := Fx.t T3.2.fx (Fx.t (Same.fx s1) ht)
    refine ⟨_, rfl, p, _, _, _, rfl, rfl, ht3, rfl, rfl, _, rfl, ifF (by decide +kernel) (ifF rfl ⟨_, rfl, p, _, _, _, rfl, rfl, ht3, rfl, rfl, _, rfl, ifF (by decide +kernel) ⟨_, rfl, p, _, _, _, rfl, rfl, ht3, rfl, rfl, _, rfl, ifF (by decide +kernel) ?_⟩⟩)⟩
    have hrr1 : ({ s with timers := pt s.timers ((i : Int), t) due } : HS).runs[i]? = some rr := hrr
    obtain ⟨yb, hyb, Yb, hqb, hixb⟩ := (W3).1.h.lrun.get hrr1
    refine ⟨_, rfl, a, _, rfl, dg_runs (W3).1.h.ob, _, rfl, _, _, _, .ref yb.q, rfl, rfl, SqL.of (W3).1.h.rl, atI_nat hixb, yb.q, _, _, yb.bv, rfl, rfl, SqL.of hqb, atI_nat (j := 2) rfl, ?_⟩
    refine ⟨_, rfl, p, _, _, _, rfl, rfl, ht3, rfl, rfl, _, rfl, ifF (by decide +kernel) (ifF rfl ?_)⟩
    have e0 : rd ++ (s.follow i (.timer t due)).2.1.map rowD = rd := List.append_nil _
    refine fun pd hpd => ⟨_, rfl, (by show 2 ≤ sizeLine; decide), fun e1 he1 => ⟨_, rfl, _, rfl, p, _, rfl, Fx.t (Same.fx ((Same.new (o := .dK []) hpd).trans (Same.new (o := .tup [.str "ended", .int (i : Int)]) he1))) ht3, (by show ¬ (1 = 0 ∧ _); exact fun z => absurd z.1 (by decide)), fun e2 he2 => ?_⟩⟩
    have t1 := Same.new (o := .dK []) hpd
    have t2 := Same.new (o := .tup [.str "ended", .int (i : Int)]) he1
    have t3 := Same.new (o := .tup [.int t, .int due]) he2
    refine ⟨e1, e2, _, _, rfl, rfl, SqT.of (t3 _ _ upd_same), SqT.of upd_same, (fun z => nomatch z), (by first | (show 2 + 1 ≤ sizeLine; decide) | (show 2 + 2 ≤ sizeLine; decide) | (show 2 + 3 ≤ sizeLine; decide)), (fun z => nomatch z), fun _ e3 he3 => ⟨(by show 1 ≤ sizeLine; decide), fun e4 he4 => ?_⟩⟩
    have t35 := Same.new (o := .tup ([.str "ended", .int (i : Int)] ++ [.int t, .int due])) he3
    have t4 := Same.new (o := .lst [.ref e3]) he4
    refine ⟨_, rfl, (by show 2 ≤ sizeLine; decide), fun e5 he5 => ⟨(by show 1 ≤ sizeLine; decide), fun e6 he6 => ?_⟩⟩
    have t5 := Same.new (o := .tup [.str "worn", .int (i : Int)]) he5
    have t6 := Same.new (o := .lst [.ref e5]) he6
    have tb := (t2.trans (t3.trans (t35.trans t4))).trans (t5.trans t6)
    have tall := t1.trans tb
    have hpd6 := tb _ _ upd_same
    have tput := Same.put (o := .dK (mergeK [] [(Sum.inr "end", .ref e4), (Sum.inr "worn", .ref e6)])) hpd tall
    refine ⟨hpd6, [(.inr "end", .ref e4), (.inr "worn", .ref e6)], rfl, (by show 2 ≤ 15; decide), pd, rfl, .inl ⟨_, .inl upd_same⟩, _, rfl, p, _, _, _, rfl, rfl, Fx.t (Same.fx tput) ht3, rfl, Nat.zero_le _, fun z hz => ?_⟩
    have tz := Same.new (o := .lst []) hz
    have Wz := (W3).same (tput.trans tz)
    refine ⟨_, DGet.k (k := Sum.inr "timer") (tz _ _ upd_same), ?_⟩
    exact q _ X z [] (by rw [e0]; exact Wz) (upd_same) (TDs.nil) rfl
  | child t z u =>
    have hcv' := hcv
    simp only [Cmd.d] at hcv
    obtain ⟨p, v1, v2, v3, v4, rfl, ht, h1, h2, h3, h4⟩ := td4 hcv
    cases td_str.mp h1
    cases td_int.mp h2
    cases td_str.mp h3
    cases td_wd.mp h4
    obtain ⟨o, hg, ho⟩ := W.h.pg.get z
    refine ⟨_, rfl, p, _, _, _, rfl, rfl, ht, rfl, rfl, _, rfl, ifF (by decide +kernel) ⟨_, rfl, p, _, _, _, rfl, rfl, ht, rfl, rfl, _, rfl, ifF (by decide +kernel) ⟨_, rfl, p, _, _, _, rfl, rfl, ht, rfl, rfl, _, rfl, ifT (by decide +kernel) ⟨_, rfl, p, _, _, _, rfl, rfl, ht, rfl, _, rfl, a, _, rfl, dg_programs W.h.ob, X.pd, o, rfl, hg, _, rfl, ?_⟩⟩⟩⟩
    cases e : lk s.progs z with
    | none =>
      have ef : s.follow i (.child t z u) = (s, [(i, .done s.now t none)], []) := by simp only [HS.follow, e]
      obtain ⟨rv, r1, r2⟩ := W0.rowAt
      refine ifF (by rw [ho, e]; rfl) ⟨_, rfl, p, _, _, _, rfl, rfl, ht, rfl, rfl, _, rfl, ifT (by decide +kernel) ⟨_, rfl, .inl ⟨rfl, _, SqL.of r1⟩, _, rfl, _, rfl, a, _, rfl, dg_now W.h.ob, _, rfl, p, _, _, _, rfl, rfl, ht, rfl, (by show 4 ≤ sizeLine; decide), fun q1 hq1 => ⟨(by show 2 ≤ sizeLine; decide), fun q2 hq2 => ?_⟩⟩⟩
      have s2 := Same.new (o := .tup [.str "done", .int s.now, .int t, .non]) hq1
      have s3 := Same.new (o := .tup [.int (i : Int), .ref q1]) hq2
      have W3 := (W0.same s2).same s3
      refine ⟨pr, rv, _, rfl, rfl, s3 _ _ (s2 _ _ r1), by rw [r2]; exact line16 hrl, ?_⟩
      have W4 := W3.addRow (s3 _ _ (s2 _ _ r1)) (v := .ref q2) (d := rowD (i, .done s.now t none)) (row_td rfl upd_same (s3 _ _ upd_same) (TDs.mk (td_str.mpr rfl) (TDs.mk (td_int.mpr rfl) (TDs.mk (td_int.mpr rfl) (TDs.mk (td_wd.mpr rfl) TDs.nil)))))
      have ht4 := Fx.t W4.2.fx ht
      refine ⟨_, rfl, p, _, _, _, rfl, rfl, ht4, rfl, rfl, _, rfl, ifF (by decide +kernel) ?_⟩
      have hrr1 := hrr
      obtain ⟨yb, hyb, Yb, hqb, hixb⟩ := (W4).1.h.lrun.get hrr1
      refine ⟨_, rfl, a, _, rfl, dg_runs (W4).1.h.ob, _, rfl, _, _, _, .ref yb.q, rfl, rfl, SqL.of (W4).1.h.rl, atI_nat hixb, yb.q, _, _, yb.bv, rfl, rfl, SqL.of hqb, atI_nat (j := 2) rfl, ?_⟩
      refine ⟨_, rfl, p, _, _, _, rfl, rfl, ht4, rfl, rfl, _, rfl, ifF (by decide +kernel) (ifF rfl ?_)⟩
      refine fun pd hpd => ⟨_, rfl, (by show 2 ≤ sizeLine; decide), fun e1 he1 => ⟨_, rfl, _, rfl, p, _, rfl, Fx.t (Same.fx ((Same.new (o := .dK []) hpd).trans (Same.new (o := .tup [.str "ended", .int (i : Int)]) he1))) ht4, (by show ¬ (1 = 0 ∧ _); exact fun z => absurd z.1 (by decide)), fun e2 he2 => ?_⟩⟩
      have t1 := Same.new (o := .dK []) hpd
      have t2 := Same.new (o := .tup [.str "ended", .int (i : Int)]) he1
      have t3 := Same.new (o := .tup [.int t, .str z, wv u]) he2
      refine ⟨e1, e2, _, _, rfl, rfl, SqT.of (t3 _ _ upd_same), SqT.of upd_same, (fun z => nomatch z), (by first | (show 2 + 1 ≤ sizeLine; decide) | (show 2 + 2 ≤ sizeLine; decide) | (show 2 + 3 ≤ sizeLine; decide)), (fun z => nomatch z), fun _ e3 he3 => ⟨(by show 1 ≤ sizeLine; decide), fun e4 he4 => ?_⟩⟩
      have t35 := Same.new (o := .tup ([.str "ended", .int (i : Int)] ++ [.int t, .str z, wv u])) he3
      have t4 := Same.new (o := .lst [.ref e3]) he4
      refine ⟨_, rfl, (by show 2 ≤ sizeLine; decide), fun e5 he5 => ⟨(by show 1 ≤ sizeLine; decide), fun e6 he6 => ?_⟩⟩
      have t5 := Same.new (o := .tup [.str "worn", .int (i : Int)]) he5
      have t6 := Same.new (o := .lst [.ref e5]) he6
      have tb := (t2.trans (t3.trans (t35.trans t4))).trans (t5.trans t6)
      have tall := t1.trans tb
      have hpd6 := tb _ _ upd_same
      have tput := Same.put (o := .dK (mergeK [] [(Sum.inr "end", .ref e4), (Sum.inr "worn", .ref e6)])) hpd tall
      refine ⟨hpd6, [(.inr "end", .ref e4), (.inr "worn", .ref e6)], rfl, (by show 2 ≤ 15; decide), pd, rfl, .inl ⟨_, .inl upd_same⟩, _, rfl, p, _, _, _, rfl, rfl, Fx.t (Same.fx tput) ht4, rfl, Nat.zero_le _, fun z hz => ?_⟩
      have tz := Same.new (o := .lst []) hz
      have Wz := (W4).same (tput.trans tz)
      refine ⟨_, DGet.k (k := Sum.inr "child") (tz _ _ upd_same), ?_⟩
      exact q _ X z [] (by rw [ef]; exact Wz) (upd_same) (by rw [ef]; exact TDs.nil) rfl
    | some b =>
      have ef : s.follow i (.child t z u) = (s.newRun z (some (i, t)) b, [(s.runs.length, .begin s.now u)], []) := by simp only [HS.follow, e]
      obtain ⟨rv0, r01, r02⟩ := W0.rowAt
      refine ifT (by rw [ho, e]; rfl) ⟨_, rfl, .inl ⟨rfl, _, SqL.of r01⟩, _, rfl, _, rfl, p, _, _, _, rfl, rfl, ht, rfl, _, rfl, _, rfl, p, _, _, _, rfl, rfl, ht, rfl, (by show 2 ≤ sizeLine; decide), fun q0 hq0 => ?_⟩
      have s0 := Same.new (o := .tup [.int (i : Int), .int t]) hq0
      have W1 := W0.same s0
      refine ⟨a, s, X, z, some (i, t), .ref q0, b, rfl, W1.1.h, e, TD.new upd_same (TDs.mk (td_int.mpr rfl) (TDs.mk (td_int.mpr rfl) TDs.nil)), (by omega), fun H2 X2 T2 e2p => ?_⟩
      have W2 := W1.house T2
      obtain ⟨rv, r1, r2⟩ := W2.rowAt
      have ht2 := Fx.t T2.2.fx (Fx.t (Same.fx s0) ht)
      refine ⟨_, rfl, a, _, rfl, dg_now W2.1.h.ob, _, rfl, p, _, _, _, rfl, rfl, ht2, rfl, (by show 3 ≤ sizeLine; decide), fun q1 hq1 => ⟨(by show 2 ≤ sizeLine; decide), fun q2 hq2 => ?_⟩⟩
      have s2 := Same.new (o := .tup [.str "begin", .int s.now, wv u]) hq1
      have s3 := Same.new (o := .tup [.int (s.runs.length : Int), .ref q1]) hq2
      have W3 := (W2.same s2).same s3
      refine ⟨pr, rv, _, rfl, rfl, s3 _ _ (s2 _ _ r1), by rw [r2]; exact line16 hrl, ?_⟩
      have W4 := W3.addRow (s3 _ _ (s2 _ _ r1)) (v := .ref q2) (d := rowD (s.runs.length, .begin s.now u)) (row_td rfl upd_same (s3 _ _ upd_same) (TDs.mk (td_str.mpr rfl) (TDs.mk (td_int.mpr rfl) (TDs.mk (td_wd.mpr rfl) TDs.nil))))
      have ht4 := Fx.t W4.2.fx ht
      refine ⟨_, rfl, p, _, _, _, rfl, rfl, ht4, rfl, rfl, _, rfl, ifF (by decide +kernel) ?_⟩
      have hrr1 : (s.newRun z (some (i, t)) b).runs[i]? = some rr := by show (s.runs ++ [_])[i]? = _; rw [List.getElem?_append_left hi]; exact hrr
      obtain ⟨yb, hyb, Yb, hqb, hixb⟩ := (W4).1.h.lrun.get hrr1
      refine ⟨_, rfl, a, _, rfl, dg_runs (W4).1.h.ob, _, rfl, _, _, _, .ref yb.q, rfl, rfl, SqL.of (W4).1.h.rl, atI_nat hixb, yb.q, _, _, yb.bv, rfl, rfl, SqL.of hqb, atI_nat (j := 2) rfl, ?_⟩
      refine ⟨_, rfl, p, _, _, _, rfl, rfl, ht4, rfl, rfl, _, rfl, ifF (by decide +kernel) (ifF rfl ?_)⟩
      refine fun pd hpd => ⟨_, rfl, (by show 2 ≤ sizeLine; decide), fun e1 he1 => ⟨_, rfl, _, rfl, p, _, rfl, Fx.t (Same.fx ((Same.new (o := .dK []) hpd).trans (Same.new (o := .tup [.str "ended", .int (i : Int)]) he1))) ht4, (by show ¬ (1 = 0 ∧ _); exact fun z => absurd z.1 (by decide)), fun e2 he2 => ?_⟩⟩
      have t1 := Same.new (o := .dK []) hpd
      have t2 := Same.new (o := .tup [.str "ended", .int (i : Int)]) he1
      have t3 := Same.new (o := .tup [.int t, .str z, wv u]) he2
      refine ⟨e1, e2, _, _, rfl, rfl, SqT.of (t3 _ _ upd_same), SqT.of upd_same, (fun z => nomatch z), (by first | (show 2 + 1 ≤ sizeLine; decide) | (show 2 + 2 ≤ sizeLine; decide) | (show 2 + 3 ≤ sizeLine; decide)), (fun z => nomatch z), fun _ e3 he3 => ⟨(by show 1 ≤ sizeLine; decide), fun e4 he4 => ?_⟩⟩
      have t35 := Same.new (o := .tup ([.str "ended", .int (i : Int)] ++ [.int t, .str z, wv u])) he3
      have t4 := Same.new (o := .lst [.ref e3]) he4
      refine ⟨_, rfl, (by show 2 ≤ sizeLine; decide), fun e5 he5 => ⟨(by show 1 ≤ sizeLine; decide), fun e6 he6 => ?_⟩⟩
      have t5 := Same.new (o := .tup [.str "worn", .int (i : Int)]) he5
      have t6 := Same.new (o := .lst [.ref e5]) he6
      have tb := (t2.trans (t3.trans (t35.trans t4))).trans (t5.trans t6)
      have tall := t1.trans tb
      have hpd6 := tb _ _ upd_same
      have tput := Same.put (o := .dK (mergeK [] [(Sum.inr "end", .ref e4), (Sum.inr "worn", .ref e6)])) hpd tall
      refine ⟨hpd6, [(.inr "end", .ref e4), (.inr "worn", .ref e6)], rfl, (by show 2 ≤ 15; decide), pd, rfl, .inl ⟨_, .inl upd_same⟩, _, rfl, p, _, _, _, rfl, rfl, Fx.t (Same.fx tput) ht4, rfl, Nat.zero_le _, fun z hz => ?_⟩
      have tz := Same.new (o := .lst []) hz
      have Wz := (W4).same (tput.trans tz)
      refine ⟨_, DGet.k (k := Sum.inr "child") (tz _ _ upd_same), ?_⟩
      exact q _ X2 z [] (by rw [ef]; exact Wz) (upd_same) (by rw [ef]; exact TDs.nil) e2p
  | send r z u =>
    have hcv' := hcv
    simp only [Cmd.d] at hcv
    obtain ⟨p, v1, v2, v3, v4, rfl, ht, h1, h2, h3, h4⟩ := td4 hcv
    cases td_str.mp h1
    cases td_wd.mp h2
    cases td_str.mp h3
    cases td_wd.mp h4
    refine ⟨_, rfl, p, _, _, _, rfl, rfl, ht, rfl, rfl, _, rfl, ifF (by decide +kernel) ⟨_, rfl, p, _, _, _, rfl, rfl, ht, rfl, rfl, _, rfl, ifF (by decide +kernel) ⟨_, rfl, p, _, _, _, rfl, rfl, ht, rfl, rfl, _, rfl, ifF (by decide +kernel) (ifF rfl ⟨_, rfl, p, _, _, _, rfl, rfl, ht, rfl, rfl, _, rfl, ifF (by decide +kernel) ⟨_, rfl, p, _, _, _, rfl, rfl, ht, rfl, rfl, _, rfl, ifT (by decide +kernel) ⟨_, rfl, _, rfl, p, _, _, _, rfl, rfl, ht, rfl, a, s, X, n, k, r, rfl, W.h.lrun, hk, fun H1 s1 => ⟨_, rfl, ?_⟩⟩⟩⟩)⟩⟩⟩
    have W1 := W0.same s1
    have ht1 := Fx.t (Same.fx s1) ht
    cases htr : s.thereW r with
    | false =>
      have ef : s.follow i (.send r z u) = (s, [], [.tuple [.str "lost", .int (i : Int), wd r, .str z, wd u]]) := by
        cases r with
        | none => rfl
        | some j => rw [show s.thereW (some j) = s.there j from rfl] at htr; simp only [HS.follow, htr]; rfl
      refine ifT rfl ⟨_, rfl, (by show 2 ≤ sizeLine; decide), fun e1 he1 => ⟨_, rfl, _, rfl, p, _, rfl, Fx.t (Same.fx (Same.new (o := .tup [.str "lost", .int (i : Int)]) he1)) ht1, (by show ¬ (1 = 0 ∧ 4 = 4); decide), fun e2 he2 => ?_⟩⟩
      have t2 := Same.new (o := .tup [.str "lost", .int (i : Int)]) he1
      have t3 := Same.new (o := .tup [wv r, .str z, wv u]) he2
      refine ⟨e1, e2, _, _, rfl, rfl, SqT.of (t3 _ _ upd_same), SqT.of upd_same, (fun z => nomatch z), (by show 2 + 3 ≤ sizeLine; decide), (fun z => nomatch z), fun _ e3 he3 => ⟨(by show 1 ≤ sizeLine; decide), fun e4 he4 => ?_⟩⟩
      have t35 := Same.new (o := .tup ([.str "lost", .int (i : Int)] ++ [wv r, .str z, wv u])) he3
      have t4 := Same.new (o := .lst [.ref e3]) he4
      refine q _ X e4 [.ref e3] ?_ upd_same (by rw [ef]; exact (TDs.mk (TD.new (t4 _ _ upd_same) (TDs.mk (td_str.mpr rfl) (TDs.mk (td_int.mpr rfl) (TDs.mk (td_wd.mpr rfl) (TDs.mk (td_str.mpr rfl) (TDs.mk (td_wd.mpr rfl) TDs.nil)))))) TDs.nil)) rfl
      rw [ef]
      rw [List.map_nil, List.append_nil]
      exact W1.same (t2.trans (t3.trans (t35.trans t4)))
    | true =>
      obtain ⟨j, rfl⟩ : ∃ j, r = some j := by
        cases r with
        | none => cases htr
        | some j => exact ⟨j, rfl⟩
      have htr2 : s.there j = true := htr
      have ef : s.follow i (.send (some j) z u) = (s, [(j.toNat, .letter s.now z u)], []) := by simp only [HS.follow, htr2]; rfl
      have ej := (HS.there_lt htr2).2
      obtain ⟨rv, r1, r2⟩ := W1.rowAt
      refine ifF rfl ⟨_, rfl, .inl ⟨rfl, _, SqL.of r1⟩, _, rfl, p, _, _, _, rfl, rfl, ht1, rfl, _, rfl, a, _, rfl, dg_now W1.1.h.ob, (by show 2 ≤ sizeLine; decide), fun e1 he1 => ⟨_, rfl, _, rfl, p, _, rfl, Fx.t (Same.fx (Same.new (o := .tup [.str "letter", .int s.now]) he1)) ht1, (by show ¬ (2 = 0 ∧ 4 = 4); decide), fun e2 he2 => ?_⟩⟩
      have t2 := Same.new (o := .tup [.str "letter", .int s.now]) he1
      have t3 := Same.new (o := .tup [.str z, wv u]) he2
      refine ⟨e1, e2, _, _, rfl, rfl, SqT.of (t3 _ _ upd_same), SqT.of upd_same, (fun z => nomatch z), (by show 2 + 2 ≤ sizeLine; decide), (fun z => nomatch z), fun _ e3 he3 => ⟨(by show 2 ≤ sizeLine; decide), fun e4 he4 => ?_⟩⟩
      have t35 := Same.new (o := .tup ([.str "letter", .int s.now] ++ [.str z, wv u])) he3
      have t4 := Same.new (o := .tup [.int j, .ref e3]) he4
      have tt := t2.trans (t3.trans (t35.trans t4))
      have W3 := W1.same tt
      refine ⟨pr, rv, _, rfl, rfl, tt _ _ r1, by rw [r2]; exact line16 hrl, ?_⟩
      have W4 := W3.addRow (tt _ _ r1) (v := .ref e4) (d := rowD (j.toNat, .letter s.now z u)) (row_td rfl (by rw [upd_same, ej]) (t4 _ _ upd_same) (TDs.mk (td_str.mpr rfl) (TDs.mk (td_int.mpr rfl) (TDs.mk (td_str.mpr rfl) (TDs.mk (td_wd.mpr rfl) TDs.nil)))))
      have ht4 := Fx.t W4.2.fx ht
      have hrr1 := hrr
      obtain ⟨yb, hyb, Yb, hqb, hixb⟩ := (W4).1.h.lrun.get hrr1
      refine ⟨_, rfl, a, _, rfl, dg_runs (W4).1.h.ob, _, rfl, _, _, _, .ref yb.q, rfl, rfl, SqL.of (W4).1.h.rl, atI_nat hixb, yb.q, _, _, yb.bv, rfl, rfl, SqL.of hqb, atI_nat (j := 2) rfl, ?_⟩
      refine ⟨_, rfl, p, _, _, _, rfl, rfl, ht4, rfl, rfl, _, rfl, ifF (by decide +kernel) (ifF rfl ?_)⟩
      clear t2 t3 t35 t4
      refine fun pd hpd => ⟨_, rfl, (by show 2 ≤ sizeLine; decide), fun e1 he1 => ⟨_, rfl, _, rfl, p, _, rfl, Fx.t (Same.fx ((Same.new (o := .dK []) hpd).trans (Same.new (o := .tup [.str "ended", .int (i : Int)]) he1))) ht4, (by show ¬ (1 = 0 ∧ _); exact fun z => absurd z.1 (by decide)), fun e2 he2 => ?_⟩⟩
      have t1 := Same.new (o := .dK []) hpd
      have t2 := Same.new (o := .tup [.str "ended", .int (i : Int)]) he1
      have t3 := Same.new (o := .tup [wv (some j), .str z, wv u]) he2
      refine ⟨e1, e2, _, _, rfl, rfl, SqT.of (t3 _ _ upd_same), SqT.of upd_same, (fun z => nomatch z), (by first | (show 2 + 1 ≤ sizeLine; decide) | (show 2 + 2 ≤ sizeLine; decide) | (show 2 + 3 ≤ sizeLine; decide)), (fun z => nomatch z), fun _ e3 he3 => ⟨(by show 1 ≤ sizeLine; decide), fun e4 he4 => ?_⟩⟩
      have t35 := Same.new (o := .tup ([.str "ended", .int (i : Int)] ++ [wv (some j), .str z, wv u])) he3
      have t4 := Same.new (o := .lst [.ref e3]) he4
      refine ⟨_, rfl, (by show 2 ≤ sizeLine; decide), fun e5 he5 => ⟨(by show 1 ≤ sizeLine; decide), fun e6 he6 => ?_⟩⟩
      have t5 := Same.new (o := .tup [.str "worn", .int (i : Int)]) he5
      have t6 := Same.new (o := .lst [.ref e5]) he6
      have tb := (t2.trans (t3.trans (t35.trans t4))).trans (t5.trans t6)
      have tall := t1.trans tb
      have hpd6 := tb _ _ upd_same
      have tput := Same.put (o := .dK (mergeK [] [(Sum.inr "end", .ref e4), (Sum.inr "worn", .ref e6)])) hpd tall
      refine ⟨hpd6, [(.inr "end", .ref e4), (.inr "worn", .ref e6)], rfl, (by show 2 ≤ 15; decide), pd, rfl, .inl ⟨_, .inl upd_same⟩, _, rfl, p, _, _, _, rfl, rfl, Fx.t (Same.fx tput) ht4, rfl, Nat.zero_le _, fun z hz => ?_⟩
      have tz := Same.new (o := .lst []) hz
      have Wz := (W4).same (tput.trans tz)
      refine ⟨_, DGet.k (k := Sum.inr "send") (tz _ _ upd_same), ?_⟩
      exact q _ X z [] (by rw [ef]; exact Wz) (upd_same) (by rw [ef]; exact TDs.nil) rfl
  | drop t =>
    have hcv' := hcv
    simp only [Cmd.d] at hcv
    obtain ⟨p, v1, v2, rfl, ht, h1, h2⟩ := td2 hcv
    cases td_str.mp h1
    cases td_int.mp h2
    refine ⟨_, rfl, p, _, _, _, rfl, rfl, ht, rfl, rfl, _, rfl, ifF (by decide +kernel) ⟨_, rfl, p, _, _, _, rfl, rfl, ht, rfl, rfl, _, rfl, ifF (by decide +kernel) ⟨_, rfl, p, _, _, _, rfl, rfl, ht, rfl, rfl, _, rfl, ifF (by decide +kernel) (ifF rfl ⟨_, rfl, p, _, _, _, rfl, rfl, ht, rfl, rfl, _, rfl, ifF (by decide +kernel) ⟨_, rfl, p, _, _, _, rfl, rfl, ht, rfl, rfl, _, rfl, ifF (by decide +kernel) ?_⟩⟩)⟩⟩⟩
    have hrr1 := hrr
    obtain ⟨yb, hyb, Yb, hqb, hixb⟩ := (W0).1.h.lrun.get hrr1
    refine ⟨_, rfl, a, _, rfl, dg_runs (W0).1.h.ob, _, rfl, _, _, _, .ref yb.q, rfl, rfl, SqL.of (W0).1.h.rl, atI_nat hixb, yb.q, _, _, yb.bv, rfl, rfl, SqL.of hqb, atI_nat (j := 2) rfl, ?_⟩
    refine ⟨_, rfl, p, _, _, _, rfl, rfl, ht, rfl, rfl, _, rfl, ifF (by decide +kernel) (ifF rfl ?_)⟩
    have e0 : rd ++ (s.follow i (.drop t)).2.1.map rowD = rd := List.append_nil _
    refine fun pd hpd => ⟨_, rfl, (by show 2 ≤ sizeLine; decide), fun e1 he1 => ⟨_, rfl, _, rfl, p, _, rfl, Fx.t (Same.fx ((Same.new (o := .dK []) hpd).trans (Same.new (o := .tup [.str "ended", .int (i : Int)]) he1))) ht, (by show ¬ (1 = 0 ∧ _); exact fun z => absurd z.1 (by decide)), fun e2 he2 => ?_⟩⟩
    have t1 := Same.new (o := .dK []) hpd
    have t2 := Same.new (o := .tup [.str "ended", .int (i : Int)]) he1
    have t3 := Same.new (o := .tup [.int t]) he2
    refine ⟨e1, e2, _, _, rfl, rfl, SqT.of (t3 _ _ upd_same), SqT.of upd_same, (fun z => nomatch z), (by first | (show 2 + 1 ≤ sizeLine; decide) | (show 2 + 2 ≤ sizeLine; decide) | (show 2 + 3 ≤ sizeLine; decide)), (fun z => nomatch z), fun _ e3 he3 => ⟨(by show 1 ≤ sizeLine; decide), fun e4 he4 => ?_⟩⟩
    have t35 := Same.new (o := .tup ([.str "ended", .int (i : Int)] ++ [.int t])) he3
    have t4 := Same.new (o := .lst [.ref e3]) he4
    refine ⟨_, rfl, (by show 2 ≤ sizeLine; decide), fun e5 he5 => ⟨(by show 1 ≤ sizeLine; decide), fun e6 he6 => ?_⟩⟩
    have t5 := Same.new (o := .tup [.str "worn", .int (i : Int)]) he5
    have t6 := Same.new (o := .lst [.ref e5]) he6
    have tb := (t2.trans (t3.trans (t35.trans t4))).trans (t5.trans t6)
    have tall := t1.trans tb
    have hpd6 := tb _ _ upd_same
    have tput := Same.put (o := .dK (mergeK [] [(Sum.inr "end", .ref e4), (Sum.inr "worn", .ref e6)])) hpd tall
    refine ⟨hpd6, [(.inr "end", .ref e4), (.inr "worn", .ref e6)], rfl, (by show 2 ≤ 15; decide), pd, rfl, .inl ⟨_, .inl upd_same⟩, _, rfl, p, _, _, _, rfl, rfl, Fx.t (Same.fx tput) ht, rfl, Nat.zero_le _, fun z hz => ?_⟩
    have tz := Same.new (o := .lst []) hz
    have Wz := (W0).same (tput.trans tz)
    refine ⟨_, DGet.k (k := Sum.inr "drop") (tz _ _ upd_same), ?_⟩
    exact q _ X z [] (by rw [e0]; exact Wz) (upd_same) (TDs.nil) rfl
  | fin u =>
    have hcv' := hcv
    simp only [Cmd.d] at hcv
    obtain ⟨p, v1, v2, rfl, ht, h1, h2⟩ := td2 hcv
    cases td_str.mp h1
    cases td_wd.mp h2
    refine ⟨_, rfl, p, _, _, _, rfl, rfl, ht, rfl, rfl, _, rfl, ifF (by decide +kernel) ⟨_, rfl, p, _, _, _, rfl, rfl, ht, rfl, rfl, _, rfl, ifF (by decide +kernel) ⟨_, rfl, p, _, _, _, rfl, rfl, ht, rfl, rfl, _, rfl, ifF (by decide +kernel) (ifF rfl ⟨_, rfl, p, _, _, _, rfl, rfl, ht, rfl, rfl, _, rfl, ifF (by decide +kernel) ⟨_, rfl, p, _, _, _, rfl, rfl, ht, rfl, rfl, _, rfl, ifF (by decide +kernel) ?_⟩⟩)⟩⟩⟩
    have hrr1 := hrr
    obtain ⟨yb, hyb, Yb, hqb, hixb⟩ := (W0).1.h.lrun.get hrr1
    refine ⟨_, rfl, a, _, rfl, dg_runs (W0).1.h.ob, _, rfl, _, _, _, .ref yb.q, rfl, rfl, SqL.of (W0).1.h.rl, atI_nat hixb, yb.q, _, _, yb.bv, rfl, rfl, SqL.of hqb, atI_nat (j := 2) rfl, ?_⟩
    refine ⟨_, rfl, p, _, _, _, rfl, rfl, ht, rfl, rfl, _, rfl, ifT (by decide +kernel) ?_⟩
    cases eb : rr.by_ with
    | none =>
      have hb := Yb.tb
      rw [eb] at hb
      have hb2 : yb.bv = .non := td_none.mp hb
      have ef : s.follow i (.fin u) = (s, [], [.tuple [.str "ended", .int (i : Int), wd u]]) := by simp only [HS.follow, hrr, Option.bind_some, eb]
      rw [hb2]
      refine ⟨_, rfl, _, rfl, ifF rfl (ifF rfl ?_)⟩
      have e0 : rd ++ (s.follow i (.fin u)).2.1.map rowD = rd := by rw [ef]; exact List.append_nil _
      refine fun pd hpd => ⟨_, rfl, (by show 2 ≤ sizeLine; decide), fun e1 he1 => ⟨_, rfl, _, rfl, p, _, rfl, Fx.t (Same.fx ((Same.new (o := .dK []) hpd).trans (Same.new (o := .tup [.str "ended", .int (i : Int)]) he1))) ht, (by show ¬ (1 = 0 ∧ _); exact fun z => absurd z.1 (by decide)), fun e2 he2 => ?_⟩⟩
      have t1 := Same.new (o := .dK []) hpd
      have t2 := Same.new (o := .tup [.str "ended", .int (i : Int)]) he1
      have t3 := Same.new (o := .tup [wv u]) he2
      refine ⟨e1, e2, _, _, rfl, rfl, SqT.of (t3 _ _ upd_same), SqT.of upd_same, (fun z => nomatch z), (by first | (show 2 + 1 ≤ sizeLine; decide) | (show 2 + 2 ≤ sizeLine; decide) | (show 2 + 3 ≤ sizeLine; decide)), (fun z => nomatch z), fun _ e3 he3 => ⟨(by show 1 ≤ sizeLine; decide), fun e4 he4 => ?_⟩⟩
      have t35 := Same.new (o := .tup ([.str "ended", .int (i : Int)] ++ [wv u])) he3
      have t4 := Same.new (o := .lst [.ref e3]) he4
      refine ⟨_, rfl, (by show 2 ≤ sizeLine; decide), fun e5 he5 => ⟨(by show 1 ≤ sizeLine; decide), fun e6 he6 => ?_⟩⟩
      have t5 := Same.new (o := .tup [.str "worn", .int (i : Int)]) he5
      have t6 := Same.new (o := .lst [.ref e5]) he6
      have tb := (t2.trans (t3.trans (t35.trans t4))).trans (t5.trans t6)
      have tall := t1.trans tb
      have hpd6 := tb _ _ upd_same
      have tput := Same.put (o := .dK (mergeK [] [(Sum.inr "end", .ref e4), (Sum.inr "worn", .ref e6)])) hpd tall
      refine ⟨hpd6, [(.inr "end", .ref e4), (.inr "worn", .ref e6)], rfl, (by show 2 ≤ 15; decide), pd, rfl, .inl ⟨_, .inl upd_same⟩, _, rfl, p, _, _, _, rfl, rfl, Fx.t (Same.fx tput) ht, rfl, Nat.zero_le _, fun z hz => ?_⟩
      have tz := Same.new (o := .lst []) hz
      have Wz := (W0).same (tput.trans tz)
      refine ⟨_, DGet.k (k := Sum.inr "end") (tz _ _ upd_same), ?_⟩
      have n4 : e4 ≠ pd := fun z => by rw [z] at he4; have y := (t2.trans (t3.trans t35)) _ _ (upd_same (a := pd)); cases he4.symm.trans y
      have k3 := (t4.trans (t5.trans t6)) _ _ (upd_same (a := e3))
      have n3 : e3 ≠ pd := fun z => by rw [z] at he3; have y := (t2.trans t3) _ _ (upd_same (a := pd)); cases he3.symm.trans y
      have k4 := (t5.trans t6) _ _ (upd_same (a := e4))
      exact q _ X e4 [.ref e3] (by rw [e0]; exact Wz) (tz _ _ (by rw [upd_ne n4]; exact k4)) (by rw [ef]; exact TDs.mk (TD.new (tz _ _ (by rw [upd_ne n3]; exact k3)) (TDs.mk (td_str.mpr rfl) (TDs.mk (td_int.mpr rfl) (TDs.mk (td_wd.mpr rfl) TDs.nil)))) TDs.nil) rfl
    | some bt =>
      obtain ⟨b, t⟩ := bt
      have hb := Yb.tb
      rw [eb] at hb
      obtain ⟨bp, w1, w2, hbv, g1, g2, g3⟩ := td2 hb
      cases td_int.mp g2
      cases td_int.mp g3
      rw [hbv]
      refine ⟨_, rfl, _, rfl, ifT rfl ⟨_, rfl, _, rfl, bp, _, _, _, rfl, rfl, g1, rfl, _, rfl, bp, _, _, _, rfl, rfl, g1, rfl, a, s, X, n, k, (b : Int), t, rfl, W.h.lrun, hk, fun H3 s3 => ⟨_, rfl, ?_⟩⟩⟩
      have W3 := W0.same s3
      have ht3 := Fx.t (Same.fx s3) ht
      have g1' := Fx.t (Same.fx s3) g1
      cases ho : s.isOpen (b : Int) t with
      | false =>
        have ef : s.follow i (.fin u) = (s, [], [.tuple [.str "ended", .int (i : Int), wd u]]) := by simp only [HS.follow, hrr, Option.bind_some, eb, ho]; rfl
        refine ifF rfl ?_
        have e0 : rd ++ (s.follow i (.fin u)).2.1.map rowD = rd := by rw [ef]; exact List.append_nil _
        refine fun pd hpd => ⟨_, rfl, (by show 2 ≤ sizeLine; decide), fun e1 he1 => ⟨_, rfl, _, rfl, p, _, rfl, Fx.t (Same.fx ((Same.new (o := .dK []) hpd).trans (Same.new (o := .tup [.str "ended", .int (i : Int)]) he1))) ht3, (by show ¬ (1 = 0 ∧ _); exact fun z => absurd z.1 (by decide)), fun e2 he2 => ?_⟩⟩
        have t1 := Same.new (o := .dK []) hpd
        have t2 := Same.new (o := .tup [.str "ended", .int (i : Int)]) he1
        have t3 := Same.new (o := .tup [wv u]) he2
        refine ⟨e1, e2, _, _, rfl, rfl, SqT.of (t3 _ _ upd_same), SqT.of upd_same, (fun z => nomatch z), (by first | (show 2 + 1 ≤ sizeLine; decide) | (show 2 + 2 ≤ sizeLine; decide) | (show 2 + 3 ≤ sizeLine; decide)), (fun z => nomatch z), fun _ e3 he3 => ⟨(by show 1 ≤ sizeLine; decide), fun e4 he4 => ?_⟩⟩
        have t35 := Same.new (o := .tup ([.str "ended", .int (i : Int)] ++ [wv u])) he3
        have t4 := Same.new (o := .lst [.ref e3]) he4
        refine ⟨_, rfl, (by show 2 ≤ sizeLine; decide), fun e5 he5 => ⟨(by show 1 ≤ sizeLine; decide), fun e6 he6 => ?_⟩⟩
        have t5 := Same.new (o := .tup [.str "worn", .int (i : Int)]) he5
        have t6 := Same.new (o := .lst [.ref e5]) he6
        have tb := (t2.trans (t3.trans (t35.trans t4))).trans (t5.trans t6)
        have tall := t1.trans tb
        have hpd6 := tb _ _ upd_same
        have tput := Same.put (o := .dK (mergeK [] [(Sum.inr "end", .ref e4), (Sum.inr "worn", .ref e6)])) hpd tall
        refine ⟨hpd6, [(.inr "end", .ref e4), (.inr "worn", .ref e6)], rfl, (by show 2 ≤ 15; decide), pd, rfl, .inl ⟨_, .inl upd_same⟩, _, rfl, p, _, _, _, rfl, rfl, Fx.t (Same.fx tput) ht3, rfl, Nat.zero_le _, fun z hz => ?_⟩
        have tz := Same.new (o := .lst []) hz
        have Wz := (W3).same (tput.trans tz)
        refine ⟨_, DGet.k (k := Sum.inr "end") (tz _ _ upd_same), ?_⟩
        have n4 : e4 ≠ pd := fun z => by rw [z] at he4; have y := (t2.trans (t3.trans t35)) _ _ (upd_same (a := pd)); cases he4.symm.trans y
        have k3 := (t4.trans (t5.trans t6)) _ _ (upd_same (a := e3))
        have n3 : e3 ≠ pd := fun z => by rw [z] at he3; have y := (t2.trans t3) _ _ (upd_same (a := pd)); cases he3.symm.trans y
        have k4 := (t5.trans t6) _ _ (upd_same (a := e4))
        exact q _ X e4 [.ref e3] (by rw [e0]; exact Wz) (tz _ _ (by rw [upd_ne n4]; exact k4)) (by rw [ef]; exact TDs.mk (TD.new (tz _ _ (by rw [upd_ne n3]; exact k3)) (TDs.mk (td_str.mpr rfl) (TDs.mk (td_int.mpr rfl) (TDs.mk (td_wd.mpr rfl) TDs.nil)))) TDs.nil) rfl
      | true =>
        have ef : s.follow i (.fin u) = (s, [(b, .done s.now t u)], [.tuple [.str "ended", .int (i : Int), wd u]]) := by simp only [HS.follow, hrr, Option.bind_some, eb, ho]; rfl
        obtain ⟨rv, r1, r2⟩ := W3.rowAt
        refine ifT rfl ⟨_, rfl, .inl ⟨rfl, _, SqL.of r1⟩, _, rfl, bp, _, _, _, rfl, rfl, g1', rfl, _, rfl, a, _, rfl, dg_now W3.1.h.ob, _, rfl, bp, _, _, _, rfl, rfl, g1', rfl, _, rfl, p, _, _, _, rfl, rfl, ht3, rfl, (by show 4 ≤ sizeLine; decide), fun q5 hq5 => ⟨(by show 2 ≤ sizeLine; decide), fun q6 hq6 => ?_⟩⟩
        have s5 := Same.new (o := .tup [.str "done", .int s.now, .int t, wv u]) hq5
        have s6 := Same.new (o := .tup [.int (b : Int), .ref q5]) hq6
        have W6 := (W3.same s5).same s6
        refine ⟨pr, rv, _, rfl, rfl, s6 _ _ (s5 _ _ r1), by rw [r2]; exact line16 hrl, ?_⟩
        have W7 := W6.addRow (s6 _ _ (s5 _ _ r1)) (v := .ref q6) (d := rowD (b, .done s.now t u)) (row_td rfl upd_same (s6 _ _ upd_same) (TDs.mk (td_str.mpr rfl) (TDs.mk (td_int.mpr rfl) (TDs.mk (td_int.mpr rfl) (TDs.mk (td_wd.mpr rfl) TDs.nil)))))
        have ht7 := Fx.t W7.2.fx ht
        refine fun pd hpd => ⟨_, rfl, (by show 2 ≤ sizeLine; decide), fun e1 he1 => ⟨_, rfl, _, rfl, p, _, rfl, Fx.t (Same.fx ((Same.new (o := .dK []) hpd).trans (Same.new (o := .tup [.str "ended", .int (i : Int)]) he1))) ht7, (by show ¬ (1 = 0 ∧ _); exact fun z => absurd z.1 (by decide)), fun e2 he2 => ?_⟩⟩
        have t1 := Same.new (o := .dK []) hpd
        have t2 := Same.new (o := .tup [.str "ended", .int (i : Int)]) he1
        have t3 := Same.new (o := .tup [wv u]) he2
        refine ⟨e1, e2, _, _, rfl, rfl, SqT.of (t3 _ _ upd_same), SqT.of upd_same, (fun z => nomatch z), (by first | (show 2 + 1 ≤ sizeLine; decide) | (show 2 + 2 ≤ sizeLine; decide) | (show 2 + 3 ≤ sizeLine; decide)), (fun z => nomatch z), fun _ e3 he3 => ⟨(by show 1 ≤ sizeLine; decide), fun e4 he4 => ?_⟩⟩
        have t35 := Same.new (o := .tup ([.str "ended", .int (i : Int)] ++ [wv u])) he3
        have t4 := Same.new (o := .lst [.ref e3]) he4
        refine ⟨_, rfl, (by show 2 ≤ sizeLine; decide), fun e5 he5 => ⟨(by show 1 ≤ sizeLine; decide), fun e6 he6 => ?_⟩⟩
        have t5 := Same.new (o := .tup [.str "worn", .int (i : Int)]) he5
        have t6 := Same.new (o := .lst [.ref e5]) he6
        have tb := (t2.trans (t3.trans (t35.trans t4))).trans (t5.trans t6)
        have tall := t1.trans tb
        have hpd6 := tb _ _ upd_same
        have tput := Same.put (o := .dK (mergeK [] [(Sum.inr "end", .ref e4), (Sum.inr "worn", .ref e6)])) hpd tall
        refine ⟨hpd6, [(.inr "end", .ref e4), (.inr "worn", .ref e6)], rfl, (by show 2 ≤ 15; decide), pd, rfl, .inl ⟨_, .inl upd_same⟩, _, rfl, p, _, _, _, rfl, rfl, Fx.t (Same.fx tput) ht7, rfl, Nat.zero_le _, fun z hz => ?_⟩
        have tz := Same.new (o := .lst []) hz
        have Wz := (W7).same (tput.trans tz)
        refine ⟨_, DGet.k (k := Sum.inr "end") (tz _ _ upd_same), ?_⟩
        have n4 : e4 ≠ pd := fun z => by rw [z] at he4; have y := (t2.trans (t3.trans t35)) _ _ (upd_same (a := pd)); cases he4.symm.trans y
        have k3 := (t4.trans (t5.trans t6)) _ _ (upd_same (a := e3))
        have n3 : e3 ≠ pd := fun z => by rw [z] at he3; have y := (t2.trans t3) _ _ (upd_same (a := pd)); cases he3.symm.trans y
        have k4 := (t5.trans t6) _ _ (upd_same (a := e4))
        exact q _ X e4 [.ref e3] (by rw [ef]; exact Wz) (tz _ _ (by rw [upd_ne n4]; exact k4)) (by rw [ef]; exact TDs.mk (TD.new (tz _ _ (by rw [upd_ne n3]; exact k3)) (TDs.mk (td_str.mpr rfl) (TDs.mk (td_int.mpr rfl) (TDs.mk (td_wd.mpr rfl) TDs.nil)))) TDs.nil) rfl
  | worn =>
    have hcv' := hcv
    simp only [Cmd.d] at hcv
    obtain ⟨p, xs, rfl, ht, hx⟩ := td_tup.mp hcv
    obtain ⟨v1, r0, rfl, h1, hr0⟩ := tds_cons.mp hx
    cases tds_nil.mp hr0
    cases td_str.mp h1
    refine ⟨_, rfl, p, _, _, _, rfl, rfl, ht, rfl, rfl, _, rfl, ifF (by decide +kernel) ⟨_, rfl, p, _, _, _, rfl, rfl, ht, rfl, rfl, _, rfl, ifF (by decide +kernel) ⟨_, rfl, p, _, _, _, rfl, rfl, ht, rfl, rfl, _, rfl, ifF (by decide +kernel) (ifF rfl ⟨_, rfl, p, _, _, _, rfl, rfl, ht, rfl, rfl, _, rfl, ifF (by decide +kernel) ⟨_, rfl, p, _, _, _, rfl, rfl, ht, rfl, rfl, _, rfl, ifF (by decide +kernel) ?_⟩⟩)⟩⟩⟩
    have hrr1 := hrr
    obtain ⟨yb, hyb, Yb, hqb, hixb⟩ := (W0).1.h.lrun.get hrr1
    refine ⟨_, rfl, a, _, rfl, dg_runs (W0).1.h.ob, _, rfl, _, _, _, .ref yb.q, rfl, rfl, SqL.of (W0).1.h.rl, atI_nat hixb, yb.q, _, _, yb.bv, rfl, rfl, SqL.of hqb, atI_nat (j := 2) rfl, ?_⟩
    refine ⟨_, rfl, p, _, _, _, rfl, rfl, ht, rfl, rfl, _, rfl, ifF (by decide +kernel) (ifF rfl ?_)⟩
    have e0 : rd ++ (s.follow i .worn).2.1.map rowD = rd := List.append_nil _
    refine fun pd hpd => ⟨_, rfl, (by show 2 ≤ sizeLine; decide), fun e1 he1 => ⟨_, rfl, _, rfl, p, _, rfl, Fx.t (Same.fx ((Same.new (o := .dK []) hpd).trans (Same.new (o := .tup [.str "ended", .int (i : Int)]) he1))) ht, (by show ¬ (1 = 0 ∧ 1 = 1); decide), fun e2 he2 => ?_⟩⟩
    have t1 := Same.new (o := .dK []) hpd
    have t2 := Same.new (o := .tup [.str "ended", .int (i : Int)]) he1
    have t3 := Same.new (o := .tup []) he2
    refine ⟨e1, e2, _, _, rfl, rfl, SqT.of (t3 _ _ upd_same), SqT.of upd_same, (fun z => nomatch z), (by show 2 + 0 ≤ sizeLine; decide), fun _ => ⟨(by show 1 ≤ sizeLine; decide), fun e4 he4 => ?_⟩, (fun z => absurd rfl z)⟩
    have t4 := Same.new (o := .lst [.ref e1]) he4
    refine ⟨_, rfl, (by show 2 ≤ sizeLine; decide), fun e5 he5 => ⟨(by show 1 ≤ sizeLine; decide), fun e6 he6 => ?_⟩⟩
    have t5 := Same.new (o := .tup [.str "worn", .int (i : Int)]) he5
    have t6 := Same.new (o := .lst [.ref e5]) he6
    have tb := (t2.trans (t3.trans t4)).trans (t5.trans t6)
    have tall := t1.trans tb
    have hpd6 := tb _ _ upd_same
    have tput := Same.put (o := .dK (mergeK [] [(Sum.inr "end", .ref e4), (Sum.inr "worn", .ref e6)])) hpd tall
    refine ⟨hpd6, [(.inr "end", .ref e4), (.inr "worn", .ref e6)], rfl, (by show 2 ≤ 15; decide), pd, rfl, .inl ⟨_, .inl upd_same⟩, _, rfl, p, _, _, _, rfl, rfl, Fx.t (Same.fx tput) ht, rfl, Nat.zero_le _, fun z hz => ?_⟩
    have tz := Same.new (o := .lst []) hz
    have Wz := (W0).same (tput.trans tz)
    refine ⟨_, DGet.k (k := Sum.inr "worn") (tz _ _ upd_same), ?_⟩
    have n6 : e6 ≠ pd := fun z => by rw [z] at he6; rw [(t2.trans (t3.trans (t4.trans t5))) _ _ upd_same] at he6; cases he6
    have k5 := t6 _ _ (upd_same (a := e5))
    have n5 : e5 ≠ pd := fun z => by rw [z] at he5; rw [(t2.trans (t3.trans t4)) _ _ upd_same] at he5; cases he5
    exact q _ X e6 [.ref e5] (by rw [e0]; exact Wz) (tz _ _ (by rw [upd_ne n6]; exact upd_same)) (TDs.mk (TD.new (tz _ _ (by rw [upd_ne n5]; exact k5)) (TDs.mk (td_str.mpr rfl) (TDs.mk (td_int.mpr rfl) TDs.nil))) TDs.nil) rfl
end
end Ol
namespace Ol
open PySem PySem.Spec PyProof.Rows L2
local macro_rules | `(tactic| walk_at "len") => `(tactic| (intro vs H Q E h; first | (rcases h with ⟨hh, _⟩; rw [hh]; rfl) | (rcases h with ⟨_, hh, _⟩; rw [hh]; rfl) | (rcases h with ⟨_, _, hh, _⟩; rw [hh]; rfl) | (rcases h with ⟨_, _, _, hh, _⟩; rw [hh]; rfl) | (rcases h with ⟨_, _, _, _, hh, _⟩; rw [hh]; rfl) | (rcases h with ⟨_, _, _, _, _, hh, _⟩; rw [hh]; rfl) | (rcases h with ⟨_, _, _, _, _, _, hh, _⟩; rw [hh]; rfl) | (rcases h with ⟨_, _, _, _, _, _, _, hh, _⟩; rw [hh]; rfl) | (rcases h with ⟨_, _, _, _, _, _, _, _, hh, _⟩; rw [hh]; rfl) | (rcases h with ⟨_, _, _, _, _, _, _, _, _, hh, _⟩; rw [hh]; rfl) | (rcases h with ⟨_, _, _, _, _, _, _, _, _, _, hh, _⟩; rw [hh]; rfl) | (rcases h with ⟨_, _, _, _, _, _, _, _, _, _, _, hh, _⟩; rw [hh]; rfl) | (rcases h with ⟨_, _, _, _, _, _, _, _, _, _, _, _, hh, _⟩; rw [hh]; rfl) | (rcases h with ⟨_, _, _, _, _, _, _, _, _, _, _, _, _, hh, _⟩; rw [hh]; rfl) | (rcases h with ⟨_, _, _, _, _, _, _, _, _, _, _, _, _, _, hh, _⟩; rw [hh]; rfl) | (rcases h with ⟨_, _, _, _, _, _, _, _, _, _, _, _, _, _, _, hh, _⟩; rw [hh]; rfl) | (rcases h with ⟨_, _, _, _, _, _, _, _, _, _, _, _, _, _, _, _, hh, _⟩; rw [hh]; rfl) | (rcases h with ⟨_, _, _, _, _, _, _, _, _, _, _, _, _, _, _, _, _, hh, _⟩; rw [hh]; rfl) | (rcases h with ⟨_, _, _, _, _, _, _, _, _, _, _, _, _, _, _, _, _, _, hh, _⟩; rw [hh]; rfl) | (rcases h with ⟨_, _, _, _, _, _, _, _, _, _, _, _, _, _, _, _, _, _, _, hh, _⟩; rw [hh]; rfl)))
section
variable {P : Program} {w : World} {K : PySem.W.Frag} {mg : Str → Option Value} {base : Heap}
theorem sc__law_in : FnScope ["house", "some", "row", "told", "at", "run", "happening", "command"] ["house", "some"] (defScope s__law_in) := ⟨rfl, rfl, rfl, by decide +kernel, rfl, by decide +kernel, by decide +kernel⟩
theorem ok__law_in (T : Tx w K mg) : OkD P w K mg base d__law_in 13 ["house", "some"] (spLIn K) := by
  have sc := sc__law_in
  refine okD_mk (F__law_in T) sc (fun _ _ _ _ _ _ us hl => match us, hl with | [_, _], _ => rfl) ?len ?body
  case len => walk_at "len"
  intro cdv f A outer s H vs Q E hr h
  refine ⟨_, (pss_cons (ps_dput (hu_of hr) (pv 0) pe_str (pe_callB (call_max2 rfl) (by rfl) (z_max T) (by decide +kernel) (pa_cons (pe_dget (hu_of hr) (pv 0) pe_str (fun _ _ => rfl)) (pa_cons (pe_ix ix_tup (pv 1) pe_int (fun _ _ => rfl)) pa_nil))) rfl)
    (pss_cons (ps_set (i := 2) sc.nd rfl (Or.inl rfl) (pe_f (ok__law_first T) (hr.mono (by decide)) (by rfl) (g__law_first T) (pa_cons (pv 0) (pa_cons (pv 1) pa_nil))))
    (pss_cons (ps_set (i := 3) sc.nd rfl (Or.inl rfl) (pe_lst pa_nil))
    (pss_cons (ps_set (i := 4) sc.nd rfl (Or.inl rfl) pe_int)
    (pss_cons (ps_while PassesOwn.never ((pw_and (pt_cmpR op_lt (pv 4) (pe_callB call_len_seq (by rfl) (z_len T) (by decide +kernel) (pa_cons (pv 2) pa_nil)) (nomark _)) (pw_and1 (pt_cmpR op_lt (pv 4) pe_int (nomark _))))).pt (pss_cons (ps_asg (pe_ix ix_list (pv 2) (pv 4) (fun _ _ => rfl)) (pg_tup (by rfl) (pgs_cons (pg_name (i := 5) sc.nd rfl (Or.inl rfl)) (pgs_cons (pg_name (i := 6) sc.nd rfl (Or.inl rfl)) pgs_nil))))
    (pss_cons (ps_set (i := 4) sc.nd rfl (Or.inl rfl) (pe_op op_add (pv 4) pe_int))
    (pss_cons (ps_expr (pe_bm PySem.F.plainAttrs_list PySem.F.slot_list_append PySem.F.type_list_append mt_append (pe_ix ix_list (pe_ix ix_list (pe_dget (hu_of hr) (pv 0) pe_str (fun _ _ => rfl)) (pv 5) (fun _ _ => rfl)) pe_int (fun _ _ => rfl)) (pa_cons (pv 6) pa_nil)))
    (pss_one (ps_for PassesOwn.never (by rfl) (pi_list (pe_m (d := d_Run_take) (c_Run T) (m_Run_take T) (ok_Run_take T) (hr.mono (by decide)) (pe_ix ix_list (pe_ix ix_list (pe_dget (hu_of hr) (pv 0) pe_str (fun _ _ => rfl)) (pv 5) (fun _ _ => rfl)) pe_int (fun _ _ => rfl)) (pa_cons (pv 6) pa_nil))) (pg_name (i := 7) sc.nd rfl (Or.inl rfl)) (pss_one (ps_set (i := 3) sc.nd rfl (Or.inl rfl) (pe_op op_catL (pv 3) (pe_f (ok__law_follow T) (hr.mono (by decide)) (by rfl) (g__law_follow T) (pa_cons (pv 0) (pa_cons (pv 5) (pa_cons (pv 7) (pa_cons (pv 2) pa_nil))))))))))))))
    (pss_one (ps_ret (pe_op op_catL (pv 3) (pe_op op_rep (pe_lst (pa_cons (pe_tup (pa_cons pe_str pa_nil)) pa_nil)) (pe_callTy call_int1 (by rfl) (z_int T) (by decide +kernel) (pa_cons (pe_cmpR op_lt (pv 4) (pe_callB call_len_seq (by rfl) (z_len T) (by decide +kernel) (pa_cons (pv 2) pa_nil)) (nomark _)) pa_nil))))))))))), ?_⟩
  obtain ⟨a, s, X, n, k, x, iv, rfl, R, hk, hiv, hok, hn, hkl, q⟩ := h
  obtain ⟨ip, ixs, rfl, hit, himom⟩ := inp_mom hiv
  refine ⟨_, rfl, a, _, rfl, dg_now R.ob, _, rfl, ip, _, _, .int x.mom, rfl, rfl, hit, atI_nat (j := 1) himom, _, _, rfl, _, rfl, a, _, rfl, DPut.k (k := Sum.inr "now") R.ob (by show 5 < sizeLine; decide), ?_⟩
  rw [max_if s.now x.mom]
  have T2 := R.to.setNow (max s.now x.mom)
  have hk2 := hk.at (max s.now x.mom)
  obtain ⟨f1, f2, f3, f4⟩ := first_ok hk2 hok (by omega)
  have hput : s.put x = ((HS.loop 300 (({ s with now := max s.now x.mom } : HS).first x).1 (({ s with now := max s.now x.mom } : HS).first x).2 []).1, (HS.loop 300 (({ s with now := max s.now x.mom } : HS).first x).1 (({ s with now := max s.now x.mom } : HS).first x).2 []).2.2 ++ (if (HS.loop 300 (({ s with now := max s.now x.mom } : HS).first x).1 (({ s with now := max s.now x.mom } : HS).first x).2 []).2.1 ≠ [] then [.tuple [.str "spent"]] else [])) := rfl
  refine ⟨_, rfl, _, rfl, a, _, _, n, k, x, .ref ip, rfl, T2.1, hk2, TD.fx T2.2.fx _ _ hiv, hok, (by omega), fun H3 X3 pr rv T3 hpr hprn hprF htr ep3 => ?_⟩
  refine ⟨Nat.zero_le _, fun po hpo => ?_⟩
  have T23 : LawTo K H (X.F a) H3 a _ X3 := ⟨T3.1, T2.2.trans T3.2⟩
  have T24 := T23.same (Same.new (o := .lst []) hpo)
  have nep : pr ≠ po := fun z => by rw [z, hpo] at hpr; cases hpr
  have hprF0 : pr ∈ X.F a ∨ H pr = none := by
    rcases hprn with z | z
    · exact T2.2.new pr z
    · exact if m : pr ∈ X.F a then .inl m else .inr (T2.2.free z m)
  have hpoF0 : po ∈ X.F a ∨ H po = none := if m : po ∈ X.F a then .inl m else .inr (T23.2.free hpo m)
  have hpoF : po ∉ pr :: X3.F a := fun m => by
    rcases List.mem_cons.mp m with e | m
    · exact nep e.symm
    · exact T3.1.notIn hpo m
  have W0 : LWTo K H (X.F a) (upd H3 po (.lst [])) a (({ s with now := max s.now x.mom } : HS).first x).1 X3 pr (([] ++ (({ s with now := max s.now x.mom } : HS).first x).2).map rowD) :=
    ⟨⟨T24.1, ⟨rv, by rw [upd_ne nep]; exact hpr, TDs.fx (Same.fx (Same.new hpo)) _ _ htr⟩, hprF⟩, T24.2.keep, T24.2.fx, fun b m => by
      rcases List.mem_cons.mp m with e | m
      · rw [e]; exact hprF0
      · exact T24.2.new b m⟩
  generalize (({ s with now := max s.now x.mom } : HS).first x).1 = s3 at *
  generalize (({ s with now := max s.now x.mom } : HS).first x).2 = row0 at *
  refine ⟨fun m σ H5 => ∃ (j : Nat) (s5 : HS) (X5 : LX) (dn row : Row) (od : List PyData) (pt : Addr) (u5 u6 u7 : Option V), σ = [some (.ref a), some (.ref ip), some (.ref pr), some (.ref pt), some (.int (j : Int)), u5, u6, u7] ∧ j ≤ 300 ∧ X5.pd = X.pd ∧ LWTo K H (X.F a) H5 a s5 X5 pr ((dn ++ row).map rowD) ∧ dn.length = j ∧
    (∃ ov, H5 pt = some (.lst ov) ∧ TDs K H5 ov od) ∧ pt ∉ pr :: X5.F a ∧ (pt ∈ X.F a ∨ H pt = none) ∧
    Hk s5 (n + j) (k + 1 + 301 * j) ∧ RowOk s5 row ∧ row.length ≤ k + 1 + 301 * j ∧ od.length ≤ 301 * j ∧ HS.loop (300 - j) s5 row od = HS.loop 300 s3 row0 [] ∧ m = 300 - j, ⟨300, 0, s3, X3, [], row0, [], po, _, _, _, rfl, by omega, ep3, W0, rfl, ⟨[], upd_same, TDs.nil⟩, hpoF, hpoF0, f1, f2, f4, Nat.zero_le _, rfl, rfl⟩, ?_⟩
  rintro m σ H5 ⟨j, s5, X5, dn, row, od, pt, u5, u6, u7, rfl, hj, ep5, W, hdn, ⟨ov5, o1, o2⟩, hptF, hptF0, hk5, hro, hrl, hodl, hloop, rfl⟩
  obtain ⟨rv5, r1, r2⟩ := W.1.r
  have hrv : rv5.length = j + row.length := by rw [r2.length, List.length_map, List.length_append, hdn]
  have hovl : ov5.length = od.length := o2.length
  refine ⟨_, rfl, _, rfl, pr, _, rfl, .inl (SqL.of r1), _, _, rfl, rfl, _, rfl, ?_⟩
  -- the end
  have fin : HS.loop 300 s3 row0 [] = (s5, row, od) → tRet (tOp (rCatL K) (tVar 3) (tOp rRep (tLst (tCons (tTup (tCons (tC (.str "spent")) tNil)) tNil)) (tCB (fun xs H Q => (∃ i, xs = [V.int i] ∧ Q (V.int i) H) ∨ ∃ k, xs = [V.bl k] ∧ Q (V.int (if k = true then 1 else 0)) H) (tCons (tOp (rI0 fun i j => V.bl (decide (i < j))) (tVar 4) (tCB (fun xs H_1 Q => ∃ p ys, xs = [V.ref p] ∧ (SqL K H_1 p ys ∨ SqT K H_1 p ys) ∧ Q (V.int (ys.length : Int)) H_1) (tCons (tVar 2) tNil))) tNil))))
      { nx := fun x H' => Q .non H', rt := Q } [some (.ref a), some (.ref ip), some (.ref pr), some (.ref pt), some (.int (j : Int)), u5, u6, u7] H5 := fun e => by
    rw [e] at hput
    refine ⟨_, rfl, (by show 1 ≤ sizeLine; decide), fun e1 he1 => ⟨(by show 1 ≤ sizeLine; decide), fun e2 he2 => ?_⟩⟩
    have t1 := Same.new (o := .tup [.str "spent"]) he1
    have t2 := Same.new (o := .lst [.ref e1]) he2
    have t12 := t1.trans t2
    refine ⟨_, rfl, _, rfl, pr, _, rfl, .inl (SqL.of (t12 _ _ r1)), _, _, rfl, rfl, .inr ⟨_, rfl, ?_⟩⟩
    rw [hrv]
    have done : ∀ (H9 : Hp) (e4 : Addr) (zs : List V) (ds : List PyData), Same H5 H9 → H9 e4 = none → TDs K H9 zs ds → (s.put x).2 = od ++ ds → Q (.ref e4) (upd H9 e4 (.lst (ov5 ++ zs))) := fun H9 e4 zs ds s9 he4 hz hds => by
      have W9 := (W.same s9).same (Same.new (o := .lst (ov5 ++ zs)) he4)
      have hn5 : H5 e4 = none := by
        cases e : H5 e4 with
        | none => rfl
        | some o => rw [s9 _ _ e] at he4; cases he4
      have hF : e4 ∉ X5.F a := W.1.h.notIn hn5
      refine q _ X5 e4 (ov5 ++ zs) ?_ upd_same (if m : e4 ∈ X.F a then .inl m else .inr (W.2.free hn5 m)) hF ?_ ep5
      · rw [hput]
        exact ⟨W9.1.h, W9.2.keep, W9.2.fx, fun b m => W9.2.new b (List.mem_cons_of_mem _ m)⟩
      · rw [hds]
        exact TDs.fx (Same.fx (Same.new he4)) _ _ ((TDs.fx (Same.fx s9) _ _ o2).append hz)
    have hodl2 : ov5.length + 1 ≤ sizeLine := by rw [hovl, sizeLine_eq]; omega
    cases row with
    | nil =>
      have ed : decide ((j : Int) < ((j + ([] : Row).length : Nat) : Int)) = false := decide_eq_false (by simp)
      rw [ed]
      refine ⟨e2, 0, _, rfl, rfl, upd_same, by decide, by decide, by simp, fun e3 he3 => ?_⟩
      have t3 := Same.new (o := .lst (List.replicate (0 : Int).toNat [V.ref e1]).flatten) he3
      refine ⟨pt, e3, _, _, rfl, rfl, SqL.of (t3 _ _ (t12 _ _ o1)), SqL.of upd_same, by simp only [Int.toNat_zero, List.replicate_zero, List.flatten_nil, List.length_nil]; omega, fun e4 he4 => ?_⟩
      exact done _ e4 _ [] (t12.trans t3) he4 TDs.nil (by rw [hput]; simp)
    | cons rw0 row1 =>
      have ed : decide ((j : Int) < ((j + (rw0 :: row1).length : Nat) : Int)) = true := decide_eq_true (by simp only [List.length_cons]; omega)
      rw [ed]
      refine ⟨e2, 1, _, rfl, rfl, upd_same, by decide, by decide, by show 1 * 1 ≤ sizeLine; decide, fun e3 he3 => ?_⟩
      have t3 := Same.new (o := .lst (List.replicate (1 : Int).toNat [V.ref e1]).flatten) he3
      refine ⟨pt, e3, _, _, rfl, rfl, SqL.of (t3 _ _ (t12 _ _ o1)), SqL.of upd_same, hodl2, fun e4 he4 => ?_⟩
      exact done _ e4 [.ref e1] [.tuple [.str "spent"]] (t12.trans t3) he4 (TDs.mk (TD.new ((t2.trans t3) _ _ upd_same) (TDs.mk (td_str.mpr rfl) TDs.nil)) TDs.nil) (by rw [hput]; simp)
  cases row with
  | nil =>
    have e : HS.loop 300 s3 row0 [] = (s5, [], od) := by
      rw [← hloop]
      cases 300 - j <;> rfl
    refine ifF (decide_eq_false (by rw [hrv]; simp)) (ifF rfl (fin e))
  | cons rw0 row1 =>
    obtain ⟨i0, h0⟩ := rw0
    refine ifT (decide_eq_true (by rw [hrv]; simp only [List.length_cons]; omega)) ⟨_, rfl, _, _, rfl, rfl, _, rfl, ?_⟩
    by_cases hj3 : j < 300
    case neg =>
      have e : HS.loop 300 s3 row0 [] = (s5, (i0, h0) :: row1, od) := by
        rw [← hloop, show 300 - j = 0 by omega]
        rfl
      exact ifF (decide_eq_false (by omega)) (fin e)
    refine ifT (decide_eq_true (by omega)) ⟨fun σ' H' => ∃ (s7 : HS) (X7 : LX) (dn7 row7 : Row) (od7 : List PyData) (pt7 : Addr) (w5 w6 w7 : Option V), σ' = [some (.ref a), some (.ref ip), some (.ref pr), some (.ref pt7), some (.int ((j : Int) + 1)), w5, w6, w7] ∧ X7.pd = X.pd ∧ LWTo K H (X.F a) H' a s7 X7 pr ((dn7 ++ row7).map rowD) ∧ dn7.length = j + 1 ∧
      (∃ ov, H' pt7 = some (.lst ov) ∧ TDs K H' ov od7) ∧ pt7 ∉ pr :: X7.F a ∧ (pt7 ∈ X.F a ∨ H pt7 = none) ∧
      Hk s7 (n + (j + 1)) (k + 1 + 301 * (j + 1)) ∧ RowOk s7 row7 ∧ row7.length ≤ k + 1 + 301 * (j + 1) ∧ od7.length ≤ 301 * (j + 1) ∧ HS.loop (300 - (j + 1)) s7 row7 od7 = HS.loop 300 s3 row0 [], fun σ' H' ⟨s7, X7, dn7, row7, od7, pt7, w5, w6, w7, e1, ep7, e2, e2b, e2c, e2d, e2e, e3, e4, e5, e6, e7⟩ => ⟨300 - (j + 1), by omega, j + 1, s7, X7, dn7, row7, od7, pt7, w5, w6, w7, e1, by omega, ep7, e2, e2b, e2c, e2d, e2e, e3, e4, e5, e6, e7, rfl⟩, ?_⟩
    -- row[at]
    obtain ⟨hi0, hh0, hg0⟩ := hro (i0, h0) List.mem_cons_self
    have hget : ((dn ++ (i0, h0) :: row1).map rowD)[j]? = some (rowD (i0, h0)) := by
      rw [List.getElem?_map, List.getElem?_append_right (by omega), hdn, Nat.sub_self]
      rfl
    obtain ⟨v0, hv0, htv0⟩ := r2.get hget
    obtain ⟨tp, w1, w2, rfl, g1, g2, g3⟩ := td2 (show TD K _ v0 (.tuple [.int (i0 : Int), h0.d]) from htv0)
    cases td_int.mp g2
    refine ⟨_, rfl, _, rfl, pr, _, _, .ref tp, rfl, rfl, SqL.of r1, atI_nat hv0, tp, _, rfl, g1, rfl, _, _, rfl, _, _, rfl, rfl, ?_⟩
    refine ⟨_, rfl, _, _, rfl, rfl, ?_⟩
    -- happened
    obtain ⟨rr, hrr⟩ : ∃ rr, s5.runs[i0]? = some rr := ⟨_, List.getElem?_eq_getElem hi0⟩
    obtain ⟨y, hy, Y, hq, hix⟩ := W.1.h.lrun.get hrr
    have hrk := hk5.run hrr
    have hyl : y.hv.length < sizeLine := by rw [Y.th.length, List.length_map, sizeLine_eq]; have := hrk.hl; have := hk5.ln; omega
    refine ⟨_, rfl, a, _, rfl, dg_runs W.1.h.ob, _, rfl, X5.rl, _, _, .ref y.q, rfl, rfl, SqL.of W.1.h.rl, atI_nat hix, y.q, _, _, .ref y.h, rfl, rfl, SqL.of hq, atI_nat (j := 3) rfl, .inl ⟨rfl, _, SqL.of Y.hp⟩, _, rfl, y.h, _, _, rfl, rfl, Y.hp, hyl, ?_⟩
    obtain ⟨Y3, U3⟩ := Y.happens (p := h0) g3
    have T3' := W.1.h.to.setRec hy Y3 U3 rfl
    have W3 := W.house T3'
    have g33 := TD.fx U3.fx _ _ g3
    have hil : i0 < X5.rs.length := by rw [← W.1.h.runs.len]; exact hi0
    have hy3 : (X5.rs.set i0 { y with hv := y.hv ++ [w2] })[i0]? = some { y with hv := y.hv ++ [w2] } := by rw [List.getElem?_set_self hil]
    have hrr3 : (s5.setRun i0 { rr with hap := rr.hap ++ [h0] }).runs[i0]? = some { rr with hap := rr.hap ++ [h0] } := by
      show (s5.runs.set i0 _)[i0]? = _
      rw [List.getElem?_set_self hi0]
    have hptk := T3'.2.keep _ _ o1 (fun m => hptF (List.mem_cons_of_mem _ m))
    have hptn : ∀ {F' : List Addr} {H8 H9 : Hp} {F : List Addr} {ov : List V}, Upto F H8 H9 F' → H8 pt = some (.lst ov) → pt ∉ F → pt ∉ F' := fun U h n m => by
      rcases U.new _ m with z | z
      · exact n z
      · rw [h] at z; cases z
    -- take
    have hlim : 303 * (n + j) + 303 ≤ 5000000 := by omega
    have hq3 : upd H5 y.h (.lst (y.hv ++ [w2])) y.q = some (.lst [.ref y.a, .str rr.nm, y.bv, .ref y.h]) := Y3.qq y.q (by show y.q ∈ y.qs; rw [W.1.h.qs y (List.mem_of_getElem? hy)]; exact List.mem_cons_self)
    refine ⟨_, rfl, a, _, rfl, dg_runs W3.1.h.ob, _, rfl, X5.rl, _, _, .ref y.q, rfl, rfl, SqL.of W3.1.h.rl, atI_nat (by show ((X5.rs.set i0 _).map _)[i0]? = _; rw [List.getElem?_map, hy3]; rfl), y.q, _, _, .ref y.a, rfl, rfl, SqL.of hq3, atI_nat (j := 0) rfl, y.a, rfl, ml_run Y3.run rfl, _, rfl, y.a, rr.st, y.x, h0, w2, 303 * (n + j), rfl, Y3.run, hrk.ro, g33, hh0, hlim, fun Hm xm pc cvs Rm hpc hcvs => ?_⟩
    obtain ⟨Y4, U4⟩ := Y3.goes Rm
    have T4 := W3.1.h.to.setRec hy3 Y4 U4 rfl
    have W4 := W3.house T4
    have es : (s5.setRun i0 { rr with hap := rr.hap ++ [h0] }).setRun i0 { rr with hap := rr.hap ++ [h0], st := rr.st.take h0 } = s5.setRun i0 { rr with st := rr.st.take h0, hap := rr.hap ++ [h0] } := by
      unfold HS.setRun
      dsimp only
      rw [List.set_set]
    have W5 : LWTo K H (X.F a) Hm a (s5.setRun i0 { rr with st := rr.st.take h0, hap := rr.hap ++ [h0] }) { X5 with rs := (X5.rs.set i0 { y with hv := y.hv ++ [w2] }).set i0 { y with hv := y.hv ++ [w2], x := xm } } pr ((dn ++ (i0, h0) :: row1).map rowD) := by rw [← es]; exact W4
    have s6 := Same.new (o := .lst cvs) hpc
    have W6 := W5.same s6
    have hpt3F : pt ∉ (({ X5 with rs := X5.rs.set i0 { y with hv := y.hv ++ [w2] } } : LX).F a) := hptn T3'.2 o1 (fun m => hptF (List.mem_cons_of_mem _ m))
    have hpt4 := T4.2.keep _ _ hptk hpt3F
    have hpt4F := hptn T4.2 hptk hpt3F
    have hptpr : pt ≠ pr := fun z => hptF (by rw [z]; exact List.mem_cons_self)
    have hov6 := TDs.fx (Same.fx s6) _ _ (TDs.fx T4.2.fx _ _ (TDs.fx T3'.2.fx _ _ o2))
    have hro4 := take_ok hrk.ro hh0 hlim
    have hk6 : Hk (s5.setRun i0 { rr with st := rr.st.take h0, hap := rr.hap ++ [h0] }) (n + (j + 1)) (k + 1 + 301 * j) := by
      refine ⟨hk5.pg, hk5.pn, fun r hm => ?_, by show (s5.runs.set _ _).length ≤ _; rw [List.length_set]; exact hk5.rl, hk5.ol, hk5.tl, hk5.ov, hk5.okd, hk5.tkd, by omega, hk5.lk⟩
      rcases List.mem_or_eq_of_mem_set (show r ∈ s5.runs.set i0 _ from hm) with z | z
      · exact (hk5.rr r z).weak (by omega) (by omega) (by omega)
      · rw [z]
        refine ⟨hro4.weak (by omega) (by omega), hrk.nm, ?_, fun q hq => ?_, fun q hq => ?_⟩
        · show (rr.hap ++ [h0]).length ≤ _
          rw [List.length_append]
          have := hrk.hl
          simp only [List.length_cons, List.length_nil]
          omega
        · rcases List.mem_append.mp hq with z | z
          · exact hrk.hk q z
          · simp at z; rw [z]; exact hg0
        · rcases List.mem_append.mp hq with z | z
          · exact hrk.ho q z
          · simp at z; rw [z]; exact hh0
    have hi6 : i0 < (s5.setRun i0 { rr with st := rr.st.take h0, hap := rr.hap ++ [h0] }).runs.length := by show i0 < (s5.runs.set _ _).length; rw [List.length_set]; exact hi0
    have estep : s5.step i0 h0 = (s5.setRun i0 { rr with st := rr.st.take h0, hap := rr.hap ++ [h0] }).follows i0 (rr.st.take h0).orders := by simp only [HS.step, hrr]
    have hcsl : (rr.st.take h0).orders.length ≤ 301 := hro4.os
    have hcso := hro4.rk.ord
    have hrl1 : row1.length + 1 ≤ k + 1 + 301 * j := hrl
    have hro1 : RowOk (s5.setRun i0 { rr with st := rr.st.take h0, hap := rr.hap ++ [h0] }) row1 := RowOk.mono (fun p hp => hro p (List.mem_cons_of_mem _ hp)) (by show s5.runs.length ≤ (s5.runs.set _ _).length; rw [List.length_set]; exact Nat.le_refl _)
    have hloop2 : HS.loop (300 - (j + 1)) (s5.step i0 h0).1 (row1 ++ (s5.step i0 h0).2.1) (od ++ (s5.step i0 h0).2.2) = HS.loop 300 s3 row0 [] := by
      rw [← hloop, show 300 - j = (300 - (j + 1)) + 1 by omega]
      rfl
    rw [estep] at hloop2
    have hpcF : pc ∉ pr :: (({ X5 with rs := (X5.rs.set i0 { y with hv := y.hv ++ [w2] }).set i0 { y with hv := y.hv ++ [w2], x := xm } } : LX).F a) := fun m => by
      obtain ⟨rvz, z1, _⟩ := W5.1.r
      rcases List.mem_cons.mp m with e | m
      · rw [e, z1] at hpc; cases hpc
      · exact W5.1.h.notIn hpc m
    have hcl2 : cvs.length = (rr.st.take h0).orders.length := by rw [hcvs.length, List.length_map]
    generalize (rr.st.take h0).orders = cs at *
    generalize s5.setRun i0 { rr with st := rr.st.take h0, hap := rr.hap ++ [h0] } = s6' at *
    refine ⟨pc, rfl, ⟨_, SqL.of upd_same⟩, for_list (xs := cvs) (fun i σ H' => ∃ (X7 : LX) (pt7 : Addr) (w7 : Option V), σ = [some (.ref a), some (.ref ip), some (.ref pr), some (.ref pt7), some (.int ((j : Int) + 1)), some (.int (i0 : Int)), some w2, w7] ∧ X7.pd = X.pd ∧
      LWTo K H (X.F a) H' a (s6'.follows i0 (cs.take i)).1 X7 pr ((dn ++ (i0, h0) :: row1).map rowD ++ (s6'.follows i0 (cs.take i)).2.1.map rowD) ∧ (∃ ov, H' pt7 = some (.lst ov) ∧ TDs K H' ov (od ++ (s6'.follows i0 (cs.take i)).2.2)) ∧ pt7 ∉ pr :: X7.F a ∧ (pt7 ∈ X.F a ∨ H pt7 = none) ∧ H' pc = some (.lst cvs) ∧ pc ∉ pr :: X7.F a ∧ TDs K H' cvs (cs.map Cmd.d))
      ⟨{ X5 with rs := (X5.rs.set i0 { y with hv := y.hv ++ [w2] }).set i0 { y with hv := y.hv ++ [w2], x := xm } }, pt, _, rfl, ep5, by simpa [HS.follows] using W6, ⟨ov5, s6 _ _ hpt4, by simpa [HS.follows] using hov6⟩, (fun m => (List.mem_cons.mp m).elim hptpr hpt4F), hptF0, upd_same, hpcF, TDs.fx (Same.fx (Same.new hpc)) _ _ hcvs⟩ (fun i σ H' _ ⟨_, _, _, _, _, _, _, _, _, h, _⟩ => SqL.of h) ?_ ?_⟩
    · rintro i cv σ H7 hx7 ⟨X7, pt7, w7, rfl, ep7, W7, ⟨ov7, p71, p72⟩, hn71, hn72, hp7, hn7, ht7⟩
      obtain ⟨d, hd1, hd2⟩ := ht7.getV hx7
      rw [List.getElem?_map, Option.map_eq_some_iff] at hd1
      obtain ⟨c, hc, rfl⟩ := hd1
      have hci := (List.getElem?_eq_some_iff.mp hc).1
      have htl : (cs.take i).length ≤ 301 := Nat.le_trans (by rw [List.length_take]; exact Nat.min_le_right _ _) hcsl
      obtain ⟨b1, b2, b3, b4, b5, b6, b7⟩ := follows_ok (i := i0) (cs := cs.take i) hk6 hi6 (fun c hc => hcso c (List.mem_of_mem_take hc)) (by omega)
      have hl7 : ov7.length ≤ 301 * j + 301 := by rw [p72.length, List.length_append]; omega
      obtain ⟨c1, c2, c3, c4, c5, c6, c7⟩ := follow_ok b1 (Nat.lt_of_lt_of_le hi6 b2) (hcso c (List.mem_of_getElem? hc)) (by omega)
      refine ⟨_, rfl, _, rfl, _, rfl, _, rfl, _, rfl, a, _, X7, _, _, i0, c, cv, pr, _, rfl, W7.1, b1, hd2, Nat.lt_of_lt_of_le hi6 b2, ?_, fun H8 X8 p8 ov8 W8 hp8 ht8 ep8 => ?_⟩
      · rw [List.length_append, List.length_map, List.length_map, List.length_append, List.length_cons]; omega
      · have et : cs.take (i + 1) = cs.take i ++ [c] := by rw [List.take_add_one, hc]; rfl
        have k7 := W8.2.keep _ _ p71 hn71
        refine ⟨pt7, p8, _, _, rfl, rfl, SqL.of k7, SqL.of hp8, by rw [ht8.length, sizeLine_eq]; omega, fun p9 hp9 => ?_⟩
        rw [et, follows_snoc]
        have s9 := Same.new (o := .lst (ov7 ++ ov8)) hp9
        have U79 := W7.2.trans W8.2
        have hp9F : p9 ∉ pr :: X8.F a := fun m => by
          obtain ⟨rvz, z1, _⟩ := W8.1.r
          rcases List.mem_cons.mp m with e | m
          · rw [e, z1] at hp9; cases hp9
          · exact W8.1.h.notIn hp9 m
        refine ⟨X8, p9, _, rfl, ep8.trans ep7, ?_, ⟨_, upd_same, ?_⟩, hp9F, (if m : p9 ∈ X.F a then .inl m else .inr (U79.free hp9 m)), s9 _ _ (W8.2.keep _ _ hp7 hn7), fun m => ?_, TDs.fx (Same.fx s9) _ _ (TDs.fx W8.2.fx _ _ ht7)⟩
        · dsimp only
          rw [List.map_append (l₁ := (s6'.follows i0 (cs.take i)).2.1), ← List.append_assoc]
          exact LWTo.same ⟨W8.1, U79⟩ s9
        · dsimp only
          rw [← List.append_assoc]
          exact TDs.fx (Same.fx s9) _ _ ((TDs.fx W8.2.fx _ _ p72).append ht8)
        · rcases W8.2.new _ m with z | z
          · exact hn7 z
          · rw [hp7] at z; cases z
    · rintro σ H7 ⟨X7, pt7, w7, rfl, ep7, W7, hov7, hn71, hn72, hp7, hn7, ht7⟩
      rw [hcl2, List.take_length] at W7 hov7
      obtain ⟨b1, b2, b3, b4, b5, b6, b7⟩ := follows_ok (i := i0) (cs := cs) hk6 hi6 hcso (by omega)
      have ed : (dn ++ (i0, h0) :: row1).map rowD ++ (s6'.follows i0 cs).2.1.map rowD = ((dn ++ [(i0, h0)]) ++ (row1 ++ (s6'.follows i0 cs).2.1)).map rowD := by simp
      rw [ed] at W7
      refine ⟨_, X7, dn ++ [(i0, h0)], row1 ++ (s6'.follows i0 cs).2.1, _, pt7, _, _, _, rfl, ep7, W7, by rw [List.length_append, hdn]; rfl, hov7, hn71, hn72, b1.weak (Nat.le_refl _) (by omega) (by omega) (by omega), (hro1.mono b2).append b3, ?_, ?_, hloop2⟩
      · rw [List.length_append]; omega
      · rw [List.length_append]; omega
end
end Ol
namespace Ol
open PySem PySem.Spec PyProof.Rows L2
/-! ### D.get(k, x), D a written table of the module -/
def tKGet2 (K : PySem.W.Frag) (d : Addr) (ty tx : TE) : TE := fun σ H Q => ty σ H fun y H2 => tx σ H2 fun z H3 => ∃ (x : Str) (r : Option Value), y = .str x ∧ PySem.W.nsIn K d x = some r ∧
  (r = none → Q z H3) ∧ ∀ u, r = some u → ∃ v, RelV v u ∧ Q v H3
theorem pe_kget2 {X : Cx} {d : Addr} {es : Array DictEntry} {n : Nat} {o e f : Expr} {apos cpos : Pos} {ty tx : TE} (D : KDict X.K X.w d es n) (ho : PE X o (tC (.ref d))) (he : PE X e ty) (hf : PE X f tx) (m : M2 X o "get" apos e f cpos) :
    PE X (.Call (.Attribute o "get" apos) [e, f] [] cpos) (tKGet2 X.K d ty tx) := by
  refine ⟨fun pins s σ H Q I h => ?_⟩
  have h' : tC (.ref d) σ H (fun x H1 => x = .ref d ∧ tKGet2 X.K d ty tx σ H1 Q) := ⟨rfl, h⟩
  refine wpAny_Call_method m.base m.few m.line PySem.F.plainAttrs_dict PySem.F.slot_dict_get PySem.F.type_dict_get (thn (ho.run pins s σ H _ I h') fun u s1 ⟨x, H1, I1, rx, ex, q1⟩ => ?_)
  subst ex
  obtain rfl : u = Value.ref d := rx
  refine ⟨kd_type D I1, fun b e => ?_, ?_⟩
  · cases e
    exact ⟨_, I1.kIn _ _ D.at_, rfl⟩
  rw [m.trees]
  refine Calls.callWith_builtin rfl (Calls.evalArgs_plain (Calls.spliced_cons (thn (he.run pins s1 σ H1 _ I1 q1) fun iv s2 ⟨y, H2, I2, ry, q2⟩ =>
    Calls.spliced_cons (thn (hf.run pins s2 σ H2 _ I2 q2) fun fv s3 ⟨z, H3, I3, rz, xk, r, ey, en, q3, q4⟩ => Calls.spliced_nil ?_))))
  subst ey
  obtain ⟨t, rfl⟩ := ry
  refine call_meetsIn PySem.F.slot_dict_get (kd_type D I3) PySem.F.entry_dict_get (PySem.F.args_dict_get_3 _ _ _) (meets_dict_get_default (strKind X.prog X.w) d (PySem.strKind_is X.prog X.w xk t) D.low fv) ⟨_, PySem.W.mapOf_K (prog := X.prog) I3.kIn D.at_ D.lit, ?_⟩
  rw [PySem.W.find_K D.at_ en]
  cases r with
  | none => exact ⟨z, H3, I3.tok _, rz, q3 rfl⟩
  | some u =>
    obtain ⟨v, rv, qv⟩ := q4 u rfl
    exact ⟨v, H3, I3.tok _, rv, qv⟩
/-! ### what the table of kinds holds -/
theorem kinds_dict {w : World} {K : PySem.W.Frag} {mg : Str → Option Value} (T : Tx w K mg) : ∃ es n, KDict K w (He.ga K "KINDS") es n := by
  obtain ⟨_, _, _, c, _⟩ := T
  exact c.tab 0
theorem kinds_at {w : World} {K : PySem.W.Frag} {mg : Str → Option Value} (T : Tx w K mg) (H : Hp) {x : Str} {vs : List Str} (h : (x, vs) ∈ kinds) : ∃ p, PySem.W.nsIn K (He.ga K "KINDS") x = some (some (.ref p)) ∧ SqT K H p (vs.map V.str) := by
  obtain ⟨_, _, _, _, e⟩ := T
  unfold ex at e
  simp only [Bool.and_eq_true] at e
  have h2 := List.all_eq_true.mp e.2.2 (x, vs) h
  unfold tabTup at h2
  split at h2
  · rename_i p e1
    split at h2
    · rename_i o1 o2 o3 its e2 e3
      simp only [Bool.and_eq_true, decide_eq_true_eq] at h2
      obtain ⟨c1, c2, c3⟩ := h2
      exact ⟨p, e1, .inr ⟨_, o3, its, e3, congrArg Value.type c1, rfl, c2, He.relAll_ok c3⟩⟩
    · cases h2
  · cases h2
end Ol
/-! zip of a list and a tuple: as the library has it for two lists and for two tuples -/
namespace Ol
open PySem RZ
open PySem.Sem (wp)
section
variable {prog : Program} {w : World} {A : Around} {E : Value → Shared → Prop} {s : Shared}
theorem zipM_next_item {z TI TO i1 i2 l1 l2 : Addr} {k1 k2 : Nat} {xs ys : Array Value} {x y a b : Value} {Q : Value → Shared → Prop} (D : ZipApart z TI TO i1 i2 l1 l2)
    (hz : IsZip s.heap z TI TO .none) (hTI : IsPair s.heap TI (.ref i1) (.ref i2)) (hTO : IsPair s.heap TO a b)
    (h1 : s.heap.IsListIter i1 l1 k1) (h2 : s.heap.IsTupleIter i2 l2 k2) (hl1 : s.heap.IsList l1 xs) (hl2 : s.heap.IsTuple l2 ys) (hx : xs[k1]? = some x) (hy : ys[k2]? = some y)
    (hQ : ∀ h', IsZip h' z TI TO (rawInt s.heap.objs.size) → IsPair h' TO x y → h'.IsListIter i1 l1 (k1 + 1) → h'.IsTupleIter i2 l2 (k2 + 1) → IsPair h' s.heap.objs.size x y → h'.objs.size = s.heap.objs.size + 1 →
      (∀ c o, c ≠ z → c ≠ TO → c ≠ i1 → c ≠ i2 → s.heap.get? c = some o → h'.get? c = some o) → Q (.ref s.heap.objs.size) { s with heap := h' }) :
    wpAny (model prog w) A (Builtin.«zip.__next__» ⟨[.ref z], []⟩) (fun fin s' => ∃ v, fin = .done (.ret v) ∧ Q v s') E s := by
  show wpAny _ _ (field (.ref z) 2 >>= _) _ _ _
  refine wpAny_bind (wpAny_field hz rfl (x := .bool false) rfl ?_)
  show wpAny _ _ (field (.ref z) 3 >>= _) _ _ _
  refine wpAny_bind (wpAny_field hz rfl (x := .ref TI) rfl ?_)
  refine wpAny_bind (wpAny_seqItems hTI rfl ?_)
  show wpAny _ _ (Builtin.SmallTypes.ownedTupleIsFree (.ref z) >>= _) _ _ _
  refine wpAny_bind ?_
  unfold Builtin.SmallTypes.ownedTupleIsFree
  refine wpAny_bind (wpAny_field hz rfl (x := .none) rfl (wpAny_pure ?_))
  simp only [if_true]
  refine wpAny_bind (wpAny_rule ?_)
  refine wpAny_bind (wpAny_field hz rfl (x := .ref TO) rfl ?_)
  refine wpAny_bind (wpAny_setField_rec hz (by simp) fun h₁ hz₁ hs₁ => ?_)
  replace hz₁ : IsZip h₁ z TI TO .ellipsis := hz₁
  refine wpAny_bind ?_
  simp only [List.zipIdx_cons, List.zipIdx_nil, List.forIn_cons, List.forIn_nil]

  refine wpAny_bind (wpAny_bind (wpAny_onRaise ?_))
  show wpAny _ _ (Builtin.SmallTypes.nextOf (.ref i1) >>= _) _ _ _
  refine wpAny_bind (wpAny_nextOf_list_item (h1.extBut hs₁.extBut D.i1z) (hl1.extBut hs₁.extBut D.l1z) hx fun h₂ h1₂ hs₂ => wpAny_pure ?_)
  have hTO₂ : IsPair h₂ TO a b := hs₂.extBut _ _ D.TOi1 (hs₁.extBut _ _ D.TOz hTO)
  refine wpAny_bind (wpAny_seqItems hTO₂ rfl ?_)
  refine wpAny_bind (wpAny_updateSeq_pair hTO₂ fun h₃ hTO₃ hs₃ => ?_)
  replace hTO₃ : IsPair h₃ TO x b := hTO₃
  refine wpAny_bind (wpAny_letGo (wpAny_pure ?_))

  refine wpAny_bind (wpAny_bind (wpAny_onRaise ?_))
  show wpAny _ _ (Builtin.SmallTypes.nextOf (.ref i2) >>= _) _ _ _
  refine wpAny_bind (nextOf_tuple_item (((h2.extBut hs₁.extBut D.i2z).extBut hs₂.extBut D.i12.symm).extBut hs₃.extBut D.TOi2.symm)
    (((hl2.extBut hs₁.extBut D.l2z).extBut hs₂.extBut D.l2i1).extBut hs₃.extBut D.l2TO) hy fun h₄ h2₄ hs₄ => wpAny_pure ?_)
  have hTO₄ : IsPair h₄ TO x b := hs₄.extBut _ _ D.TOi2 hTO₃
  refine wpAny_bind (wpAny_seqItems hTO₄ rfl ?_)
  refine wpAny_bind (wpAny_updateSeq_pair hTO₄ fun h₅ hTO₅ hs₅ => ?_)
  replace hTO₅ : IsPair h₅ TO x y := hTO₅
  refine wpAny_bind (wpAny_letGo (wpAny_pure (wpAny_pure ?_)))

  refine wpAny_bind (wpAny_seqItems hTO₅ rfl ?_)
  refine wpAny_bind (wpAny_newTuple ?_)
  have hsz : h₅.objs.size = s.heap.objs.size := by rw [hs₅.1, hs₄.1, hs₃.1, hs₂.1, hs₁.1]
  have hz₅ : IsZip h₅ z TI TO .ellipsis := hs₅.extBut _ _ D.TOz.symm (hs₄.extBut _ _ D.i2z.symm (hs₃.extBut _ _ D.TOz.symm (hs₂.extBut _ _ D.i1z.symm hz₁)))
  have hk₅ : ∀ c o, c ≠ z → c ≠ TO → c ≠ i1 → c ≠ i2 → s.heap.get? c = some o → h₅.get? c = some o := fun c o c1 c2 c3 c4 e =>
    hs₅.extBut _ _ c2 (hs₄.extBut _ _ c4 (hs₃.extBut _ _ c2 (hs₂.extBut _ _ c3 (hs₁.extBut _ _ c1 e))))
  have h1₅ : h₅.IsListIter i1 l1 (k1 + 1) := ((h1₂.extBut hs₃.extBut D.TOi1.symm).extBut hs₄.extBut D.i12).extBut hs₅.extBut D.TOi1.symm
  have h2₅ : h₅.IsTupleIter i2 l2 (k2 + 1) := h2₄.extBut hs₅.extBut D.TOi2.symm
  have hzlt : z < h₅.objs.size := Heap.lt_size hz₅
  have hTOlt : TO < h₅.objs.size := Heap.lt_size hTO₅
  have hi1lt : i1 < h₅.objs.size := by obtain ⟨_, e, _⟩ := h1₅; exact Heap.lt_size e
  have hi2lt : i2 < h₅.objs.size := by obtain ⟨_, e, _⟩ := h2₅; exact Heap.lt_size e
  show wpAny _ _ (Builtin.SmallTypes.ownedTupleHandOut (.ref z) (.ref h₅.objs.size) >>= _) _ _ _
  refine wpAny_bind ?_
  unfold Builtin.SmallTypes.ownedTupleHandOut
  have hz₆ : IsZip (h₅.push { cls := .type "tuple", data := .seq #[x, y] }) z TI TO .ellipsis := Heap.get?_push_of_some _ hz₅
  refine wpAny_bind (wpAny_setField_rec hz₆ (by simp) fun h₇ hz₇ hs₇ => ?_)
  replace hz₇ : IsZip h₇ z TI TO (rawInt h₅.objs.size) := hz₇
  refine wpAny_setField_rec hz₇ (by simp) fun h₈ hz₈ hs₈ => ?_
  replace hz₈ : IsZip h₈ z TI TO (rawInt h₅.objs.size) := hz₈
  have up : ∀ c o, c ≠ z → h₅.get? c = some o → h₈.get? c = some o := fun c o c1 e => hs₈.extBut _ _ c1 (hs₇.extBut _ _ c1 (Heap.get?_push_of_some _ e))
  have hT₈ : IsPair h₈ h₅.objs.size x y := hs₈.extBut _ _ (Nat.ne_of_gt hzlt) (hs₇.extBut _ _ (Nat.ne_of_gt hzlt) (Heap.get?_push_size _ rfl))
  have hz8 : h₈.objs.size = h₅.objs.size + 1 := by rw [hs₈.1, hs₇.1, Heap.size_push]
  rw [hsz] at hz₈ hT₈ hz8
  refine wpAny_pure ⟨_, rfl, ?_⟩
  show Q (.ref h₅.objs.size) _
  rw [hsz]
  exact hQ h₈ hz₈ (up _ _ D.TOz hTO₅) (h1₅.at fun o e => up _ o D.i1z e) (h2₅.at fun o e => up _ o D.i2z e) hT₈ hz8 fun c o c1 c2 c3 c4 e => up c o c1 (hk₅ c o c1 c2 c3 c4 e)

theorem zipM_next_end {z TI TO i1 i2 l1 l2 : Addr} {k1 k2 : Nat} {xs ys : Array Value} {a b : Value} {Q : Fin → Shared → Prop} (hh : A.handled = none) (D : ZipApart z TI TO i1 i2 l1 l2)
    (hz : IsZip s.heap z TI TO .none) (hTI : IsPair s.heap TI (.ref i1) (.ref i2)) (hTO : IsPair s.heap TO a b)
    (h1 : s.heap.IsListIter i1 l1 k1) (h2 : s.heap.IsTupleIter i2 l2 k2) (hl1 : s.heap.IsList l1 xs) (hl2 : s.heap.IsTuple l2 ys) (hend : xs[k1]? = none ∨ ys[k2]? = none)
    (hE : ∀ h' e, (∀ c o, c ≠ z → c ≠ TO → c ≠ i1 → c ≠ i2 → s.heap.get? c = some o → h'.get? c = some o) → (∃ o, h'.get? e = some o ∧ o.cls = .type "StopIteration") → E (.ref e) { s with heap := h' }) :
    wpAny (model prog w) A (Builtin.«zip.__next__» ⟨[.ref z], []⟩) Q E s := by
  show wpAny _ _ (field (.ref z) 2 >>= _) _ _ _
  refine wpAny_bind (wpAny_field hz rfl (x := .bool false) rfl ?_)
  show wpAny _ _ (field (.ref z) 3 >>= _) _ _ _
  refine wpAny_bind (wpAny_field hz rfl (x := .ref TI) rfl ?_)
  refine wpAny_bind (wpAny_seqItems hTI rfl ?_)
  show wpAny _ _ (Builtin.SmallTypes.ownedTupleIsFree (.ref z) >>= _) _ _ _
  refine wpAny_bind ?_
  unfold Builtin.SmallTypes.ownedTupleIsFree
  refine wpAny_bind (wpAny_field hz rfl (x := .none) rfl (wpAny_pure ?_))
  simp only [if_true]
  refine wpAny_bind (wpAny_rule ?_)
  refine wpAny_bind (wpAny_field hz rfl (x := .ref TO) rfl ?_)
  refine wpAny_bind (wpAny_setField_rec hz (by simp) fun h₁ hz₁ hs₁ => ?_)
  replace hz₁ : IsZip h₁ z TI TO .ellipsis := hz₁
  refine wpAny_bind ?_
  simp only [List.zipIdx_cons, List.zipIdx_nil, List.forIn_cons, List.forIn_nil]
  refine wpAny_bind (wpAny_bind (wpAny_onRaise ?_))
  show wpAny _ _ (Builtin.SmallTypes.nextOf (.ref i1) >>= _) _ _ _
  cases hx : xs[k1]? with
  | none =>
    refine wpAny_bind (wpAny_nextOf_list_end hh (h1.extBut hs₁.extBut D.i1z) (hl1.extBut hs₁.extBut D.l1z) hx fun h₂ e hs₂ he => ?_)
    obtain ⟨oe, hoe, hce⟩ := he
    have hz₂ : IsZip h₂ z TI TO .ellipsis := hs₂ _ _ D.i1z.symm hz₁
    have hez : e ≠ z := fun x => by subst x; rw [hz₂] at hoe; cases hoe; simp at hce
    refine wpAny_setField_rec hz₂ (by simp) fun h₃ _ hs₃ => hE h₃ e (fun c o c1 _ c3 _ x => hs₃.extBut _ _ c1 (hs₂ _ _ c3 (hs₁.extBut _ _ c1 x))) ⟨oe, hs₃.extBut _ _ hez hoe, hce⟩
  | some x =>
    have hy : ys[k2]? = none := by rcases hend with h | h; rw [hx] at h; cases h; exact h
    refine wpAny_bind (wpAny_nextOf_list_item (h1.extBut hs₁.extBut D.i1z) (hl1.extBut hs₁.extBut D.l1z) hx fun h₂ h1₂ hs₂ => wpAny_pure ?_)
    have hTO₂ : IsPair h₂ TO a b := hs₂.extBut _ _ D.TOi1 (hs₁.extBut _ _ D.TOz hTO)
    refine wpAny_bind (wpAny_seqItems hTO₂ rfl ?_)
    refine wpAny_bind (wpAny_updateSeq_pair hTO₂ fun h₃ hTO₃ hs₃ => ?_)
    refine wpAny_bind (wpAny_letGo (wpAny_pure ?_))
    refine wpAny_bind (wpAny_bind (wpAny_onRaise ?_))
    show wpAny _ _ (Builtin.SmallTypes.nextOf (.ref i2) >>= _) _ _ _
    refine wpAny_bind (nextOf_tuple_end hh (((h2.extBut hs₁.extBut D.i2z).extBut hs₂.extBut D.i12.symm).extBut hs₃.extBut D.TOi2.symm)
      (((hl2.extBut hs₁.extBut D.l2z).extBut hs₂.extBut D.l2i1).extBut hs₃.extBut D.l2TO) hy fun h₄ e hs₄ he => ?_)
    obtain ⟨oe, hoe, hce⟩ := he
    have hz₄ : IsZip h₄ z TI TO .ellipsis := hs₄ _ _ D.i2z.symm (hs₃.extBut _ _ D.TOz.symm (hs₂.extBut _ _ D.i1z.symm hz₁))
    have hez : e ≠ z := fun x => by subst x; rw [hz₄] at hoe; cases hoe; simp at hce
    refine wpAny_setField_rec hz₄ (by simp) fun h₅ _ hs₅ => hE h₅ e (fun c o c1 c2 c3 c4 x => hs₅.extBut _ _ c1 (hs₄ _ _ c4 (hs₃.extBut _ _ c2 (hs₂.extBut _ _ c3 (hs₁.extBut _ _ c1 x))))) ⟨oe, hs₅.extBut _ _ hez hoe, hce⟩

theorem pyNext_zipM_item {z TI TO i1 i2 l1 l2 : Addr} {k1 k2 : Nat} {xs ys : Array Value} {x y a b : Value} {Q : Option Value → Shared → Prop} (D : ZipApart z TI TO i1 i2 l1 l2)
    (hz : IsZip s.heap z TI TO .none) (hTI : IsPair s.heap TI (.ref i1) (.ref i2)) (hTO : IsPair s.heap TO a b)
    (h1 : s.heap.IsListIter i1 l1 k1) (h2 : s.heap.IsTupleIter i2 l2 k2) (hl1 : s.heap.IsList l1 xs) (hl2 : s.heap.IsTuple l2 ys) (hx : xs[k1]? = some x) (hy : ys[k2]? = some y)
    (hQ : ∀ h', IsZip h' z TI TO (rawInt s.heap.objs.size) → IsPair h' TO x y → h'.IsListIter i1 l1 (k1 + 1) → h'.IsTupleIter i2 l2 (k2 + 1) → IsPair h' s.heap.objs.size x y → h'.objs.size = s.heap.objs.size + 1 →
      (∀ c o, c ≠ z → c ≠ TO → c ≠ i1 → c ≠ i2 → s.heap.get? c = some o → h'.get? c = some o) → Q (some (.ref s.heap.objs.size)) { s with heap := h' }) :
    wpAny (model prog w) A (pyNext (.ref z)) Q E s := by
  have hT : s.TypeIs (.ref z) "zip" := ⟨_, hz, rfl⟩
  unfold pyNext
  exact wpAny_bind (wpAny_attempt (wpAny_callSpecial?_slot (name := Str.ofString "__next__") hT F.slot_zip_next
    (wpAny_call_entry F.slot_zip_next hT F.entry_zip_next
      (zipM_next_item D hz hTI hTO h1 h2 hl1 hl2 hx hy fun h' a1 a2 a3 a4 a5 a6 a7 => wpAny_pure (hQ h' a1 a2 a3 a4 a5 a6 a7)) (F.args_zip_next_1 _))))

theorem pyNext_zipM_end {z TI TO i1 i2 l1 l2 : Addr} {k1 k2 : Nat} {xs ys : Array Value} {a b : Value} {Q : Option Value → Shared → Prop} (hh : A.handled = none) (D : ZipApart z TI TO i1 i2 l1 l2)
    (hz : IsZip s.heap z TI TO .none) (hTI : IsPair s.heap TI (.ref i1) (.ref i2)) (hTO : IsPair s.heap TO a b)
    (h1 : s.heap.IsListIter i1 l1 k1) (h2 : s.heap.IsTupleIter i2 l2 k2) (hl1 : s.heap.IsList l1 xs) (hl2 : s.heap.IsTuple l2 ys) (hend : xs[k1]? = none ∨ ys[k2]? = none)
    (hQ : ∀ h', (∀ c o, c ≠ z → c ≠ TO → c ≠ i1 → c ≠ i2 → s.heap.get? c = some o → h'.get? c = some o) → Q none { s with heap := h' }) : wpAny (model prog w) A (pyNext (.ref z)) Q E s := by
  have hT : s.TypeIs (.ref z) "zip" := ⟨_, hz, rfl⟩
  unfold pyNext
  refine wpAny_bind (wpAny_attempt (wpAny_callSpecial?_slot (name := Str.ofString "__next__") hT F.slot_zip_next
    (wpAny_call_entry F.slot_zip_next hT F.entry_zip_next (zipM_next_end hh D hz hTI hTO h1 h2 hl1 hl2 hend fun h' e hk he => ?_) (F.args_zip_next_1 _))))
  obtain ⟨o, ho, hc⟩ := he
  refine wpAny_bind (wpAny_isInstance (T := "StopIteration") (b := true) ⟨o, ho, hc⟩ isSubtype_stop ?_)
  exact wpAny_pure (hQ _ hk)
end
abbrev zipMH1 (h : Heap) (l1 : Addr) : Heap := h.push { cls := .type "list_iterator", data := .fields #[.ref l1, .int 0 0] }
abbrev zipMH2 (h : Heap) (l1 l2 : Addr) : Heap := (zipMH1 h l1).push { cls := .type "tuple_iterator", data := .fields #[.ref l2, .int 0 0] }
abbrev zipMH3 (h : Heap) (l1 l2 : Addr) : Heap := (zipMH2 h l1 l2).push { cls := .type "tuple", data := .seq #[.ref h.objs.size, .ref (zipMH1 h l1).objs.size] }
abbrev zipMH4 (h : Heap) (l1 l2 : Addr) : Heap := (zipMH3 h l1 l2).push { cls := .type "tuple", data := .seq #[.none, .none] }
abbrev zipMH5 (h : Heap) (l1 l2 : Addr) : Heap := (zipMH4 h l1 l2).push { cls := .type "zip", data := .fields #[.none, .bool false, .bool false, .ref (zipMH2 h l1 l2).objs.size, .ref (zipMH3 h l1 l2).objs.size] }

theorem meets_zipM_new (l1 l2 : Addr) (xs ys : Array Value) :
    Meets (Builtin.«zip.__new__» ⟨[.type "zip", .ref l1, .ref l2], []⟩) (fun _ R s => s.heap.IsList l1 xs ∧ s.heap.IsTuple l2 ys ∧
      R (.ok (.ret (.ref (zipMH4 s.heap l1 l2).objs.size))) { s with heap := zipMH5 s.heap l1 l2 }) :=
  .of_wp fun prog w A R s h => by
    obtain ⟨hp, g, d, tk, os⟩ := s; obtain ⟨hl1, hl2, h⟩ := h
    have hsub := sub_zip
    have hL1 : Heap.IsList (Shared.heap ⟨hp, g, d, tk, os⟩) l1 xs := hl1
    have hL2 : Heap.IsTuple (Shared.heap ⟨hp.push { cls := .type "list_iterator", data := .fields #[.ref l1, .int 0 0] }, g, d, tk, os⟩) l2 ys := Heap.IsTuple.push hl2 _
    wp_walk using wpAny_pyIter_list hL1, wpAny_pyIter_tuple hL2
    exact ⟨_, rfl, h⟩

section
variable {prog : Program} {w : World} {A : Around} {E : Value → Shared → Prop} {s : Shared}
theorem call_zipM {l1 l2 : Addr} {xs ys : Array Value} {Q : Value → Shared → Prop} (hl1 : s.heap.IsList l1 xs) (hl2 : s.heap.IsTuple l2 ys)
    (h : ∀ h', IsZip h' (s.heap.objs.size + 4) (s.heap.objs.size + 2) (s.heap.objs.size + 3) .none → IsPair h' (s.heap.objs.size + 2) (.ref s.heap.objs.size) (.ref (s.heap.objs.size + 1)) →
      IsPair h' (s.heap.objs.size + 3) .none .none → h'.IsListIter s.heap.objs.size l1 0 → h'.IsTupleIter (s.heap.objs.size + 1) l2 0 → h'.objs.size = s.heap.objs.size + 5 →
      (∀ c o, s.heap.get? c = some o → h'.get? c = some o) → Q (.ref (s.heap.objs.size + 4)) { s with heap := h' }) :
    wpAny (model prog w) A (call (.type "zip") [.ref l1, .ref l2]) Q E s := by
  refine callType_new F.called_zip (by decide) (F.typeCall_zip_2 _ _) (F.newCall_zip_2 _ _) (fun obj => F.args_object_init_3 obj _ _) F.entry_zip_new
    (meets_zipM_new l1 l2 xs ys) ⟨hl1, hl2, ?_⟩
  have z1 : (zipMH1 s.heap l1).objs.size = s.heap.objs.size + 1 := Heap.size_push ..
  have z2 : (zipMH2 s.heap l1 l2).objs.size = s.heap.objs.size + 2 := by rw [Heap.size_push, z1]
  have z3 : (zipMH3 s.heap l1 l2).objs.size = s.heap.objs.size + 3 := by rw [Heap.size_push, z2]
  have z4 : (zipMH4 s.heap l1 l2).objs.size = s.heap.objs.size + 4 := by rw [Heap.size_push, z3]
  have z5 : (zipMH5 s.heap l1 l2).objs.size = s.heap.objs.size + 5 := by rw [Heap.size_push, z4]
  have g5 : (zipMH5 s.heap l1 l2).get? (zipMH4 s.heap l1 l2).objs.size = some _ := Heap.get?_push_size _ rfl
  have g4 : (zipMH5 s.heap l1 l2).get? (zipMH3 s.heap l1 l2).objs.size = some _ := Heap.get?_push_of_some _ (Heap.get?_push_size _ rfl)
  have g3 : (zipMH5 s.heap l1 l2).get? (zipMH2 s.heap l1 l2).objs.size = some _ := Heap.get?_push_of_some _ (Heap.get?_push_of_some _ (Heap.get?_push_size _ rfl))
  have g2 : (zipMH5 s.heap l1 l2).get? (zipMH1 s.heap l1).objs.size = some _ := Heap.get?_push_of_some _ (Heap.get?_push_of_some _ (Heap.get?_push_of_some _ (Heap.get?_push_size _ rfl)))
  have g1 : (zipMH5 s.heap l1 l2).get? s.heap.objs.size = some _ := Heap.get?_push_of_some _ (Heap.get?_push_of_some _ (Heap.get?_push_of_some _ (Heap.get?_push_of_some _ (Heap.get?_push_size _ rfl))))
  show _ ∧ _
  rw [z2, z3, z4] at g5
  rw [z1, z2] at g3
  rw [z3] at g4
  rw [z1] at g2
  rw [z4]
  exact ⟨⟨_, g5, rfl⟩, h _ g5 g3 g4 ⟨_, g1, rfl, rfl⟩ ⟨_, g2, rfl, rfl⟩ z5 fun c o x =>
    Heap.get?_push_of_some _ (Heap.get?_push_of_some _ (Heap.get?_push_of_some _ (Heap.get?_push_of_some _ (Heap.get?_push_of_some _ x))))⟩
end
end Ol
namespace Ol
open PySem PySem.Spec PyProof.Rows L2
/-- the list at a and the tuple at b as they stand at each turn, the items in new pairs -/
def ItzM (K : PySem.W.Frag) (a b : Addr) : It :=
  ⟨fun i H => ∃ (xs ys : List V) (x y : V), SqL K H a xs ∧ SqT K H b ys ∧ xs[i]? = some x ∧ ys[i]? = some y,
    fun i H v H' => ∃ T x y, v = .ref T ∧ H T = none ∧ H' = upd H T (.tup [x, y]) ∧ (∀ xs, SqL K H a xs → xs[i]? = some x) ∧ ∀ ys, SqT K H b ys → ys[i]? = some y,
    fun i H => ∃ xs ys : List V, SqL K H a xs ∧ SqT K H b ys ∧ (xs.length ≤ i ∨ ys.length ≤ i)⟩
theorem turn_zipM {P : Program} {w : World} {K : PySem.W.Frag} {elts : List Expr} {kk : Nat} {tpos : Pos} {a b z TI TO i1 i2 : Addr} (D : ZipApart z TI TO i1 i2 a b) :
    Turn P w K (.Tuple elts kk tpos) (ItzM K a b) [z, TI, TO, i1, i2] z (fun i h => IsZip h z TI TO .none ∧ IsPair h TI (.ref i1) (.ref i2) ∧ (∃ x y, IsPair h TO x y) ∧ h.IsListIter i1 a i ∧ h.IsTupleIter i2 b i) where
  mem := by simp
  obj := fun i h st c hc => by
    obtain ⟨hz, hTI, ⟨x, y, hTO⟩, ⟨o1, e1, _, d1⟩, ⟨o2, e2, _, d2⟩⟩ := st
    have e' : c = z ∨ c = TI ∨ c = TO ∨ c = i1 ∨ c = i2 := by simpa using hc
    rcases e' with q | q | q | q | q
    · rw [q]; exact ⟨_, hz, fun v q => nomatch q⟩
    · rw [q]; exact ⟨_, hTI, fun v q => nomatch q⟩
    · rw [q]; exact ⟨_, hTO, fun v q => nomatch q⟩
    · rw [q]; exact ⟨o1, e1, fun v q => by rw [d1] at q; cases q⟩
    · rw [q]; exact ⟨o2, e2, fun v q => by rw [d2] at q; cases q⟩
  keep := fun i h h' st k => by
    obtain ⟨hz, hTI, ⟨x, y, hTO⟩, h1, h2⟩ := st
    exact ⟨k z (by simp) _ hz, k TI (by simp) _ hTI, ⟨x, y, k TO (by simp) _ hTO⟩, h1.at fun o q => k i1 (by simp) o q, h2.at fun o q => k i2 (by simp) o q⟩
  item := by
    intro X hP hw hK hc i pins s σ H E I hf st hg
    subst hP hw hK
    obtain ⟨hz, hTI, ⟨x0, y0, hTO⟩, h1, h2⟩ := st
    obtain ⟨xs, ys, x, y, hqx, hqy, hx, hy⟩ := hg
    obtain ⟨its, rv, p, _⟩ := I.list hqx
    obtain ⟨its2, rv2, p2, _⟩ := I.tuple hqy
    obtain ⟨u, hu, ru⟩ := rv.get hx
    obtain ⟨u2, hu2, ru2⟩ := rv2.get hy
    have hzl : z < s.heap.objs.size := Heap.lt_size hz
    refine pyNext_zipM_item D hz hTI hTO h1 h2 p.isList p2 (x := u) (y := u2) (by simpa using hu) (by simpa using hu2) fun h' z' TO' h1' h2' hT hsz hk => ?_
    refine ⟨_, rfl, wpAny_letOwnedTupleGo_zip (s := { s with heap := h' }) z' fun h'' z'' sb => ?_⟩
    have hT2 : h''.get? s.heap.objs.size = some { cls := .type "tuple", data := .seq #[u, u2] } := (sb.2 _ (Nat.ne_of_gt hzl)).trans hT
    have new : ObjOk X.prog X.w (upd H s.heap.objs.size (.tup [x, y])) h'' s.heap.objs.size (.tup [x, y]) :=
      ⟨by show 2 ≤ sizeLine; decide, [u, u2], .cons ru (.cons ru2 .nil), ⟨_, hT2, rfl, _, rfl⟩⟩
    have I1 : Inv X pins σ (upd H s.heap.objs.size (.tup [x, y])) { s with heap := h'' } :=
      I.turnedNew (t' := s.toks) (ch := [z, TI, TO, i1, i2]) (fun c o hb q => (sb.2 c (fun q' => hb (by simp [q']))).trans (hk c o (fun q' => hb (by simp [q'])) (fun q' => hb (by simp [q'])) (fun q' => hb (by simp [q'])) (fun q' => hb (by simp [q'])) q)) hf (Nat.le_refl _) new
    refine ⟨.ref s.heap.objs.size, _, I1, rfl, ⟨_, x, y, rfl, I.hok.fresh (Nat.le_refl _), rfl, fun l hl => by rw [I.list_inj hl hqx]; exact hx, fun l hl => by rw [I.tuple_inj hl hqy]; exact hy⟩, ⟨z'', ?_, ⟨u, u2, ?_⟩, ?_, ?_⟩, fun c hcm => ?_⟩
    · exact (sb.2 _ D.TIz).trans (hk _ _ D.TIz D.TITO D.TIi1 D.TIi2 hTI)
    · exact (sb.2 _ D.TOz).trans TO'
    · exact h1'.at fun o q => (sb.2 _ D.i1z).trans q
    · exact h2'.at fun o q => (sb.2 _ D.i2z).trans q
    · have hlt : c < s.heap.objs.size := by
        have e' : c = z ∨ c = TI ∨ c = TO ∨ c = i1 ∨ c = i2 := by simpa using hcm
        rcases e' with q | q | q | q | q
        · rw [q]; exact hzl
        · rw [q]; exact Heap.lt_size hTI
        · rw [q]; exact Heap.lt_size hTO
        · rw [q]; obtain ⟨_, e1, _⟩ := h1; exact Heap.lt_size e1
        · rw [q]; obtain ⟨_, e2, _⟩ := h2; exact Heap.lt_size e2
      rw [upd_ne (Nat.ne_of_lt hlt)]
      exact (hf c hcm).1
  done := by
    intro X hP hw hK hc i pins s σ H E I hf st hg
    subst hP hw hK
    obtain ⟨hz, hTI, ⟨x0, y0, hTO⟩, h1, h2⟩ := st
    obtain ⟨xs, ys, hqx, hqy, hend⟩ := hg
    obtain ⟨its, rv, p, _⟩ := I.list hqx
    obtain ⟨its2, rv2, p2, _⟩ := I.tuple hqy
    have l1 := rv.length
    have l2 := rv2.length
    have he : its.toArray[i]? = none ∨ its2.toArray[i]? = none := by
      rcases hend with q | q
      · exact .inl (by simp; omega)
      · exact .inr (by simp; omega)
    exact pyNext_zipM_end (I.ok.hd hc) D hz hTI hTO h1 h2 p.isList p2 he fun h' hk => ⟨rfl, I.turnedL (t' := s.toks) (ch := [z, TI, TO, i1, i2]) (fun c o hb q =>
      hk c o (fun q' => hb (by simp [q'])) (fun q' => hb (by simp [q'])) (fun q' => hb (by simp [q'])) (fun q' => hb (by simp [q'])) q) hf⟩
  self := fun A i s Q E st h => wpAny_pyIter_zip st.1 h


def iZipM (K : PySem.W.Frag) (ta : TA) : TI := fun σ H R => ta σ H fun vs H1 => ∃ a b xs ys, vs = [.ref a, .ref b] ∧ SqL K H1 a xs ∧ SqT K H1 b ys ∧ R (ItzM K a b) H1
theorem pi_zipM {X : Cx} {e e2 : Expr} {ta : TA} {p pos tpos : Pos} {elts : List Expr} {kk : Nat} (hg : Gl X "zip") (hm : X.mg "zip" = none) (ha : PA X [e, e2] ta)
    (hs : starEach [e, e2] X.env = (false, eval e X.env) :: starEach [e2] X.env := by rfl) (hpl : (backTo pos (starEach [e2] X.env)).any (·.1) = false := by rfl) :
    PI X (.Tuple elts kk tpos) (.Call (.Name "zip" p) [e, e2] [] pos) (iZipM X.K ta) := by
  refine ⟨fun pins s σ H R I h => ?_⟩
  refine Call_ (ld_blt I hg hm PyProof.Rows.boot_zip (PyProof.Rows.callWith_type1 (thn (ha.run pos pins s σ H _ I h) fun us s1 ⟨vs, H1, I1, r1, q1⟩ => ?_) hs hpl))
  obtain ⟨a, b, xs, ys, ex, hqx, hqy, q⟩ := q1
  subst ex
  cases r1 with
  | cons r rr =>
    cases rr with
    | cons r' rr =>
      cases rr
      cases r
      cases r'
      have fresh5 : ∀ c, c ∈ [s1.heap.objs.size + 4, s1.heap.objs.size + 2, s1.heap.objs.size + 3, s1.heap.objs.size, s1.heap.objs.size + 1] → FpOk X pins H1 c := fun c hcm => by
        have hle : s1.heap.objs.size ≤ c := by
          simp only [List.mem_cons, List.not_mem_nil, or_false] at hcm
          rcases hcm with z | z | z | z | z <;> omega
        exact I1.fpOk hle (I1.hok.fresh hle)
      obtain ⟨its, rv, p1, _⟩ := I1.list hqx
      obtain ⟨its2, rv2, p2, _⟩ := I1.tuple hqy
      obtain ⟨o2, ho2, _⟩ := id p2
      refine call_zipM p1.isList (show s1.heap.IsTuple b its2.toArray from p2) fun h' hz hTI hTO h1 h2 hsz hk => wpAny_pyIter_zip hz ?_
      have I2 : Inv X pins σ H1 { s1 with heap := h' } := I1.kept (t' := s1.toks) hk
      exact ⟨s1.heap.objs.size + 4, [s1.heap.objs.size + 4, s1.heap.objs.size + 2, s1.heap.objs.size + 3, s1.heap.objs.size, s1.heap.objs.size + 1], _, _, H1, rfl, I2, turn_zipM (PySem.W.ktu_apart s1.heap.objs.size a b p1.lt (Heap.lt_size ho2)), ⟨hz, hTI, ⟨_, _, hTO⟩, h1, h2⟩, fresh5, q⟩
theorem for_zipM {K : PySem.W.Frag} {a b : Addr} {xs ys : List V} {g : TG} {tb : TS} {D : Ends} {σ : L2.St} {H : Hp} (hl : xs.length = ys.length) (Pv : Nat → L2.St → Hp → Prop) (h0 : Pv 0 σ H) (hq : ∀ i σ H, Pv i σ H → SqL K H a xs ∧ SqT K H b ys)
    (hs : ∀ (i : Nat) (x y : V) (T : Addr) (σ : L2.St) (H : Hp), xs[i]? = some x → ys[i]? = some y → Pv i σ H → H T = none → g (.ref T) σ (upd H T (.tup [x, y])) fun σ2 H2 => tb { D with nx := Pv (i + 1), ct := Pv (i + 1), bk := D.nx } σ2 H2) (hd : ∀ σ H, Pv xs.length σ H → D.nx σ H) :
    ∃ W : Nat → Nat → L2.St → Hp → Prop, (∃ m, W 0 m σ H) ∧ ∀ i m σ H, W i m σ H →
      ((ItzM K a b).stop i H ∧ D.nx σ H) ∨ ((ItzM K a b).go i H ∧ ∃ N : L2.St → Hp → Prop, (∀ σ' H', N σ' H' → ∃ m', m' < m ∧ W (i + 1) m' σ' H') ∧ ∀ v H', (ItzM K a b).yld i H v H' → g v σ H' fun σ2 H2 => tb { D with nx := N, ct := N, bk := D.nx } σ2 H2) := by
  refine ⟨fun i m σ H => m = xs.length - i ∧ i ≤ xs.length ∧ Pv i σ H, ⟨xs.length, rfl, Nat.zero_le _, h0⟩, ?_⟩
  rintro i m σ H ⟨rfl, hi, p⟩
  obtain ⟨qx, qy⟩ := hq i σ H p
  by_cases hlt : i < xs.length
  · have hx : xs[i]? = some xs[i] := List.getElem?_eq_getElem hlt
    have hlt2 : i < ys.length := by omega
    have hy : ys[i]? = some ys[i] := List.getElem?_eq_getElem hlt2
    refine .inr ⟨⟨xs, ys, _, _, qx, qy, hx, hy⟩, Pv (i + 1), fun σ' H' p' => ⟨xs.length - (i + 1), by omega, rfl, hlt, p'⟩, fun v H' y => ?_⟩
    obtain ⟨T, x', y', rfl, hT, rfl, f1, f2⟩ := y
    exact hs i x' y' T σ H (f1 xs qx) (f2 ys qy) p hT
  · have e : i = xs.length := by omega
    subst e
    exact .inl ⟨⟨xs, ys, qx, qy, Or.inl (Nat.le_refl _)⟩, hd σ H p⟩
end Ol
namespace Ol
open PySem PySem.Spec PyProof.Rows L2
open TL
/-! ### inputs as text -/
theorem str_eq {x y : Str} (h : tl x = tl y) : x = y := by
  cases x; cases y
  exact congrArg Str.mk (Array.toList_inj.mp h)
/-- parts that are free of a sign are told by what they are joined to -/
def jn (c : Nat) : List (List Nat) → List Nat
  | [] => []
  | [x] => x
  | x :: y :: r => x ++ c :: jn c (y :: r)
theorem tl_join (c : Nat) : ∀ l : List Str, tl (Str.join ⟨#[c]⟩ l) = jn c (l.map tl)
  | [] => rfl
  | [x] => rfl
  | x :: y :: r => by
    show tl (x ++ ⟨#[c]⟩ ++ Str.join ⟨#[c]⟩ (y :: r)) = tl x ++ c :: jn c ((y :: r).map tl)
    rw [tl_append, tl_append, tl_join c (y :: r), List.append_assoc]
    rfl
theorem app_inj (c : Nat) : ∀ {a b : List Nat} {r s : List Nat}, c ∉ a → c ∉ b → a ++ c :: r = b ++ c :: s → a = b ∧ r = s
  | [], [], _, _, _, _, h => ⟨rfl, by simpa using h⟩
  | [], y :: b, r, s, _, h2, h => by
    simp at h
    exact absurd h.1 fun z => h2 (by rw [z]; exact List.mem_cons_self)
  | x :: a, [], r, s, h1, _, h => by
    simp at h
    exact absurd h.1 fun z => h1 (by rw [← z]; exact List.mem_cons_self)
  | x :: a, y :: b, r, s, h1, h2, h => by
    simp only [List.cons_append, List.cons.injEq] at h
    obtain ⟨e1, e2⟩ := app_inj c (fun m => h1 (List.mem_cons_of_mem _ m)) (fun m => h2 (List.mem_cons_of_mem _ m)) h.2
    exact ⟨by rw [h.1, e1], e2⟩
theorem jn_inj (c : Nat) : ∀ {A B : List (List Nat)}, A ≠ [] → B ≠ [] → (∀ p ∈ A, c ∉ p) → (∀ p ∈ B, c ∉ p) → jn c A = jn c B → A = B
  | [], _, h, _, _, _, _ => absurd rfl h
  | _, [], _, h, _, _, _ => absurd rfl h
  | [x], [y], _, _, _, _, h => by rw [show x = y from h]
  | [x], y :: z :: r, _, _, h1, _, h => by
    have e : x = y ++ c :: jn c (z :: r) := h
    exact absurd (show c ∈ x by rw [e]; simp) (h1 x List.mem_cons_self)
  | x :: w :: q, [y], _, _, _, h2, h => by
    have e : x ++ c :: jn c (w :: q) = y := h
    exact absurd (show c ∈ y by rw [← e]; simp) (h2 y List.mem_cons_self)
  | x :: w :: q, y :: z :: r, _, _, h1, h2, h => by
    obtain ⟨e1, e2⟩ := app_inj c (h1 x List.mem_cons_self) (h2 y List.mem_cons_self) (show x ++ c :: jn c (w :: q) = y ++ c :: jn c (z :: r) from h)
    rw [e1, jn_inj c (List.cons_ne_nil _ _) (List.cons_ne_nil _ _) (fun p m => h1 p (List.mem_cons_of_mem _ m)) (fun p m => h2 p (List.mem_cons_of_mem _ m)) e2]
theorem split_join (c : Nat) {l : List Str} (hn : l ≠ []) (hf : ∀ p ∈ l, c ∉ tl p) : Txt.split (Str.join ⟨#[c]⟩ l) ⟨#[c]⟩ = l := by
  have h1 := StrLaws.join_split (Str.join ⟨#[c]⟩ l) ⟨#[c]⟩
  have h2 := StrLaws.split_free (Str.join ⟨#[c]⟩ l) c
  have h3 : Txt.split (Str.join ⟨#[c]⟩ l) ⟨#[c]⟩ ≠ [] := fun z => by
    have := split_pos (Str.join ⟨#[c]⟩ l) ⟨#[c]⟩
    rw [z] at this
    exact absurd this (by decide)
  have e : (Txt.split (Str.join ⟨#[c]⟩ l) ⟨#[c]⟩).map tl = l.map tl := by
    refine jn_inj c (by simpa using h3) (by simpa using hn) (fun p hp => ?_) (fun p hp => ?_) ?_
    · obtain ⟨q, hq, rfl⟩ := List.mem_map.mp hp
      exact h2 q hq
    · obtain ⟨q, hq, rfl⟩ := List.mem_map.mp hp
      exact hf q hq
    · rw [← tl_join, ← tl_join, h1]
  have : ∀ {a b : List Str}, a.map tl = b.map tl → a = b := fun {a b} h => by
    induction a generalizing b with
    | nil => cases b with
      | nil => rfl
      | cons _ _ => cases h
    | cons x a ih => cases b with
      | nil => cases h
      | cons y b =>
        simp only [List.map_cons, List.cons.injEq] at h
        rw [str_eq h.1, ih h.2]
  exact this e
/-! ### numbers as text -/
def nt (i : Int) : Str := Str.ofString (toString i)
theorem tl_nat (n : Nat) : tl (nt (n : Int)) = numL n := tl_num n
theorem tl_neg (n : Nat) : tl (nt (Int.negSucc n)) = 45 :: numL (n + 1) := by
  have e : toString (Int.negSucc n) = "-" ++ toString ((n + 1 : Nat) : Int) := rfl
  unfold nt
  rw [e]
  have h2 : tl (Str.ofString ("-" ++ toString ((n + 1 : Nat) : Int))) = 45 :: tl (Str.ofString (toString ((n + 1 : Nat) : Int))) := by
    unfold tl
    rw [Str.ofString_eq_toList, Str.ofString_eq_toList]
    simp
  rw [h2, tl_num]
theorem numL_head {n : Nat} (h : 0 < n) : ∃ c r, numL n = c :: r ∧ c ≠ 48 ∧ 48 ≤ c ∧ c ≤ 57 := by
  induction n using Nat.strongRecOn with
  | _ n ih =>
    by_cases h10 : n < 10
    · exact ⟨48 + n, [], numL_lt h10, by omega, by omega, by omega⟩
    · obtain ⟨c, r, e, h1, h2, h3⟩ := ih (n / 10) (by omega) (by omega)
      exact ⟨c, r ++ [48 + n % 10], by rw [numL_step (by omega), e]; rfl, h1, h2, h3⟩
theorem nt_free {i : Int} {c : Nat} (h : c ≠ 45 ∧ (c < 48 ∨ 57 < c)) : c ∉ tl (nt i) := by
  cases i with
  | ofNat n => rw [show nt (Int.ofNat n) = nt (n : Int) from rfl, tl_nat]; exact numL_free h.2
  | negSucc n =>
    rw [tl_neg]
    intro m
    rcases List.mem_cons.mp m with e | m
    · exact h.1 e
    · exact numL_free h.2 m
def SmallI (i : Int) : Prop := i.natAbs < 10 ^ 13
theorem nt_len {i : Int} (h : SmallI i) : (nt i).length ≤ 14 := by
  cases i with
  | ofNat n =>
    have := numL_len (n := n) (k := 13) (by decide) h
    have e : (nt (Int.ofNat n)).length = (tl (nt (n : Int))).length := by rw [← len_tl]; rfl
    rw [e, tl_nat]
    omega
  | negSucc n =>
    have := numL_len (n := n + 1) (k := 13) (by decide) h
    have e : (nt (Int.negSucc n)).length = (tl (nt (Int.negSucc n))).length := by rw [← len_tl]
    rw [e, tl_neg, List.length_cons]
    omega
theorem nt_read {i : Int} (h : SmallI i) : intText? (nt i) = some i := by
  have hl := nt_len h
  cases i with
  | ofNat n =>
    have := int_num (n := n) (by have := numL_len (n := n) (k := 13) (by decide) h; omega)
    exact this
  | negSucc n =>
    have e := intText_neg (x := nt (Int.negSucc n)) (cs := numL (n + 1)) (tl_neg n) (numL_digits _) (numL_ne _) (by omega)
    rw [e, numL_val]
    rfl
end Ol
namespace Ol
open PySem PySem.Spec PyProof.Rows L2
open TL
inductive Pt where
  | num (i : Int) | non | txt (x : Str)
def Pt.s : Pt → Str
  | .num i => nt i
  | .non => "-"
  | .txt x => x
def Pt.d : Pt → PyData
  | .num i => .int i
  | .non => .none
  | .txt x => .str x
def ptW : W → Pt
  | none => .non
  | some i => .num i
theorem ptW_d (a : W) : (ptW a).d = wd a := by cases a <;> rfl
/-- its word -/
def Inp.word : Inp → Str
  | .start _ _ _ => "start"
  | .answer _ _ _ _ => "answer"
  | .letter _ _ _ _ => "letter"
  | .tick _ => "tick"
/-- its parts behind the word -/
def Inp.rest : Inp → List Pt
  | .start m p a => [.num m, .txt p, ptW a]
  | .answer m r t a => [.num m, .num r, .num t, ptW a]
  | .letter m r k a => [.num m, .num r, .txt k, ptW a]
  | .tick m => [.num m]
/-- the kinds of its parts -/
def Inp.kinds : Inp → List Str
  | .start _ _ _ => ["moment", "name", "worth"]
  | .answer _ _ _ _ => ["moment", "number", "number", "worth"]
  | .letter _ _ _ _ => ["moment", "number", "name", "worth"]
  | .tick _ => ["moment"]
def Inp.pts (x : Inp) : List Pt := .txt x.word :: x.rest
theorem inp_pts (x : Inp) : x.d = .tuple (x.pts.map Pt.d) := by
  cases x with
  | start m p a => simp only [Inp.d, Inp.pts, Inp.word, Inp.rest, List.map_cons, List.map_nil, ptW_d]; rfl
  | answer m r t a => simp only [Inp.d, Inp.pts, Inp.word, Inp.rest, List.map_cons, List.map_nil, ptW_d]; rfl
  | letter m r k a => simp only [Inp.d, Inp.pts, Inp.word, Inp.rest, List.map_cons, List.map_nil, ptW_d]; rfl
  | tick m => rfl
theorem kinds_mem (x : Inp) : (x.word, x.kinds) ∈ kinds := by
  cases x with
  | start m p a => exact List.mem_cons_self
  | answer m r t a => exact List.mem_cons_of_mem _ List.mem_cons_self
  | letter m r k a => exact List.mem_cons_of_mem _ (List.mem_cons_of_mem _ List.mem_cons_self)
  | tick m => exact List.mem_cons_of_mem _ (List.mem_cons_of_mem _ (List.mem_cons_of_mem _ List.mem_cons_self))
theorem kinds_len (x : Inp) : x.kinds.length = x.rest.length := by cases x <;> rfl
/-- a name -/
structure Nm (x : Str) : Prop where
  lo : 1 ≤ x.length
  hi : x.length ≤ 6
  own : x ∉ ownWords
  ch : ∀ c ∈ tl x, 97 ≤ c ∧ c ≤ 122
/-- a part as its kind wants it -/
inductive PartIs : Pt → Str → Prop
  | name {x : Str} : Nm x → PartIs (.txt x) "name"
  | moment {i : Int} : 0 ≤ i → i ≤ 1000000000000 → PartIs (.num i) "moment"
  | number {i : Int} : SmallI i → PartIs (.num i) "number"
  | worth {i : Int} : -1000000000 ≤ i → i ≤ 1000000000 → PartIs (.num i) "worth"
  | none : PartIs .non "worth"
def WT (a : W) : Prop := ∀ i, a = some i → -1000000000 ≤ i ∧ i ≤ 1000000000
theorem partW {a : W} (h : WT a) : PartIs (ptW a) "worth" := by
  cases a with
  | none => exact .none
  | some i => exact .worth (h i rfl).1 (h i rfl).2
/-- an input that a log may hold -/
def Inp.tk : Inp → Prop
  | .start m p a => (0 ≤ m ∧ m ≤ 1000000000000) ∧ Nm p ∧ WT a
  | .answer m r t a => (0 ≤ m ∧ m ≤ 1000000000000) ∧ SmallI r ∧ SmallI t ∧ WT a
  | .letter m r k a => (0 ≤ m ∧ m ≤ 1000000000000) ∧ SmallI r ∧ Nm k ∧ WT a
  | .tick m => 0 ≤ m ∧ m ≤ 1000000000000
theorem rest_is {x : Inp} (h : x.tk) : ∀ (i : Nat) p k, x.rest[i]? = some p → x.kinds[i]? = some k → PartIs p k := by
  cases x with
  | start m p a =>
    intro i q k e1 e2
    match i with
    | 0 => cases e1; cases e2; exact .moment h.1.1 h.1.2
    | 1 => cases e1; cases e2; exact .name h.2.1
    | 2 => cases e1; cases e2; exact partW h.2.2
    | i + 3 => cases e1
  | answer m r t a =>
    intro i q k e1 e2
    match i with
    | 0 => cases e1; cases e2; exact .moment h.1.1 h.1.2
    | 1 => cases e1; cases e2; exact .number h.2.1
    | 2 => cases e1; cases e2; exact .number h.2.2.1
    | 3 => cases e1; cases e2; exact partW h.2.2.2
    | i + 4 => cases e1
  | letter m r k a =>
    intro i q k e1 e2
    match i with
    | 0 => cases e1; cases e2; exact .moment h.1.1 h.1.2
    | 1 => cases e1; cases e2; exact .number h.2.1
    | 2 => cases e1; cases e2; exact .name h.2.2.1
    | 3 => cases e1; cases e2; exact partW h.2.2.2
    | i + 4 => cases e1
  | tick m =>
    intro i q k e1 e2
    match i with
    | 0 => cases e1; cases e2; exact .moment h.1 h.2
    | i + 1 => cases e1
theorem small_of {i : Int} (h1 : -1000000000000 ≤ i) (h2 : i ≤ 1000000000000) : SmallI i := by unfold SmallI; omega
theorem PartIs.free {p : Pt} {k : Str} (h : PartIs p k) : 32 ∉ tl p.s ∧ 10 ∉ tl p.s := by
  cases h with
  | name n => exact ⟨fun m => by have := (n.ch 32 m).1; omega, fun m => by have := (n.ch 10 m).1; omega⟩
  | moment h1 h2 => exact ⟨nt_free (by decide), nt_free (by decide)⟩
  | number h => exact ⟨nt_free (by decide), nt_free (by decide)⟩
  | worth h1 h2 => exact ⟨nt_free (by decide), nt_free (by decide)⟩
  | none => exact ⟨by decide +kernel, by decide +kernel⟩
theorem PartIs.len {p : Pt} {k : Str} (h : PartIs p k) : p.s.length ≤ 14 := by
  cases h with
  | name n => exact Nat.le_trans n.hi (by decide)
  | moment h1 h2 => exact nt_len (small_of (by omega) (by omega))
  | number h => exact nt_len h
  | worth h1 h2 => exact nt_len (small_of (by omega) (by omega))
  | none => exact (by decide +kernel)
theorem word_free (x : Inp) : 32 ∉ tl x.word ∧ 10 ∉ tl x.word ∧ x.word.length ≤ 6 := by
  cases x with
  | start _ _ _ => show 32 ∉ tl ("start" : Str) ∧ 10 ∉ tl ("start" : Str) ∧ ("start" : Str).length ≤ 6; decide +kernel
  | answer _ _ _ _ => show 32 ∉ tl ("answer" : Str) ∧ 10 ∉ tl ("answer" : Str) ∧ ("answer" : Str).length ≤ 6; decide +kernel
  | letter _ _ _ _ => show 32 ∉ tl ("letter" : Str) ∧ 10 ∉ tl ("letter" : Str) ∧ ("letter" : Str).length ≤ 6; decide +kernel
  | tick _ => show 32 ∉ tl ("tick" : Str) ∧ 10 ∉ tl ("tick" : Str) ∧ ("tick" : Str).length ≤ 6; decide +kernel
theorem pts_free {x : Inp} (h : x.tk) : ∀ p ∈ x.pts, 32 ∉ tl p.s ∧ 10 ∉ tl p.s ∧ p.s.length ≤ 14 := fun p hp => by
  rcases List.mem_cons.mp hp with e | hp
  · rw [e]
    have := word_free x
    exact ⟨this.1, this.2.1, Nat.le_trans this.2.2 (by decide)⟩
  · obtain ⟨i, hi⟩ := List.getElem?_of_mem hp
    have hk : i < x.kinds.length := by rw [kinds_len]; exact (List.getElem?_eq_some_iff.mp hi).1
    have g := rest_is h i p _ hi (List.getElem?_eq_getElem hk)
    exact ⟨g.free.1, g.free.2, g.len⟩
theorem pts_len (x : Inp) : x.pts.length ≤ 5 := by cases x <;> simp [Inp.pts, Inp.rest]
/-- an input's line, without its end -/
def lineS (x : Inp) : Str := Str.join " " (x.pts.map Pt.s)
def textS (xs : List Inp) : Str := Str.join "" (xs.map fun x => lineS x ++ "\n")
theorem sp_str : (" " : Str) = ⟨#[32]⟩ := by decide +kernel
theorem nl_str : ("\n" : Str) = ⟨#[10]⟩ := by decide +kernel
theorem split_line {x : Inp} (h : x.tk) : Txt.split (lineS x) " " = x.pts.map Pt.s := by
  unfold lineS
  rw [sp_str]
  exact split_join 32 (by simp [Inp.pts]) fun p hp => by
    obtain ⟨q, hq, rfl⟩ := List.mem_map.mp hp
    exact (pts_free h q hq).1
theorem jn_mem (c d : Nat) (hd : d ≠ c) : ∀ {l : List (List Nat)}, (∀ p ∈ l, d ∉ p) → d ∉ jn c l
  | [], _ => by simp [jn]
  | [x], h => h x List.mem_cons_self
  | x :: y :: r, h => fun m => by
    rcases List.mem_append.mp (show d ∈ x ++ c :: jn c (y :: r) from m) with z | z
    · exact h x List.mem_cons_self z
    · rcases List.mem_cons.mp z with e | z
      · exact hd e
      · exact jn_mem c d hd (fun p hp => h p (List.mem_cons_of_mem _ hp)) z
theorem line_free {x : Inp} (h : x.tk) : 10 ∉ tl (lineS x) := by
  unfold lineS
  rw [sp_str, tl_join]
  refine jn_mem 32 10 (by decide) fun p hp => ?_
  obtain ⟨q, hq, rfl⟩ := List.mem_map.mp hp
  obtain ⟨r, hr, rfl⟩ := List.mem_map.mp hq
  exact (pts_free h r hr).2.1
theorem text_join : ∀ xs : List Inp, textS xs = Str.join "\n" (xs.map lineS ++ [Str.empty])
  | [] => rfl
  | [x] => by
    show lineS x ++ "\n" = lineS x ++ "\n" ++ Str.empty
    exact str_eq (by rw [tl_append (lineS x ++ "\n")]; simp [Str.empty])
  | x :: y :: r => by
    have ih := text_join (y :: r)
    show lineS x ++ "\n" ++ "" ++ textS (y :: r) = lineS x ++ "\n" ++ Str.join "\n" ((y :: r).map lineS ++ [Str.empty])
    rw [← ih]
    refine str_eq ?_
    have : tl ("" : Str) = [] := by decide +kernel
    simp only [tl_append, this, List.append_nil]
theorem split_text {xs : List Inp} (h : ∀ x ∈ xs, Inp.tk x) : Txt.split (textS xs) "\n" = xs.map lineS ++ [Str.empty] := by
  rw [text_join, nl_str]
  refine split_join 10 (by simp) fun p hp => ?_
  rcases List.mem_append.mp hp with hp | hp
  · obtain ⟨x, hx, rfl⟩ := List.mem_map.mp hp
    exact line_free (h x hx)
  · simp at hp
    rw [hp]
    simp [Str.empty]
theorem line_len {x : Inp} (h : x.tk) : (lineS x).length ≤ 100 := by
  have h1 := StrLaws.join_length_le " " (x.pts.map Pt.s)
  have h2 := pts_len x
  have h3 : ∀ (l : List Str), (∀ p ∈ l, p.length ≤ 14) → (l.map (·.length)).sum ≤ 14 * l.length := by
    intro l hl
    induction l with
    | nil => simp
    | cons a l ih =>
      have := hl a List.mem_cons_self
      have := ih fun p hp => hl p (List.mem_cons_of_mem _ hp)
      simp only [List.map_cons, List.sum_cons, List.length_cons]
      omega
  have h4 := h3 (x.pts.map Pt.s) fun p hp => by
    obtain ⟨q, hq, rfl⟩ := List.mem_map.mp hp
    exact (pts_free h q hq).2.2
  rw [List.length_map] at h1 h4
  have h5 : (" " : Str).length = 1 := by decide +kernel
  rw [h5] at h1
  unfold lineS
  omega
theorem text_len {xs : List Inp} (h : ∀ x ∈ xs, Inp.tk x) : (textS xs).length ≤ 101 * xs.length := by
  have h1 := StrLaws.join_length_le "" (xs.map fun x => lineS x ++ "\n")
  have h5 : ("" : Str).length = 0 := by decide +kernel
  have h3 : ((xs.map fun x => lineS x ++ "\n").map (·.length)).sum ≤ 101 * xs.length := by
    clear h1
    induction xs with
    | nil => simp
    | cons a l ih =>
      have h6 := line_len (h a List.mem_cons_self)
      have := ih fun p hp => h p (List.mem_cons_of_mem _ hp)
      have h7 : (lineS a ++ "\n").length = (lineS a).length + 1 := by rw [Str.length_append]; rfl
      simp only [List.map_cons, List.sum_cons, List.length_cons, h7]
      omega
  rw [h5] at h1
  unfold textS
  omega
end Ol
namespace Ol
open PySem PySem.Spec PyProof.Rows L2
open TL
local macro_rules | `(tactic| walk_at "len") => `(tactic| (intro vs H Q E h; first | (rcases h with ⟨hh, _⟩; rw [hh]; rfl) | (rcases h with ⟨_, hh, _⟩; rw [hh]; rfl) | (rcases h with ⟨_, _, hh, _⟩; rw [hh]; rfl) | (rcases h with ⟨_, _, _, hh, _⟩; rw [hh]; rfl) | (rcases h with ⟨_, _, _, _, hh, _⟩; rw [hh]; rfl) | (rcases h with ⟨_, _, _, _, _, hh, _⟩; rw [hh]; rfl) | (rcases h with ⟨_, _, _, _, _, _, hh, _⟩; rw [hh]; rfl) | (rcases h with ⟨_, _, _, _, _, _, _, hh, _⟩; rw [hh]; rfl) | (rcases h with ⟨_, _, _, _, _, _, _, _, hh, _⟩; rw [hh]; rfl) | (rcases h with ⟨_, _, _, _, _, _, _, _, _, hh, _⟩; rw [hh]; rfl) | (rcases h with ⟨_, _, _, _, _, _, _, _, _, _, hh, _⟩; rw [hh]; rfl) | (rcases h with ⟨_, _, _, _, _, _, _, _, _, _, _, hh, _⟩; rw [hh]; rfl) | (rcases h with ⟨_, _, _, _, _, _, _, _, _, _, _, _, hh, _⟩; rw [hh]; rfl) | (rcases h with ⟨_, _, _, _, _, _, _, _, _, _, _, _, _, hh, _⟩; rw [hh]; rfl) | (rcases h with ⟨_, _, _, _, _, _, _, _, _, _, _, _, _, _, hh, _⟩; rw [hh]; rfl) | (rcases h with ⟨_, _, _, _, _, _, _, _, _, _, _, _, _, _, _, hh, _⟩; rw [hh]; rfl) | (rcases h with ⟨_, _, _, _, _, _, _, _, _, _, _, _, _, _, _, _, hh, _⟩; rw [hh]; rfl) | (rcases h with ⟨_, _, _, _, _, _, _, _, _, _, _, _, _, _, _, _, _, hh, _⟩; rw [hh]; rfl) | (rcases h with ⟨_, _, _, _, _, _, _, _, _, _, _, _, _, _, _, _, _, _, hh, _⟩; rw [hh]; rfl) | (rcases h with ⟨_, _, _, _, _, _, _, _, _, _, _, _, _, _, _, _, _, _, _, hh, _⟩; rw [hh]; rfl)))
theorem own_tup {w : World} {K : PySem.W.Frag} {mg : Str → Option Value} (T : Tx w K mg) (H : Hp) : SqT K H (He.ga K "OWN_WORDS") (ownWords.map V.str) := by
  obtain ⟨_, _, _, _, e⟩ := T
  unfold ex at e
  simp only [Bool.and_eq_true] at e
  exact He.tupB_ok e.1 H
theorem inV_strs (x : Str) (ws : List Str) : inV (.str x) (ws.map V.str) = decide (x ∈ ws) := by
  unfold inV
  rw [List.any_map, Bool.eq_iff_iff]
  simp only [List.any_eq_true, Function.comp_apply, decide_eq_true_eq]
  constructor
  · rintro ⟨y, hy, e⟩
    have : y = x := by simpa [eqV] using e
    exact this ▸ hy
  · exact fun h => ⟨x, h, by simp [eqV]⟩
theorem tl_cut_to1 (z : Str) : tl (cutS z none (some 1)) = (tl z).take 1 := by
  have h1 : HT.sIx z.length z.length (some 1) = min 1 z.length := HT.sIx_nat z.length z.length 1
  have h : cutS z none (some 1) = ⟨((z.cps.toList.drop 0).take (min 1 z.length - 0)).toArray⟩ := by unfold cutS; rw [h1]; rfl
  rw [h, tl_mk, List.drop_zero, Nat.sub_zero, len_tl]
  show (tl z).take _ = _
  generalize tl z = l
  cases l with
  | nil => rfl
  | cons a l => rw [show min 1 (a :: l).length = 1 by simp]
theorem tl_cut_from1 (z : Str) : tl (cutS z (some 1) none) = (tl z).drop 1 := by
  have h1 : HT.sIx z.length 0 (some 1) = min 1 z.length := HT.sIx_nat z.length 0 1
  have h : cutS z (some 1) none = ⟨((z.cps.toList.drop (min 1 z.length)).take (z.length - min 1 z.length)).toArray⟩ := by unfold cutS; rw [h1]; rfl
  rw [h, tl_mk, len_tl]
  show ((tl z).drop _).take _ = _
  generalize tl z = l
  cases l with
  | nil => rfl
  | cons a l =>
    rw [show min 1 (a :: l).length = 1 by simp]
    simp
theorem tl_minus : tl ("-" : Str) = [45] := by decide +kernel
theorem tl_zero : tl ("0" : Str) = [48] := by decide +kernel
theorem numL_zero : numL 0 = [48] := by decide +kernel
theorem nt_parts {i : Int} : (∃ n : Nat, i = (n : Int) ∧ tl (nt i) = numL n ∧ (tl (nt i)).take 1 ≠ [45]) ∨ (∃ n : Nat, i = Int.negSucc n ∧ tl (nt i) = 45 :: numL (n + 1)) := by
  cases i with
  | ofNat n =>
    refine .inl ⟨n, rfl, tl_nat n, ?_⟩
    rw [show nt (Int.ofNat n) = nt (n : Int) from rfl, tl_nat]
    intro e
    by_cases h : n = 0
    · rw [h, numL_zero] at e; cases e
    · obtain ⟨c, r, e2, h1, h2, h3⟩ := numL_head (n := n) (by omega)
      rw [e2] at e
      simp at e
      omega
  | negSucc n => exact .inr ⟨n, rfl, tl_neg n⟩
theorem nt_ne_minus (i : Int) : nt i ≠ "-" := by
  intro e
  rcases nt_parts (i := i) with ⟨n, _, h, h2⟩ | ⟨n, _, h⟩
  · rw [e, tl_minus] at h2; exact h2 rfl
  · rw [e, tl_minus] at h
    obtain ⟨c, r, e2, _⟩ := numL_head (n := n + 1) (by omega)
    rw [e2] at h
    cases h
theorem small_log {i : Int} (h : SmallI i) : i.natAbs.log2 < 1920 := by
  unfold SmallI at h
  have h2 : i.natAbs < 2 ^ 1920 := Nat.lt_of_lt_of_le h (by decide +kernel)
  by_cases z : i.natAbs = 0
  · rw [z]; decide +kernel
  · exact (Nat.log2_lt z).mpr h2
def spIsNumber : Sp := fun vs H Q _ => ∃ i : Int, vs = [.int i] ∧ Q (.bl true) H
def spIsWorth : Sp := fun vs H Q _ => ∃ i : Int, vs = [.int i] ∧ -1000000000 ≤ i ∧ i ≤ 1000000000 ∧ Q (.bl true) H
def spIsMoment : Sp := fun vs H Q _ => ∃ i : Int, vs = [.int i] ∧ 0 ≤ i ∧ i ≤ 1000000000000 ∧ Q (.bl true) H
def spIsName : Sp := fun vs H Q _ => ∃ x : Str, vs = [.str x] ∧ Nm x ∧ Q (.bl true) H
def spShowPart (K : PySem.W.Frag) : Sp := fun vs H Q _ => ∃ (v : V) (p : Pt), vs = [v] ∧ TD K H v p.d ∧ (∀ i, p = .num i → SmallI i) ∧ Q (.str p.s) H
def spNumberIn : Sp := fun vs H Q _ => ∃ i : Int, vs = [.str (nt i)] ∧ SmallI i ∧ Q (.int i) H
def spPartIn (K : PySem.W.Frag) : Sp := fun vs H Q _ => ∃ (p : Pt) (k : Str), vs = [.str p.s, .str k] ∧ PartIs p k ∧ ∀ e v, H e = none → TD K H v p.d → Q (.ref e) (upd H e (.tup [v]))
section
variable {P : Program} {w : World} {K : PySem.W.Frag} {mg : Str → Option Value} {base : Heap}
theorem sc_is_number : FnScope ["thing"] ["thing"] (defScope s_is_number) := ⟨rfl, rfl, rfl, by decide +kernel, rfl, by decide +kernel, by decide +kernel⟩
theorem ok_is_number (T : Tx w K mg) : OkD P w K mg base d_is_number 1 ["thing"] (spIsNumber) := by
  have sc := sc_is_number
  refine okD_mk (F_is_number T) sc (fun _ _ _ _ _ _ us hl => match us, hl with | [_], _ => rfl) ?len ?body
  case len => walk_at "len"
  intro cdv f A outer s H vs Q E hr h
  refine ⟨_, (pss_one (ps_ret (pe_and (pe_callB call_isi (by rfl) (z_isinstance T) (by decide +kernel) (pa_cons (pv 0) (pa_cons (pe_bltn (v := .ty "int") (by rfl) (z_int T) (by decide +kernel) rfl) pa_nil))) (pe_one (pe_not (pe_callB call_isi (by rfl) (z_isinstance T) (by decide +kernel) (pa_cons (pv 0) (pa_cons (pe_bltn (v := .ty "bool") (by rfl) (z_bool T) (by decide +kernel) rfl) pa_nil)))))))), ?_⟩
  obtain ⟨i, rfl, q⟩ := h
  refine ⟨_, rfl, .int i, _, _, _, true, rfl, .ty _, .base (.int i), kit_ty (by decide +kernel), true, rfl, ifT rfl ?_⟩
  exact ⟨_, rfl, .int i, _, _, _, false, rfl, .ty _, .base (.int i), kit_ty (by decide +kernel), false, rfl, q⟩
theorem sc_is_worth : FnScope ["thing"] ["thing"] (defScope s_is_worth) := ⟨rfl, rfl, rfl, by decide +kernel, rfl, by decide +kernel, by decide +kernel⟩
theorem ok_is_worth (T : Tx w K mg) : OkD P w K mg base d_is_worth 2 ["thing"] (spIsWorth) := by
  have sc := sc_is_worth
  refine okD_mk (F_is_worth T) sc (fun _ _ _ _ _ _ us hl => match us, hl with | [_], _ => rfl) ?len ?body
  case len => walk_at "len"
  intro cdv f A outer s H vs Q E hr h
  refine ⟨_, (pss_one (ps_ret (pe_or (pe_cmp (pc_isN (pv 0))) (pe_one (pe_and (pe_f (ok_is_number T) (hr.mono (by decide)) (by rfl) (g_is_number T) (pa_cons (pv 0) pa_nil)) (pe_one (pe_chain op_le op_le (pe_op op_sub pe_int (pe_gint (by rfl) (i_MOST T))) (pv 0) (pe_gint (by rfl) (i_MOST T))))))))), ?_⟩
  obtain ⟨i, rfl, h1, h2, q⟩ := h
  refine ⟨_, rfl, false, rfl, ifF rfl ⟨_, rfl, i, rfl, true, rfl, ifT rfl ⟨_, _, rfl, rfl, _, rfl, _, _, rfl, rfl, _, rfl, ifT (decide_eq_true (by omega)) ⟨_, _, rfl, rfl, ?_⟩⟩⟩⟩
  show Q (.bl (decide (i ≤ 1000000000))) H
  rw [decide_eq_true h2]
  exact q
theorem sc_is_moment : FnScope ["thing"] ["thing"] (defScope s_is_moment) := ⟨rfl, rfl, rfl, by decide +kernel, rfl, by decide +kernel, by decide +kernel⟩
theorem ok_is_moment (T : Tx w K mg) : OkD P w K mg base d_is_moment 2 ["thing"] (spIsMoment) := by
  have sc := sc_is_moment
  refine okD_mk (F_is_moment T) sc (fun _ _ _ _ _ _ us hl => match us, hl with | [_], _ => rfl) ?len ?body
  case len => walk_at "len"
  intro cdv f A outer s H vs Q E hr h
  refine ⟨_, (pss_one (ps_ret (pe_and (pe_f (ok_is_number T) (hr.mono (by decide)) (by rfl) (g_is_number T) (pa_cons (pv 0) pa_nil)) (pe_one (pe_chain op_le op_le pe_int (pv 0) (pe_gint (by rfl) (i_LAST T))))))), ?_⟩
  obtain ⟨i, rfl, h1, h2, q⟩ := h
  refine ⟨_, rfl, i, rfl, true, rfl, ifT rfl ⟨_, rfl, _, _, rfl, rfl, _, rfl, ifT (decide_eq_true h1) ⟨_, _, rfl, rfl, ?_⟩⟩⟩
  show Q (.bl (decide (i ≤ 1000000000000))) H
  rw [decide_eq_true h2]
  exact q
theorem sc_is_name : FnScope ["thing", "sign"] ["thing"] (defScope s_is_name) := ⟨rfl, rfl, rfl, by decide +kernel, rfl, by decide +kernel, by decide +kernel⟩
theorem ok_is_name (T : Tx w K mg) : OkD P w K mg base d_is_name 1 ["thing"] (spIsName) := by
  have sc := sc_is_name
  refine okD_mk (F_is_name T) sc (fun _ _ _ _ _ _ us hl => match us, hl with | [_], _ => rfl) ?len ?body
  case len => walk_at "len"
  intro cdv f A outer s H vs Q E hr h
  refine ⟨_, (pss_cons (ps_if ((pw_or (pt_not (pt_val (pe_callB call_isi (by rfl) (z_isinstance T) (by decide +kernel) (pa_cons (pv 0) (pa_cons (pe_bltn (v := .ty "str") (by rfl) (z_str T) (by decide +kernel) rfl) pa_nil))))) (pw_or (pt_cmpR op_lt (pe_callB call_len_str (by rfl) (z_len T) (by decide +kernel) (pa_cons (pv 0) pa_nil)) pe_int (nomark _)) (pw_or (pt_cmpR op_gt (pe_callB call_len_str (by rfl) (z_len T) (by decide +kernel) (pa_cons (pv 0) pa_nil)) (pe_gint (by rfl) (i_LONGEST T)) (nomark _)) (pw_or1 (pt_cmpR op_in_seq (pv 0) (pe_gref (by rfl) (g_OWN_WORDS T)) (by rfl))))))).pt (pss_one (ps_ret pe_bl)) pss_nil)
    (pss_cons (ps_for PassesOwn.never (by rfl) (pi_str (pv 0)) (pg_name (i := 1) sc.nd rfl (Or.inl rfl)) (pss_one (ps_if (pt_cmpR op_notIn_sign (pv 1) (pe_gstr (by rfl) (i_LETTERS T)) (by rfl)) (pss_one (ps_ret pe_bl)) pss_nil)))
    (pss_one (ps_ret pe_bl)))), ?_⟩
  obtain ⟨x, rfl, N, q⟩ := h
  have hl : x.length ≤ sizeLine := by have := N.hi; rw [sizeLine_eq]; omega
  refine ⟨_, rfl, .str x, _, _, _, true, rfl, .ty _, .base (.str x), kit_ty (by decide +kernel), true, rfl, ifF rfl ⟨_, rfl, x, rfl, hl, _, _, rfl, rfl, _, rfl, ifF (decide_eq_false (by have := N.lo; omega)) ⟨_, rfl, x, rfl, hl, _, _, rfl, rfl, _, rfl, ifF (decide_eq_false (by have := N.hi; omega)) ⟨_, rfl, _, _, rfl, .inr (own_tup T H), ?_⟩⟩⟩⟩
  have e : inV (.str x) (ownWords.map V.str) = false := by rw [inV_strs]; exact decide_eq_false N.own
  refine ⟨rfl, rfl, _, rfl, ?_⟩
  refine ifF e ⟨_, rfl, x, rfl, for_it walk_str (fun i σ H' => H' = H ∧ ∃ u, σ = [some (.str x), u]) ⟨rfl, _, rfl⟩ (fun _ _ _ _ _ => trivial) ?_ ?_⟩
  · rintro i v σ H1 H2 hi ⟨rfl, u, rfl⟩ ⟨rfl, c, hc, rfl⟩
    refine ⟨_, rfl, c, _, rfl, rfl, _, rfl, ifF ?_ ⟨rfl, _, rfl⟩⟩
    have hm : c ∈ tl x := by
      rw [← Array.getElem?_toList] at hc
      exact List.mem_of_getElem? hc
    have hb := N.ch c hm
    have : ∀ c : Nat, 97 ≤ c → c ≤ 122 → (c ∈ ("abcdefghijklmnopqrstuvwxyz" : Str).cps.toList) := by
      intro c h1 h2
      have : ∀ d : Fin 26, (97 + d.val) ∈ ("abcdefghijklmnopqrstuvwxyz" : Str).cps.toList := by decide +kernel
      have h := this ⟨c - 97, by omega⟩
      rwa [show 97 + (c - 97) = c by omega] at h
    rw [decide_eq_true (this c hb.1 hb.2)]
    rfl
  · rintro σ H1 ⟨rfl, u, rfl⟩
    exact q
theorem sc_show_part : FnScope ["part"] ["part"] (defScope s_show_part) := ⟨rfl, rfl, rfl, by decide +kernel, rfl, by decide +kernel, by decide +kernel⟩
theorem ok_show_part (T : Tx w K mg) : OkD P w K mg base d_show_part 1 ["part"] (spShowPart K) := by
  have sc := sc_show_part
  refine okD_mk (F_show_part T) sc (fun _ _ _ _ _ _ us hl => match us, hl with | [_], _ => rfl) ?len ?body
  case len => walk_at "len"
  intro cdv f A outer s H vs Q E hr h
  refine ⟨_, (pss_cons (ps_if (pt_cmp (pc_isN (pv 0))) (pss_one (ps_ret pe_str)) pss_nil)
    (pss_one (ps_ret (pe_callTy call_str_W (by rfl) (z_str T) (by decide +kernel) (pa_cons (pv 0) pa_nil))))), ?_⟩
  obtain ⟨v, p, rfl, hv, hs, q⟩ := h
  cases p with
  | num i =>
    cases td_int.mp hv
    refine ⟨_, rfl, _, rfl, ifF rfl ⟨_, rfl, .inr (.inr ⟨i, rfl, small_log (hs i rfl), q⟩)⟩⟩
  | non =>
    cases td_none.mp hv
    exact ⟨_, rfl, _, rfl, ifT rfl q⟩
  | txt x =>
    cases td_str.mp hv
    exact ⟨_, rfl, _, rfl, ifF rfl ⟨_, rfl, .inr (.inl ⟨x, rfl, q⟩)⟩⟩
theorem sc_number_in : FnScope ["word", "figures", "figure"] ["word"] (defScope s_number_in) := ⟨rfl, rfl, rfl, by decide +kernel, rfl, by decide +kernel, by decide +kernel⟩
theorem ok_number_in (T : Tx w K mg) : OkD P w K mg base d_number_in 1 ["word"] (spNumberIn) := by
  have sc := sc_number_in
  refine okD_mk (F_number_in T) sc (fun _ _ _ _ _ _ us hl => match us, hl with | [_], _ => rfl) ?len ?body
  case len => walk_at "len"
  intro cdv f A outer s H vs Q E hr h
  refine ⟨_, (pss_cons (ps_set (i := 1) sc.nd rfl (Or.inl rfl) (pv 0))
    (pss_cons (ps_if (pt_cmpR op_eq (pe_slice sl_str (pv 0) po_none (po_some pe_int)) pe_str (nomark _)) (pss_one (ps_set (i := 1) sc.nd rfl (Or.inl rfl) (pe_slice sl_str (pv 0) (po_some pe_int) po_none))) pss_nil)
    (pss_cons (ps_if ((pw_or (pt_cmpR op_eq (pv 1) pe_str (nomark _)) (pw_or (pt_cmpR op_gt (pe_callB call_len_str (by rfl) (z_len T) (by decide +kernel) (pa_cons (pv 1) pa_nil)) (pe_gint (by rfl) (i_MOST_FIGURES T)) (nomark _)) (pw_or1 ((pw_and (pt_cmpR op_eq (pe_ix ix_str (pv 1) pe_int (fun _ _ => rfl)) pe_str (nomark _)) (pw_and1 (pt_cmpR op_ne (pv 0) pe_str (nomark _))))).pt)))).pt (pss_one (ps_ret pe_non)) pss_nil)
    (pss_cons (ps_for PassesOwn.never (by rfl) (pi_str (pv 1)) (pg_name (i := 2) sc.nd rfl (Or.inl rfl)) (pss_one (ps_if (pt_cmpR op_notIn_sign (pv 2) (pe_gstr (by rfl) (i_FIGURES T)) (by rfl)) (pss_one (ps_ret pe_non)) pss_nil)))
    (pss_one (ps_ret (pe_callTy call_int_str (by rfl) (z_int T) (by decide +kernel) (pa_cons (pv 0) pa_nil)))))))), ?_⟩
  obtain ⟨i, rfl, hs, q⟩ := h
  have hl14 := nt_len hs
  have hl : (nt i).length ≤ sizeLine := by rw [sizeLine_eq]; omega
  have dig : ∀ c : Nat, 48 ≤ c → c ≤ 57 → (c ∈ ("0123456789" : Str).cps.toList) := by
    intro c h1 h2
    have : ∀ d : Fin 10, (48 + d.val) ∈ ("0123456789" : Str).cps.toList := by decide +kernel
    have h := this ⟨c - 48, by omega⟩
    rwa [show 48 + (c - 48) = c by omega] at h
  have main : ∀ (f : Str) (m : Nat), tl f = numL m → (m = 0 → f = nt i) → f.length ≤ 14 →
      tSeq (tIfS (tOr (tTest (tOp rEq (tVar 1) (tC (V.str "")))) (tOr (tTest (tOp (rI0 fun i j => V.bl (decide (j < i))) (tCB (fun xs H Q => ∃ z, xs = [V.str z] ∧ z.length ≤ sizeLine ∧ Q (V.int (z.length : Int)) H) (tCons (tVar 1) tNil)) (tC (V.int 40)))) (tAnd (tTest (tOp rEq (tOp rIxS (tVar 1) (tC (V.int 0))) (tC (V.str "0")))) (tTest (tOp rNe (tVar 0) (tC (V.str "0"))))))) (tRet (tC V.non)) tNext) (tSeq (tFor (iStr (tVar 1)) (gName 2) (tIfS (tTest (tOp (fun x y H Q => ∃ c z, x = V.str { cps := #[c] } ∧ y = V.str z ∧ Q (V.bl !decide (c ∈ z.cps.toList)) H) (tVar 2) (tC (V.str "0123456789")))) (tRet (tC V.non)) tNext)) (tRet (tCB (fun xs H Q => ∃ a n, xs = [V.str a] ∧ intText? a = some n ∧ a.length ≤ 640 ∧ Q (V.int n) H) (tCons (tVar 0) tNil)))) { nx := fun x H' => Q V.non H', rt := Q } [some (.str (nt i)), some (.str f), none] H := by
    intro f m hf h0 hfl
    have hfl2 : f.length ≤ sizeLine := by rw [sizeLine_eq]; omega
    obtain ⟨c0, r0, e0⟩ : ∃ c r, numL m = c :: r := by
      cases e : numL m with
      | nil => exact absurd e (numL_ne _)
      | cons c r => exact ⟨c, r, rfl⟩
    have fne : f ≠ "" := fun e => by rw [e] at hf; rw [e0] at hf; cases hf
    refine ⟨_, rfl, rfl, _, rfl, ifF (decide_eq_false fun e => fne (V.str.inj e)) ⟨_, rfl, f, rfl, hfl2, _, _, rfl, rfl, _, rfl, ifF (decide_eq_false (by omega)) ⟨_, rfl, f, 0, c0, rfl, rfl, hfl2, ?_, rfl, _, rfl, ?_⟩⟩⟩
    · show atI (tl f) ((0 : Nat) : Int) = some c0
      rw [hf, e0]
      exact atI_nat rfl
    · have fin : tFor (iStr (tVar 1)) (gName 2) (tIfS (tTest (tOp (fun x y H Q => ∃ c z, x = V.str { cps := #[c] } ∧ y = V.str z ∧ Q (V.bl !decide (c ∈ z.cps.toList)) H) (tVar 2) (tC (V.str "0123456789")))) (tRet (tC V.non)) tNext) { nx := tRet (tCB (fun xs H Q => ∃ a n, xs = [V.str a] ∧ intText? a = some n ∧ a.length ≤ 640 ∧ Q (V.int n) H) (tCons (tVar 0) tNil)) { nx := fun x H' => Q V.non H', rt := Q }, rt := Q } [some (.str (nt i)), some (.str f), none] H := by
        refine ⟨_, rfl, f, rfl, for_it walk_str (fun i' σ H' => H' = H ∧ ∃ u, σ = [some (.str (nt i)), some (.str f), u]) ⟨rfl, _, rfl⟩ (fun _ _ _ _ _ => trivial) ?_ ?_⟩
        · rintro j v σ H1 H2 hj ⟨rfl, u, rfl⟩ ⟨rfl, c, hc, rfl⟩
          refine ⟨_, rfl, c, _, rfl, rfl, _, rfl, ifF ?_ ⟨rfl, _, rfl⟩⟩
          have hm : c ∈ tl f := by
            rw [← Array.getElem?_toList] at hc
            exact List.mem_of_getElem? hc
          rw [hf] at hm
          have hb := numL_digits m c hm
          rw [decide_eq_true (dig c hb.1 hb.2)]
          rfl
        · rintro σ H1 ⟨rfl, u, rfl⟩
          exact ⟨_, rfl, nt i, i, rfl, nt_read hs, by omega, q⟩
      by_cases z : (⟨#[c0]⟩ : Str) = "0"
      · refine ifT (decide_eq_true (by rw [z])) ⟨_, rfl, rfl, _, rfl, ifF ?_ fin⟩
        have c48 : c0 = 48 := by
          have : tl (⟨#[c0]⟩ : Str) = tl ("0" : Str) := by rw [z]
          rw [tl_zero] at this
          exact (List.cons.inj this).1
        have m0 : m = 0 := by
          cases m with
          | zero => rfl
          | succ m =>
            obtain ⟨c, r, e, h1, _⟩ := numL_head (n := m + 1) (by omega)
            rw [e0] at e
            exact absurd ((List.cons.inj e).1.symm.trans c48) h1
        have : nt i = "0" := by
          rw [← h0 m0]
          exact str_eq (by rw [hf, m0, numL_zero, tl_zero])
        rw [this]
        rfl
      · exact ifF (decide_eq_false fun e => z (V.str.inj e)) (ifF rfl fin)
  refine ⟨_, rfl, _, rfl, _, rfl, _, rfl, hl, rfl, _, rfl, ?_⟩
  rcases nt_parts (i := i) with ⟨n, e1, e2, e3⟩ | ⟨n, e1, e2⟩
  · refine ifF (decide_eq_false fun e => e3 ?_) ?_
    · rw [← tl_cut_to1, V.str.inj e, tl_minus]
    · exact main (nt i) n e2 (fun _ => rfl) hl14
  · refine ifT (decide_eq_true ?_) ⟨_, rfl, _, rfl, _, rfl, hl, ?_⟩
    · congr 1
      exact str_eq (by rw [tl_cut_to1, e2, tl_minus]; rfl)
    · have e4 : tl (cutS (nt i) (some 1) none) = numL (n + 1) := by rw [tl_cut_from1, e2]; rfl
      refine main _ (n + 1) e4 (fun h => by omega) ?_
      rw [len_tl, e4]
      rw [len_tl, e2, List.length_cons] at hl14
      omega
theorem sc_part_in : FnScope ["word", "kind", "number"] ["word", "kind"] (defScope s_part_in) := ⟨rfl, rfl, rfl, by decide +kernel, rfl, by decide +kernel, by decide +kernel⟩
theorem ok_part_in (T : Tx w K mg) : OkD P w K mg base d_part_in 3 ["word", "kind"] (spPartIn K) := by
  have sc := sc_part_in
  refine okD_mk (F_part_in T) sc (fun _ _ _ _ _ _ us hl => match us, hl with | [_, _], _ => rfl) ?len ?body
  case len => walk_at "len"
  intro cdv f A outer s H vs Q E hr h
  refine ⟨_, (pss_cons (ps_if (pt_cmpR op_eq (pv 1) pe_str (nomark _)) (pss_one (ps_ret (pe_ifExp (pt_val (pe_f (ok_is_name T) (hr.mono (by decide)) (by rfl) (g_is_name T) (pa_cons (pv 0) pa_nil))) (pe_tup (pa_cons (pv 0) pa_nil)) (pe_tup pa_nil)))) pss_nil)
    (pss_cons (ps_if ((pw_and (pt_cmpR op_eq (pv 1) pe_str (nomark _)) (pw_and1 (pt_cmpR op_eq (pv 0) pe_str (nomark _))))).pt (pss_one (ps_ret (pe_tup (pa_cons pe_non pa_nil)))) pss_nil)
    (pss_cons (ps_set (i := 2) sc.nd rfl (Or.inl rfl) (pe_f (ok_number_in T) (hr.mono (by decide)) (by rfl) (g_number_in T) (pa_cons (pv 0) pa_nil)))
    (pss_cons (ps_if ((pw_or (pt_cmp (pc_isN (pv 2))) (pw_or ((pw_and (pt_cmpR op_eq (pv 1) pe_str (nomark _)) (pw_and1 (pt_not (pt_val (pe_f (ok_is_moment T) (hr.mono (by decide)) (by rfl) (g_is_moment T) (pa_cons (pv 2) pa_nil))))))).pt (pw_or1 ((pw_and (pt_cmpR op_eq (pv 1) pe_str (nomark _)) (pw_and1 (pt_not (pt_val (pe_f (ok_is_worth T) (hr.mono (by decide)) (by rfl) (g_is_worth T) (pa_cons (pv 2) pa_nil))))))).pt)))).pt (pss_one (ps_ret (pe_tup pa_nil))) pss_nil)
    (pss_one (ps_ret (pe_tup (pa_cons (pv 2) pa_nil)))))))), ?_⟩
  obtain ⟨p, k, rfl, hp, q⟩ := h
  have one : (1 : Nat) ≤ sizeLine := by rw [sizeLine_eq]; omega
  cases hp with
  | name n =>
    exact ⟨_, rfl, rfl, _, rfl, ifT (by decide +kernel) ⟨_, rfl, _, rfl, n, true, rfl, ifT rfl ⟨_, rfl, one, fun e he => q e _ he (td_str.mpr rfl)⟩⟩⟩
  | moment h1 h2 =>
    exact ⟨_, rfl, rfl, _, rfl, ifF (by decide +kernel) ⟨_, rfl, rfl, _, rfl, ifF (by decide +kernel) (ifF rfl ⟨_, rfl, _, rfl, small_of (by omega) (by omega), _, rfl, false, rfl, ifF rfl ⟨_, rfl, rfl, _, rfl, ifT (by decide +kernel) ⟨_, rfl, _, rfl, h1, h2, true, rfl, ifF rfl ⟨_, rfl, rfl, _, rfl, ifF (by decide +kernel) (ifF rfl ⟨_, rfl, one, fun e he => q e _ he (td_int.mpr rfl)⟩)⟩⟩⟩⟩)⟩⟩
  | number h =>
    exact ⟨_, rfl, rfl, _, rfl, ifF (by decide +kernel) ⟨_, rfl, rfl, _, rfl, ifF (by decide +kernel) (ifF rfl ⟨_, rfl, _, rfl, h, _, rfl, false, rfl, ifF rfl ⟨_, rfl, rfl, _, rfl, ifF (by decide +kernel) (ifF rfl ⟨_, rfl, rfl, _, rfl, ifF (by decide +kernel) (ifF rfl ⟨_, rfl, one, fun e he => q e _ he (td_int.mpr rfl)⟩)⟩)⟩⟩)⟩⟩
  | worth h1 h2 =>
    exact ⟨_, rfl, rfl, _, rfl, ifF (by decide +kernel) ⟨_, rfl, rfl, _, rfl, ifT (by decide +kernel) ⟨_, rfl, rfl, _, rfl, ifF (decide_eq_false fun e => nt_ne_minus _ (V.str.inj e)) ⟨_, rfl, _, rfl, small_of (by omega) (by omega), _, rfl, false, rfl, ifF rfl ⟨_, rfl, rfl, _, rfl, ifF (by decide +kernel) (ifF rfl ⟨_, rfl, rfl, _, rfl, ifT (by decide +kernel) ⟨_, rfl, _, rfl, h1, h2, true, rfl, ifF rfl ⟨_, rfl, one, fun e he => q e _ he (td_int.mpr rfl)⟩⟩⟩)⟩⟩⟩⟩⟩
  | none =>
    exact ⟨_, rfl, rfl, _, rfl, ifF (by decide +kernel) ⟨_, rfl, rfl, _, rfl, ifT (by decide +kernel) ⟨_, rfl, rfl, _, rfl, ifT (by decide +kernel) ⟨one, fun e he => q e _ he (td_none.mpr rfl)⟩⟩⟩⟩
end
end Ol
namespace Ol
open PySem PySem.Spec PyProof.Rows L2
open TL
local macro_rules | `(tactic| walk_at "len") => `(tactic| (intro vs H Q E h; first | (rcases h with ⟨hh, _⟩; rw [hh]; rfl) | (rcases h with ⟨_, hh, _⟩; rw [hh]; rfl) | (rcases h with ⟨_, _, hh, _⟩; rw [hh]; rfl) | (rcases h with ⟨_, _, _, hh, _⟩; rw [hh]; rfl) | (rcases h with ⟨_, _, _, _, hh, _⟩; rw [hh]; rfl) | (rcases h with ⟨_, _, _, _, _, hh, _⟩; rw [hh]; rfl) | (rcases h with ⟨_, _, _, _, _, _, hh, _⟩; rw [hh]; rfl) | (rcases h with ⟨_, _, _, _, _, _, _, hh, _⟩; rw [hh]; rfl) | (rcases h with ⟨_, _, _, _, _, _, _, _, hh, _⟩; rw [hh]; rfl) | (rcases h with ⟨_, _, _, _, _, _, _, _, _, hh, _⟩; rw [hh]; rfl) | (rcases h with ⟨_, _, _, _, _, _, _, _, _, _, hh, _⟩; rw [hh]; rfl) | (rcases h with ⟨_, _, _, _, _, _, _, _, _, _, _, hh, _⟩; rw [hh]; rfl) | (rcases h with ⟨_, _, _, _, _, _, _, _, _, _, _, _, hh, _⟩; rw [hh]; rfl) | (rcases h with ⟨_, _, _, _, _, _, _, _, _, _, _, _, _, hh, _⟩; rw [hh]; rfl) | (rcases h with ⟨_, _, _, _, _, _, _, _, _, _, _, _, _, _, hh, _⟩; rw [hh]; rfl) | (rcases h with ⟨_, _, _, _, _, _, _, _, _, _, _, _, _, _, _, hh, _⟩; rw [hh]; rfl) | (rcases h with ⟨_, _, _, _, _, _, _, _, _, _, _, _, _, _, _, _, hh, _⟩; rw [hh]; rfl) | (rcases h with ⟨_, _, _, _, _, _, _, _, _, _, _, _, _, _, _, _, _, hh, _⟩; rw [hh]; rfl) | (rcases h with ⟨_, _, _, _, _, _, _, _, _, _, _, _, _, _, _, _, _, _, hh, _⟩; rw [hh]; rfl) | (rcases h with ⟨_, _, _, _, _, _, _, _, _, _, _, _, _, _, _, _, _, _, _, hh, _⟩; rw [hh]; rfl)))
theorem pi_tupK {X : Cx} {K : PySem.W.Frag} {tg e : Expr} {te : TE} (hK : X.K = K) (he : PE X e te) : PI X tg e (iTup K te) := by subst hK; exact pi_tup he
theorem tds_strs {K : PySem.W.Frag} {H : Hp} : ∀ {l : List Str} {vs : List V}, TDs K H vs (l.map PyData.str) → vs = l.map V.str
  | [], _, h => by rw [show _ = [] from h]; rfl
  | i :: l, vs, ⟨v, r, e, h1, h2⟩ => by
    rw [e, td_str.mp h1, tds_strs h2]
    rfl
theorem pt_small {x : Inp} (h : x.tk) : ∀ p ∈ x.pts, ∀ i, p = .num i → SmallI i := by
  intro p hp i e
  rcases List.mem_cons.mp hp with e2 | hp
  · rw [e2] at e; cases e
  · obtain ⟨j, hj⟩ := List.getElem?_of_mem hp
    have hk : j < x.kinds.length := by rw [kinds_len]; exact (List.getElem?_eq_some_iff.mp hj).1
    have g := rest_is h j p _ hj (List.getElem?_eq_getElem hk)
    subst e
    generalize x.kinds[j] = kk at g
    cases g with
    | moment h1 h2 => exact small_of (by omega) (by omega)
    | number h => exact h
    | worth h1 h2 => exact small_of (by omega) (by omega)
theorem sum_le {l : List Str} {n : Nat} (hl : ∀ p ∈ l, p.length ≤ n) : (l.map (·.length)).sum ≤ n * l.length := by
  induction l with
  | nil => simp
  | cons a l ih =>
    have := hl a List.mem_cons_self
    have := ih fun p hp => hl p (List.mem_cons_of_mem _ hp)
    simp only [List.map_cons, List.sum_cons, List.length_cons, Nat.mul_add, Nat.mul_one]
    omega
def spShowInputs (K : PySem.W.Frag) : Sp := fun vs H Q _ => ∃ (p : Addr) (xs : List V) (came : List Inp), vs = [.ref p] ∧ H p = some (.lst xs) ∧ TDs K H xs (came.map Inp.d) ∧ (∀ x ∈ came, Inp.tk x) ∧ came.length ≤ 100000 ∧ ∀ H', Same H H' → Q (.str (textS came)) H'
theorem gs_of {x : Str} (h : ∀ c ∈ tl x, c < 0x110000) : gs x := by
  show PyData.canLay0 (.str x) = true
  simp only [PyData.canLay0]
  unfold PyData.strOk
  rw [Array.all_eq_true']
  intro c hc
  exact decide_eq_true (h c (Array.mem_toList_iff.mpr hc))
theorem Nm.gs {x : Str} (h : Nm x) : gs x := gs_of fun c hc => by have := (h.ch c hc).2; omega
theorem PartIs.sd {p : Pt} {k : Str} (h : PartIs p k) : Sd 0 p.d := by
  cases h with
  | name n => exact sd_str n.gs
  | moment _ _ => exact sd_int
  | number _ => exact sd_int
  | worth _ _ => exact sd_int
  | none => exact sd_none
theorem eqNilT {K : PySem.W.Frag} {H : Hp} {b p : Addr} {vs : List V} {ds : List PyData} (n : Nat) (h : SqT K H b vs) (ht : TDs K H vs ds) (hs : ∀ d ∈ ds, Sd n d) (hp : H p = some (.tup [])) {Q : VK} (q : Q (.bl (decide (ds = []))) H) (hn : n + 1 ≤ 64 := by decide) : rEqD K (.ref b) (.ref p) H Q := by
  refine ⟨_, _, .tup h (TDs.dp _ _ ht), .tup (SqT.of hp) .nil, (sd_tup hs).shaped hn, rfl, ?_⟩
  have e : (PyData.eqv (.tuple ds) (.tuple [])) = decide (ds = []) := by
    cases ds with
    | nil => rfl
    | cons d l => rfl
  rw [e]
  exact q
theorem tds_ofstrs {K : PySem.W.Frag} {H : Hp} : ∀ l : List Str, TDs K H (l.map V.str) (l.map PyData.str)
  | [] => TDs.nil
  | x :: l => TDs.mk (td_str.mpr rfl) (tds_ofstrs l)
theorem kinds_sd (x : Inp) : x.kinds ≠ [] ∧ ∀ d ∈ x.kinds.map PyData.str, Sd 0 d := by
  have h1 : gs "moment" := by decide +kernel
  have h2 : gs "number" := by decide +kernel
  have h3 : gs "name" := by decide +kernel
  have h4 : gs "worth" := by decide +kernel
  cases x <;> refine ⟨by simp [Inp.kinds], fun d hd => ?_⟩ <;> simp only [Inp.kinds, List.map_cons, List.map_nil, List.mem_cons, List.not_mem_nil, or_false] at hd
  · rcases hd with e | e | e <;> rw [e] <;> apply sd_str <;> assumption
  · rcases hd with e | e | e | e <;> rw [e] <;> apply sd_str <;> assumption
  · rcases hd with e | e | e | e <;> rw [e] <;> apply sd_str <;> assumption
  · rw [hd]; apply sd_str; assumption
theorem cut_from1 (a : V) (l : List V) : cutV (a :: l) (some 1) none = l := by
  have h1 : HT.sIx (a :: l).length 0 (some 1) = 1 := by
    show HT.sIx (a :: l).length 0 (some ((1 : Nat) : Int)) = 1
    rw [HT.sIx_nat]; simp
  have h2 : cutV (a :: l) (some 1) none = ((a :: l).drop (HT.sIx (a :: l).length 0 (some 1))).take ((a :: l).length - HT.sIx (a :: l).length 0 (some 1)) := rfl
  rw [h2, h1]
  simp
theorem cut_butlast (a : V) (l : List V) : cutV (l ++ [a]) none (some (-1)) = l := by
  have h1 : HT.sIx (l ++ [a]).length (l ++ [a]).length (some (-1)) = l.length := by
    rw [List.length_append, List.length_singleton]
    unfold HT.sIx
    simp
    try omega
  have h2 : cutV (l ++ [a]) none (some (-1)) = ((l ++ [a]).drop 0).take (HT.sIx (l ++ [a]).length (l ++ [a]).length (some (-1)) - 0) := rfl
  rw [h2, h1]
  simp
def spKeep (K : PySem.W.Frag) : Sp := fun vs H Q _ => ∃ (a : Addr) (s : HS) (came : List Inp) (X : HX), vs = [.ref a] ∧ HouseAt K H a s came X ∧ (∀ x ∈ came, Inp.tk x) ∧ came.length ≤ 100000 ∧ ∀ H', Same H H' → Q (.str (textS came)) H'
def spInputIn (K : PySem.W.Frag) : Sp := fun vs H Q _ => ∃ (x : Inp) (n : V), vs = [.str (lineS x), n] ∧ x.tk ∧ ∀ v H', Same H H' → TD K H' v x.d → Q v H'
def spRead (K : PySem.W.Frag) : Sp := fun vs H Q _ => ∃ (xs : List Inp), vs = [.str (textS xs)] ∧ (∀ x ∈ xs, Inp.tk x) ∧ xs.length ≤ 100000 ∧ ∀ p ys H', Same H H' → H p = none → H' p = some (.lst ys) → TDs K H' ys (xs.map Inp.d) → Q (.ref p) H'
section
variable {P : Program} {w : World} {K : PySem.W.Frag} {mg : Str → Option Value} {base : Heap}
theorem sc_show_inputs : FnScope ["inputs", "some", "part"] ["inputs"] (defScope s_show_inputs) := ⟨rfl, rfl, rfl, by decide +kernel, rfl, by decide +kernel, by decide +kernel⟩
theorem ok_show_inputs (T : Tx w K mg) : OkD P w K mg base d_show_inputs 2 ["inputs"] (spShowInputs K) := by
  have sc := sc_show_inputs
  refine okD_mk (F_show_inputs T) sc (fun _ _ _ _ _ _ us hl => match us, hl with | [_], _ => rfl) ?len ?body
  case len => walk_at "len"
  intro cdv f A outer s H vs Q E hr h
  refine ⟨_, (pss_one (ps_ret (pe_join pe_str (pe_lc (own := [("some", 1)]) (by rfl) sc.nd (pi_list (pv 0)) (blkOk_by (N := ["inputs", "some", "part"]) (sc := defScope s_show_inputs) (by decide +kernel)) (fun _ _ _ _ _ => pg_name (i := 1) sc.nd rfl (Or.inl rfl)) (fun _ _ _ _ _ => pts_nil) (fun _ _ _ _ _ => (pe_op op_add_str (pe_joinK (K := K) rfl pe_str (pe_lc (own := [("part", 2)]) (by rfl) sc.nd (pi_tupK (K := K) rfl (pv 1)) (blkOk_by (by rfl)) (fun _ _ _ _ _ => pg_name (i := 2) sc.nd rfl (Or.inl rfl)) (fun _ _ _ _ _ => pts_nil) (fun _ _ _ _ _ => (pe_f (ok_show_part T) (hr.mono (by decide)) (by rfl) (g_show_part T) (pa_cons (pv 2) pa_nil))))) pe_str)))))), ?_⟩
  obtain ⟨p, xs, came, rfl, hp, ht, htk, hcl, q⟩ := h
  have hxl : xs.length = came.length := by rw [ht.length, List.length_map]
  refine ⟨⟨_, rfl⟩, _, rfl, p, rfl, ⟨xs, SqL.of hp⟩, fun D1 hD1 => lc_dataL hD1 (fun i => (came.take i).map fun x => PyData.str (lineS x ++ "\n")) rfl hp (by rw [hxl, sizeLine_eq]; omega) ?_ ?_⟩
  · intro i v H' Qy Qn hx s1 ky kn
    obtain ⟨d, hd1, hd2⟩ := ht.getV hx
    rw [List.getElem?_map, Option.map_eq_some_iff] at hd1
    obtain ⟨x, hx1, rfl⟩ := hd1
    have xm := List.mem_of_getElem? hx1
    rw [inp_pts] at hd2
    obtain ⟨pp, ys, rfl, hpp, hys⟩ := td_tup.mp hd2
    have hyl : ys.length = x.pts.length := by rw [hys.length, List.length_map]
    have hp5 := pts_len x
    have hpp2 := Fx.t (Same.fx s1) hpp
    refine ⟨rfl, ifT (B := Qn H') rfl ⟨⟨_, rfl⟩, _, rfl, pp, rfl, ⟨ys, hpp2⟩, fun D2 hD2 => lc_dataT hD2 (fun i => (x.pts.take i).map fun q => PyData.str q.s) rfl hpp2 (by rw [hyl, sizeLine_eq]; omega) ?_ ?_⟩⟩
    · intro j u H2 Qy2 Qn2 hu s2 ky2 kn2
      obtain ⟨d2, he1, he2⟩ := hys.getV hu
      rw [List.getElem?_map, Option.map_eq_some_iff] at he1
      obtain ⟨pt, hpt, rfl⟩ := he1
      refine ⟨rfl, ifT (B := Qn2 H2) rfl ⟨_, rfl, u, pt, rfl, TD.fx (Same.fx (s1.trans s2)) _ _ he2, pt_small (htk x xm) pt (List.mem_of_getElem? hpt), ky2 _ H2 _ (fun _ _ e => e) (td_str.mpr rfl) (take_map_succ _ hpt)⟩⟩
    · intro H2 acc s2 hD ha
      have ea : acc = (x.pts.map Pt.s).map V.str := by
        rw [hyl, List.take_length] at ha
        refine tds_strs (K := K) (H := H2) (l := x.pts.map Pt.s) ?_
        rw [List.map_map]
        exact ha
      subst ea
      have hsum := sum_le (l := x.pts.map Pt.s) (n := 14) fun q hq => by
        obtain ⟨r, hr, rfl⟩ := List.mem_map.mp hq
        exact (pts_free (htk x xm) r hr).2.2
      rw [List.length_map] at hsum
      have h1 : (" " : Str).length = 1 := by decide +kernel
      have hll := line_len (htk x xm)
      have h2 : ("\n" : Str).length = 1 := by decide +kernel
      refine ⟨_, D2, x.pts.map Pt.s, rfl, rfl, .inl (SqL.of hD), ?_, _, _, rfl, rfl, ?_, ky _ H2 (.str (lineS x ++ "\n")) s2 (td_str.mpr (by rw [join_eq]; rfl)) (take_map_succ (fun x => PyData.str (lineS x ++ "\n")) hx1)⟩
      · rw [List.length_map, h1]; omega
      · rw [h2, sizeLine_eq]
        rw [join_eq]
        show (lineS x).length + 1 ≤ _
        omega
  · intro H2 acc s2 hD ha
    have ea : acc = (came.map fun x => lineS x ++ "\n").map V.str := by
      rw [hxl, List.take_length] at ha
      refine tds_strs (K := K) (H := H2) (l := came.map fun x => lineS x ++ "\n") ?_
      rw [List.map_map]
      exact ha
    subst ea
    have h0 : ("" : Str).length = 0 := by decide +kernel
    have h2 : ("\n" : Str).length = 1 := by decide +kernel
    have hsum := sum_le (l := came.map fun x => lineS x ++ "\n") (n := 101) fun q hq => by
      obtain ⟨r, hr, rfl⟩ := List.mem_map.mp hq
      have := line_len (htk r hr)
      rw [Str.length_append, h2]
      omega
    rw [List.length_map] at hsum
    refine ⟨_, D1, came.map fun x => lineS x ++ "\n", rfl, rfl, .inl (SqL.of hD), ?_, ?_⟩
    · rw [h0]
      omega
    · rw [join_eq]
      exact q H2 s2
theorem sc_keep_house : FnScope ["house"] ["house"] (defScope s_keep_house) := ⟨rfl, rfl, rfl, by decide +kernel, rfl, by decide +kernel, by decide +kernel⟩
theorem ok_keep_house (T : Tx w K mg) : OkD P w K mg base d_keep_house 3 ["house"] (spKeep K) := by
  have sc := sc_keep_house
  refine okD_mk (F_keep_house T) sc (fun _ _ _ _ _ _ us hl => match us, hl with | [_], _ => rfl) ?len ?body
  case len => walk_at "len"
  intro cdv f A outer s H vs Q E hr h
  refine ⟨_, (pss_one (ps_ret (pe_f (ok_show_inputs T) (hr.mono (by decide)) (by rfl) (g_show_inputs T) (pa_cons (pe_m0 (d := d_House_inputs) (c_House T) (m_House_inputs T) (ok_House_inputs T) (hr.mono (by decide)) (pv 0)) pa_nil)))), ?_⟩
  obtain ⟨a, s, came, X, rfl, R, htk, hcl, q⟩ := h
  refine ⟨_, rfl, a, rfl, ml_house R.ob rfl, a, s, came, X, rfl, R, fun p hp => ?_⟩
  have s1 := Same.new (o := .lst X.cameV) hp
  exact ⟨p, _, came, rfl, upd_same, TDs.fx (Same.fx s1) _ _ R.tc, htk, hcl, fun H' s2 => q H' (s1.trans s2)⟩
theorem sc_input_in : FnScope ["line", "number", "words", "kinds", "found", "word", "kind", "part"] ["line", "number"] (defScope s_input_in) := ⟨rfl, rfl, rfl, by decide +kernel, rfl, by decide +kernel, by decide +kernel⟩
theorem ok_input_in (T : Tx w K mg) : OkD P w K mg base d_input_in 4 ["line", "number"] (spInputIn K) := by
  have sc := sc_input_in
  refine okD_mk (F_input_in T) sc (fun _ _ _ _ _ _ us hl => match us, hl with | [_, _], _ => rfl) ?len ?body
  case len => walk_at "len"
  intro cdv f A outer s H vs Q E hr h
  refine ⟨_, (pss_cons (ps_set (i := 2) sc.nd rfl (Or.inl rfl) (pe_split (pv 0) pe_str))
    (pss_cons (ps_set (i := 3) sc.nd rfl (Or.inl rfl) (pe_kget2 (kinds_dict T).choose_spec.choose_spec (pe_gref (by rfl) (g_KINDS T)) (pe_ix ix_list (pv 2) pe_int (fun _ _ => rfl)) (pe_tup pa_nil) ⟨by rfl, by rfl, by rfl, by rfl⟩))
    (pss_cons (ps_if ((pw_or (pt_cmpR (op_eqD hr.units) (pv 3) (pe_tup pa_nil) (nomark _)) (pw_or1 (pt_cmpR op_ne (pe_callB call_len_seq (by rfl) (z_len T) (by decide +kernel) (pa_cons (pv 2) pa_nil)) (pe_op op_add pe_int (pe_callB call_len_seq (by rfl) (z_len T) (by decide +kernel) (pa_cons (pv 3) pa_nil))) (nomark _))))).pt (pss_one ps_never) pss_nil)
    (pss_cons (ps_set (i := 4) sc.nd rfl (Or.inl rfl) (pe_tup (pa_cons (pe_ix ix_list (pv 2) pe_int (fun _ _ => rfl)) pa_nil)))
    (pss_cons (ps_for PassesOwn.never (by rfl) (pi_zipM (by rfl) (z_zip T) (pa_cons (pe_slice sl_list (pv 2) (po_some pe_int) po_none) (pa_cons (pv 3) pa_nil))) (pg_tup (by rfl) (pgs_cons (pg_name (i := 5) sc.nd rfl (Or.inl rfl)) (pgs_cons (pg_name (i := 6) sc.nd rfl (Or.inl rfl)) pgs_nil))) (pss_cons (ps_set (i := 7) sc.nd rfl (Or.inl rfl) (pe_f (ok_part_in T) (hr.mono (by decide)) (by rfl) (g_part_in T) (pa_cons (pv 5) (pa_cons (pv 6) pa_nil))))
    (pss_cons (ps_if (pt_cmpR (op_eqD hr.units) (pv 7) (pe_tup pa_nil) (nomark _)) (pss_one ps_never) pss_nil)
    (pss_one (ps_set (i := 4) sc.nd rfl (Or.inl rfl) (pe_op op_catT (pv 4) (pv 7)))))))
    (pss_one (ps_ret (pv 4)))))))), ?_⟩
  obtain ⟨x, n, rfl, hx, q⟩ := h
  have hll := line_len hx
  refine ⟨_, rfl, ⟨_, rfl⟩, _, _, rfl, rfl, rfl, by rw [sizeLine_eq]; omega, ?_⟩
  rw [split_line hx]
  intro p hp
  have ew : (x.pts.map Pt.s).map V.str = .str x.word :: x.rest.map fun q => V.str q.s := by simp [Inp.pts, Pt.s]
  rw [ew]
  have hrl : x.rest.length ≤ 4 := by have := pts_len x; simp only [Inp.pts, List.length_cons] at this; omega
  have s1 := Same.new (o := .lst (.str x.word :: x.rest.map fun q => V.str q.s)) hp
  have m1 : upd H p (.lst (.str x.word :: x.rest.map fun q => V.str q.s)) p = _ := upd_same
  generalize upd H p (.lst (.str x.word :: x.rest.map fun q => V.str q.s)) = H1 at *
  obtain ⟨kp, hk1, hk2⟩ := kinds_at T H1 (kinds_mem x)
  refine ⟨_, rfl, p, _, _, .str x.word, rfl, rfl, SqL.of m1, atI_nat (j := 0) rfl, Nat.zero_le _, fun e1 he1 => ⟨x.word, _, rfl, hk1, (fun z => by cases z), fun u hu => ⟨.ref kp, ?_, ?_⟩⟩⟩
  · rw [← Option.some.inj hu]; rfl
  have s2 := Same.new (o := .tup []) he1
  have m2 := s2 _ _ m1
  refine ⟨_, rfl, Nat.zero_le _, fun e2 he2 => ?_⟩
  have s3 := Same.new (o := .tup []) he2
  have m3 := s3 _ _ m2
  have k3 := Fx.t (Same.fx (s2.trans s3)) hk2
  have e3 : upd (upd H1 e1 (.tup [])) e2 (.tup []) e2 = some (.tup []) := upd_same
  have s13 := s1.trans (s2.trans s3)
  generalize upd (upd H1 e1 (.tup [])) e2 (.tup []) = H3 at *
  refine eqNilT 0 k3 (tds_ofstrs _) (kinds_sd x).2 e3 ⟨_, rfl, ifF (decide_eq_false fun z => (kinds_sd x).1 (List.map_eq_nil_iff.mp z)) ⟨_, rfl, p, _, rfl, .inl (SqL.of m3), _, rfl, kp, _, rfl, .inr k3, _, _, rfl, rfl, rfl, _, rfl, ifF ?_ ?_⟩⟩
  · rw [List.length_cons, List.length_map, List.length_map, kinds_len]
    have : ((x.rest.length + 1 : Nat) : Int) = 1 + (x.rest.length : Int) := by omega
    rw [this]
    simp
  refine ⟨_, rfl, p, _, _, .str x.word, rfl, rfl, SqL.of m3, atI_nat (j := 0) rfl, (by rw [List.length_cons]; rw [sizeLine_eq]; simp), fun e4 he4 => ?_⟩
  have s4 := Same.new (o := .tup [.str x.word]) he4
  have m4 : upd H3 e4 (.tup [.str x.word]) e4 = _ := upd_same
  have m4p := s4 _ _ m3
  have k4 := Fx.t (Same.fx s4) k3
  have s14 := s13.trans s4
  generalize upd H3 e4 (.tup [.str x.word]) = H4 at *
  refine ⟨_, rfl, _, rfl, p, _, rfl, SqL.of m4p, fun p2 hp2 => ?_⟩
  rw [cut_from1]
  have s5 := Same.new (o := .lst (x.rest.map fun q => V.str q.s)) hp2
  have m5 : upd H4 p2 (.lst (x.rest.map fun q => V.str q.s)) p2 = _ := upd_same
  have k5 := Fx.t (Same.fx s5) k4
  have m54 := s5 _ _ m4
  have s15 := s14.trans s5
  generalize upd H4 p2 (.lst (x.rest.map fun q => V.str q.s)) = H5 at *
  refine ⟨_, rfl, p2, kp, _, _, rfl, SqL.of m5, k5, for_zipM (by rw [List.length_map, List.length_map, kinds_len]) (fun i σ H' => ∃ e fv u5 u6 u7, σ = [some (.str (lineS x)), some n, some (.ref p), some (.ref kp), some (.ref e), u5, u6, u7] ∧ Same H5 H' ∧ H' e = some (.tup fv) ∧ fv.length = i + 1 ∧ TDs K H' fv (.str x.word :: (x.rest.take i).map Pt.d))
    ⟨e4, _, _, _, _, rfl, fun _ _ z => z, m54, rfl, TDs.mk (td_str.mpr rfl) TDs.nil⟩ (fun i σ H' ⟨e, fv, u5, u6, u7, _, s6, _⟩ => ⟨SqL.of (s6 _ _ m5), Fx.t (Same.fx s6) k5⟩) ?_ ?_⟩
  · rintro i v y TT σ H6 hv hy ⟨e, fv, u5, u6, u7, rfl, s6, m6, hfl, t6⟩ hT
    rw [List.getElem?_map, Option.map_eq_some_iff] at hv hy
    obtain ⟨pt, hpt, rfl⟩ := hv
    obtain ⟨kd, hkd, rfl⟩ := hy
    have s7 := Same.new (o := .tup [.str pt.s, .str kd]) hT
    have m7 : upd H6 TT (.tup [.str pt.s, .str kd]) TT = _ := upd_same
    have m76 := s7 _ _ m6
    have s67 := s6.trans s7
    have t7 := TDs.fx (Same.fx s7) _ _ t6
    generalize upd H6 TT (.tup [.str pt.s, .str kd]) = H7 at *
    have hi := rest_is hx i pt kd hpt hkd
    refine ⟨TT, _, rfl, SqT.of m7, rfl, _, _, rfl, _, _, rfl, rfl, _, rfl, _, rfl, pt, kd, rfl, hi, fun e8 v8 he8 hv8 => ?_⟩
    have s8 := Same.new (o := .tup [v8]) he8
    have m8 : upd H7 e8 (.tup [v8]) e8 = _ := upd_same
    have m86 := s8 _ _ m76
    have s68 := s67.trans s8
    have t8 := TDs.fx (Same.fx s8) _ _ t7
    have hv9 := TD.fx (Same.fx s8) _ _ hv8
    generalize upd H7 e8 (.tup [v8]) = H8 at *
    refine ⟨_, rfl, Nat.zero_le _, fun e9 he9 => ?_⟩
    have s9 := Same.new (o := .tup []) he9
    have m9 : upd H8 e9 (.tup []) e9 = _ := upd_same
    have m98 := s9 _ _ m8
    have m96 := s9 _ _ m86
    have s69 := s68.trans s9
    have t9 := TDs.fx (Same.fx s9) _ _ t8
    have hv10 := TD.fx (Same.fx s9) _ _ hv9
    generalize upd H8 e9 (.tup []) = H9 at *
    refine eqNilT 0 (SqT.of m98) (TDs.mk hv10 TDs.nil) (fun d hd => ?_) m9 ⟨_, rfl, ifF (decide_eq_false fun z => by cases z) ⟨_, rfl, _, rfl, e, e8, _, _, rfl, rfl, SqT.of m96, SqT.of m98, (fun z => by rw [z] at hfl; cases hfl), ?_, (fun z => by cases z), fun _ e10 he10 => ?_⟩⟩
    · rw [List.mem_singleton.mp hd]
      exact hi.sd
    · have : i < x.rest.length := (List.getElem?_eq_some_iff.mp hpt).1
      rw [hfl, sizeLine_eq]
      simp only [List.length_cons, List.length_nil]
      omega
    · have s10 := Same.new (o := .tup (fv ++ [v8])) he10
      refine ⟨e10, _, _, _, _, rfl, s69.trans s10, upd_same, by simp [hfl], ?_⟩
      rw [take_map_succ _ hpt]
      exact TDs.fx (Same.fx s10) _ _ (t9.snoc hv10)
  · rintro σ H6 ⟨e, fv, u5, u6, u7, rfl, s6, m6, hfl, t6⟩
    refine ⟨_, rfl, q _ H6 (s15.trans s6) ?_⟩
    rw [inp_pts]
    rw [List.length_map, List.take_length] at t6
    exact TD.new m6 t6
theorem sc_read_inputs : FnScope ["text", "number", "line"] ["text"] (defScope s_read_inputs) := ⟨rfl, rfl, rfl, by decide +kernel, rfl, by decide +kernel, by decide +kernel⟩
theorem ok_read_inputs (T : Tx w K mg) : OkD P w K mg base d_read_inputs 5 ["text"] (spRead K) := by
  have sc := sc_read_inputs
  refine okD_mk (F_read_inputs T) sc (fun _ _ _ _ _ _ us hl => match us, hl with | [_], _ => rfl) ?len ?body
  case len => walk_at "len"
  intro cdv f A outer s H vs Q E hr h
  refine ⟨_, (pss_one (ps_ret (pe_lc (own := [("number", 1), ("line", 2)]) (by rfl) sc.nd (pi_enum (by rfl) (z_enumerate T) (pa_cons (pe_slice sl_list (pe_split (pv 0) pe_str) po_none (po_some (pe_un un_neg pe_int))) pa_nil)) (blkOk_by (N := ["text", "number", "line"]) (sc := defScope s_read_inputs) (by decide +kernel)) (fun _ _ _ _ _ => pg_tupK (K := K) 2 rfl rfl (pgs_cons (pg_name (i := 1) sc.nd rfl (Or.inl rfl)) (pgs_cons (pg_name (i := 2) sc.nd rfl (Or.inl rfl)) pgs_nil))) (fun _ _ _ _ _ => pts_nil) (fun _ _ _ _ _ => (pe_f (ok_input_in T) (hr.mono (by decide)) (by rfl) (g_input_in T) (pa_cons (pv 2) (pa_cons (pv 1) pa_nil))))))), ?_⟩
  obtain ⟨xs, rfl, hx, hl, q⟩ := h
  have htl := text_len hx
  refine ⟨_, rfl, ⟨_, rfl⟩, _, _, rfl, rfl, rfl, by rw [sizeLine_eq]; omega, ?_⟩
  rw [split_text hx]
  intro p hp
  have ew : (xs.map lineS ++ [Str.empty]).map V.str = (xs.map fun x => V.str (lineS x)) ++ [.str Str.empty] := by simp
  rw [ew]
  have s1 := Same.new (o := .lst ((xs.map fun x => V.str (lineS x)) ++ [.str Str.empty])) hp
  have m1 : upd H p (.lst ((xs.map fun x => V.str (lineS x)) ++ [.str Str.empty])) p = _ := upd_same
  generalize upd H p (.lst ((xs.map fun x => V.str (lineS x)) ++ [.str Str.empty])) = H1 at *
  refine ⟨_, rfl, _, rfl, p, _, rfl, SqL.of m1, fun p2 hp2 => ?_⟩
  rw [cut_butlast]
  have s2 := Same.new (o := .lst (xs.map fun x => V.str (lineS x))) hp2
  have m2 : upd H1 p2 (.lst (xs.map fun x => V.str (lineS x))) p2 = _ := upd_same
  have s12 := s1.trans s2
  generalize upd H1 p2 (.lst (xs.map fun x => V.str (lineS x))) = H2 at *
  refine ⟨p2, _, rfl, SqL.of m2, fun D hD => lc_it walk_enum (fun i H' => Same H2 H' ∧ ∃ acc, H' D = some (.lst acc) ∧ TDs K H' acc ((xs.take i).map Inp.d) ∧ acc.length = i) ⟨Same.new hD, [], upd_same, TDs.nil, rfl⟩ (fun i H' _ h => SqL.of (h.1 _ _ m2)) ?_ ?_⟩
  · rintro i v H3 H3' hi ⟨s3, acc, a1, a2, a3⟩ ⟨TT, y1, y2, rfl, hT, rfl, e1, e2⟩
    rw [List.length_map] at hi
    cases e1
    dsimp only at e2
    rw [List.getElem?_map, Option.map_eq_some_iff] at e2
    obtain ⟨x, hx1, rfl⟩ := e2
    have s4 := Same.new (o := .tup [.int (i : Nat), .str (lineS x)]) hT
    have m4 : upd H3 TT (.tup [.int (i : Nat), .str (lineS x)]) TT = _ := upd_same
    have a14 := s4 _ _ a1
    have a24 := TDs.fx (Same.fx s4) _ _ a2
    have s34 := s3.trans s4
    generalize upd H3 TT (.tup [.int (i : Nat), .str (lineS x)]) = H4 at *
    refine ⟨TT, _, rfl, SqT.of m4, rfl, _, _, rfl, _, _, rfl, rfl, rfl, ifT (B := Same H2 H4 ∧ ∃ acc, H4 D = some (.lst acc) ∧ TDs K H4 acc ((xs.take (i + 1)).map Inp.d) ∧ acc.length = i + 1) rfl ⟨_, rfl, _, rfl, x, _, rfl, hx x (List.mem_of_getElem? hx1), fun v H5 s5 hv => ⟨acc, s5 _ _ a14, by rw [a3, sizeLine_eq]; omega, ?_⟩⟩⟩
    have hne : H2 D = none := hD
    have fx : Fx H5 (upd H5 D (.lst (acc ++ [v]))) := (Upto.upd (F := [D]) (s5 _ _ a14) List.mem_cons_self (fun _ q => nomatch q) (fun _ _ q => nomatch q)).fx
    refine ⟨fun b o hb => ?_, acc ++ [v], upd_same, ?_, by simp [a3]⟩
    · have hbD : b ≠ D := fun q => by rw [q, hne] at hb; cases hb
      rw [upd_ne hbD]
      exact s5 _ _ (s34 _ _ hb)
    · rw [take_map_succ Inp.d hx1]
      exact (TDs.fx fx _ _ (TDs.fx (Same.fx s5) _ _ a24)).snoc (TD.fx fx _ _ hv)
  · rintro H3 ⟨s3, acc, a1, a2, a3⟩
    rw [List.length_map, List.take_length] at a2
    refine q D acc H3 (s12.trans s3) ?_ a1 a2
    cases e : H D with
    | none => rfl
    | some o => rw [s12 _ _ e] at hD; cases hD
end
end Ol
namespace Ol
open PySem PySem.Spec PyProof.Rows L2
open TL
local macro_rules | `(tactic| walk_at "len") => `(tactic| (intro vs H Q E h; first | (rcases h with ⟨hh, _⟩; rw [hh]; rfl) | (rcases h with ⟨_, hh, _⟩; rw [hh]; rfl) | (rcases h with ⟨_, _, hh, _⟩; rw [hh]; rfl) | (rcases h with ⟨_, _, _, hh, _⟩; rw [hh]; rfl) | (rcases h with ⟨_, _, _, _, hh, _⟩; rw [hh]; rfl) | (rcases h with ⟨_, _, _, _, _, hh, _⟩; rw [hh]; rfl) | (rcases h with ⟨_, _, _, _, _, _, hh, _⟩; rw [hh]; rfl) | (rcases h with ⟨_, _, _, _, _, _, _, hh, _⟩; rw [hh]; rfl) | (rcases h with ⟨_, _, _, _, _, _, _, _, hh, _⟩; rw [hh]; rfl) | (rcases h with ⟨_, _, _, _, _, _, _, _, _, hh, _⟩; rw [hh]; rfl) | (rcases h with ⟨_, _, _, _, _, _, _, _, _, _, hh, _⟩; rw [hh]; rfl) | (rcases h with ⟨_, _, _, _, _, _, _, _, _, _, _, hh, _⟩; rw [hh]; rfl) | (rcases h with ⟨_, _, _, _, _, _, _, _, _, _, _, _, hh, _⟩; rw [hh]; rfl) | (rcases h with ⟨_, _, _, _, _, _, _, _, _, _, _, _, _, hh, _⟩; rw [hh]; rfl) | (rcases h with ⟨_, _, _, _, _, _, _, _, _, _, _, _, _, _, hh, _⟩; rw [hh]; rfl) | (rcases h with ⟨_, _, _, _, _, _, _, _, _, _, _, _, _, _, _, hh, _⟩; rw [hh]; rfl) | (rcases h with ⟨_, _, _, _, _, _, _, _, _, _, _, _, _, _, _, _, hh, _⟩; rw [hh]; rfl) | (rcases h with ⟨_, _, _, _, _, _, _, _, _, _, _, _, _, _, _, _, _, hh, _⟩; rw [hh]; rfl) | (rcases h with ⟨_, _, _, _, _, _, _, _, _, _, _, _, _, _, _, _, _, _, hh, _⟩; rw [hh]; rfl) | (rcases h with ⟨_, _, _, _, _, _, _, _, _, _, _, _, _, _, _, _, _, _, _, hh, _⟩; rw [hh]; rfl)))
def HS.puts (s : HS) (xs : List Inp) : HS := xs.foldl (fun s x => (s.put x).1) s
theorem puts_snoc (s : HS) (xs : List Inp) (x : Inp) : s.puts (xs ++ [x]) = ((s.puts xs).put x).1 := by
  unfold HS.puts
  rw [List.foldl_append]
  rfl
def spComeUp (K : PySem.W.Frag) : Sp := fun vs H Q _ => ∃ (pd : Addr) (progs : List (Str × List Stm)) (xs : List Inp), vs = [.ref pd, .str (textS xs)] ∧ PgAt K H pd progs ∧ Hk (HS.init progs) 0 0 ∧ (∀ x ∈ xs, Inp.tk x ∧ x.ok) ∧ xs.length ≤ 50 ∧
  ∀ H' a X, HouseAt K H' a ((HS.init progs).puts xs) xs X → Same H H' → (∀ b ∈ X.F a, H b = none) → Q (.ref a) H'
section
variable {P : Program} {w : World} {K : PySem.W.Frag} {mg : Str → Option Value} {base : Heap}
theorem sc_come_up_house : FnScope ["programs", "text", "house", "some"] ["programs", "text"] (defScope s_come_up_house) := ⟨rfl, rfl, rfl, by decide +kernel, rfl, by decide +kernel, by decide +kernel⟩
theorem ok_come_up_house (T : Tx w K mg) : OkD P w K mg base d_come_up_house 14 ["programs", "text"] (spComeUp K) := by
  have sc := sc_come_up_house
  refine okD_mk (F_come_up_house T) sc (fun _ _ _ _ _ _ us hl => match us, hl with | [_, _], _ => rfl) ?len ?body
  case len => walk_at "len"
  intro cdv f A outer s H vs Q E hr h
  refine ⟨_, (pss_cons (ps_set (i := 2) sc.nd rfl (Or.inl rfl) (pe_mk (d := d_House___init__) (mk_House T) (ok_House___init__ T) (hr.mono (by decide)) (by rfl) (g_House T) (pa_cons (pv 0) pa_nil)))
    (pss_cons (ps_for PassesOwn.never (by rfl) (pi_list (pe_f (ok_read_inputs T) (hr.mono (by decide)) (by rfl) (g_read_inputs T) (pa_cons (pv 1) pa_nil))) (pg_name (i := 3) sc.nd rfl (Or.inl rfl)) (pss_one (ps_expr (pe_m (d := d_House_take) (c_House T) (m_House_take T) (ok_House_take T) (hr.mono (by decide)) (pv 2) (pa_cons (pv 3) pa_nil)))))
    (pss_one (ps_ret (pv 2))))), ?_⟩
  obtain ⟨pd, progs, xs, rfl, hpg, hk0, hxs, hl, q⟩ := h
  refine ⟨_, rfl, fun a dx h1 h2 hne => ?_⟩
  have sa : Same H (upd (upd H dx (.own a)) a (.ins (cH K) dx [])) := (Same.new h2).trans (Same.new (by rw [upd_ne (Ne.symm hne)]; exact h1))
  have ma : upd (upd H dx (.own a)) a (.ins (cH K) dx []) a = some (.ins (cH K) dx []) := upd_same
  have hpga : pd ≠ a := fun z => by obtain ⟨_, e, _⟩ := hpg; rw [z, h1] at e; cases e
  refine ⟨a, dx, pd, progs, rfl, ma, hpg.keep (fun o e => sa _ _ e) (Same.fx sa), hpga, fun H1 X R keep fresh xpd => ⟨rfl, ?_⟩⟩
  have s01 : Same H H1 := fun b o e => keep b o (sa _ _ e) (fun z => by rw [z, h1] at e; cases e)
  have f01 : ∀ b ∈ X.F a, H b = none := fun b hb => by
    rcases fresh b hb with z | z
    · rw [z]; exact h1
    · cases e : H b with
      | none => rfl
      | some o => cases (sa _ _ e).symm.trans z
  refine ⟨_, rfl, xs, rfl, fun x hx => (hxs x hx).1, by omega, fun p ys H2 s2 hp0 hp ht => ⟨p, rfl, ⟨ys, SqL.of hp⟩, ?_⟩⟩
  have hyl : ys.length = xs.length := by rw [ht.length, List.length_map]
  have s02 := s01.trans s2
  refine for_list (xs := ys) (fun i σ H' => ∃ X5 u, σ = [some (.ref pd), some (.str (textS xs)), some (.ref a), u] ∧ HouseTo K H2 (X.F a) H' a ((HS.init progs).puts (xs.take i)) (xs.take i) X5 ∧ Hk ((HS.init progs).puts (xs.take i)) (300 * i) (90301 * i)) ⟨X, _, rfl, (R.same s2).to, hk0⟩ ?_ ?_ ?_
  · rintro i σ H' _ ⟨X5, u, _, T5, _⟩
    exact SqL.of (T5.2.keep _ _ hp (R.notIn hp0))
  · rintro i v σ H3 hv ⟨X5, u, rfl, T5, hk5⟩
    have ht3 := TDs.fx T5.2.fx _ _ ht
    obtain ⟨d, hd1, hd2⟩ := ht3.getV hv
    rw [List.getElem?_map, Option.map_eq_some_iff] at hd1
    obtain ⟨x, hx1, rfl⟩ := hd1
    have hi : i < xs.length := (List.getElem?_eq_some_iff.mp hx1).1
    have hxo := (hxs x (List.mem_of_getElem? hx1)).2
    have et : xs.take (i + 1) = xs.take i ++ [x] := by rw [List.take_add_one, hx1]; rfl
    refine ⟨_, rfl, a, rfl, ml_house T5.1.ob rfl, _, rfl, a, _, _, X5, 300 * i, 90301 * i, x, v, rfl, T5.1, hk5, hd2, hxo, by omega, by omega, by rw [List.length_take]; omega, fun H' X' p' ov T' _ _ _ _ => ?_⟩
    refine ⟨X', _, rfl, ?_, ?_⟩
    · rw [et, puts_snoc]
      exact ⟨T'.1, T5.2.trans T'.2⟩
    · rw [et, puts_snoc]
      exact (put_ok hk5 hxo (by omega) (by omega)).1.weak (Nat.le_refl _) (by omega) (by omega) (by omega)
  · rintro σ H3 ⟨X5, u, rfl, T5, hk5⟩
    rw [hyl, List.take_length] at T5
    refine ⟨_, rfl, q H3 a X5 T5.1 (fun b o e => T5.2.keep _ _ (s02 _ _ e) fun m => by rw [f01 b m] at e; cases e) fun b hb => ?_⟩
    rcases T5.2.new b hb with z | z
    · exact f01 b z
    · cases e : H b with
      | none => rfl
      | some o => rw [s02 _ _ e] at z; cases z
end
end Ol
namespace Ol
open PySem PySem.Spec PyProof.Rows L2
/-! ### the moment -/
theorem newRun_now (s : HS) (nm : Str) (b : Option (Nat × Int)) (p : List Stm) : (s.newRun nm b p).now = s.now := rfl
theorem first_now (s : HS) (x : Inp) : (s.first x).1.now = s.now := by
  cases x with
  | tick m => rfl
  | start m p a =>
    simp only [HS.first]
    cases lk s.progs p <;> rfl
  | answer m r t a =>
    simp only [HS.first]
    split <;> rfl
  | letter m r k a =>
    simp only [HS.first]
    split <;> rfl
theorem follow_now (s : HS) (i : Nat) (c : Cmd) : (s.follow i c).1.now = s.now := by
  cases c with
  | child t p a =>
    simp only [HS.follow]
    cases lk s.progs p <;> rfl
  | send r k a =>
    simp only [HS.follow]
    cases r with
    | none => rfl
    | some j =>
      simp only
      split <;> rfl
  | _ => rfl
theorem follows_now (i : Nat) : ∀ (cs : List Cmd) (s : HS), (s.follows i cs).1.now = s.now
  | [], _ => rfl
  | c :: cs, s => by
    show ((s.follow i c).1.follows i cs).1.now = s.now
    rw [follows_now i cs, follow_now]
theorem step_now (s : HS) (i : Nat) (h : Hap) : (s.step i h).1.now = s.now := by
  unfold HS.step
  cases s.runs[i]? with
  | none => rfl
  | some rr => exact follows_now i _ _
theorem loop_now : ∀ (n : Nat) (s : HS) (row : Row) (out : List PyData), (HS.loop n s row out).1.now = s.now
  | 0, _, _, _ => rfl
  | _ + 1, _, [], _ => rfl
  | n + 1, s, (i, h) :: row, out => by
    show (HS.loop n (s.step i h).1 _ _).1.now = s.now
    rw [loop_now n, step_now]
theorem put_now (s : HS) (x : Inp) : (s.put x).1.now = max s.now x.mom := by
  show (HS.loop 300 _ _ []).1.now = _
  rw [loop_now, first_now]
/-! ### what is small -/
theorem open_small {s : HS} {n k : Nat} (h : Hk s n k) {i t : Int} (ho : s.isOpen i t = true) : SmallI i ∧ SmallI t := by
  obtain ⟨rr, h1, _, h3⟩ := HS.open_run ho
  obtain ⟨a1, a2, a3, a4⟩ := HS.run_some h1
  have rk := h.rr rr (List.mem_of_getElem? a3)
  have := h.rl
  have := h.lk
  refine ⟨by unfold SmallI; omega, ?_⟩
  have hm : t ∈ rr.st.notDone := by
    unfold RS.open at h3
    split at h3
    · cases h3
    · exact h3
  obtain ⟨b1, b2⟩ := rk.ro.rk.ndb t hm
  have hB : BW = 1099511627776 := rfl
  rw [hB] at b1 b2
  unfold SmallI
  omega
end Ol
namespace Ol
open PySem PySem.Spec PyProof.Rows L2
local macro_rules | `(tactic| walk_at "len") => `(tactic| (intro vs H Q E h; first | (rcases h with ⟨hh, _⟩; rw [hh]; rfl) | (rcases h with ⟨_, hh, _⟩; rw [hh]; rfl) | (rcases h with ⟨_, _, hh, _⟩; rw [hh]; rfl) | (rcases h with ⟨_, _, _, hh, _⟩; rw [hh]; rfl) | (rcases h with ⟨_, _, _, _, hh, _⟩; rw [hh]; rfl) | (rcases h with ⟨_, _, _, _, _, hh, _⟩; rw [hh]; rfl) | (rcases h with ⟨_, _, _, _, _, _, hh, _⟩; rw [hh]; rfl) | (rcases h with ⟨_, _, _, _, _, _, _, hh, _⟩; rw [hh]; rfl) | (rcases h with ⟨_, _, _, _, _, _, _, _, hh, _⟩; rw [hh]; rfl) | (rcases h with ⟨_, _, _, _, _, _, _, _, _, hh, _⟩; rw [hh]; rfl) | (rcases h with ⟨_, _, _, _, _, _, _, _, _, _, hh, _⟩; rw [hh]; rfl) | (rcases h with ⟨_, _, _, _, _, _, _, _, _, _, _, hh, _⟩; rw [hh]; rfl) | (rcases h with ⟨_, _, _, _, _, _, _, _, _, _, _, _, hh, _⟩; rw [hh]; rfl) | (rcases h with ⟨_, _, _, _, _, _, _, _, _, _, _, _, _, hh, _⟩; rw [hh]; rfl) | (rcases h with ⟨_, _, _, _, _, _, _, _, _, _, _, _, _, _, hh, _⟩; rw [hh]; rfl) | (rcases h with ⟨_, _, _, _, _, _, _, _, _, _, _, _, _, _, _, hh, _⟩; rw [hh]; rfl) | (rcases h with ⟨_, _, _, _, _, _, _, _, _, _, _, _, _, _, _, _, hh, _⟩; rw [hh]; rfl) | (rcases h with ⟨_, _, _, _, _, _, _, _, _, _, _, _, _, _, _, _, _, hh, _⟩; rw [hh]; rfl) | (rcases h with ⟨_, _, _, _, _, _, _, _, _, _, _, _, _, _, _, _, _, _, hh, _⟩; rw [hh]; rfl) | (rcases h with ⟨_, _, _, _, _, _, _, _, _, _, _, _, _, _, _, _, _, _, _, hh, _⟩; rw [hh]; rfl)))
theorem Same.sql {K : PySem.W.Frag} {H H' : Hp} {a : Addr} {xs : List V} (e : Same H H') (h : SqL K H a xs) : SqL K H' a xs := by
  rcases h with (h | ⟨o, h⟩) | h
  · exact .inl (.inl (e _ _ h))
  · exact .inl (.inr ⟨o, e _ _ h⟩)
  · exact .inr h
theorem Same.sqt {K : PySem.W.Frag} {H H' : Hp} {a : Addr} {xs : List V} (e : Same H H') (h : SqT K H a xs) : SqT K H' a xs := by
  rcases h with (h | ⟨o, h⟩) | h
  · exact .inl (.inl (e _ _ h))
  · exact .inl (.inr ⟨o, e _ _ h⟩)
  · exact .inr h
theorem Same.free {H H' : Hp} {a : Addr} (e : Same H H') (h : H' a = none) : H a = none := by
  cases h1 : H a with
  | none => rfl
  | some o => rw [e _ _ h1] at h; cases h
mutual
theorem Dp.same {K : PySem.W.Frag} {H H' : Hp} (e : Same H H') : ∀ (d : PyData) (v : V), Dp K H v d → Dp K H' v d
  | _, _, .non => .non
  | _, _, .bl b => .bl b
  | _, _, .int i => .int i
  | _, _, .str x => .str x
  | _, _, .lst h hs => .lst (Same.sql e h) (DpAll.same e _ _ hs)
  | _, _, .tup h hs => .tup (Same.sqt e h) (DpAll.same e _ _ hs)
theorem DpAll.same {K : PySem.W.Frag} {H H' : Hp} (e : Same H H') : ∀ (ds : List PyData) (vs : List V), DpAll K H vs ds → DpAll K H' vs ds
  | _, _, .nil => .nil
  | _, _, .cons h hs => .cons (Dp.same e _ _ h) (DpAll.same e _ _ hs)
end
theorem le_line {n : Nat} (h : Nat.ble n 100 = true) : n ≤ sizeLine := by
  have := Nat.le_of_ble_eq_true h
  rw [sizeLine_eq]
  omega
theorem sdI (l : List Int) : ∀ d ∈ l.map PyData.int, Sd 1 d := fun d hd => by
  obtain ⟨i, _, rfl⟩ := List.mem_map.mp hd
  exact sd_int
def HA (H : Hp) (p : Addr) : Prop := ∃ a b w c d : Int, H p = some (.lst [.int a, .int b, .int w, .int c, .int d]) ∧ 0 ≤ b ∧ b < 4294967296
/-- the hand's list may have changed, and nothing else of old -/
structure HTo (p : Addr) (H H' : Hp) : Prop where
  ha : HA H' p
  up : Upto [p] H H' [p]
theorem HTo.refl {p : Addr} {H : Hp} (h : HA H p) : HTo p H H := ⟨h, Upto.refl⟩
theorem HTo.trans {p : Addr} {H H1 H2 : Hp} (a : HTo p H H1) (b : HTo p H1 H2) : HTo p H H2 := ⟨b.ha, a.up.trans b.up⟩
theorem HTo.same {p : Addr} {H H1 H2 : Hp} (a : HTo p H H1) (s : Same H1 H2) : HTo p H H2 := by
  obtain ⟨x, b, w, c, d, e, hb⟩ := a.ha
  exact ⟨⟨x, b, w, c, d, s _ _ e, hb⟩, a.up.same s⟩
theorem HTo.set {p : Addr} {H H1 : Hp} (a : HTo p H H1) (x b w c d : Int) (hb : 0 ≤ b) (hb2 : b < 4294967296) : HTo p H (upd H1 p (.lst [.int x, .int b, .int w, .int c, .int d])) := by
  obtain ⟨x0, b0, w0, c0, d0, e, _⟩ := a.ha
  exact ⟨⟨x, b, w, c, d, upd_same, hb, hb2⟩, a.up.trans (Upto.upd e List.mem_cons_self (fun _ q => nomatch q) (fun _ _ q => nomatch q))⟩
def spHand (K : PySem.W.Frag) : Sp := fun vs H Q _ => ∃ (ps : Addr) (xs : List Int) (c k : Int), vs = [.ref ps, .int c, .int k] ∧ SqL K H ps (xs.map V.int) ∧ ∀ p H', Same H H' → H p = none → HA H' p → Q (.ref p) H'
def spDraw : Sp := fun vs H Q _ => ∃ (p : Addr) (n : Int), vs = [.ref p, .int n] ∧ HA H p ∧ 0 < n ∧ n < 1073741824 ∧ ∀ i H', 0 ≤ i → i < n → HTo p H H' → Q (.int i) H'
theorem neNilS {K : PySem.W.Frag} {H : Hp} {b p : Addr} {xs : List Int} (h : SqL K H b (xs.map V.int)) (hp : H p = some (.lst [])) {Q : VK} (q : Q (.bl (decide (xs ≠ []))) H) : rNeD K (.ref b) (.ref p) H Q := by
  refine ⟨_, _, .lst h (TDs.dp (xs.map PyData.int) _ (TDs.of V.int fun i => td_int.mpr rfl)), .lst (SqL.of hp) .nil, (sd_lst (n := 1) (sdI _)).shaped (by decide), rfl, ?_⟩
  have e : (!PyData.eqv (.list (xs.map PyData.int)) (.list [])) = decide (xs ≠ []) := by
    cases xs with
    | nil => rfl
    | cons d l => rfl
  rw [e]
  exact q
section
variable {P : Program} {w : World} {K : PySem.W.Frag} {mg : Str → Option Value} {base : Heap}
theorem sc__law_hand : FnScope ["script", "cell", "k", "way"] ["script", "cell", "k"] (defScope s__law_hand) := ⟨rfl, rfl, rfl, by decide +kernel, rfl, by decide +kernel, by decide +kernel⟩
theorem ok__law_hand (T : Tx w K mg) : OkD P w K mg base d__law_hand 1 ["script", "cell", "k"] (spHand K) := by
  have sc := sc__law_hand
  refine okD_mk (F__law_hand T) sc (fun _ _ _ _ _ _ us hl => match us, hl with | [_, _, _], _ => rfl) ?len ?body
  case len => walk_at "len"
  intro cdv f A outer s H vs Q E hr h
  refine ⟨_, (pss_cons (ps_set (i := 3) sc.nd rfl (Or.inl rfl) pe_int)
    (pss_cons (ps_if (pt_cmpR (op_neD hr.units) (pv 0) (pe_lst pa_nil) (nomark _)) (pss_one (ps_set (i := 3) sc.nd rfl (Or.inl rfl) (pe_op op_mod (pe_callB (cr_sum rfl) (by rfl) (z_sum T) (by decide +kernel) (pa_cons (pv 0) pa_nil)) pe_int))) pss_nil)
    (pss_one (ps_ret (pe_lst (pa_cons (pv 1) (pa_cons (pe_op op_mod (pe_op op_mul (pe_op op_add (pe_op op_add (pe_op op_mod (pv 1) pe_int) (pe_op op_mul pe_int (pv 2))) pe_int) pe_int) pe_int) (pa_cons (pv 3) (pa_cons pe_int (pa_cons pe_int pa_nil)))))))))), ?_⟩
  obtain ⟨ps, xs, c, k, rfl, hps, q⟩ := h
  have hm := Int.emod_nonneg ((c % 2147483629 + 7919 * k + 1) * 48271) (b := 2147483647) (by decide)
  have hm2 := Int.emod_lt_of_pos ((c % 2147483629 + 7919 * k + 1) * 48271) (b := 2147483647) (by decide)
  refine ⟨_, rfl, Nat.zero_le _, fun p0 hp0 => ?_⟩
  have s0 : Same H (upd H p0 (.lst [])) := Same.new hp0
  refine neNilS ((Same.sql s0 hps)) upd_same ⟨_, rfl, ?_⟩
  have g0 := upd_same (H := H) (a := p0) (o := .lst [])
  by_cases hx : xs = []
  · refine ifF (decide_eq_false fun z => z hx) ?_
    exact ⟨_, rfl, _, rfl, _, _, rfl, rfl, (by show (0:Int) < _; decide), _, rfl, _, _, rfl, rfl, .inl ⟨by decide, by decide⟩, _, _, rfl, rfl, _, _, rfl, rfl, _, _, rfl, rfl, .inr ⟨by decide, by decide⟩, _, _, rfl, rfl, (by show (0:Int) < _; decide), _, rfl, le_line rfl, fun p hp => q p _ (s0.trans (Same.new hp)) (Same.free s0 hp) ⟨_, _, _, _, _, upd_same, hm, by omega⟩⟩
  · refine ifT (decide_eq_true hx) ?_
    refine ⟨_, rfl, _, _, rfl, (Same.sql s0 hps), _, _, rfl, rfl, (by show (0:Int) < _; decide), ?_⟩
    exact ⟨_, rfl, _, rfl, _, _, rfl, rfl, (by show (0:Int) < _; decide), _, rfl, _, _, rfl, rfl, .inl ⟨by decide, by decide⟩, _, _, rfl, rfl, _, _, rfl, rfl, _, _, rfl, rfl, .inr ⟨by decide, by decide⟩, _, _, rfl, rfl, (by show (0:Int) < _; decide), _, rfl, le_line rfl, fun p hp => q p _ (s0.trans (Same.new hp)) (Same.free s0 hp) ⟨_, _, _, _, _, upd_same, hm, by omega⟩⟩
theorem sc__law_draw : FnScope ["hand", "limit", "got"] ["hand", "limit"] (defScope s__law_draw) := ⟨rfl, rfl, rfl, by decide +kernel, rfl, by decide +kernel, by decide +kernel⟩
theorem ok__law_draw (T : Tx w K mg) : OkD P w K mg base d__law_draw 1 ["hand", "limit"] (spDraw) := by
  have sc := sc__law_draw
  refine okD_mk (F__law_draw T) sc (fun _ _ _ _ _ _ us hl => match us, hl with | [_, _], _ => rfl) ?len ?body
  case len => walk_at "len"
  intro cdv f A outer s H vs Q E hr h
  refine ⟨_, (pss_cons (ps_if (pt_cmpR op_eq (pe_ix ix_list (pv 0) pe_int (fun _ _ => rfl)) pe_int (nomark _)) (pss_cons (ps_set (i := 2) sc.nd rfl (Or.inl rfl) (pe_op op_mod (pe_ix ix_list (pv 0) pe_int (fun _ _ => rfl)) (pv 1)))
    (pss_cons (ps_asg (pe_op op_fdiv (pe_ix ix_list (pv 0) pe_int (fun _ _ => rfl)) (pv 1)) (pg_sub (pv 0) pe_int set_list))
    (pss_one (ps_ret (pv 2))))) pss_nil)
    (pss_cons (ps_asg (pe_op op_add (pe_op op_mod (pe_op op_mul (pe_ix ix_list (pv 0) pe_int (fun _ _ => rfl)) (pe_ix ix_list (pv 0) pe_int (fun _ _ => rfl))) pe_int) pe_int) (pg_sub (pv 0) pe_int set_list))
    (pss_one (ps_ret (pe_op op_mod (pe_op op_fdiv (pe_op op_mod (pe_op op_mul (pe_ix ix_list (pv 0) pe_int (fun _ _ => rfl)) pe_int) pe_int) pe_int) (pv 1)))))), ?_⟩
  obtain ⟨p, n, rfl, ⟨a, b, ww, c, d, hp, hb, hb2⟩, hn, hn2, q⟩ := h
  have h0 : HTo p H H := HTo.refl ⟨a, b, ww, c, d, hp, hb, hb2⟩
  refine ⟨_, rfl, _, _, _, _, rfl, rfl, .inl (.inl hp), rfl, rfl, _, rfl, ?_⟩
  by_cases hw : ww = 0
  · refine ifT (decide_eq_true (by rw [hw])) ?_
    refine ⟨_, rfl, _, _, _, _, rfl, rfl, .inl (.inl hp), rfl, _, rfl, _, _, rfl, rfl, hn, ?_⟩
    refine ⟨_, rfl, _, _, _, _, rfl, rfl, .inl (.inl hp), rfl, _, rfl, _, _, rfl, rfl, ⟨hn, hn2⟩, ?_⟩
    refine ⟨_, rfl, _, _, _, _, rfl, rfl, hp, rfl, ?_⟩
    exact ⟨_, rfl, q _ _ (Int.emod_nonneg _ (by omega)) (Int.emod_lt_of_pos _ hn) (h0.set _ _ _ _ _ hb hb2)⟩
  · refine ifF (decide_eq_false fun z => hw (V.int.inj z)) ?_
    have hm := Int.emod_nonneg (b * b) (b := 2147483629) (by decide)
    have hm2 := Int.emod_lt_of_pos (b * b) (b := 2147483629) (by decide)
    refine ⟨_, rfl, _, _, _, _, rfl, rfl, .inl (.inl hp), rfl, _, rfl, _, _, _, _, rfl, rfl, .inl (.inl hp), rfl, _, _, rfl, rfl, .inl ⟨by omega, by omega⟩, _, _, rfl, rfl, (by show (0:Int) < _; decide), _, _, rfl, rfl, ?_⟩
    refine ⟨_, rfl, _, _, _, _, rfl, rfl, hp, rfl, ?_⟩
    have h1 : HTo p H (upd H p (.lst [.int a, .int (b * b % 2147483629 + 3), .int ww, .int c, .int d])) := h0.set _ _ _ _ _ (by omega) (by omega)
    refine ⟨_, rfl, _, _, _, _, rfl, rfl, .inl (.inl upd_same), rfl, _, _, rfl, rfl, .inr ⟨by decide, by decide⟩, _, _, rfl, rfl, (by show (0:Int) < _; decide), _, _, rfl, rfl, ⟨by decide, by decide⟩, _, rfl, _, _, rfl, rfl, hn, ?_⟩
    exact q _ _ (Int.emod_nonneg _ (by omega)) (Int.emod_lt_of_pos _ hn) h1
end
end Ol
namespace Ol
open PySem PySem.Spec PyProof.Rows L2
local macro_rules | `(tactic| walk_at "len") => `(tactic| (intro vs H Q E h; first | (rcases h with ⟨hh, _⟩; rw [hh]; rfl) | (rcases h with ⟨_, hh, _⟩; rw [hh]; rfl) | (rcases h with ⟨_, _, hh, _⟩; rw [hh]; rfl) | (rcases h with ⟨_, _, _, hh, _⟩; rw [hh]; rfl) | (rcases h with ⟨_, _, _, _, hh, _⟩; rw [hh]; rfl) | (rcases h with ⟨_, _, _, _, _, hh, _⟩; rw [hh]; rfl) | (rcases h with ⟨_, _, _, _, _, _, hh, _⟩; rw [hh]; rfl) | (rcases h with ⟨_, _, _, _, _, _, _, hh, _⟩; rw [hh]; rfl) | (rcases h with ⟨_, _, _, _, _, _, _, _, hh, _⟩; rw [hh]; rfl) | (rcases h with ⟨_, _, _, _, _, _, _, _, _, hh, _⟩; rw [hh]; rfl) | (rcases h with ⟨_, _, _, _, _, _, _, _, _, _, hh, _⟩; rw [hh]; rfl) | (rcases h with ⟨_, _, _, _, _, _, _, _, _, _, _, hh, _⟩; rw [hh]; rfl) | (rcases h with ⟨_, _, _, _, _, _, _, _, _, _, _, _, hh, _⟩; rw [hh]; rfl) | (rcases h with ⟨_, _, _, _, _, _, _, _, _, _, _, _, _, hh, _⟩; rw [hh]; rfl) | (rcases h with ⟨_, _, _, _, _, _, _, _, _, _, _, _, _, _, hh, _⟩; rw [hh]; rfl) | (rcases h with ⟨_, _, _, _, _, _, _, _, _, _, _, _, _, _, _, hh, _⟩; rw [hh]; rfl) | (rcases h with ⟨_, _, _, _, _, _, _, _, _, _, _, _, _, _, _, _, hh, _⟩; rw [hh]; rfl) | (rcases h with ⟨_, _, _, _, _, _, _, _, _, _, _, _, _, _, _, _, _, hh, _⟩; rw [hh]; rfl) | (rcases h with ⟨_, _, _, _, _, _, _, _, _, _, _, _, _, _, _, _, _, _, hh, _⟩; rw [hh]; rfl) | (rcases h with ⟨_, _, _, _, _, _, _, _, _, _, _, _, _, _, _, _, _, _, _, hh, _⟩; rw [hh]; rfl)))
def spSaying (K : PySem.W.Frag) (N : Nat) : Sp := fun vs H Q _ => ∃ (p : Addr) (n : Nat), vs = [.ref p, .int (n : Int)] ∧ n ≤ N ∧ HA H p ∧ ∀ (s : Say) v H', s.ok → s.dep ≤ n → HTo p H H' → TD K H' v s.d → Q v H'
def spWanted (K : PySem.W.Frag) : Sp := fun vs H Q _ => ∃ p : Addr, vs = [.ref p] ∧ HA H p ∧ ∀ (ss : List Say) v H', ss.length ≤ 100 → (∀ s ∈ ss, Say.good s) → HTo p H H' → TD K H' v (.tuple (ss.map Say.d)) → Q v H'
def spLPlain (K : PySem.W.Frag) : Sp := fun vs H Q _ => ∃ (p : Addr) (l : Int), vs = [.ref p, .int l] ∧ HA H p ∧ 0 ≤ l ∧ l < 5 ∧ ∀ (s : Stm) v H', s.ok → HTo p H H' → TD K H' v s.d → Q v H'
theorem HTo.put {p q : Addr} {H H1 : Hp} {o : HO} (a : HTo p H H1) (hp : HA H p) (hq : H q = none) : HTo p H (upd H1 q o) := by
  obtain ⟨x, b, w, c, d, e, hb⟩ := a.ha
  obtain ⟨_, _, _, _, _, e0, _⟩ := hp
  have hne : p ≠ q := fun z => by rw [z, hq] at e0; cases e0
  refine ⟨⟨x, b, w, c, d, by rw [upd_ne hne]; exact e, hb⟩, ⟨fun b u hb n => ?_, fun b u hb k => ?_, fun _ h => .inl h⟩⟩
  · rw [upd_ne (fun z => by rw [z, hq] at hb; cases hb)]
    exact a.up.keep b u hb n
  · rw [upd_ne (fun z => by rw [z, hq] at hb; cases hb)]
    exact a.up.fx b u hb k
theorem HTo.new {p q : Addr} {H H1 : Hp} {o : HO} (a : HTo p H H1) (hq : H1 q = none) : HTo p H (upd H1 q o) := a.same (Same.new hq)
theorem HA.ne {p q : Addr} {H : Hp} (h : HA H p) (hq : H q = none) : q ≠ p := fun z => by
  obtain ⟨_, _, _, _, _, e, _⟩ := h
  rw [← z, hq] at e
  cases e
theorem HA.same {p : Addr} {H H' : Hp} (h : HA H p) (s : Same H H') : HA H' p := by
  obtain ⟨a, b, w, c, d, e, hb⟩ := h
  exact ⟨a, b, w, c, d, s _ _ e, hb⟩
/-- an object other than the hand's list stands -/
theorem HTo.get {p q : Addr} {H H1 : Hp} {o : HO} (a : HTo p H H1) (h : H q = some o) (n : q ≠ p) : H1 q = some o := a.up.keep q o h (fun z => n (List.mem_singleton.mp z))
theorem fx_lst {q : Addr} {H : Hp} {xs : List V} {o : HO} (h : H q = some (.lst xs)) : Fx H (upd H q o) := fun b u e k => by
  rw [upd_ne]
  · exact e
  · rintro rfl
    rw [h] at e
    cases e
    rcases k with ⟨_, k⟩ | ⟨_, _, k⟩ <;> cases k
theorem atI_some {α : Type} {xs : List α} {i : Int} (h0 : 0 ≤ i) (h1 : i < xs.length) : ∃ v, atI xs i = some v ∧ xs[i.toNat]? = some v := by
  have hlt : i.toNat < xs.length := by omega
  refine ⟨xs[i.toNat], ?_, List.getElem?_eq_getElem hlt⟩
  unfold atI ixN
  rw [if_pos h0, if_pos (by omega)]
  exact List.getElem?_eq_getElem hlt
/-- one of a list, by a draw -/
theorem pick {K : PySem.W.Frag} {p pl : Addr} {H H2 : Hp} {xs : List V} {i : Int} {n : Int} (hp : HA H p) (hpl : H pl = none) (t : HTo p (upd H pl (.lst xs)) H2) (h0 : 0 ≤ i) (h1 : i < n) (hn : n = xs.length) :
    ∃ v, atI xs i = some v ∧ v ∈ xs ∧ SqL K H2 pl xs ∧ HTo p H H2 := by
  obtain ⟨v, e1, e2⟩ := atI_some (xs := xs) h0 (by omega)
  exact ⟨v, e1, List.mem_of_getElem? e2, SqL.of (t.get upd_same (hp.ne hpl)), ((HTo.refl hp).new hpl).trans t⟩
theorem strs_mem {v : V} {l : List Str} (h : v ∈ l.map V.str) : ∃ x ∈ l, v = .str x := by
  obtain ⟨x, h1, h2⟩ := List.mem_map.mp h
  exact ⟨x, h1, h2.symm⟩
theorem ints_mem {v : V} {l : List Int} (h : v ∈ l.map V.int) : ∃ x ∈ l, v = .int x := by
  obtain ⟨x, h1, h2⟩ := List.mem_map.mp h
  exact ⟨x, h1, h2.symm⟩
def abxw : List Str := ["a", "b", "x", "w"]
def numsL : List Int := [0, 1, 2, 3, -1, 7, 1000000000]
theorem numsL_ok {n : Int} (h : n ∈ numsL) : -BW ≤ n ∧ n ≤ BW := by
  have : ∀ n ∈ numsL, -BW ≤ n ∧ n ≤ BW := by decide
  exact this n h
section
variable {P : Program} {w : World} {K : PySem.W.Frag} {mg : Str → Option Value} {base : Heap}
theorem sc__law_saying : FnScope ["hand", "deep", "kind", "sign"] ["hand", "deep"] (defScope s__law_saying) := ⟨rfl, rfl, rfl, by decide +kernel, rfl, by decide +kernel, by decide +kernel⟩
theorem st__law_saying (T : Tx w K mg) (k : Nat) (sp' : Sp) (N : Nat) (hn : ∀ m, N = m + 1 → ∀ vs H Q E, spSaying K m vs H Q E → sp' vs H Q E) (G : OkD P w K mg base d__law_saying (k + 2) ["hand", "deep"] sp') : OkD P w K mg base d__law_saying (k+3) ["hand", "deep"] (spSaying K N) := by
  have sc := sc__law_saying
  refine okD_mk (F__law_saying T) sc (fun _ _ _ _ _ _ us hl => match us, hl with | [_, _], _ => rfl) ?len ?body
  case len => walk_at "len"
  intro cdv f A outer s H vs Q E hr h
  refine ⟨_, (pss_cons (ps_set (i := 2) sc.nd rfl (Or.inl rfl) (pe_f (ok__law_draw T) (hr.mono (by omega)) (by rfl) (g__law_draw T) (pa_cons (pv 0) (pa_cons pe_int pa_nil))))
    (pss_cons (ps_if ((pw_or (pt_cmpR op_lt (pv 2) pe_int (nomark _)) (pw_or1 (pt_cmpR op_eq (pv 1) pe_int (nomark _))))).pt (pss_one (ps_ret (pe_tup (pa_cons pe_str (pa_cons (pe_ix ix_list (pe_lst (pa_cons pe_int (pa_cons pe_int (pa_cons pe_int (pa_cons pe_int (pa_cons (pe_un un_neg pe_int) (pa_cons pe_int (pa_cons (pe_op op_pow pe_int pe_int) pa_nil)))))))) (pe_f (ok__law_draw T) (hr.mono (by omega)) (by rfl) (g__law_draw T) (pa_cons (pv 0) (pa_cons pe_int pa_nil))) (fun _ _ => rfl)) pa_nil))))) pss_nil)
    (pss_cons (ps_if (pt_cmpR op_lt (pv 2) pe_int (nomark _)) (pss_one (ps_ret (pe_tup (pa_cons pe_str (pa_cons (pe_ix ix_list (pe_lst (pa_cons pe_str (pa_cons pe_str (pa_cons pe_str (pa_cons pe_str pa_nil))))) (pe_f (ok__law_draw T) (hr.mono (by omega)) (by rfl) (g__law_draw T) (pa_cons (pv 0) (pa_cons pe_int pa_nil))) (fun _ _ => rfl)) pa_nil))))) pss_nil)
    (pss_cons (ps_if (pt_cmpR op_lt (pv 2) pe_int (nomark _)) (pss_one (ps_ret (pe_ix ix_list (pe_lst (pa_cons (pe_tup (pa_cons pe_str pa_nil)) (pa_cons (pe_tup (pa_cons pe_str pa_nil)) (pa_cons (pe_tup (pa_cons pe_str pa_nil)) pa_nil)))) (pe_op op_sub (pv 2) pe_int) (fun _ _ => rfl)))) pss_nil)
    (pss_cons (ps_if (pt_cmpR op_eq (pv 2) pe_int (nomark _)) (pss_one (ps_ret (pe_tup (pa_cons pe_str (pa_cons (pe_f G (hr.mono (by omega)) (by rfl) (g__law_saying T) (pa_cons (pv 0) (pa_cons (pe_op op_sub (pv 1) pe_int) pa_nil))) pa_nil))))) pss_nil)
    (pss_cons (ps_if (pt_cmpR op_eq (pv 2) pe_int (nomark _)) (pss_one (ps_ret (pe_tup (pa_cons pe_str (pa_cons (pe_f G (hr.mono (by omega)) (by rfl) (g__law_saying T) (pa_cons (pv 0) (pa_cons (pe_op op_sub (pv 1) pe_int) pa_nil))) pa_nil))))) pss_nil)
    (pss_cons (ps_set (i := 3) sc.nd rfl (Or.inl rfl) (pe_ix ix_list (pe_lst (pa_cons pe_str (pa_cons pe_str (pa_cons pe_str (pa_cons pe_str (pa_cons pe_str pa_nil)))))) (pe_f (ok__law_draw T) (hr.mono (by omega)) (by rfl) (g__law_draw T) (pa_cons (pv 0) (pa_cons pe_int pa_nil))) (fun _ _ => rfl)))
    (pss_one (ps_ret (pe_tup (pa_cons (pv 3) (pa_cons (pe_f G (hr.mono (by omega)) (by rfl) (g__law_saying T) (pa_cons (pv 0) (pa_cons (pe_op op_sub (pv 1) pe_int) pa_nil))) (pa_cons (pe_f G (hr.mono (by omega)) (by rfl) (g__law_saying T) (pa_cons (pv 0) (pa_cons (pe_op op_sub (pv 1) pe_int) pa_nil))) pa_nil))))))))))))), ?_⟩
  obtain ⟨p, n, rfl, hnN, ha, q⟩ := h
  refine ⟨_, rfl, p, 13, rfl, ha, by decide, by decide, fun kind H1 hk0 hk1 t1 => ?_⟩
  refine ⟨_, rfl, _, _, rfl, rfl, _, rfl, ?_⟩
  by_cases h3 : kind < 3
  · refine ifT (decide_eq_true h3) (ifT rfl ?_)
    refine ⟨_, rfl, _, _, rfl, rfl, ⟨by decide, by decide, by decide⟩, le_line rfl, fun pl hpl => ⟨_, rfl, p, 7, rfl, HA.same t1.ha (Same.new hpl), by decide, by decide, fun i H2 hi0 hi1 t2 => ?_⟩⟩
    obtain ⟨v, e1, e2, e3, t3⟩ := pick (K := K) t1.ha hpl t2 hi0 hi1 rfl
    refine ⟨pl, _, i, v, rfl, rfl, e3, e1, le_line rfl, fun pt hpt => ?_⟩
    obtain ⟨m, hm, rfl⟩ := ints_mem (l := numsL) e2
    exact q (.num m) _ _ (numsL_ok hm) (Nat.zero_le _) ((t1.trans t3).new hpt) (TD.newU hpt (TDs.mk (td_str.mpr rfl) (TDs.mk (td_int.mpr rfl) TDs.nil)))
  refine ifF (decide_eq_false h3) ⟨_, rfl, rfl, _, rfl, ?_⟩
  by_cases h0 : n = 0
  · refine ifT (decide_eq_true (by rw [h0]; rfl)) ?_
    refine ⟨_, rfl, _, _, rfl, rfl, ⟨by decide, by decide, by decide⟩, le_line rfl, fun pl hpl => ⟨_, rfl, p, 7, rfl, HA.same t1.ha (Same.new hpl), by decide, by decide, fun i H2 hi0 hi1 t2 => ?_⟩⟩
    obtain ⟨v, e1, e2, e3, t3⟩ := pick (K := K) t1.ha hpl t2 hi0 hi1 rfl
    refine ⟨pl, _, i, v, rfl, rfl, e3, e1, le_line rfl, fun pt hpt => ?_⟩
    obtain ⟨m, hm, rfl⟩ := ints_mem (l := numsL) e2
    exact q (.num m) _ _ (numsL_ok hm) (Nat.zero_le _) ((t1.trans t3).new hpt) (TD.newU hpt (TDs.mk (td_str.mpr rfl) (TDs.mk (td_int.mpr rfl) TDs.nil)))
  refine ifF (decide_eq_false fun z => h0 (by have := V.int.inj z; omega)) ?_
  obtain ⟨n', rfl⟩ : ∃ n', n = n' + 1 := ⟨n - 1, by omega⟩
  obtain ⟨M, rfl⟩ : ∃ M, N = M + 1 := ⟨N - 1, by omega⟩
  have eN : ((n' + 1 : Nat) : Int) - 1 = (n' : Int) := by omega
  refine ⟨_, rfl, _, _, rfl, rfl, _, rfl, ?_⟩
  by_cases h7 : kind < 7
  · refine ifT (decide_eq_true h7) ?_
    refine ⟨le_line rfl, fun pl hpl => ⟨_, rfl, p, 4, rfl, HA.same t1.ha (Same.new hpl), by decide, by decide, fun i H2 hi0 hi1 t2 => ?_⟩⟩
    obtain ⟨v, e1, e2, e3, t3⟩ := pick (K := K) t1.ha hpl t2 hi0 hi1 rfl
    refine ⟨pl, _, i, v, rfl, rfl, e3, e1, le_line rfl, fun pt hpt => ?_⟩
    obtain ⟨x, hx, rfl⟩ := strs_mem (l := abxw) e2
    exact q (.name x) _ _ trivial (Nat.zero_le _) ((t1.trans t3).new hpt) (TD.newU hpt (TDs.mk (td_str.mpr rfl) (TDs.mk (td_str.mpr rfl) TDs.nil)))
  refine ifF (decide_eq_false h7) ⟨_, rfl, _, _, rfl, rfl, _, rfl, ?_⟩
  by_cases h10 : kind < 10
  · refine ifT (decide_eq_true h10) ?_
    refine ⟨le_line rfl, fun p1 hp1 => ⟨le_line rfl, fun p2 hp2 => ⟨le_line rfl, fun p3 hp3 => ⟨le_line rfl, fun pl hpl => ⟨_, rfl, _, _, rfl, rfl, pl, [.ref p1, .ref p2, .ref p3], kind - 7, ?_⟩⟩⟩⟩⟩
    have t5 := (((t1.new (o := .tup [.str "arg"]) hp1).new (o := .tup [.str "now"]) hp2).new (o := .tup [.str "none"]) hp3).new (o := .lst [.ref p1, .ref p2, .ref p3]) hpl
    have f1 : Fx (upd H1 p1 (.tup [.str "arg"])) (upd (upd (upd (upd H1 p1 (.tup [.str "arg"])) p2 (.tup [.str "now"])) p3 (.tup [.str "none"])) pl (.lst [.ref p1, .ref p2, .ref p3])) := Same.fx (((Same.new hp2).trans (Same.new hp3)).trans (Same.new hpl))
    have f2 : Fx (upd (upd H1 p1 (.tup [.str "arg"])) p2 (.tup [.str "now"])) (upd (upd (upd (upd H1 p1 (.tup [.str "arg"])) p2 (.tup [.str "now"])) p3 (.tup [.str "none"])) pl (.lst [.ref p1, .ref p2, .ref p3])) := Same.fx ((Same.new hp3).trans (Same.new hpl))
    have f3 : Fx (upd (upd (upd H1 p1 (.tup [.str "arg"])) p2 (.tup [.str "now"])) p3 (.tup [.str "none"])) (upd (upd (upd (upd H1 p1 (.tup [.str "arg"])) p2 (.tup [.str "now"])) p3 (.tup [.str "none"])) pl (.lst [.ref p1, .ref p2, .ref p3])) := Same.fx (Same.new hpl)
    have hk : kind = 7 ∨ kind = 8 ∨ kind = 9 := by omega
    rcases hk with rfl | rfl | rfl
    · exact ⟨.ref p1, rfl, rfl, SqL.of upd_same, rfl, q .arg _ _ trivial (Nat.zero_le _) t5 (TD.fx f1 _ _ (TD.newU hp1 (TDs.mk (td_str.mpr rfl) TDs.nil)))⟩
    · exact ⟨.ref p2, rfl, rfl, SqL.of upd_same, rfl, q .now _ _ trivial (Nat.zero_le _) t5 (TD.fx f2 _ _ (TD.newU hp2 (TDs.mk (td_str.mpr rfl) TDs.nil)))⟩
    · exact ⟨.ref p3, rfl, rfl, SqL.of upd_same, rfl, q .non _ _ trivial (Nat.zero_le _) t5 (TD.fx f3 _ _ (TD.newU hp3 (TDs.mk (td_str.mpr rfl) TDs.nil)))⟩
  refine ifF (decide_eq_false h10) ⟨_, rfl, rfl, _, rfl, ?_⟩
  by_cases h11 : kind = 10
  · refine ifT (decide_eq_true (by rw [h11])) ?_
    refine ⟨_, rfl, _, rfl, _, _, rfl, rfl, hn M rfl _ _ _ _ ⟨p, n', by show [V.ref p, V.int (((n' + 1 : Nat) : Int) - 1)] = _; rw [eN], by omega, t1.ha, fun s v H2 hs hd t2 htd => ⟨le_line rfl, fun pt hpt => ?_⟩⟩⟩
    exact q (.ans s) _ _ hs (Nat.succ_le_succ hd) ((t1.trans t2).new hpt) (TD.newU hpt (TDs.mk (td_str.mpr rfl) (TDs.mk htd TDs.nil)))
  refine ifF (decide_eq_false fun z => h11 (V.int.inj z)) ⟨_, rfl, rfl, _, rfl, ?_⟩
  by_cases h12 : kind = 11
  · refine ifT (decide_eq_true (by rw [h12])) ?_
    refine ⟨_, rfl, _, rfl, _, _, rfl, rfl, hn M rfl _ _ _ _ ⟨p, n', by show [V.ref p, V.int (((n' + 1 : Nat) : Int) - 1)] = _; rw [eN], by omega, t1.ha, fun s v H2 hs hd t2 htd => ⟨le_line rfl, fun pt hpt => ?_⟩⟩⟩
    exact q (.no s) _ _ hs (Nat.succ_le_succ hd) ((t1.trans t2).new hpt) (TD.newU hpt (TDs.mk (td_str.mpr rfl) (TDs.mk htd TDs.nil)))
  refine ifF (decide_eq_false fun z => h12 (V.int.inj z)) ?_
  refine ⟨le_line rfl, fun pl hpl => ⟨_, rfl, p, 5, rfl, HA.same t1.ha (Same.new hpl), by decide, by decide, fun i H2 hi0 hi1 t2 => ?_⟩⟩
  obtain ⟨v, e1, e2, e3, t3⟩ := pick (K := K) t1.ha hpl t2 hi0 hi1 rfl
  obtain ⟨o, ho, rfl⟩ := List.mem_map.mp (show v ∈ [Op.add, .sub, .mul, .lt, .eq].map (fun o => V.str o.s) from e2)
  refine ⟨pl, _, i, _, rfl, rfl, e3, e1, _, rfl, _, rfl, _, rfl, _, _, rfl, rfl, hn M rfl _ _ _ _ ⟨p, n', by show [V.ref p, V.int (((n' + 1 : Nat) : Int) - 1)] = _; rw [eN], by omega, t2.ha, fun s v H3 hs hd t4 htd => ?_⟩⟩
  refine ⟨_, rfl, _, rfl, _, _, rfl, rfl, hn M rfl _ _ _ _ ⟨p, n', by show [V.ref p, V.int (((n' + 1 : Nat) : Int) - 1)] = _; rw [eN], by omega, t4.ha, fun s2 v2 H4 hs2 hd2 t5 htd2 => ⟨le_line rfl, fun pt hpt => ?_⟩⟩⟩
  exact q (.bin o s s2) _ _ ⟨hs, hs2⟩ (Nat.succ_le_succ (Nat.max_le.mpr ⟨hd, hd2⟩)) ((((t1.trans t3).trans t4).trans t5).new hpt) (TD.newU hpt (TDs.mk (td_str.mpr rfl) (TDs.mk (TD.fx t5.up.fx _ _ htd) (TDs.mk htd2 TDs.nil))))
theorem ok__law_saying_n (T : Tx w K mg) : ∀ n, OkD P w K mg base d__law_saying (n + 3) ["hand", "deep"] (spSaying K n)
  | 0 => st__law_saying T 0 (fun _ _ _ _ => False) 0 (fun _ h => by omega) (okD_false (F__law_saying T) (fun _ _ _ _ _ _ us hl => match us, hl with | [_, _], _ => rfl) _)
  | n + 1 => st__law_saying T (n + 1) (spSaying K n) (n + 1) (fun m e vs H Q E h => by cases e; exact h) (ok__law_saying_n T n)
theorem ok__law_saying (T : Tx w K mg) : OkD P w K mg base d__law_saying 5 ["hand", "deep"] (spSaying K 2) := ok__law_saying_n T 2
theorem sc__law_wanted : FnScope ["hand", "wanted", "k"] ["hand"] (defScope s__law_wanted) := ⟨rfl, rfl, rfl, by decide +kernel, rfl, by decide +kernel, by decide +kernel⟩
theorem ok__law_wanted (T : Tx w K mg) : OkD P w K mg base d__law_wanted 6 ["hand"] (spWanted K) := by
  have sc := sc__law_wanted
  refine okD_mk (F__law_wanted T) sc (fun _ _ _ _ _ _ us hl => match us, hl with | [_], _ => rfl) ?len ?body
  case len => walk_at "len"
  intro cdv f A outer s H vs Q E hr h
  refine ⟨_, (pss_cons (ps_set (i := 1) sc.nd rfl (Or.inl rfl) (pe_lst pa_nil))
    (pss_cons (ps_for PassesOwn.never (by rfl) (pi_range1 (by rfl) (z_range T) (pa_cons (pe_op op_add pe_int (pe_f (ok__law_draw T) (hr.mono (by decide)) (by rfl) (g__law_draw T) (pa_cons (pv 0) (pa_cons pe_int pa_nil)))) pa_nil)) (pg_name (i := 2) sc.nd rfl (Or.inl rfl)) (pss_one (ps_if (pt_cmpR op_eq (pe_f (ok__law_draw T) (hr.mono (by decide)) (by rfl) (g__law_draw T) (pa_cons (pv 0) (pa_cons pe_int pa_nil))) pe_int (nomark _)) (pss_one (ps_expr (pe_bm PySem.F.plainAttrs_list PySem.F.slot_list_append PySem.F.type_list_append mt_append (pv 1) (pa_cons (pe_f (ok__law_saying T) (hr.mono (by decide)) (by rfl) (g__law_saying T) (pa_cons (pv 0) (pa_cons pe_int pa_nil))) pa_nil)))) (pss_one (ps_expr (pe_bm PySem.F.plainAttrs_list PySem.F.slot_list_append PySem.F.type_list_append mt_append (pv 1) (pa_cons (pe_tup (pa_cons pe_str (pa_cons (pe_ix ix_list (pe_lst (pa_cons pe_str (pa_cons pe_str (pa_cons pe_str (pa_cons pe_str pa_nil))))) (pe_f (ok__law_draw T) (hr.mono (by decide)) (by rfl) (g__law_draw T) (pa_cons (pv 0) (pa_cons pe_int pa_nil))) (fun _ _ => rfl)) pa_nil))) pa_nil)))))))
    (pss_one (ps_ret (pe_callTy call_tuple_of (by rfl) (z_tuple T) (by decide +kernel) (pa_cons (pv 1) pa_nil)))))), ?_⟩
  obtain ⟨p, rfl, ha, q⟩ := h
  refine ⟨Nat.zero_le _, fun pw hpw => ?_⟩
  have s0 := Same.new (o := .lst []) hpw
  have hpw0 : pw ≠ p := HA.ne ha hpw
  refine ⟨_, rfl, p, 4, rfl, HA.same ha s0, by decide, by decide, fun m H1 hm0 hm1 t1 => ⟨_, _, rfl, rfl, ?_⟩⟩
  have e0 : H1 pw = some (.lst []) := t1.get upd_same hpw0
  refine ⟨1 + m, rfl, by omega, by omega, ?_⟩
  have t10 : HTo p H H1 := ((HTo.refl ha).new hpw).trans t1
  refine for_range (lo := 0) (n := (1 + m).toNat) (fun i σ H' => ∃ k vs ss, σ = [some (.ref p), some (.ref pw), k] ∧ HTo p H H' ∧ H' pw = some (.lst vs) ∧ TDs K H' vs (ss.map Say.d) ∧ ss.length = i ∧ ∀ s ∈ ss, Say.good s) ⟨none, [], [], rfl, t10, e0, TDs.nil, rfl, fun _ z => nomatch z⟩ ?_ ?_
  · rintro i σ H2 hi ⟨k, vs, ss, rfl, t2, e2, ht2, hl2, hg2⟩
    have hvl : vs.length = i := by rw [ht2.length, List.length_map, hl2]
    have step : ∀ (s : Say) (v : V) (H3 : Hp), s.good → HTo p H2 H3 → TD K H3 v s.d → ∃ (k : Option V) (vs : List V) (ss : List Say), [some (V.ref p), some (V.ref pw), some (V.int (0 + (i : Int)))] = [some (V.ref p), some (V.ref pw), k] ∧ HTo p H (upd H3 pw (.lst (vs ++ [v]))) ∧ H3 pw = some (.lst vs) ∧ TDs K (upd H3 pw (.lst (vs ++ [v]))) (vs ++ [v]) (ss.map Say.d) ∧ ss.length = i + 1 ∧ ∀ s ∈ ss, Say.good s := fun s v H3 hs t3 hv => by
      have e3 := t3.get e2 hpw0
      refine ⟨_, vs, ss ++ [s], rfl, (t2.trans t3).put ha hpw, e3, ?_, by rw [List.length_append, hl2]; rfl, fun z hz => ?_⟩
      · rw [List.map_append]
        exact TDs.fx (fx_lst e3) _ _ ((TDs.fx t3.up.fx _ _ ht2).snoc hv)
      · rcases List.mem_append.mp hz with y | y
        · exact hg2 z y
        · rw [List.mem_singleton.mp y]; exact hs
    have hlen : i < 1000 := by omega
    refine ⟨_, rfl, p, 5, rfl, t2.ha, by decide, by decide, fun j H3 hj0 hj1 t3 => ⟨rfl, _, rfl, ?_⟩⟩
    have e3 := t3.get e2 hpw0
    by_cases hj : j = 1
    · refine ifT (decide_eq_true (by rw [hj])) ⟨_, rfl, .inl ⟨rfl, _, SqL.of e3⟩, _, rfl, p, 1, rfl, by decide, t3.ha, fun s v H4 hs hd t4 hv => ?_⟩
      obtain ⟨k5, vs5, ss5, q1, q2, q3, q4, q5, q6⟩ := step s v H4 ⟨hs, by omega⟩ (t3.trans t4) hv
      have e4 := t4.get e3 hpw0
      rw [e4] at q3
      cases q3
      exact ⟨pw, vs, v, rfl, rfl, e4, by rw [sizeLine_eq]; omega, _, _, ss5, rfl, q2, upd_same, q4, q5, q6⟩
    · refine ifF (decide_eq_false fun z => hj (V.int.inj z)) ⟨_, rfl, .inl ⟨rfl, _, SqL.of e3⟩, ?_⟩
      refine ⟨le_line rfl, fun pl hpl => ⟨_, rfl, p, 4, rfl, HA.same t3.ha (Same.new hpl), by decide, by decide, fun i H4 hi0 hi1 t4 => ?_⟩⟩
      obtain ⟨v, e5, e6, e7, t5⟩ := pick (K := K) t3.ha hpl t4 hi0 hi1 rfl
      refine ⟨pl, _, _, v, rfl, rfl, e7, e5, le_line rfl, fun pt hpt => ?_⟩
      obtain ⟨x, hx, rfl⟩ := strs_mem (l := abxw) e6
      obtain ⟨k5, vs5, ss5, q1, q2, q3, q4, q5, q6⟩ := step (.name x) (.ref pt) _ ⟨trivial, Nat.zero_le _⟩ ((t3.trans t5).new hpt) (TD.newU hpt (TDs.mk (td_str.mpr rfl) (TDs.mk (td_str.mpr rfl) TDs.nil)))
      have e8 : upd H4 pt (.tup [.str "name", .str x]) pw = some (.lst vs) := ((t3.trans t5).new hpt).get e2 hpw0
      rw [e8] at q3
      cases q3
      exact ⟨pw, vs, .ref pt, rfl, rfl, e8, by rw [sizeLine_eq]; omega, _, _, ss5, rfl, q2, upd_same, q4, q5, q6⟩
  · rintro σ H2 ⟨k, vs, ss, rfl, t2, e2, ht2, hl2, hg2⟩
    exact ⟨_, rfl, pw, vs, rfl, .inl ⟨SqL.of e2, fun pt hpt => q ss _ _ (by omega) hg2 (t2.new hpt) (TD.newU hpt ht2)⟩⟩
theorem sc__law_plain : FnScope ["hand", "least", "name", "kind"] ["hand", "least"] (defScope s__law_plain) := ⟨rfl, rfl, rfl, by decide +kernel, rfl, by decide +kernel, by decide +kernel⟩
theorem ok__law_plain (T : Tx w K mg) : OkD P w K mg base d__law_plain 7 ["hand", "least"] (spLPlain K) := by
  have sc := sc__law_plain
  refine okD_mk (F__law_plain T) sc (fun _ _ _ _ _ _ us hl => match us, hl with | [_, _], _ => rfl) ?len ?body
  case len => walk_at "len"
  intro cdv f A outer s H vs Q E hr h
  refine ⟨_, (pss_cons (ps_set (i := 2) sc.nd rfl (Or.inl rfl) (pe_ix ix_list (pe_lst (pa_cons pe_str (pa_cons pe_str (pa_cons pe_str (pa_cons pe_str pa_nil))))) (pe_f (ok__law_draw T) (hr.mono (by decide)) (by rfl) (g__law_draw T) (pa_cons (pv 0) (pa_cons pe_int pa_nil))) (fun _ _ => rfl)))
    (pss_cons (ps_set (i := 3) sc.nd rfl (Or.inl rfl) (pe_op op_add (pv 1) (pe_f (ok__law_draw T) (hr.mono (by decide)) (by rfl) (g__law_draw T) (pa_cons (pv 0) (pa_cons (pe_op op_sub pe_int (pv 1)) pa_nil)))))
    (pss_cons (ps_asg (pe_op op_add (pe_ix ix_list (pv 0) pe_int (fun _ _ => rfl)) pe_int) (pg_sub (pv 0) pe_int set_list))
    (pss_cons (ps_if (pt_cmpR op_lt (pv 3) pe_int (nomark _)) (pss_one (ps_ret (pe_tup (pa_cons pe_str (pa_cons (pv 2) (pa_cons (pe_ix ix_list (pe_lst (pa_cons pe_str (pa_cons pe_str (pa_cons pe_str pa_nil)))) (pe_f (ok__law_draw T) (hr.mono (by decide)) (by rfl) (g__law_draw T) (pa_cons (pv 0) (pa_cons pe_int pa_nil))) (fun _ _ => rfl)) (pa_cons (pe_f (ok__law_saying T) (hr.mono (by decide)) (by rfl) (g__law_saying T) (pa_cons (pv 0) (pa_cons pe_int pa_nil))) pa_nil))))))) pss_nil)
    (pss_cons (ps_if (pt_cmpR op_eq (pv 3) pe_int (nomark _)) (pss_one (ps_ret (pe_tup (pa_cons pe_str (pa_cons (pv 2) (pa_cons (pe_f (ok__law_saying T) (hr.mono (by decide)) (by rfl) (g__law_saying T) (pa_cons (pv 0) (pa_cons pe_int pa_nil))) pa_nil)))))) pss_nil)
    (pss_cons (ps_if (pt_cmpR op_eq (pv 3) pe_int (nomark _)) (pss_one (ps_ret (pe_tup (pa_cons pe_str (pa_cons (pe_tup (pa_cons pe_str (pa_cons (pv 2) pa_nil))) pa_nil))))) pss_nil)
    (pss_one (ps_ret (pe_tup (pa_cons pe_str (pa_cons (pv 2) (pa_cons (pe_f (ok__law_saying T) (hr.mono (by decide)) (by rfl) (g__law_saying T) (pa_cons (pv 0) (pa_cons pe_int pa_nil))) pa_nil)))))))))))), ?_⟩
  obtain ⟨p, l, rfl, ha, hl0, hl5, q⟩ := h
  refine ⟨le_line rfl, fun pl hpl => ⟨_, rfl, p, 4, rfl, HA.same ha (Same.new hpl), by decide, by decide, fun i H1 hi0 hi1 t1 => ?_⟩⟩
  obtain ⟨v, e1, e2, e3, t2⟩ := pick (K := K) ha hpl t1 hi0 hi1 rfl
  refine ⟨pl, _, i, v, rfl, rfl, e3, e1, ?_⟩
  obtain ⟨x, hx, rfl⟩ := strs_mem (l := abxw) e2
  refine ⟨_, rfl, _, rfl, _, rfl, _, _, rfl, rfl, p, 5 - l, rfl, t2.ha, by omega, by omega, fun j H2 hj0 hj1 t3 => ⟨_, _, rfl, rfl, ?_⟩⟩
  have t4 := t2.trans t3
  obtain ⟨b0, b1, b2, b3, b4, hb, hb0, hb1⟩ := t4.ha
  refine ⟨_, rfl, p, _, _, _, rfl, rfl, SqL.of hb, rfl, _, _, rfl, rfl, _, rfl, p, _, _, _, rfl, rfl, hb, rfl, ?_⟩
  have t5 : HTo p H (upd H2 p (.lst [.int b0, .int b1, .int b2, .int (b3 + 1), .int b4])) := t4.set _ _ _ _ _ hb0 hb1
  refine ⟨_, rfl, _, _, rfl, rfl, _, rfl, ?_⟩
  have hwords : ∀ w ∈ (["pay", "ship", "mail"] : List Str), gs w := by decide +kernel
  by_cases h2 : l + j < 2
  · refine ifT (decide_eq_true h2) ?_
    refine ⟨_, rfl, le_line rfl, fun pm hpm => ⟨_, rfl, p, 3, rfl, HA.same t5.ha (Same.new hpm), by decide, by decide, fun i5 H5 hi0 hi1 t6 => ?_⟩⟩
    obtain ⟨v, e5, e6, e7, t7⟩ := pick (K := K) t5.ha hpm t6 hi0 hi1 rfl
    refine ⟨pm, _, _, v, rfl, rfl, e7, e5, _, rfl, p, 2, rfl, by decide, t7.ha, fun s v9 H6 hs hd t8 hv => ⟨le_line rfl, fun pt hpt => ?_⟩⟩
    obtain ⟨y, hy, rfl⟩ := strs_mem (l := ["pay", "ship", "mail"]) e6
    exact q (.order x y s) _ _ ⟨hwords y hy, hs, by omega⟩ (((t5.trans t7).trans t8).new hpt) (TD.newU hpt (TDs.mk (td_str.mpr rfl) (TDs.mk (td_str.mpr rfl) (TDs.mk (td_str.mpr rfl) (TDs.mk hv TDs.nil)))))
  refine ifF (decide_eq_false h2) ⟨_, rfl, rfl, _, rfl, ?_⟩
  by_cases h3 : l + j = 2
  · refine ifT (decide_eq_true (by show V.int (l + j) = _; rw [h3])) ?_
    refine ⟨_, rfl, _, rfl, p, 1, rfl, by decide, t5.ha, fun s v9 H6 hs hd t8 hv => ⟨le_line rfl, fun pt hpt => ?_⟩⟩
    exact q (.timer x s) _ _ ⟨hs, by omega⟩ ((t5.trans t8).new hpt) (TD.newU hpt (TDs.mk (td_str.mpr rfl) (TDs.mk (td_str.mpr rfl) (TDs.mk hv TDs.nil))))
  refine ifF (decide_eq_false fun z => h3 (V.int.inj z)) ⟨_, rfl, rfl, _, rfl, ?_⟩
  by_cases h4 : l + j = 3
  · refine ifT (decide_eq_true (by show V.int (l + j) = _; rw [h4])) ?_
    refine ⟨_, rfl, le_line rfl, fun pn hpn => ⟨le_line rfl, fun pt hpt => ?_⟩⟩
    exact q (.drop (.name x)) _ _ ⟨trivial, Nat.zero_le _⟩ ((t5.new hpn).new hpt) (TD.newU hpt (TDs.mk (td_str.mpr rfl) (TDs.mk (TD.newU hpn (TDs.mk (td_str.mpr rfl) (TDs.mk (td_str.mpr rfl) TDs.nil))) TDs.nil)))
  refine ifF (decide_eq_false fun z => h4 (V.int.inj z)) ?_
  refine ⟨_, rfl, _, rfl, p, 2, rfl, by decide, t5.ha, fun s v9 H6 hs hd t8 hv => ⟨le_line rfl, fun pt hpt => ?_⟩⟩
  exact q (.set x s) _ _ ⟨hs, by omega⟩ ((t5.trans t8).new hpt) (TD.newU hpt (TDs.mk (td_str.mpr rfl) (TDs.mk (td_str.mpr rfl) (TDs.mk hv TDs.nil))))
end
end Ol
namespace Ol
open PySem PySem.Spec PyProof.Rows L2
local macro_rules | `(tactic| walk_at "len") => `(tactic| (intro vs H Q E h; first | (rcases h with ⟨hh, _⟩; rw [hh]; rfl) | (rcases h with ⟨_, hh, _⟩; rw [hh]; rfl) | (rcases h with ⟨_, _, hh, _⟩; rw [hh]; rfl) | (rcases h with ⟨_, _, _, hh, _⟩; rw [hh]; rfl) | (rcases h with ⟨_, _, _, _, hh, _⟩; rw [hh]; rfl) | (rcases h with ⟨_, _, _, _, _, hh, _⟩; rw [hh]; rfl) | (rcases h with ⟨_, _, _, _, _, _, hh, _⟩; rw [hh]; rfl) | (rcases h with ⟨_, _, _, _, _, _, _, hh, _⟩; rw [hh]; rfl) | (rcases h with ⟨_, _, _, _, _, _, _, _, hh, _⟩; rw [hh]; rfl) | (rcases h with ⟨_, _, _, _, _, _, _, _, _, hh, _⟩; rw [hh]; rfl) | (rcases h with ⟨_, _, _, _, _, _, _, _, _, _, hh, _⟩; rw [hh]; rfl) | (rcases h with ⟨_, _, _, _, _, _, _, _, _, _, _, hh, _⟩; rw [hh]; rfl) | (rcases h with ⟨_, _, _, _, _, _, _, _, _, _, _, _, hh, _⟩; rw [hh]; rfl) | (rcases h with ⟨_, _, _, _, _, _, _, _, _, _, _, _, _, hh, _⟩; rw [hh]; rfl) | (rcases h with ⟨_, _, _, _, _, _, _, _, _, _, _, _, _, _, hh, _⟩; rw [hh]; rfl) | (rcases h with ⟨_, _, _, _, _, _, _, _, _, _, _, _, _, _, _, hh, _⟩; rw [hh]; rfl) | (rcases h with ⟨_, _, _, _, _, _, _, _, _, _, _, _, _, _, _, _, hh, _⟩; rw [hh]; rfl) | (rcases h with ⟨_, _, _, _, _, _, _, _, _, _, _, _, _, _, _, _, _, hh, _⟩; rw [hh]; rfl) | (rcases h with ⟨_, _, _, _, _, _, _, _, _, _, _, _, _, _, _, _, _, _, hh, _⟩; rw [hh]; rfl) | (rcases h with ⟨_, _, _, _, _, _, _, _, _, _, _, _, _, _, _, _, _, _, _, hh, _⟩; rw [hh]; rfl)))
theorem andF {c : Bool} {R A B : Prop} (h : c = true → B → R) (b : B) : if c = true then R else (if (false : Bool) = true then A else B) := by
  cases c with
  | true => exact h rfl b
  | false => exact b
theorem keys_ok : ∀ w ∈ (["go", "k", "news"] : List Str), gs w := by decide +kernel
def StmsAt (K : PySem.W.Frag) (p D : Addr) (H0 H : Hp) (i : Nat) : Prop := ∃ (acc : List V) (bs : List Stm), H D = some (.lst acc) ∧ TDs K H acc (blkD bs) ∧ HTo p H0 H ∧ acc.length = i ∧ ∀ s ∈ bs, Stm.ok s
theorem StmsAt.init {K : PySem.W.Frag} {p D : Addr} {H0 : Hp} (ha : HA H0 p) (hD : H0 D = none) : StmsAt K p D H0 (upd H0 D (.lst [])) 0 := ⟨[], [], upd_same, TDs.nil, (HTo.refl ha).new hD, rfl, fun _ z => nomatch z⟩
theorem StmsAt.step {K : PySem.W.Frag} {p D : Addr} {H0 H1 H2 : Hp} {i : Nat} (h : StmsAt K p D H0 H1 i) (ha : HA H0 p) (hD : H0 D = none) (t : HTo p H1 H2) {s : Stm} {v : V} (hs : s.ok) (hv : TD K H2 v s.d) : ∃ acc, H2 D = some (.lst acc) ∧ acc.length = i ∧ StmsAt K p D H0 (upd H2 D (.lst (acc ++ [v]))) (i + 1) := by
  obtain ⟨acc, bs, e1, e2, e3, e4, e5⟩ := h
  have e6 := t.get e1 (HA.ne ha hD)
  refine ⟨acc, e6, e4, acc ++ [v], bs ++ [s], upd_same, ?_, (e3.trans t).put ha hD, by rw [List.length_append, e4]; rfl, fun z hz => ?_⟩
  · rw [blkD_map, List.map_append, ← blkD_map]
    exact TDs.fx (fx_lst e6) _ _ ((TDs.fx t.up.fx _ _ e2).snoc hv)
  · rcases List.mem_append.mp hz with y | y
    · exact e5 z y
    · rw [List.mem_singleton.mp y]; exact hs
theorem other_ok : gs "other" := by decide +kernel
def spStmt (K : PySem.W.Frag) (n : Nat) : Sp := fun vs H Q _ => ∃ (p pl : Addr) (ns : List Str), vs = [.ref p, .ref pl, .int (n : Int)] ∧ HA H p ∧ H pl = some (.lst (ns.map V.str)) ∧ pl ≠ p ∧ (∀ x ∈ ns, gs x) ∧ ns.length ≤ 4 ∧ ∀ (s : Stm) v H', s.ok → HTo p H H' → TD K H' v s.d → Q v H'
def spLBlock (K : PySem.W.Frag) (n : Nat) : Sp := fun vs H Q _ => ∃ (p pl : Addr) (ns : List Str), vs = [.ref p, .ref pl, .int (n : Int)] ∧ HA H p ∧ H pl = some (.lst (ns.map V.str)) ∧ pl ≠ p ∧ (∀ x ∈ ns, gs x) ∧ ns.length ≤ 4 ∧ ∀ (b : List Stm) v H', blkOk b → HTo p H H' → TD K H' v (.tuple (blkD b)) → Q v H'
section
variable {P : Program} {w : World} {K : PySem.W.Frag} {mg : Str → Option Value} {base : Heap}
theorem sc__law_statement : FnScope ["hand", "later", "deep", "name", "kind", "asked", "k"] ["hand", "later", "deep"] (defScope s__law_statement) := ⟨rfl, rfl, rfl, by decide +kernel, rfl, by decide +kernel, by decide +kernel⟩
theorem st__law_statement (T : Tx w K mg) (k : Nat) (sp' : Sp) (n : Nat) (hn : ∀ m, n = m + 1 → ∀ vs H Q E, spLBlock K m vs H Q E → sp' vs H Q E) (G : OkD P w K mg base d__law_block (k + 8) ["hand", "later", "deep"] sp') : OkD P w K mg base d__law_statement (k+9) ["hand", "later", "deep"] (spStmt K n) := by
  have sc := sc__law_statement
  refine okD_mk (F__law_statement T) sc (fun _ _ _ _ _ _ us hl => match us, hl with | [_, _, _], _ => rfl) ?len ?body
  case len => walk_at "len"
  intro cdv f A outer s H vs Q E hr h
  refine ⟨_, (pss_cons (ps_set (i := 3) sc.nd rfl (Or.inl rfl) (pe_ix ix_list (pe_lst (pa_cons pe_str (pa_cons pe_str (pa_cons pe_str (pa_cons pe_str pa_nil))))) (pe_f (ok__law_draw T) (hr.mono (by omega)) (by rfl) (g__law_draw T) (pa_cons (pv 0) (pa_cons pe_int pa_nil))) (fun _ _ => rfl)))
    (pss_cons (ps_set (i := 4) sc.nd rfl (Or.inl rfl) (pe_f (ok__law_draw T) (hr.mono (by omega)) (by rfl) (g__law_draw T) (pa_cons (pv 0) (pa_cons pe_int pa_nil))))
    (pss_cons (ps_if ((pw_or (pt_cmpR op_lt (pv 4) pe_int (nomark _)) (pw_or1 (pt_cmpR op_gt (pe_ix ix_list (pv 0) pe_int (fun _ _ => rfl)) pe_int (nomark _))))).pt (pss_one (ps_ret (pe_f (ok__law_plain T) (hr.mono (by omega)) (by rfl) (g__law_plain T) (pa_cons (pv 0) (pa_cons pe_int pa_nil))))) pss_nil)
    (pss_cons (ps_asg (pe_op op_add (pe_ix ix_list (pv 0) pe_int (fun _ _ => rfl)) pe_int) (pg_sub (pv 0) pe_int set_list))
    (pss_cons (ps_if ((pw_and (pt_cmpR op_eq (pv 4) pe_int (nomark _)) (pw_and1 (pt_cmpR op_lt (pe_ix ix_list (pv 0) pe_int (fun _ _ => rfl)) pe_int (nomark _))))).pt (pss_cons (ps_asg (pe_op op_add (pe_ix ix_list (pv 0) pe_int (fun _ _ => rfl)) pe_int) (pg_sub (pv 0) pe_int set_list))
    (pss_one (ps_ret (pe_tup (pa_cons pe_str (pa_cons (pv 3) (pa_cons (pe_ix ix_list (pe_op op_catL (pv 1) (pe_lst (pa_cons pe_str pa_nil))) (pe_f (ok__law_draw T) (hr.mono (by omega)) (by rfl) (g__law_draw T) (pa_cons (pv 0) (pa_cons (pe_op op_add (pe_callB call_len_seq (by rfl) (z_len T) (by decide +kernel) (pa_cons (pv 1) pa_nil)) pe_int) pa_nil))) (fun _ _ => rfl)) (pa_cons (pe_f (ok__law_saying T) (hr.mono (by omega)) (by rfl) (g__law_saying T) (pa_cons (pv 0) (pa_cons pe_int pa_nil))) pa_nil)))))))) pss_nil)
    (pss_cons (ps_if (pt_cmpR op_eq (pv 4) pe_int (nomark _)) (pss_one (ps_ret (pe_tup (pa_cons pe_str (pa_cons (pe_f (ok__law_saying T) (hr.mono (by omega)) (by rfl) (g__law_saying T) (pa_cons (pv 0) (pa_cons pe_int pa_nil))) (pa_cons (pe_ix ix_list (pe_lst (pa_cons pe_str (pa_cons pe_str (pa_cons pe_str pa_nil)))) (pe_f (ok__law_draw T) (hr.mono (by omega)) (by rfl) (g__law_draw T) (pa_cons (pv 0) (pa_cons pe_int pa_nil))) (fun _ _ => rfl)) (pa_cons (pe_f (ok__law_saying T) (hr.mono (by omega)) (by rfl) (g__law_saying T) (pa_cons (pv 0) (pa_cons pe_int pa_nil))) pa_nil))))))) pss_nil)
    (pss_cons (ps_if (pt_cmpR op_lt (pv 4) pe_int (nomark _)) (pss_one (ps_ret (pe_tup (pa_cons pe_str (pa_cons (pv 3) (pa_cons (pe_f (ok__law_wanted T) (hr.mono (by omega)) (by rfl) (g__law_wanted T) (pa_cons (pv 0) pa_nil)) pa_nil)))))) pss_nil)
    (pss_cons (ps_if (pt_cmpR op_eq (pv 4) pe_int (nomark _)) (pss_one (ps_ret (pe_tup (pa_cons pe_str (pa_cons (pv 3) (pa_cons (pe_ix ix_list (pe_lst (pa_cons pe_str (pa_cons pe_str (pa_cons pe_str pa_nil)))) (pe_f (ok__law_draw T) (hr.mono (by omega)) (by rfl) (g__law_draw T) (pa_cons (pv 0) (pa_cons pe_int pa_nil))) (fun _ _ => rfl)) pa_nil)))))) pss_nil)
    (pss_cons (ps_if ((pw_and (pt_cmpR op_eq (pv 4) pe_int (nomark _)) (pw_and1 (pt_cmpR op_gt (pv 2) pe_int (nomark _))))).pt (pss_cons (ps_set (i := 5) sc.nd rfl (Or.inl rfl) (pe_f (ok__law_saying T) (hr.mono (by omega)) (by rfl) (g__law_saying T) (pa_cons (pv 0) (pa_cons pe_int pa_nil))))
    (pss_one (ps_ret (pe_tup (pa_cons pe_str (pa_cons (pv 5) (pa_cons (pe_f G (hr.mono (by omega)) (by rfl) (g__law_block T) (pa_cons (pv 0) (pa_cons (pv 1) (pa_cons (pe_op op_sub (pv 2) pe_int) pa_nil)))) (pa_cons (pe_f G (hr.mono (by omega)) (by rfl) (g__law_block T) (pa_cons (pv 0) (pa_cons (pv 1) (pa_cons (pe_op op_sub (pv 2) pe_int) pa_nil)))) pa_nil)))))))) pss_nil)
    (pss_cons (ps_if (pt_cmpR op_eq (pv 4) pe_int (nomark _)) (pss_cons (ps_set (i := 5) sc.nd rfl (Or.inl rfl) (pe_f (ok__law_saying T) (hr.mono (by omega)) (by rfl) (g__law_saying T) (pa_cons (pv 0) (pa_cons pe_int pa_nil))))
    (pss_one (ps_ret (pe_tup (pa_cons pe_str (pa_cons (pv 5) (pa_cons (pe_callTy call_tuple_of (by rfl) (z_tuple T) (by decide +kernel) (pa_cons (pe_lc (own := [("k", 6)]) (by rfl) sc.nd (pi_range1 (by rfl) (z_range T) (pa_cons (pe_f (ok__law_draw T) (hr.mono (by omega)) (by rfl) (g__law_draw T) (pa_cons (pv 0) (pa_cons pe_int pa_nil))) pa_nil)) (blkOk_by (N := ["hand", "later", "deep", "name", "kind", "asked", "k"]) (sc := defScope s__law_statement) (by decide +kernel)) (fun _ _ _ _ _ => pg_name (i := 6) sc.nd rfl (Or.inl rfl)) (fun _ _ _ _ _ => pts_nil) (fun _ _ _ _ _ => (pe_f (ok__law_plain T) (hr.mono (by omega)) (by rfl) (g__law_plain T) (pa_cons (pv 0) (pa_cons pe_int pa_nil))))) pa_nil)) pa_nil))))))) pss_nil)
    (pss_cons (ps_if ((pw_and (pt_cmpR op_eq (pv 4) pe_int (nomark _)) (pw_and1 (pt_cmpR op_eq (pe_f (ok__law_draw T) (hr.mono (by omega)) (by rfl) (g__law_draw T) (pa_cons (pv 0) (pa_cons pe_int pa_nil))) pe_int (nomark _))))).pt (pss_one (ps_ret (pe_tup (pa_cons pe_str (pa_cons (pe_f (ok__law_saying T) (hr.mono (by omega)) (by rfl) (g__law_saying T) (pa_cons (pv 0) (pa_cons pe_int pa_nil))) pa_nil))))) pss_nil)
    (pss_one (ps_ret (pe_tup (pa_cons pe_str (pa_cons (pv 3) (pa_cons (pe_f (ok__law_wanted T) (hr.mono (by omega)) (by rfl) (g__law_wanted T) (pa_cons (pv 0) pa_nil)) pa_nil))))))))))))))))), ?_⟩
  obtain ⟨p, pl, ns, rfl, ha, hpl, hne, hg, hnl, q⟩ := h
  refine ⟨le_line rfl, fun pl0 hpl0 => ⟨_, rfl, p, 4, rfl, HA.same ha (Same.new hpl0), by decide, by decide, fun i H1 hi0 hi1 t1 => ?_⟩⟩
  obtain ⟨v, e1, e2, e3, t2⟩ := pick (K := K) ha hpl0 t1 hi0 hi1 rfl
  refine ⟨pl0, _, i, v, rfl, rfl, e3, e1, ?_⟩
  obtain ⟨x, hx, rfl⟩ := strs_mem (l := abxw) e2
  refine ⟨_, rfl, p, 12, rfl, t2.ha, by decide, by decide, fun kind H2 hk0 hk1 t3 => ?_⟩
  have t4 := t2.trans t3
  obtain ⟨b0, b1, b2, b3, b4, hb, hb0, hb1⟩ := t4.ha
  refine ⟨_, rfl, _, _, rfl, rfl, _, rfl, ?_⟩
  by_cases h3 : kind < 3
  · exact ifT (decide_eq_true h3) (ifT rfl ⟨_, rfl, p, 0, rfl, t4.ha, by decide, by decide, fun s v H3 hs t5 hv => q s v H3 hs (t4.trans t5) hv⟩)
  refine ifF (decide_eq_false h3) ⟨_, rfl, p, _, _, _, rfl, rfl, SqL.of hb, rfl, _, _, rfl, rfl, _, rfl, ?_⟩
  by_cases h25 : b3 > 25
  · exact ifT (decide_eq_true h25) ⟨_, rfl, p, 0, rfl, t4.ha, by decide, by decide, fun s v H3 hs t5 hv => q s v H3 hs (t4.trans t5) hv⟩
  refine ifF (decide_eq_false h25) ⟨_, rfl, p, _, _, _, rfl, rfl, SqL.of hb, rfl, _, _, rfl, rfl, _, rfl, p, _, _, _, rfl, rfl, hb, rfl, ?_⟩
  have t5 : HTo p H (upd H2 p (.lst [.int b0, .int b1, .int b2, .int (b3 + 1), .int b4])) := t4.set _ _ _ _ _ hb0 hb1
  have m5 : upd H2 p (.lst [.int b0, .int b1, .int b2, .int (b3 + 1), .int b4]) p = some (.lst [.int b0, .int b1, .int b2, .int (b3 + 1), .int b4]) := upd_same
  refine ⟨_, rfl, rfl, _, rfl, ?_⟩
  by_cases hch : kind = 3 ∧ b4 < 2
  · obtain ⟨hk3, hb4⟩ := hch
    refine ifT (decide_eq_true (by rw [hk3])) ⟨_, rfl, p, _, _, _, rfl, rfl, SqL.of m5, rfl, _, _, rfl, rfl, _, rfl, ifT (decide_eq_true hb4) ?_⟩
    refine ⟨_, rfl, p, _, _, _, rfl, rfl, SqL.of m5, rfl, _, _, rfl, rfl, _, rfl, p, _, _, _, rfl, rfl, m5, rfl, ?_⟩
    have t6 : HTo p H (upd (upd H2 p (.lst [.int b0, .int b1, .int b2, .int (b3 + 1), .int b4])) p (.lst [.int b0, .int b1, .int b2, .int (b3 + 1), .int (b4 + 1)])) := t5.set _ _ _ _ _ hb0 hb1
    have e6 := t6.get hpl hne
    refine ⟨_, rfl, _, rfl, le_line rfl, fun pb hpb => ⟨pl, pb, ns.map V.str, [.str "other"], rfl, rfl, SqL.of ((Same.new hpb) _ _ e6), SqL.of upd_same, by rw [sizeLine_eq, List.length_map]; simp; omega, fun pc hpc => ?_⟩⟩
    have t61 := t6.new (o := .lst [.str "other"]) hpb
    have e8 := ((Same.new hpb).trans (Same.new (o := .lst (ns.map V.str ++ [.str "other"])) hpc)) _ _ e6
    refine ⟨_, rfl, _, rfl, pl, ns.map V.str, rfl, .inl (SqL.of e8), _, _, rfl, rfl, p, _, rfl, HA.same t61.ha (Same.new hpc), by show (0:Int) < ((ns.map V.str).length : Int) + 1; omega, by show ((ns.map V.str).length : Int) + 1 < _; rw [List.length_map]; omega, fun i5 H7 hi0 hi1 t7 => ?_⟩
    obtain ⟨v5, e5, e9, e7, t8⟩ := pick (K := K) t61.ha hpc t7 hi0 hi1 (by simp)
    obtain ⟨y, hy, rfl⟩ := strs_mem (l := ns ++ [("other" : Str)]) (by rw [List.map_append]; exact e9)
    refine ⟨pc, _, _, _, rfl, rfl, e7, e5, _, rfl, p, 2, rfl, by decide, t8.ha, fun s v9 H6 hs hd t9 hv => ⟨le_line rfl, fun pt hpt => ?_⟩⟩
    have hgy : gs y := by
      rcases List.mem_append.mp hy with z | z
      · exact hg y z
      · rw [List.mem_singleton.mp z]; exact other_ok
    exact q (.child x y s) _ _ ⟨hgy, hs, by omega⟩ (((t61.trans t8).trans t9).new hpt) (TD.newU hpt (TDs.mk (td_str.mpr rfl) (TDs.mk (td_str.mpr rfl) (TDs.mk (td_str.mpr rfl) (TDs.mk hv TDs.nil)))))
  refine andF (fun h1 hr => ⟨_, rfl, p, _, _, _, rfl, rfl, SqL.of m5, rfl, _, _, rfl, rfl, _, rfl, ifF (decide_eq_false fun z => hch ⟨V.int.inj (of_decide_eq_true h1), z⟩) hr⟩) ?_
  refine ⟨_, rfl, rfl, _, rfl, ?_⟩
  by_cases h4 : kind = 4
  · refine ifT (decide_eq_true (by rw [h4])) ?_
    refine ⟨_, rfl, p, 1, rfl, by decide, t5.ha, fun s v H4 hs hd t6 hv => ⟨le_line rfl, fun pm hpm => ⟨_, rfl, p, 3, rfl, HA.same t6.ha (Same.new hpm), by decide, by decide, fun i5 H5 hi0 hi1 t7 => ?_⟩⟩⟩
    obtain ⟨v5, e5, e6, e7, t8⟩ := pick (K := K) t6.ha hpm t7 hi0 hi1 rfl
    refine ⟨pm, _, _, v5, rfl, rfl, e7, e5, _, rfl, p, 2, rfl, by decide, t8.ha, fun s2 v2 H6 hs2 hd2 t9 hv2 => ⟨le_line rfl, fun pt hpt => ?_⟩⟩
    obtain ⟨y, hy, rfl⟩ := strs_mem (l := ["go", "k", "news"]) e6
    exact q (.send s y s2) _ _ ⟨keys_ok y hy, ⟨hs, by omega⟩, hs2, by omega⟩ ((((t5.trans t6).trans t8).trans t9).new hpt) (TD.newU hpt (TDs.mk (td_str.mpr rfl) (TDs.mk (TD.fx (t8.trans t9).up.fx _ _ hv) (TDs.mk (td_str.mpr rfl) (TDs.mk hv2 TDs.nil)))))
  refine ifF (decide_eq_false fun z => h4 (V.int.inj z)) ⟨_, rfl, _, _, rfl, rfl, _, rfl, ?_⟩
  by_cases h8 : kind < 8
  · exact ifT (decide_eq_true h8) ⟨_, rfl, _, rfl, p, rfl, t5.ha, fun ss v H4 hl hg t6 hv => ⟨le_line rfl, fun pt hpt => q (.wait x ss) _ _ ⟨hl, hg⟩ ((t5.trans t6).new hpt) (TD.newU hpt (TDs.mk (td_str.mpr rfl) (TDs.mk (td_str.mpr rfl) (TDs.mk hv TDs.nil))))⟩⟩
  refine ifF (decide_eq_false h8) ⟨_, rfl, rfl, _, rfl, ?_⟩
  by_cases h9 : kind = 8
  · refine ifT (decide_eq_true (by rw [h9])) ?_
    refine ⟨_, rfl, le_line rfl, fun pm hpm => ⟨_, rfl, p, 3, rfl, HA.same t5.ha (Same.new hpm), by decide, by decide, fun i5 H5 hi0 hi1 t7 => ?_⟩⟩
    obtain ⟨v5, e5, e6, e7, t8⟩ := pick (K := K) t5.ha hpm t7 hi0 hi1 rfl
    refine ⟨pm, _, _, v5, rfl, rfl, e7, e5, le_line rfl, fun pt hpt => ?_⟩
    obtain ⟨y, hy, rfl⟩ := strs_mem (l := ["go", "k", "news"]) e6
    exact q (.hear x y) _ _ (keys_ok y hy) ((t5.trans t8).new hpt) (TD.newU hpt (TDs.mk (td_str.mpr rfl) (TDs.mk (td_str.mpr rfl) (TDs.mk (td_str.mpr rfl) TDs.nil))))
  refine ifF (decide_eq_false fun z => h9 (V.int.inj z)) ⟨_, rfl, rfl, _, rfl, ?_⟩
  by_cases hif : kind = 9 ∧ n ≠ 0
  · obtain ⟨hk9, hn0⟩ := hif
    obtain ⟨m, rfl⟩ : ∃ m, n = m + 1 := ⟨n - 1, by omega⟩
    have eN : ((m + 1 : Nat) : Int) - 1 = (m : Int) := by omega
    refine ifT (decide_eq_true (by rw [hk9])) ⟨_, rfl, _, _, rfl, rfl, _, rfl, ifT (decide_eq_true (by omega)) ?_⟩
    refine ⟨_, rfl, p, 2, rfl, by decide, t5.ha, fun s v H4 hs hd t6 hv => ?_⟩
    have e4 := (t5.trans t6).get hpl hne
    refine ⟨_, rfl, _, rfl, _, rfl, _, rfl, _, _, rfl, rfl, hn m rfl _ _ _ _ ⟨p, pl, ns, by show [V.ref p, V.ref pl, V.int (((m + 1 : Nat) : Int) - 1)] = _; rw [eN], t6.ha, e4, hne, hg, hnl, fun c v2 H5 hb t7 hv2 => ?_⟩⟩
    have e5 := ((t5.trans t6).trans t7).get hpl hne
    refine ⟨_, rfl, _, rfl, _, rfl, _, _, rfl, rfl, hn m rfl _ _ _ _ ⟨p, pl, ns, by show [V.ref p, V.ref pl, V.int (((m + 1 : Nat) : Int) - 1)] = _; rw [eN], t7.ha, e5, hne, hg, hnl, fun d v3 H6 hb3 t8 hv3 => ⟨le_line rfl, fun pt hpt => ?_⟩⟩⟩
    exact q (.ite s c d) _ _ ⟨⟨hs, by omega⟩, hb, hb3⟩ ((((t5.trans t6).trans t7).trans t8).new hpt) (TD.newU hpt (TDs.mk (td_str.mpr rfl) (TDs.mk (TD.fx (t7.trans t8).up.fx _ _ hv) (TDs.mk (TD.fx t8.up.fx _ _ hv2) (TDs.mk hv3 TDs.nil)))))
  refine andF (fun h1 hr => ⟨_, rfl, _, _, rfl, rfl, _, rfl, ifF (decide_eq_false fun z => hif ⟨V.int.inj (of_decide_eq_true h1), by omega⟩) hr⟩) ?_
  refine ⟨_, rfl, rfl, _, rfl, ?_⟩
  by_cases h10 : kind = 10
  · refine ifT (decide_eq_true (by rw [h10])) ?_
    refine ⟨_, rfl, p, 2, rfl, by decide, t5.ha, fun s v H4 hs hd t6 hv => ?_⟩
    refine ⟨_, rfl, _, rfl, p, 3, rfl, t6.ha, by decide, by decide, fun cnt H5 hc0 hc1 t7 => ⟨cnt, rfl, by omega, by omega, fun D hD => lc_range (lo := 0) (n := cnt.toNat) (fun i H' => StmsAt K p D H5 H' i) (StmsAt.init t7.ha hD) ?_ ?_⟩⟩
    · intro i H8 hi hst
      refine ⟨rfl, ifT (B := StmsAt K p D H5 H8 (i + 1)) rfl ⟨_, rfl, p, 3, rfl, hst.choose_spec.choose_spec.2.2.1.ha, by decide, by decide, fun s9 v9 H9 hs9 t9 hv9 => ?_⟩⟩
      obtain ⟨acc, a1, a2, a3⟩ := hst.step t7.ha hD t9 hs9 hv9
      exact ⟨acc, a1, by rw [sizeLine_eq]; omega, a3⟩
    · rintro H8 ⟨acc, bs, a1, a2, a3, a4, a5⟩
      refine ⟨D, acc, rfl, .inl ⟨SqL.of a1, fun pt2 hpt2 => ⟨le_line rfl, fun pt hpt => ?_⟩⟩⟩
      exact q (.whl s bs) _ _ ⟨⟨hs, by omega⟩, blkOk_of a5⟩ (((((t5.trans t6).trans t7).trans a3).new hpt2).new hpt) (TD.newU hpt (TDs.mk (td_str.mpr rfl) (TDs.mk (TD.fx ((t7.trans a3).new hpt2).up.fx _ _ hv) (TDs.mk (TD.newU hpt2 a2) TDs.nil))))
  refine ifF (decide_eq_false fun z => h10 (V.int.inj z)) ⟨_, rfl, rfl, _, rfl, ?_⟩
  by_cases h11 : kind = 11
  · refine ifT (decide_eq_true (by rw [h11])) ⟨_, rfl, p, 3, rfl, t5.ha, by decide, by decide, fun j H3 hj0 hj1 t6 => ⟨rfl, _, rfl, ?_⟩⟩
    by_cases hj : j = 1
    · refine ifT (decide_eq_true (by rw [hj])) ?_
      refine ⟨_, rfl, p, 2, rfl, by decide, t6.ha, fun s v9 H6 hs hd t8 hv => ⟨le_line rfl, fun pt hpt => ?_⟩⟩
      exact q (.fin s) _ _ ⟨hs, by omega⟩ (((t5.trans t6).trans t8).new hpt) (TD.newU hpt (TDs.mk (td_str.mpr rfl) (TDs.mk hv TDs.nil)))
    · refine ifF (decide_eq_false fun z => hj (V.int.inj z)) ?_
      exact ⟨_, rfl, _, rfl, p, rfl, t6.ha, fun ss v H4 hl hg t7 hv => ⟨le_line rfl, fun pt hpt => q (.wait x ss) _ _ ⟨hl, hg⟩ (((t5.trans t6).trans t7).new hpt) (TD.newU hpt (TDs.mk (td_str.mpr rfl) (TDs.mk (td_str.mpr rfl) (TDs.mk hv TDs.nil))))⟩⟩
  · refine ifF (decide_eq_false fun z => h11 (V.int.inj z)) (ifF rfl ?_)
    exact ⟨_, rfl, _, rfl, p, rfl, t5.ha, fun ss v H4 hl hg t7 hv => ⟨le_line rfl, fun pt hpt => q (.wait x ss) _ _ ⟨hl, hg⟩ ((t5.trans t7).new hpt) (TD.newU hpt (TDs.mk (td_str.mpr rfl) (TDs.mk (td_str.mpr rfl) (TDs.mk hv TDs.nil))))⟩⟩
theorem sc__law_block : FnScope ["hand", "later", "deep", "k"] ["hand", "later", "deep"] (defScope s__law_block) := ⟨rfl, rfl, rfl, by decide +kernel, rfl, by decide +kernel, by decide +kernel⟩
theorem st__law_block (T : Tx w K mg) (k : Nat) (n : Nat) (G : OkD P w K mg base d__law_statement (k + 9) ["hand", "later", "deep"] (spStmt K n)) : OkD P w K mg base d__law_block (k+10) ["hand", "later", "deep"] (spLBlock K n) := by
  have sc := sc__law_block
  refine okD_mk (F__law_block T) sc (fun _ _ _ _ _ _ us hl => match us, hl with | [_, _, _], _ => rfl) ?len ?body
  case len => walk_at "len"
  intro cdv f A outer s H vs Q E hr h
  refine ⟨_, (pss_one (ps_ret (pe_callTy call_tuple_of (by rfl) (z_tuple T) (by decide +kernel) (pa_cons (pe_lc (own := [("k", 3)]) (by rfl) sc.nd (pi_range1 (by rfl) (z_range T) (pa_cons (pe_f (ok__law_draw T) (hr.mono (by omega)) (by rfl) (g__law_draw T) (pa_cons (pv 0) (pa_cons pe_int pa_nil))) pa_nil)) (blkOk_by (N := ["hand", "later", "deep", "k"]) (sc := defScope s__law_block) (by decide +kernel)) (fun _ _ _ _ _ => pg_name (i := 3) sc.nd rfl (Or.inl rfl)) (fun _ _ _ _ _ => pts_nil) (fun _ _ _ _ _ => (pe_f G (hr.mono (by omega)) (by rfl) (g__law_statement T) (pa_cons (pv 0) (pa_cons (pv 1) (pa_cons (pv 2) pa_nil)))))) pa_nil)))), ?_⟩
  obtain ⟨p, pl, ns, rfl, ha, hpl, hne, hg, hnl, q⟩ := h
  refine ⟨_, rfl, p, 4, rfl, ha, by decide, by decide, fun cnt H5 hc0 hc1 t7 => ⟨cnt, rfl, by omega, by omega, fun D hD => lc_range (lo := 0) (n := cnt.toNat) (fun i H' => StmsAt K p D H5 H' i) (StmsAt.init t7.ha hD) ?_ ?_⟩⟩
  · intro i H8 hi hst
    have t8 := hst.choose_spec.choose_spec.2.2.1
    refine ⟨rfl, ifT (B := StmsAt K p D H5 H8 (i + 1)) rfl ⟨_, rfl, _, rfl, _, rfl, p, pl, ns, rfl, t8.ha, (t7.trans t8).get hpl hne, hne, hg, hnl, fun s9 v9 H9 hs9 t9 hv9 => ?_⟩⟩
    obtain ⟨acc, a1, a2, a3⟩ := hst.step t7.ha hD t9 hs9 hv9
    exact ⟨acc, a1, by rw [sizeLine_eq]; omega, a3⟩
  · rintro H8 ⟨acc, bs, a1, a2, a3, a4, a5⟩
    refine ⟨D, acc, rfl, .inl ⟨SqL.of a1, fun pt2 hpt2 => ?_⟩⟩
    exact q bs _ _ (blkOk_of a5) ((t7.trans a3).new hpt2) (TD.newU hpt2 a2)
theorem ok__law_statement_0 (T : Tx w K mg) : OkD P w K mg base d__law_statement 9 ["hand", "later", "deep"] (spStmt K 0) :=
  st__law_statement T 0 (fun _ _ _ _ => False) 0 (fun _ h => by omega) (okD_false (F__law_block T) (fun _ _ _ _ _ _ us hl => match us, hl with | [_, _, _], _ => rfl) _)
theorem ok__law_statement_1 (T : Tx w K mg) : OkD P w K mg base d__law_statement 11 ["hand", "later", "deep"] (spStmt K 1) :=
  st__law_statement T 2 (spLBlock K 0) 1 (fun m e vs H Q E h => by cases e; exact h) (st__law_block T 0 0 (ok__law_statement_0 T))
theorem ok__law_statement (T : Tx w K mg) : OkD P w K mg base d__law_statement 13 ["hand", "later", "deep"] (spStmt K 2) :=
  st__law_statement T 4 (spLBlock K 1) 2 (fun m e vs H Q E h => by cases e; exact h) (st__law_block T 2 1 (ok__law_statement_1 T))
end
end Ol
namespace Ol
open PySem PySem.Spec PyProof.Rows L2
local macro_rules | `(tactic| walk_at "len") => `(tactic| (intro vs H Q E h; first | (rcases h with ⟨hh, _⟩; rw [hh]; rfl) | (rcases h with ⟨_, hh, _⟩; rw [hh]; rfl) | (rcases h with ⟨_, _, hh, _⟩; rw [hh]; rfl) | (rcases h with ⟨_, _, _, hh, _⟩; rw [hh]; rfl) | (rcases h with ⟨_, _, _, _, hh, _⟩; rw [hh]; rfl) | (rcases h with ⟨_, _, _, _, _, hh, _⟩; rw [hh]; rfl) | (rcases h with ⟨_, _, _, _, _, _, hh, _⟩; rw [hh]; rfl) | (rcases h with ⟨_, _, _, _, _, _, _, hh, _⟩; rw [hh]; rfl) | (rcases h with ⟨_, _, _, _, _, _, _, _, hh, _⟩; rw [hh]; rfl) | (rcases h with ⟨_, _, _, _, _, _, _, _, _, hh, _⟩; rw [hh]; rfl) | (rcases h with ⟨_, _, _, _, _, _, _, _, _, _, hh, _⟩; rw [hh]; rfl) | (rcases h with ⟨_, _, _, _, _, _, _, _, _, _, _, hh, _⟩; rw [hh]; rfl) | (rcases h with ⟨_, _, _, _, _, _, _, _, _, _, _, _, hh, _⟩; rw [hh]; rfl) | (rcases h with ⟨_, _, _, _, _, _, _, _, _, _, _, _, _, hh, _⟩; rw [hh]; rfl) | (rcases h with ⟨_, _, _, _, _, _, _, _, _, _, _, _, _, _, hh, _⟩; rw [hh]; rfl) | (rcases h with ⟨_, _, _, _, _, _, _, _, _, _, _, _, _, _, _, hh, _⟩; rw [hh]; rfl) | (rcases h with ⟨_, _, _, _, _, _, _, _, _, _, _, _, _, _, _, _, hh, _⟩; rw [hh]; rfl) | (rcases h with ⟨_, _, _, _, _, _, _, _, _, _, _, _, _, _, _, _, _, hh, _⟩; rw [hh]; rfl) | (rcases h with ⟨_, _, _, _, _, _, _, _, _, _, _, _, _, _, _, _, _, _, hh, _⟩; rw [hh]; rfl) | (rcases h with ⟨_, _, _, _, _, _, _, _, _, _, _, _, _, _, _, _, _, _, _, hh, _⟩; rw [hh]; rfl)))
theorem cut_map (ws : List Str) (lo hi : Option Int) : ∃ ns : List Str, cutV (ws.map V.str) lo hi = ns.map V.str ∧ (∀ x ∈ ns, x ∈ ws) ∧ ns.length ≤ ws.length := by
  refine ⟨(ws.drop (HT.sIx ws.length 0 lo)).take (HT.sIx ws.length ws.length hi - HT.sIx ws.length 0 lo), ?_, fun x hx => List.mem_of_mem_drop (List.mem_of_mem_take hx), ?_⟩
  · unfold cutV
    rw [List.length_map, List.map_take, List.map_drop]
  · rw [List.length_take, List.length_drop]
    omega
theorem HTo.old {p : Addr} {H H1 H2 : Hp} (t : HTo p H1 H2) (s : Same H H1) (hp : H p = none) : Same H H2 := fun b o e => t.up.keep b o (s b o e) fun z => by
  rw [List.mem_singleton.mp z, hp] at e
  cases e
theorem cell {xs zs : List Int} {i : Int} (h0 : 0 ≤ i) (h1 : i < xs.length + zs.length) : ∃ c, atI (xs.map V.int ++ zs.map V.int) i = some (.int c) := by
  obtain ⟨v, e1, e2⟩ := atI_some (xs := xs.map V.int ++ zs.map V.int) h0 (by rw [List.length_append, List.length_map, List.length_map]; omega)
  rw [← List.map_append] at e1 e2 ⊢
  obtain ⟨c, _, rfl⟩ := ints_mem (List.mem_of_getElem? e2)
  exact ⟨c, e1⟩
def wordsL : List Str := ["one", "two", "five", "nine"]
theorem words_ok : ∀ w ∈ wordsL, gs w := by decide +kernel
def spLProgs (K : PySem.W.Frag) : Sp := fun vs H Q _ => ∃ (ps : Addr) (xs : List Int), vs = [.ref ps] ∧ SqL K H ps (xs.map V.int) ∧ xs.length ≤ 1000 ∧ ∀ (pd : Addr) (progs : List (Str × List Stm)) H', Same H H' → H pd = none → PgAt K H' pd progs → (∀ b ∈ progs, blkOk b.2 ∧ gs b.1) → Q (.ref pd) H'
section
variable {P : Program} {w : World} {K : PySem.W.Frag} {mg : Str → Option Value} {base : Heap}
theorem sc__law_programs : FnScope ["script", "programs", "words", "many", "k", "hand", "block", "j"] ["script"] (defScope s__law_programs) := ⟨rfl, rfl, rfl, by decide +kernel, rfl, by decide +kernel, by decide +kernel⟩
theorem ok__law_programs (T : Tx w K mg) : OkD P w K mg base d__law_programs 14 ["script"] (spLProgs K) := by
  have sc := sc__law_programs
  refine okD_mk (F__law_programs T) sc (fun _ _ _ _ _ _ us hl => match us, hl with | [_], _ => rfl) ?len ?body
  case len => walk_at "len"
  intro cdv f A outer s H vs Q E hr h
  refine ⟨_, (pss_cons (ps_set (i := 1) sc.nd rfl (Or.inl rfl) pe_dnewK)
    (pss_cons (ps_set (i := 2) sc.nd rfl (Or.inl rfl) (pe_lst (pa_cons pe_str (pa_cons pe_str (pa_cons pe_str (pa_cons pe_str pa_nil))))))
    (pss_cons (ps_set (i := 3) sc.nd rfl (Or.inl rfl) (pe_op op_add pe_int (pe_f (ok__law_draw T) (hr.mono (by decide)) (by rfl) (g__law_draw T) (pa_cons (pe_f (ok__law_hand T) (hr.mono (by decide)) (by rfl) (g__law_hand T) (pa_cons (pv 0) (pa_cons (pe_ix ix_list (pe_op op_catL (pv 0) (pe_lst (pa_cons pe_int pa_nil))) pe_int (fun _ _ => rfl)) (pa_cons pe_int pa_nil)))) (pa_cons pe_int pa_nil)))))
    (pss_cons (ps_for PassesOwn.never (by rfl) (pi_range1 (by rfl) (z_range T) (pa_cons (pv 3) pa_nil)) (pg_name (i := 4) sc.nd rfl (Or.inl rfl)) (pss_cons (ps_set (i := 5) sc.nd rfl (Or.inl rfl) (pe_f (ok__law_hand T) (hr.mono (by decide)) (by rfl) (g__law_hand T) (pa_cons (pv 0) (pa_cons (pe_ix ix_list (pe_op op_catL (pv 0) (pe_op op_rep (pe_lst (pa_cons pe_int pa_nil)) pe_int)) (pe_op op_add pe_int (pv 4)) (fun _ _ => rfl)) (pa_cons (pv 4) pa_nil)))))
    (pss_cons (ps_set (i := 6) sc.nd rfl (Or.inl rfl) (pe_lst pa_nil))
    (pss_cons (ps_for PassesOwn.never (by rfl) (pi_range1 (by rfl) (z_range T) (pa_cons (pe_f (ok__law_draw T) (hr.mono (by decide)) (by rfl) (g__law_draw T) (pa_cons (pv 5) (pa_cons pe_int pa_nil))) pa_nil)) (pg_name (i := 7) sc.nd rfl (Or.inl rfl)) (pss_one (ps_expr (pe_bm PySem.F.plainAttrs_list PySem.F.slot_list_append PySem.F.type_list_append mt_append (pv 6) (pa_cons (pe_f (ok__law_statement T) (hr.mono (by decide)) (by rfl) (g__law_statement T) (pa_cons (pv 5) (pa_cons (pe_slice sl_list (pv 2) (po_some (pe_op op_add (pv 4) pe_int)) (po_some (pv 3))) (pa_cons pe_int pa_nil)))) pa_nil)))))
    (pss_one (ps_dput (hu_of hr) (pv 1) (pe_ix ix_list (pv 2) (pv 4) (fun _ _ => rfl)) (pe_callTy call_tuple_of (by rfl) (z_tuple T) (by decide +kernel) (pa_cons (pv 6) pa_nil)) rfl))))))
    (pss_one (ps_ret (pv 1))))))), ?_⟩
  obtain ⟨ps, xs, rfl, hps, hxl, q⟩ := h
  refine fun pd hpd => ⟨le_line rfl, fun pw hpw => ?_⟩
  have s1 : Same H (upd H pd (.dK [])) := Same.new hpd
  have s2 : Same H (upd (upd H pd (.dK [])) pw (.lst (wordsL.map V.str))) := s1.trans (Same.new hpw)
  have m1 : upd (upd H pd (.dK [])) pw (.lst (wordsL.map V.str)) pd = some (.dK []) := Same.new hpw _ _ upd_same
  have m2 : upd (upd H pd (.dK [])) pw (.lst (wordsL.map V.str)) pw = some (.lst (wordsL.map V.str)) := upd_same
  refine ⟨_, rfl, _, rfl, le_line rfl, fun pz hpz => ⟨ps, pz, xs.map V.int, [.int 0], rfl, rfl, Same.sql (s2.trans (Same.new hpz)) hps, SqL.of upd_same, by rw [sizeLine_eq, List.length_map]; show xs.length + 1 ≤ _; omega, fun pc hpc => ?_⟩⟩
  obtain ⟨c, hc⟩ := cell (xs := xs) (zs := [0]) (i := 0) (by decide) (by show (0:Int) < (xs.length : Int) + 1; omega)
  have s3 := (Same.new (o := .lst [.int 0]) hpz).trans (Same.new (o := .lst (xs.map V.int ++ [.int 0])) hpc)
  refine ⟨pc, _, _, _, rfl, rfl, SqL.of upd_same, hc, ps, xs, c, 9, rfl, Same.sql (s2.trans s3) hps, fun p H3 s4 hp ha => ⟨p, 4, rfl, ha, by decide, by decide, fun m H4 hm0 hm1 t4 => ⟨_, _, rfl, rfl, ?_⟩⟩⟩
  have s34 := s3.trans s4
  have hp2 := Same.free s3 hp
  have s5 := t4.old s34 hp2
  refine ⟨_, rfl, _, rfl, by omega, by omega, for_range (lo := 0) (n := (1 + m).toNat) (fun i σ H' => ∃ (progs : List (Str × List Stm)) (u4 u5 u6 u7 : Option V), σ = [some (.ref ps), some (.ref pd), some (.ref pw), some (.int (1 + m)), u4, u5, u6, u7] ∧ Same H H' ∧ PgAt K H' pd progs ∧ H' pw = some (.lst (wordsL.map V.str)) ∧ progs.length ≤ i ∧ ∀ b ∈ progs, blkOk b.2 ∧ gs b.1) ⟨[], _, _, _, _, rfl, s2.trans s5, ⟨[], s5 _ _ m1, .nil⟩, s5 _ _ m2, Nat.le_refl _, fun _ z => nomatch z⟩ ?_ ?_⟩
  · rintro i σ H5 hi ⟨progs, u4, u5, u6, u7, rfl, z1, z2, z3, z4, z5⟩
    refine ⟨_, rfl, _, rfl, le_line rfl, fun qz hqz => ⟨qz, 5, [.int 0], rfl, rfl, upd_same, by decide, by decide, le_line rfl, fun qr hqr => ⟨ps, qr, xs.map V.int, [0, 0, 0, 0, 0].map V.int, rfl, rfl, Same.sql ((z1.trans (Same.new hqz)).trans (Same.new hqr)) hps, SqL.of upd_same, by rw [sizeLine_eq, List.length_map]; show xs.length + 5 ≤ _; omega, fun qc hqc => ?_⟩⟩⟩
    obtain ⟨c2, hc2⟩ := cell (xs := xs) (zs := [0, 0, 0, 0, 0]) (i := 1 + (0 + (i : Int))) (by omega) (by show _ < (xs.length : Int) + 5; omega)
    have y1 := ((Same.new (o := .lst [.int 0]) hqz).trans (Same.new (o := .lst ([0, 0, 0, 0, 0].map V.int)) hqr)).trans (Same.new (o := .lst (xs.map V.int ++ [0, 0, 0, 0, 0].map V.int)) hqc)
    refine ⟨_, rfl, _, _, rfl, rfl, qc, _, _, _, rfl, rfl, SqL.of upd_same, hc2, _, rfl, ps, xs, c2, _, rfl, Same.sql (z1.trans y1) hps, fun p H6 y2 hp6 ha => ⟨Nat.zero_le _, fun pb hpb => ?_⟩⟩
    have hne := HA.ne ha hpb
    have y3 := y1.trans y2
    refine ⟨_, rfl, p, 8, rfl, HA.same ha (Same.new hpb), by decide, by decide, fun nj H7 hj0 hj1 t7 => ⟨nj, rfl, by omega, by omega, for_range (lo := 0) (n := nj.toNat) (fun j σ H' => ∃ (u : Option V), σ = [some (.ref ps), some (.ref pd), some (.ref pw), some (.int (1 + m)), some (.int (0 + (i : Int))), some (.ref p), some (.ref pb), u] ∧ StmsAt K p pb H6 H' j) ⟨u7, rfl, [], [], t7.get upd_same hne, TDs.nil, ((HTo.refl ha).new hpb).trans t7, rfl, fun _ z => nomatch z⟩ ?_ ?_⟩⟩
    · rintro j σ H8 hj ⟨u, rfl, hst⟩
      have t8 := hst.choose_spec.choose_spec.2.2.1
      have e80 := hst.choose_spec.choose_spec.1
      have hw8 : H8 pw = some (.lst (wordsL.map V.str)) := t8.get (y3 _ _ z3) fun z => by rw [z, Same.free y1 hp6] at z3; cases z3
      refine ⟨_, rfl, .inl ⟨rfl, _, SqL.of e80⟩, _, rfl, _, rfl, _, rfl, _, _, rfl, rfl, _, rfl, _, rfl, _, rfl, pw, _, rfl, SqL.of hw8, fun pl hpl => ?_⟩
      obtain ⟨ns, n1, n2, n3⟩ := cut_map wordsL (some (0 + (i : Int) + 1)) (some (1 + m))
      refine ⟨p, pl, ns, rfl, HA.same t8.ha (Same.new hpl), by rw [← n1]; exact upd_same, HA.ne t8.ha hpl, fun x hx => words_ok x (n2 x hx), n3, fun s v H9 hs t9 hv => ?_⟩
      have t89 : HTo p H8 H9 := ((HTo.refl t8.ha).new hpl).trans t9
      obtain ⟨acc, a1, a2, a3⟩ := hst.step ha hpb t89 hs hv
      exact ⟨pb, acc, v, rfl, rfl, a1, by rw [sizeLine_eq]; omega, _, rfl, a3⟩
    · rintro σ H8 ⟨u, rfl, acc, bs, e1, e2, e3, e4, e5⟩
      have g1 : Same H5 H8 := e3.old y3 (Same.free y1 hp6)
      have g2 : Same H H8 := z1.trans g1
      obtain ⟨w5, w1, w2⟩ := atI_some (xs := wordsL.map V.str) (i := 0 + (i : Int)) (by omega) (by show _ < (4 : Int); omega)
      obtain ⟨wd, w3, rfl⟩ := strs_mem (List.mem_of_getElem? w2)
      obtain ⟨pgV, k1, k2⟩ := z2
      refine ⟨_, rfl, pb, acc, rfl, .inl ⟨SqL.of e1, fun pq hpt => ?_⟩⟩
      have g3 := Same.new (o := .tup acc) hpt
      have k3 := g3 _ _ (g1 _ _ k1)
      have kl : pgV.length = progs.length := (PK2.len k2).symm
      refine ⟨_, rfl, _, rfl, _, rfl, pw, _, _, _, rfl, rfl, SqL.of (g3 _ _ (g1 _ _ z3)), w1, pd, _, rfl, DPut.k (k := Sum.inr wd) k3 (by rw [mk2_length, kl, sizeLine_eq]; omega), ?_⟩
      have k4 : Fx (upd H8 pq (.tup acc)) (upd (upd H8 pq (.tup acc)) pd (.dK (putK (mk2 Sum.inr id pgV) (Sum.inr wd) (.ref pq)))) := (Upto.upd (F := [pd]) k3 List.mem_cons_self (fun _ z => nomatch z) (fun _ _ z => nomatch z)).fx
      refine ⟨pt progs wd bs, _, _, _, _, rfl, ?_, ⟨pt pgV wd (.ref pq), ?_, ?_⟩, ?_, ?_, ?_⟩
      · intro b o e
        rw [upd_ne (fun z => by rw [z, hpd] at e; cases e)]
        exact g3 _ _ (g2 _ _ e)
      · rw [upd_same]
        exact congrArg (fun z => some (HO.dK z)) (putK_mk2 inr_inj pgV wd (.ref pq))
      · exact PK2.put (PK2.mono k2 fun _ _ z => TD.fx ((Same.fx (g1.trans g3)).trans k4) _ _ z) wd (TD.fx k4 _ _ (TD.newU hpt e2))
      · rw [upd_ne (fun z => by have k5 := g3 _ _ (g1 _ _ z3); rw [z, k3] at k5; cases k5)]
        exact g3 _ _ (g1 _ _ z3)
      · have := pt_length progs wd bs
        omega
      · intro b hb
        rcases pt_mem hb with z | z
        · rw [z]; exact ⟨blkOk_of e5, words_ok wd w3⟩
        · exact z5 b z
  · rintro σ H5 ⟨progs, u4, u5, u6, u7, rfl, z1, z2, z3, z4, z5⟩
    exact ⟨_, rfl, q pd progs H5 z1 hpd z2 z5⟩
end
end Ol
namespace Ol
open PySem PySem.Spec PyProof.Rows L2
local macro_rules | `(tactic| walk_at "len") => `(tactic| (intro vs H Q E h; first | (rcases h with ⟨hh, _⟩; rw [hh]; rfl) | (rcases h with ⟨_, hh, _⟩; rw [hh]; rfl) | (rcases h with ⟨_, _, hh, _⟩; rw [hh]; rfl) | (rcases h with ⟨_, _, _, hh, _⟩; rw [hh]; rfl) | (rcases h with ⟨_, _, _, _, hh, _⟩; rw [hh]; rfl) | (rcases h with ⟨_, _, _, _, _, hh, _⟩; rw [hh]; rfl) | (rcases h with ⟨_, _, _, _, _, _, hh, _⟩; rw [hh]; rfl) | (rcases h with ⟨_, _, _, _, _, _, _, hh, _⟩; rw [hh]; rfl) | (rcases h with ⟨_, _, _, _, _, _, _, _, hh, _⟩; rw [hh]; rfl) | (rcases h with ⟨_, _, _, _, _, _, _, _, _, hh, _⟩; rw [hh]; rfl) | (rcases h with ⟨_, _, _, _, _, _, _, _, _, _, hh, _⟩; rw [hh]; rfl) | (rcases h with ⟨_, _, _, _, _, _, _, _, _, _, _, hh, _⟩; rw [hh]; rfl) | (rcases h with ⟨_, _, _, _, _, _, _, _, _, _, _, _, hh, _⟩; rw [hh]; rfl) | (rcases h with ⟨_, _, _, _, _, _, _, _, _, _, _, _, _, hh, _⟩; rw [hh]; rfl) | (rcases h with ⟨_, _, _, _, _, _, _, _, _, _, _, _, _, _, hh, _⟩; rw [hh]; rfl) | (rcases h with ⟨_, _, _, _, _, _, _, _, _, _, _, _, _, _, _, hh, _⟩; rw [hh]; rfl) | (rcases h with ⟨_, _, _, _, _, _, _, _, _, _, _, _, _, _, _, _, hh, _⟩; rw [hh]; rfl) | (rcases h with ⟨_, _, _, _, _, _, _, _, _, _, _, _, _, _, _, _, _, hh, _⟩; rw [hh]; rfl) | (rcases h with ⟨_, _, _, _, _, _, _, _, _, _, _, _, _, _, _, _, _, _, hh, _⟩; rw [hh]; rfl) | (rcases h with ⟨_, _, _, _, _, _, _, _, _, _, _, _, _, _, _, _, _, _, _, hh, _⟩; rw [hh]; rfl)))
theorem nm_words : ∀ w ∈ (["one", "two", "five", "nine", "other", "go", "k", "news"] : List Str), Nm w := by
  have h : ∀ w ∈ (["one", "two", "five", "nine", "other", "go", "k", "news"] : List Str), (1 ≤ w.length ∧ w.length ≤ 6) ∧ w ∉ ownWords ∧ ∀ c ∈ TL.tl w, 97 ≤ c ∧ c ≤ 122 := by decide +kernel
  exact fun w hw => ⟨(h w hw).1.1, (h w hw).1.2, (h w hw).2.1, (h w hw).2.2⟩
theorem gs_empty : gs Str.empty := by decide +kernel
theorem sd_ord {s : HS} {n k : Nat} (h : Hk s n k) (q : Int × Int) : Sd 1 (ordD s q) := by
  unfold ordD
  refine sd_tup fun d hd => ?_
  have hg : gs ((lk s.orders q).getD (Str.empty, none)).1 := by
    cases e : lk s.orders q with
    | none => exact gs_empty
    | some o => exact (h.ov _ (lk_mem e)).1
  have ho : gs "order" := by decide +kernel
  simp only [List.mem_cons, List.not_mem_nil, or_false] at hd
  rcases hd with rfl | rfl | rfl | rfl | rfl
  · exact sd_str ho
  · exact sd_int
  · exact sd_int
  · exact sd_str hg
  · exact sd_wd
theorem sd_orders {s : HS} {n k : Nat} (h : Hk s n k) : ∀ d ∈ s.openOrders, Sd 1 d := fun d hd => by
  obtain ⟨q, _, rfl⟩ := List.mem_map.mp hd
  exact sd_ord h q
theorem spots_len (s : HS) : s.openOrders.length ≤ s.orders.length := by
  unfold HS.openOrders HS.openSpots HS.spots
  rw [List.length_map]
  refine Nat.le_trans (List.length_filter_le _ _) ?_
  rw [List.length_mergeSort, List.length_map]
  exact Nat.le_refl _
def worthsL : List W := [some 0, some 1, some 2, none, some (-1), some 1000000000, some 3]
theorem worths_ok : ∀ w ∈ worthsL, WT w ∧ WB w := by
  intro w hw
  simp only [worthsL, List.mem_cons, List.not_mem_nil, or_false] at hw
  rcases hw with rfl | rfl | rfl | rfl | rfl | rfl | rfl
  all_goals first | exact ⟨fun i z => (nomatch z), wb_none⟩ | exact ⟨fun i z => by cases z; exact ⟨by decide, by decide⟩, wb_some (by decide) (by decide)⟩
theorem LawAt.hand {K : PySem.W.Frag} {H H' : Hp} {a p : Addr} {s : HS} {X : LX} (R : LawAt K H a s X) (t : HTo p H H') (h1 : p ∉ X.F a) (h2 : p ≠ X.pd) : LawAt K H' a s X :=
  R.upto t.up (fun b hb m => h1 (by rw [← List.mem_singleton.mp m]; exact hb)) fun m => h2 (List.mem_singleton.mp m).symm
def spLInput (K : PySem.W.Frag) : Sp := fun vs H Q _ => ∃ (p a : Addr) (s : HS) (X : LX) (n k : Nat), vs = [.ref p, .ref a] ∧ HA H p ∧ LawAt K H a s X ∧ Hk s n k ∧ p ∉ X.F a ∧ p ≠ X.pd ∧ 0 ≤ s.now ∧ ∀ (x : Inp) v H', x.ok → x.tk → HTo p H H' → TD K H' v x.d → Q v H'
section
variable {P : Program} {w : World} {K : PySem.W.Frag} {mg : Str → Option Value} {base : Heap}
theorem sc__law_input : FnScope ["hand", "house", "now", "some", "moment", "worth", "many", "run", "kind", "one"] ["hand", "house"] (defScope s__law_input) := ⟨rfl, rfl, rfl, by decide +kernel, rfl, by decide +kernel, by decide +kernel⟩
theorem ok__law_input (T : Tx w K mg) : OkD P w K mg base d__law_input 7 ["hand", "house"] (spLInput K) := by
  have sc := sc__law_input
  refine okD_mk (F__law_input T) sc (fun _ _ _ _ _ _ us hl => match us, hl with | [_, _], _ => rfl) ?len ?body
  case len => walk_at "len"
  intro cdv f A outer s H vs Q E hr h
  refine ⟨_, (pss_cons (ps_set (i := 2) sc.nd rfl (Or.inl rfl) (pe_dget (hu_of hr) (pv 1) pe_str (fun _ _ => rfl)))
    (pss_cons (ps_set (i := 3) sc.nd rfl (Or.inl rfl) (pe_lst (pa_cons (pv 2) (pa_cons (pe_op op_add (pv 2) pe_int) (pa_cons (pe_op op_add (pv 2) pe_int) (pa_cons (pe_callB (call_max2 rfl) (by rfl) (z_max T) (by decide +kernel) (pa_cons pe_int (pa_cons (pe_op op_sub (pv 2) pe_int) pa_nil))) (pa_cons (pe_op op_add (pv 2) pe_int) (pa_cons (pe_op op_add (pv 2) pe_int) (pa_cons (pv 2) (pa_cons (pe_op op_pow pe_int pe_int) pa_nil))))))))))
    (pss_cons (ps_set (i := 4) sc.nd rfl (Or.inl rfl) (pe_callB (call_min2 rfl) (by rfl) (z_min T) (by decide +kernel) (pa_cons (pe_op op_pow pe_int pe_int) (pa_cons (pe_ix ix_list (pv 3) (pe_f (ok__law_draw T) (hr.mono (by decide)) (by rfl) (g__law_draw T) (pa_cons (pv 0) (pa_cons pe_int pa_nil))) (fun _ _ => rfl)) pa_nil))))
    (pss_cons (ps_set (i := 5) sc.nd rfl (Or.inl rfl) (pe_ix ix_list (pe_lst (pa_cons pe_int (pa_cons pe_int (pa_cons pe_int (pa_cons pe_non (pa_cons (pe_un un_neg pe_int) (pa_cons (pe_op op_pow pe_int pe_int) (pa_cons pe_int pa_nil)))))))) (pe_f (ok__law_draw T) (hr.mono (by decide)) (by rfl) (g__law_draw T) (pa_cons (pv 0) (pa_cons pe_int pa_nil))) (fun _ _ => rfl)))
    (pss_cons (ps_set (i := 6) sc.nd rfl (Or.inl rfl) (pe_callB call_len_seq (by rfl) (z_len T) (by decide +kernel) (pa_cons (pe_dget (hu_of hr) (pv 1) pe_str (fun _ _ => rfl)) pa_nil)))
    (pss_cons (ps_set (i := 7) sc.nd rfl (Or.inl rfl) (pe_ix ix_list (pe_lst (pa_cons pe_int (pa_cons (pe_op op_sub (pv 6) pe_int) (pa_cons (pe_f (ok__law_draw T) (hr.mono (by decide)) (by rfl) (g__law_draw T) (pa_cons (pv 0) (pa_cons (pe_op op_add (pv 6) pe_int) pa_nil))) (pa_cons (pe_un un_neg pe_int) (pa_cons (pv 6) pa_nil)))))) (pe_f (ok__law_draw T) (hr.mono (by decide)) (by rfl) (g__law_draw T) (pa_cons (pv 0) (pa_cons pe_int pa_nil))) (fun _ _ => rfl)))
    (pss_cons (ps_set (i := 8) sc.nd rfl (Or.inl rfl) (pe_f (ok__law_draw T) (hr.mono (by decide)) (by rfl) (g__law_draw T) (pa_cons (pv 0) (pa_cons pe_int pa_nil))))
    (pss_cons (ps_if (pt_cmpR op_lt (pv 8) pe_int (nomark _)) (pss_one (ps_ret (pe_tup (pa_cons pe_str (pa_cons (pv 4) (pa_cons (pe_ix ix_list (pe_lst (pa_cons pe_str (pa_cons pe_str (pa_cons pe_str (pa_cons pe_str (pa_cons pe_str pa_nil)))))) (pe_f (ok__law_draw T) (hr.mono (by decide)) (by rfl) (g__law_draw T) (pa_cons (pv 0) (pa_cons pe_int pa_nil))) (fun _ _ => rfl)) (pa_cons (pv 5) pa_nil))))))) pss_nil)
    (pss_cons (ps_if (pt_cmpR op_lt (pv 8) pe_int (nomark _)) (pss_cons (ps_set (i := 3) sc.nd rfl (Or.inl rfl) (pe_f (ok__law_orders T) (hr.mono (by decide)) (by rfl) (g__law_orders T) (pa_cons (pv 1) pa_nil)))
    (pss_cons (ps_if ((pw_and (pt_cmpR (op_neD hr.units) (pv 3) (pe_lst pa_nil) (nomark _)) (pw_and1 (pt_cmpR op_gt (pe_f (ok__law_draw T) (hr.mono (by decide)) (by rfl) (g__law_draw T) (pa_cons (pv 0) (pa_cons pe_int pa_nil))) pe_int (nomark _))))).pt (pss_cons (ps_set (i := 9) sc.nd rfl (Or.inl rfl) (pe_ix ix_list (pv 3) (pe_f (ok__law_draw T) (hr.mono (by decide)) (by rfl) (g__law_draw T) (pa_cons (pv 0) (pa_cons (pe_callB call_len_seq (by rfl) (z_len T) (by decide +kernel) (pa_cons (pv 3) pa_nil)) pa_nil))) (fun _ _ => rfl)))
    (pss_one (ps_ret (pe_tup (pa_cons pe_str (pa_cons (pv 4) (pa_cons (pe_ix ix_tup (pv 9) pe_int (fun _ _ => rfl)) (pa_cons (pe_ix ix_tup (pv 9) pe_int (fun _ _ => rfl)) (pa_cons (pv 5) pa_nil))))))))) pss_nil)
    (pss_one (ps_ret (pe_tup (pa_cons pe_str (pa_cons (pv 4) (pa_cons (pv 7) (pa_cons (pe_op op_sub (pe_f (ok__law_draw T) (hr.mono (by decide)) (by rfl) (g__law_draw T) (pa_cons (pv 0) (pa_cons pe_int pa_nil))) pe_int) (pa_cons (pv 5) pa_nil)))))))))) pss_nil)
    (pss_cons (ps_if (pt_cmpR op_eq (pv 8) pe_int (nomark _)) (pss_one (ps_ret (pe_tup (pa_cons pe_str (pa_cons (pv 4) (pa_cons (pv 7) (pa_cons (pe_ix ix_list (pe_lst (pa_cons pe_str (pa_cons pe_str (pa_cons pe_str pa_nil)))) (pe_f (ok__law_draw T) (hr.mono (by decide)) (by rfl) (g__law_draw T) (pa_cons (pv 0) (pa_cons pe_int pa_nil))) (fun _ _ => rfl)) (pa_cons (pv 5) pa_nil)))))))) pss_nil)
    (pss_one (ps_ret (pe_tup (pa_cons pe_str (pa_cons (pv 4) pa_nil))))))))))))))), ?_⟩
  obtain ⟨p, a, s, X, n, k, rfl, ha, R, hk, hpF, hpd, hnow, q⟩ := h
  have hrl := hk.rl
  have hol := hk.ol
  have hlk := hk.lk
  refine ⟨_, rfl, a, _, rfl, dg_now R.ob, ?_⟩
  refine ⟨_, rfl, _, rfl, _, _, rfl, rfl, _, rfl, _, _, rfl, rfl, _, rfl, _, _, rfl, rfl, _, _, rfl, _, rfl, _, _, rfl, rfl, _, rfl, _, _, rfl, rfl, _, rfl, _, _, rfl, rfl, ⟨by decide, by decide, by decide⟩, le_line rfl, fun ps hps => ?_⟩
  refine ⟨_, _, rfl, rfl, ⟨by decide, by decide, by decide⟩, _, rfl, _, rfl, p, 8, rfl, HA.same ha (Same.new hps), by decide, by decide, fun i1 H1 hi10 hi11 t1 => ?_⟩
  obtain ⟨v1, a1, a2, a3, u1⟩ := pick (K := K) ha hps t1 hi10 hi11 rfl
  obtain ⟨z, hz, rfl⟩ := ints_mem (l := [s.now, s.now + 1, s.now + 2, if s.now - 1 > 0 then s.now - 1 else 0, s.now + 7, s.now + 3, s.now, 1000000000000]) a2
  have hz0 : 0 ≤ z := by
    simp only [List.mem_cons, List.not_mem_nil, or_false] at hz
    rcases hz with rfl | rfl | rfl | rfl | rfl | rfl | rfl | rfl
    all_goals first | omega | (split <;> omega)
  refine ⟨ps, _, _, _, rfl, rfl, a3, a1, _, _, rfl, ?_⟩
  obtain ⟨M, eM⟩ : ∃ M : Int, M = if z < 1000000000000 then z else 1000000000000 := ⟨_, rfl⟩
  have hM : 0 ≤ M ∧ M ≤ 1000000000000 := by
    rw [eM]
    split <;> omega
  have eM2 : V.int (if z < 10 ^ (12 : Int).toNat then z else 10 ^ (12 : Int).toNat) = V.int M := by rw [eM]; rfl
  rw [eM2]
  clear eM2 eM
  refine ⟨_, rfl, _, _, rfl, rfl, ⟨by decide, by decide, by decide⟩, le_line rfl, fun pw hpw => ⟨_, rfl, p, 7, rfl, HA.same u1.ha (Same.new hpw), by decide, by decide, fun i2 H2 hi20 hi21 t2 => ?_⟩⟩
  obtain ⟨v2, b1, b2, b3, u2⟩ := pick (K := K) u1.ha hpw t2 hi20 hi21 rfl
  obtain ⟨wt, hw, rfl⟩ := List.mem_map.mp (show v2 ∈ worthsL.map wv from b2)
  have hwt := worths_ok wt hw
  have U2 := u1.trans u2
  have R2 := R.hand U2 hpF hpd
  refine ⟨pw, _, _, _, rfl, rfl, b3, b1, ?_⟩
  refine ⟨_, rfl, a, _, rfl, dg_runs R2.ob, X.rl, _, rfl, .inl (SqL.of R2.rl), ?_⟩
  have hmany : (X.rs.map fun y => V.ref y.q).length = s.runs.length := by rw [List.length_map, R2.runs.len]
  rw [hmany]
  refine ⟨_, rfl, _, _, rfl, rfl, _, rfl, _, rfl, _, _, rfl, rfl, p, _, rfl, U2.ha, (by omega), (by omega), fun r0 H3 hr00 hr01 t3 => ⟨_, rfl, _, rfl, le_line rfl, fun pr hpr => ⟨_, rfl, p, 5, rfl, HA.same t3.ha (Same.new hpr), by decide, by decide, fun i4 H4 hi40 hi41 t4 => ?_⟩⟩⟩
  obtain ⟨v4, c1, c2, c3, u4⟩ := pick (K := K) t3.ha hpr t4 hi40 hi41 rfl
  obtain ⟨rn, hr, rfl⟩ := ints_mem (l := [0, (s.runs.length : Int) - 1, r0, -1, (s.runs.length : Int)]) c2
  have hrn : SmallI rn := by
    simp only [List.mem_cons, List.not_mem_nil, or_false] at hr
    unfold SmallI
    rcases hr with rfl | rfl | rfl | rfl | rfl
    all_goals omega
  refine ⟨pr, _, _, _, rfl, rfl, c3, c1, ?_⟩
  refine ⟨_, rfl, p, 8, rfl, u4.ha, by decide, by decide, fun kind H5 hk50 hk51 t5 => ?_⟩
  have U5 := ((U2.trans t3).trans u4).trans t5
  refine ⟨_, rfl, _, _, rfl, rfl, _, rfl, ?_⟩
  by_cases h2 : kind < 2
  · refine ifT (decide_eq_true h2) ?_
    refine ⟨_, rfl, le_line rfl, fun pm hpm => ⟨_, rfl, p, 5, rfl, HA.same U5.ha (Same.new hpm), by decide, by decide, fun i6 H6 hi60 hi61 t6 => ?_⟩⟩
    obtain ⟨v6, d1, d2, d3, u6⟩ := pick (K := K) U5.ha hpm t6 hi60 hi61 rfl
    obtain ⟨y, hy, rfl⟩ := strs_mem (l := ["one", "two", "five", "nine", "other"]) d2
    have hny : Nm y := nm_words y (by simp only [List.mem_cons, List.not_mem_nil, or_false] at hy ⊢; rcases hy with h | h | h | h | h <;> simp [h])
    refine ⟨pm, _, _, _, rfl, rfl, d3, d1, _, rfl, le_line rfl, fun pt hpt => ?_⟩
    exact q (.start M y wt) _ _ ⟨hM.1, hM.2, hwt.2⟩ ⟨hM, hny, hwt.1⟩ ((U5.trans u6).new hpt) (TD.newU hpt (TDs.mk (td_str.mpr rfl) (TDs.mk (td_int.mpr rfl) (TDs.mk (td_str.mpr rfl) (TDs.mk (td_wd.mpr rfl) TDs.nil)))))
  refine ifF (decide_eq_false h2) ⟨_, rfl, _, _, rfl, rfl, _, rfl, ?_⟩
  by_cases h5 : kind < 5
  · refine ifT (decide_eq_true h5) ?_
    refine ⟨_, rfl, a, s, X, n, k, rfl, R.hand U5 hpF hpd, hk, fun po xs H7 s7 hpo0 hpo ht => ?_⟩
    have U7 := U5.same s7
    refine ⟨_, rfl, Nat.zero_le _, fun pn hpn => neNil 1 (Same.new hpn _ _ hpo) (TDs.fx (Same.fx (Same.new hpn)) _ _ ht) (sd_orders hk) upd_same ⟨_, rfl, ?_⟩⟩
    have U8 := U7.new (o := .lst []) hpn
    have ho8 : upd H7 pn (.lst []) po = some (.lst xs) := Same.new hpn _ _ hpo
    have ht8 := TDs.fx (Same.fx (Same.new (o := .lst []) hpn)) _ _ ht
    have hpo_ne : po ≠ p := HA.ne U5.ha hpo0
    by_cases hoe : s.openOrders = []
    · refine ifF (decide_eq_false fun z => z hoe) (ifF rfl ?_)
      refine ⟨_, rfl, _, rfl, _, rfl, p, 6, rfl, U8.ha, by decide, by decide, fun j9 H9 hj90 hj91 t9 => ⟨_, _, rfl, rfl, _, rfl, le_line rfl, fun pt hpt => ?_⟩⟩
      exact q (.answer M rn (j9 - 1) wt) _ _ ⟨hM.1, hM.2, hwt.2⟩ ⟨hM, hrn, (by unfold SmallI; omega), hwt.1⟩ ((U8.trans t9).new hpt) (TD.newU hpt (TDs.mk (td_str.mpr rfl) (TDs.mk (td_int.mpr rfl) (TDs.mk (td_int.mpr rfl) (TDs.mk (td_int.mpr rfl) (TDs.mk (td_wd.mpr rfl) TDs.nil))))))
    refine ifT (decide_eq_true hoe) ⟨_, rfl, p, 4, rfl, U8.ha, by decide, by decide, fun j H8 hj0 hj1 t8 => ⟨_, _, rfl, rfl, _, rfl, ?_⟩⟩
    have U88 := U8.trans t8
    have ho88 := t8.get ho8 hpo_ne
    have ht88 := TDs.fx t8.up.fx _ _ ht8
    have hxl : xs.length = s.openOrders.length := ht.length
    have hol2 := spots_len s
    have hpos : 0 < s.openOrders.length := List.length_pos_iff.mpr hoe
    by_cases hj : j > 0
    · refine ifT (decide_eq_true hj) ⟨_, rfl, _, rfl, _, rfl, po, xs, rfl, .inl (SqL.of ho88), p, _, rfl, U88.ha, (by omega), (by omega), fun i9 H9 hi90 hi91 t9 => ?_⟩
      obtain ⟨v9, e1, e2⟩ := atI_some (xs := xs) hi90 hi91
      refine ⟨po, xs, _, v9, rfl, rfl, SqL.of (t9.get ho88 hpo_ne), e1, ?_⟩
      obtain ⟨d9, f1, f2⟩ := (TDs.fx t9.up.fx _ _ ht88).getV e2
      obtain ⟨sp, g1, rfl⟩ := List.mem_map.mp (List.mem_of_getElem? f1)
      have hop := (List.mem_filter.mp g1).2
      have hsm := open_small hk hop
      obtain ⟨p9, vs9, rfl, k1, k2⟩ := td_tup.mp f2
      obtain ⟨w1, r1, rfl, l1, k3⟩ := tds_cons.mp k2
      obtain ⟨w2, r2, rfl, l2, k4⟩ := tds_cons.mp k3
      obtain ⟨w3, r3, rfl, l3, k5⟩ := tds_cons.mp k4
      cases td_int.mp l2
      cases td_int.mp l3
      refine ⟨_, rfl, _, rfl, p9, _, _, _, rfl, rfl, k1, atI_nat (j := 1) rfl, _, rfl, p9, _, _, _, rfl, rfl, k1, atI_nat (j := 2) rfl, _, rfl, le_line rfl, fun pt hpt => ?_⟩
      exact q (.answer M sp.1 sp.2 wt) _ _ ⟨hM.1, hM.2, hwt.2⟩ ⟨hM, hsm.1, hsm.2, hwt.1⟩ ((U88.trans t9).new hpt) (TD.newU hpt (TDs.mk (td_str.mpr rfl) (TDs.mk (td_int.mpr rfl) (TDs.mk (td_int.mpr rfl) (TDs.mk (td_int.mpr rfl) (TDs.mk (td_wd.mpr rfl) TDs.nil))))))
    · refine ifF (decide_eq_false hj) ?_
      refine ⟨_, rfl, _, rfl, _, rfl, p, 6, rfl, U88.ha, by decide, by decide, fun j9 H9 hj90 hj91 t9 => ⟨_, _, rfl, rfl, _, rfl, le_line rfl, fun pt hpt => ?_⟩⟩
      exact q (.answer M rn (j9 - 1) wt) _ _ ⟨hM.1, hM.2, hwt.2⟩ ⟨hM, hrn, (by unfold SmallI; omega), hwt.1⟩ ((U88.trans t9).new hpt) (TD.newU hpt (TDs.mk (td_str.mpr rfl) (TDs.mk (td_int.mpr rfl) (TDs.mk (td_int.mpr rfl) (TDs.mk (td_int.mpr rfl) (TDs.mk (td_wd.mpr rfl) TDs.nil))))))
  refine ifF (decide_eq_false h5) ⟨_, rfl, rfl, _, rfl, ?_⟩
  by_cases h6 : kind = 5
  · refine ifT (decide_eq_true (by rw [h6])) ?_
    refine ⟨_, rfl, _, rfl, le_line rfl, fun pm hpm => ⟨_, rfl, p, 3, rfl, HA.same U5.ha (Same.new hpm), by decide, by decide, fun i6 H6 hi60 hi61 t6 => ?_⟩⟩
    obtain ⟨v6, d1, d2, d3, u6⟩ := pick (K := K) U5.ha hpm t6 hi60 hi61 rfl
    obtain ⟨y, hy, rfl⟩ := strs_mem (l := ["go", "k", "news"]) d2
    have hny : Nm y := nm_words y (by simp only [List.mem_cons, List.not_mem_nil, or_false] at hy ⊢; rcases hy with h | h | h <;> simp [h])
    refine ⟨pm, _, _, _, rfl, rfl, d3, d1, _, rfl, le_line rfl, fun pt hpt => ?_⟩
    exact q (.letter M rn y wt) _ _ ⟨hM.1, hM.2, hwt.2, hny.gs⟩ ⟨hM, hrn, hny, hwt.1⟩ ((U5.trans u6).new hpt) (TD.newU hpt (TDs.mk (td_str.mpr rfl) (TDs.mk (td_int.mpr rfl) (TDs.mk (td_int.mpr rfl) (TDs.mk (td_str.mpr rfl) (TDs.mk (td_wd.mpr rfl) TDs.nil))))))
  refine ifF (decide_eq_false fun z => h6 (V.int.inj z)) ⟨_, rfl, le_line rfl, fun pt hpt => ?_⟩
  exact q (.tick M) _ _ hM hM (U5.new hpt) (TD.newU hpt (TDs.mk (td_str.mpr rfl) (TDs.mk (td_int.mpr rfl) TDs.nil)))
end
end Ol
namespace Ol
open PySem PySem.Spec PyProof.Rows L2
open TL
local macro_rules | `(tactic| walk_at "len") => `(tactic| (intro vs H Q E h; first | (rcases h with ⟨hh, _⟩; rw [hh]; rfl) | (rcases h with ⟨_, hh, _⟩; rw [hh]; rfl) | (rcases h with ⟨_, _, hh, _⟩; rw [hh]; rfl) | (rcases h with ⟨_, _, _, hh, _⟩; rw [hh]; rfl) | (rcases h with ⟨_, _, _, _, hh, _⟩; rw [hh]; rfl) | (rcases h with ⟨_, _, _, _, _, hh, _⟩; rw [hh]; rfl) | (rcases h with ⟨_, _, _, _, _, _, hh, _⟩; rw [hh]; rfl) | (rcases h with ⟨_, _, _, _, _, _, _, hh, _⟩; rw [hh]; rfl) | (rcases h with ⟨_, _, _, _, _, _, _, _, hh, _⟩; rw [hh]; rfl) | (rcases h with ⟨_, _, _, _, _, _, _, _, _, hh, _⟩; rw [hh]; rfl) | (rcases h with ⟨_, _, _, _, _, _, _, _, _, _, hh, _⟩; rw [hh]; rfl) | (rcases h with ⟨_, _, _, _, _, _, _, _, _, _, _, hh, _⟩; rw [hh]; rfl) | (rcases h with ⟨_, _, _, _, _, _, _, _, _, _, _, _, hh, _⟩; rw [hh]; rfl) | (rcases h with ⟨_, _, _, _, _, _, _, _, _, _, _, _, _, hh, _⟩; rw [hh]; rfl) | (rcases h with ⟨_, _, _, _, _, _, _, _, _, _, _, _, _, _, hh, _⟩; rw [hh]; rfl) | (rcases h with ⟨_, _, _, _, _, _, _, _, _, _, _, _, _, _, _, hh, _⟩; rw [hh]; rfl) | (rcases h with ⟨_, _, _, _, _, _, _, _, _, _, _, _, _, _, _, _, hh, _⟩; rw [hh]; rfl) | (rcases h with ⟨_, _, _, _, _, _, _, _, _, _, _, _, _, _, _, _, _, hh, _⟩; rw [hh]; rfl) | (rcases h with ⟨_, _, _, _, _, _, _, _, _, _, _, _, _, _, _, _, _, _, hh, _⟩; rw [hh]; rfl) | (rcases h with ⟨_, _, _, _, _, _, _, _, _, _, _, _, _, _, _, _, _, _, _, hh, _⟩; rw [hh]; rfl)))
def runD (r : RR) : PyData := .list [.str r.nm, r.st.waits, .list (r.hap.map Hap.d), byD r.by_]
def allD (s : HS) (came : List Inp) : List PyData := [.int s.now, .list (came.map Inp.d), .int (s.runs.length : Int), .list s.openOrders, .list (s.openTimers.map encTm), wd s.nextDue] ++ s.runs.map runD
/-- the heap without p -/
def off (H : Hp) (p : Addr) : Hp := fun b => if b = p then none else H b
theorem off_self {H : Hp} {p : Addr} : off H p p = none := by unfold off; rw [if_pos rfl]
theorem off_ne {H : Hp} {p b : Addr} (h : b ≠ p) : off H p b = H b := by unfold off; rw [if_neg h]
theorem off_same {H : Hp} {p : Addr} : Same (off H p) H := fun b o e => by
  by_cases h : b = p
  · rw [h, off_self] at e; cases e
  · rwa [off_ne h] at e
theorem off_fx {H : Hp} {p : Addr} {xs : List V} (h : H p = some (.lst xs)) : Fx H (off H p) := fun b o e k => by
  rw [off_ne]
  · exact e
  · rintro rfl
    rw [h] at e
    cases e
    rcases k with ⟨_, k⟩ | ⟨_, _, k⟩ <;> cases k
theorem off_mono {G H : Hp} {p : Addr} (h : Same G H) (hp : G p = none) : Same G (off H p) := fun b o e => by
  rw [off_ne (fun z => by rw [z, hp] at e; cases e)]
  exact h b o e
theorem off_put {H : Hp} {p : Addr} {o : HO} : Same (off H p) (upd H p o) := fun b u e => by
  by_cases h : b = p
  · rw [h, off_self] at e; cases e
  · rw [upd_ne h]; rwa [off_ne h] at e
theorem DpAll.append {K : PySem.W.Frag} {H : Hp} : ∀ {ds es : List PyData} {vs us : List V}, DpAll K H vs ds → DpAll K H us es → DpAll K H (vs ++ us) (ds ++ es)
  | _, _, _, _, .nil, g => g
  | _, _, _, _, .cons h hs, g => .cons h (DpAll.append hs g)
theorem join_cons0 (x : Str) (l : List Str) : Str.join "" (x :: l) = x ++ Str.join "" l := by
  have h : TL.tl ("" : Str) = [] := by decide +kernel
  have h2 : TL.tl Str.empty = [] := by decide +kernel
  cases l with
  | nil =>
    show x = x ++ Str.empty
    exact str_eq (by rw [TL.tl_append, h2, List.append_nil])
  | cons y r =>
    show x ++ "" ++ Str.join "" (y :: r) = _
    exact str_eq (by simp only [TL.tl_append, h, List.append_nil])
theorem text_snoc : ∀ (xs : List Inp) (x : Inp), textS (xs ++ [x]) = textS xs ++ lineS x ++ "\n"
  | [], x => by
    show lineS x ++ "\n" = Str.empty ++ lineS x ++ "\n"
    have h2 : TL.tl Str.empty = [] := by decide +kernel
    exact str_eq (by simp only [TL.tl_append, h2, List.nil_append])
  | y :: r, x => by
    have ih := text_snoc r x
    show Str.join "" ((lineS y ++ "\n") :: ((r ++ [x]).map fun x => lineS x ++ "\n")) = Str.join "" ((lineS y ++ "\n") :: (r.map fun x => lineS x ++ "\n")) ++ lineS x ++ "\n"
    rw [join_cons0, join_cons0]
    have ih2 : Str.join "" ((r ++ [x]).map fun x => lineS x ++ "\n") = Str.join "" (r.map fun x => lineS x ++ "\n") ++ lineS x ++ "\n" := ih
    rw [ih2]
    exact str_eq (by simp only [TL.tl_append, List.append_assoc])
def spLAll (K : PySem.W.Frag) : Sp := fun vs H Q _ => ∃ (a : Addr) (s : HS) (came : List Inp) (X : HX) (n k : Nat), vs = [.ref a] ∧ HouseAt K H a s came X ∧ Hk s n k ∧ ∀ p H', Same H H' → H p = none → Dp K H' (.ref p) (.list (allD s came)) → Q (.ref p) H'
def spLText (K : PySem.W.Frag) : Sp := fun vs H Q _ => ∃ (p : Addr) (xs : List V) (came : List Inp), vs = [.ref p] ∧ H p = some (.lst xs) ∧ TDs K H xs (came.map Inp.d) ∧ (∀ x ∈ came, Inp.tk x) ∧ came.length ≤ 1000 ∧ ∀ H', Same H H' → Q (.str (textS came)) H'
section
variable {P : Program} {w : World} {K : PySem.W.Frag} {mg : Str → Option Value} {base : Heap}
theorem sc__law_all : FnScope ["made", "told", "run"] ["made"] (defScope s__law_all) := ⟨rfl, rfl, rfl, by decide +kernel, rfl, by decide +kernel, by decide +kernel⟩
theorem ok__law_all (T : Tx w K mg) : OkD P w K mg base d__law_all 9 ["made"] (spLAll K) := by
  have sc := sc__law_all
  refine okD_mk (F__law_all T) sc (fun _ _ _ _ _ _ us hl => match us, hl with | [_], _ => rfl) ?len ?body
  case len => walk_at "len"
  intro cdv f A outer s H vs Q E hr h
  refine ⟨_, (pss_cons (ps_set (i := 1) sc.nd rfl (Or.inl rfl) (pe_lst (pa_cons (pe_m0 (d := d_House_moment) (c_House T) (m_House_moment T) (ok_House_moment T) (hr.mono (by decide)) (pv 0)) (pa_cons (pe_m0 (d := d_House_inputs) (c_House T) (m_House_inputs T) (ok_House_inputs T) (hr.mono (by decide)) (pv 0)) (pa_cons (pe_m0 (d := d_House_runs) (c_House T) (m_House_runs T) (ok_House_runs T) (hr.mono (by decide)) (pv 0)) (pa_cons (pe_m0 (d := d_House_open_orders) (c_House T) (m_House_open_orders T) (ok_House_open_orders T) (hr.mono (by decide)) (pv 0)) (pa_cons (pe_m0 (d := d_House_open_timers) (c_House T) (m_House_open_timers T) (ok_House_open_timers T) (hr.mono (by decide)) (pv 0)) (pa_cons (pe_m0 (d := d_House_next_due) (c_House T) (m_House_next_due T) (ok_House_next_due T) (hr.mono (by decide)) (pv 0)) pa_nil))))))))
    (pss_cons (ps_for PassesOwn.never (by rfl) (pi_range1 (by rfl) (z_range T) (pa_cons (pe_m0 (d := d_House_runs) (c_House T) (m_House_runs T) (ok_House_runs T) (hr.mono (by decide)) (pv 0)) pa_nil)) (pg_name (i := 2) sc.nd rfl (Or.inl rfl)) (pss_one (ps_expr (pe_bm PySem.F.plainAttrs_list PySem.F.slot_list_append PySem.F.type_list_append mt_append (pv 1) (pa_cons (pe_lst (pa_cons (pe_m (d := d_House_program_of) (c_House T) (m_House_program_of T) (ok_House_program_of T) (hr.mono (by decide)) (pv 0) (pa_cons (pv 2) pa_nil)) (pa_cons (pe_m (d := d_House_waits) (c_House T) (m_House_waits T) (ok_House_waits T) (hr.mono (by decide)) (pv 0) (pa_cons (pv 2) pa_nil)) (pa_cons (pe_m (d := d_House_taken) (c_House T) (m_House_taken T) (ok_House_taken T) (hr.mono (by decide)) (pv 0) (pa_cons (pv 2) pa_nil)) (pa_cons (pe_m (d := d_House_parent) (c_House T) (m_House_parent T) (ok_House_parent T) (hr.mono (by decide)) (pv 0) (pa_cons (pv 2) pa_nil)) pa_nil))))) pa_nil)))))
    (pss_one (ps_ret (pv 1))))), ?_⟩
  obtain ⟨a, s, came, X, n, k, rfl, R, hk, q⟩ := h
  refine ⟨_, rfl, a, rfl, ml_house R.ob rfl, a, s, came, X, rfl, R, ?_⟩
  refine ⟨_, rfl, a, rfl, ml_house R.ob rfl, a, s, came, X, rfl, R, fun p1 hp1 => ?_⟩
  have s1 := Same.new (o := .lst X.cameV) hp1
  have R1 := R.same s1
  refine ⟨_, rfl, a, rfl, ml_house R1.ob rfl, a, s, came, X, rfl, R1, ?_⟩
  refine ⟨_, rfl, a, rfl, ml_house R1.ob rfl, a, s, came, X, n, k, rfl, R1, hk, fun p2 xs2 H2 s2 hp2 e2 t2 => ?_⟩
  have R2 := R1.same s2
  refine ⟨_, rfl, a, rfl, ml_house R2.ob rfl, a, s, came, X, n, k, rfl, R2, hk, fun p3 xs3 H3 s3 hp3 e3 t3 => ?_⟩
  have R3 := R2.same s3
  refine ⟨_, rfl, a, rfl, ml_house R3.ob rfl, a, s, came, X, n, k, rfl, R3, hk, fun H4 s4 => ⟨le_line rfl, fun p0 hp0 => ?_⟩⟩
  have g4 := ((s1.trans s2).trans s3).trans s4
  have g5 := g4.trans (Same.new (o := .lst [V.int s.now, V.ref p1, V.int (s.runs.length : Int), V.ref p2, V.ref p3, wv s.nextDue]) hp0)
  have s34 := s3.trans s4
  have R5 := R.same g5
  have d0 : DpAll K H4 [V.int s.now, V.ref p1, V.int (s.runs.length : Int), V.ref p2, V.ref p3, wv s.nextDue] [.int s.now, .list (came.map Inp.d), .int (s.runs.length : Int), .list s.openOrders, .list (s.openTimers.map encTm), wd s.nextDue] :=
    .cons (.int _) (.cons (.lst (SqL.of ((s2.trans s34) _ _ upd_same)) (TDs.dp _ _ (TDs.fx (Same.fx g4) _ _ R.tc))) (.cons (.int _) (.cons (.lst (SqL.of (s34 _ _ e2)) (TDs.dp _ _ (TDs.fx (Same.fx s34) _ _ t2))) (.cons (.lst (SqL.of (s4 _ _ e3)) (TDs.dp _ _ (TDs.fx (Same.fx s4) _ _ t3))) (.cons (TD.dp _ _ (td_wd.mpr rfl)) .nil)))))
  have hrl := hk.rl
  have hlk := hk.lk
  refine ⟨_, rfl, a, rfl, ml_house R5.ob rfl, a, s, came, X, rfl, R5, (s.runs.length : Int), rfl, by omega, by omega, for_range (lo := 0) (n := (s.runs.length : Int).toNat) (fun i σ H' => ∃ (u : Option V) (G : Hp) (vs : List V), σ = [some (.ref a), some (.ref p0), u] ∧ Same H H' ∧ H' p0 = some (.lst vs) ∧ vs.length = 6 + i ∧ G p0 = none ∧ Same G H' ∧ DpAll K G vs ([.int s.now, .list (came.map Inp.d), .int (s.runs.length : Int), .list s.openOrders, .list (s.openTimers.map encTm), wd s.nextDue] ++ (s.runs.take i).map runD)) ⟨_, H4, _, rfl, g5, upd_same, rfl, hp0, Same.new hp0, d0⟩ ?_ ?_⟩
  · rintro i σ H6 hi ⟨u, G, vs, rfl, z1, z2, z3, z4, z5, z6⟩
    have R6 := R.same z1
    have hlt : i < s.runs.length := by omega
    have hr : s.runs[i]? = some s.runs[i] := List.getElem?_eq_getElem hlt
    obtain ⟨rr, er⟩ : ∃ rr, rr = s.runs[i] := ⟨_, rfl⟩
    rw [← er] at hr
    have ei : [V.ref a, V.int (0 + (i : Int))] = [V.ref a, V.int (i : Int)] := by rw [Int.zero_add]
    refine ⟨_, rfl, .inl ⟨rfl, _, SqL.of z2⟩, _, rfl, a, rfl, ml_house R6.ob rfl, _, rfl, a, s, came, X, i, rr, ei, R6, hr, ?_⟩
    refine ⟨_, rfl, a, rfl, ml_house R6.ob rfl, _, rfl, a, s, came, X, i, n, k, rr, ei, R6, hk, hr, fun v7 H7 s7 hv7 => ?_⟩
    have R7 := R6.same s7
    refine ⟨_, rfl, a, rfl, ml_house R7.ob rfl, _, rfl, a, s, came, X, i, rr, ei, R7, hr, fun p8 hv8 hp8 ht8 => ?_⟩
    have s8 := Same.new (o := .lst hv8) hp8
    have R8 := R7.same s8
    refine ⟨_, rfl, a, rfl, ml_house R8.ob rfl, _, rfl, a, s, came, X, i, rr, ei, R8, hr, fun v9 hv9 => ⟨le_line rfl, fun pq hpq => ?_⟩⟩
    have s9 := Same.new (o := .lst [.str rr.nm, v7, .ref p8, v9]) hpq
    have m9 := s9 _ _ (s8 _ _ (s7 _ _ z2))
    have hq0 : pq ≠ p0 := fun z => by have m8 := s8 _ _ (s7 _ _ z2); rw [← z, hpq] at m8; cases m8
    have h80 : p8 ≠ p0 := fun z => by have m7 := s7 _ _ z2; rw [← z, hp8] at m7; cases m7
    refine ⟨p0, vs, _, rfl, rfl, m9, by rw [sizeLine_eq]; omega, _, off (upd (upd H7 p8 (.lst hv8)) pq (.lst [.str rr.nm, v7, .ref p8, v9])) p0, _, rfl, ?_, upd_same, by rw [List.length_append, z3]; rfl, off_self, off_put, ?_⟩
    · intro b o e
      have hb : b ≠ p0 := fun z => by rw [z, Same.free g4 hp0] at e; cases e
      rw [upd_ne hb]
      exact s9 _ _ (s8 _ _ (s7 _ _ (z1 _ _ e)))
    · rw [List.take_add_one, hr]
      show DpAll K _ _ (_ ++ (s.runs.take i ++ [rr]).map runD)
      rw [List.map_append, ← List.append_assoc]
      have f9 := off_fx m9
      refine DpAll.append (DpAll.same (off_mono (z5.trans ((s7.trans s8).trans s9)) z4) _ _ z6) (.cons ?_ .nil)
      refine .lst (SqL.of ((off_ne hq0).trans upd_same)) (.cons (.str _) (.cons (TD.dp _ _ (TD.fx ((Same.fx (s8.trans s9)).trans f9) _ _ hv7)) (.cons (.lst (SqL.of ((off_ne h80).trans (s9 _ _ upd_same))) (TDs.dp _ _ (TDs.fx ((Same.fx (s8.trans s9)).trans f9) _ _ ht8))) (.cons (TD.dp _ _ (TD.fx ((Same.fx s9).trans f9) _ _ hv9)) .nil))))
  · rintro σ H6 ⟨u, G, vs, rfl, z1, z2, z3, z4, z5, z6⟩
    rw [Int.toNat_natCast, List.take_length] at z6
    exact ⟨_, rfl, q p0 H6 z1 (Same.free g4 hp0) (.lst (SqL.of z2) (DpAll.same z5 _ _ z6))⟩
theorem sc__law_text : FnScope ["inputs", "text", "some", "one"] ["inputs"] (defScope s__law_text) := ⟨rfl, rfl, rfl, by decide +kernel, rfl, by decide +kernel, by decide +kernel⟩
theorem ok__law_text (T : Tx w K mg) : OkD P w K mg base d__law_text 2 ["inputs"] (spLText K) := by
  have sc := sc__law_text
  refine okD_mk (F__law_text T) sc (fun _ _ _ _ _ _ us hl => match us, hl with | [_], _ => rfl) ?len ?body
  case len => walk_at "len"
  intro cdv f A outer s H vs Q E hr h
  refine ⟨_, (pss_cons (ps_set (i := 1) sc.nd rfl (Or.inl rfl) pe_str)
    (pss_cons (ps_for PassesOwn.never (by rfl) (pi_list (pv 0)) (pg_name (i := 2) sc.nd rfl (Or.inl rfl)) (pss_one (ps_set (i := 1) sc.nd rfl (Or.inl rfl) (pe_op op_add_str (pe_op op_add_str (pv 1) (pe_join pe_str (pe_lc (own := [("one", 3)]) (by rfl) sc.nd (pi_tup (pv 2)) (blkOk_by (N := ["inputs", "text", "some", "one"]) (sc := defScope s__law_text) (by decide +kernel)) (fun _ _ _ _ _ => pg_name (i := 3) sc.nd rfl (Or.inl rfl)) (fun _ _ _ _ _ => pts_nil) (fun _ _ _ _ _ => (pe_ix (ix_listK (K := K) rfl) (pe_lst (pa_cons pe_str (pa_cons (pe_callTy call_str_W (by rfl) (z_str T) (by decide +kernel) (pa_cons (pv 3) pa_nil)) pa_nil))) (pe_callTy call_int1 (by rfl) (z_int T) (by decide +kernel) (pa_cons (pe_cmp (pc_notN (pv 3))) pa_nil)) (fun _ _ => rfl)))))) pe_str))))
    (pss_one (ps_ret (pv 1))))), ?_⟩
  obtain ⟨p, xs, came, rfl, hp, ht, htk, hcl, q⟩ := h
  have hxl : xs.length = came.length := by rw [ht.length, List.length_map]
  refine ⟨_, rfl, p, rfl, ⟨xs, SqL.of hp⟩, for_list (xs := xs) (fun i σ H' => ∃ u1 u2, σ = [some (.ref p), some (.str (textS (came.take i))), u1, u2] ∧ Same H H') ⟨_, _, rfl, Same.refl H⟩ (fun i σ H' _ z => SqL.of (z.choose_spec.choose_spec.2 _ _ hp)) ?_ ?_⟩
  · rintro i v σ H1 hv ⟨u1, u2, rfl, s1⟩
    obtain ⟨d, hd1, hd2⟩ := ht.getV hv
    rw [List.getElem?_map, Option.map_eq_some_iff] at hd1
    obtain ⟨x, hx1, rfl⟩ := hd1
    have xm := List.mem_of_getElem? hx1
    rw [inp_pts] at hd2
    obtain ⟨pp, ys, rfl, hpp, hys⟩ := td_tup.mp hd2
    have hyl : ys.length = x.pts.length := by rw [hys.length, List.length_map]
    have hp5 := pts_len x
    have hpp2 := Fx.t (Same.fx s1) hpp
    refine ⟨_, rfl, ⟨_, rfl⟩, _, rfl, pp, rfl, ⟨ys, hpp2⟩, fun D2 hD2 => lc_dataT hD2 (fun i => (x.pts.take i).map fun q => PyData.str q.s) rfl hpp2 (by rw [hyl, sizeLine_eq]; omega) ?_ ?_⟩
    · intro j u H2 Qy2 Qn2 hu s2 ky2 kn2
      obtain ⟨d2, he1, he2⟩ := hys.getV hu
      rw [List.getElem?_map, Option.map_eq_some_iff] at he1
      obtain ⟨pt, hpt, rfl⟩ := he1
      have he3 := TD.fx (Same.fx (s1.trans s2)) _ _ he2
      refine ⟨rfl, ifT (B := Qn2 H2) rfl ?_⟩
      cases pt with
      | num i5 =>
        cases td_int.mp he3
        exact ⟨_, rfl, .inr (.inr ⟨i5, rfl, small_log (pt_small (htk x xm) _ (List.mem_of_getElem? hpt) i5 rfl), le_line rfl, fun D3 hD3 => ⟨_, rfl, .inr ⟨true, rfl, D3, _, _, .str (nt i5), rfl, rfl, SqL.of upd_same, rfl, ky2 _ _ _ (Same.new hD3) (td_str.mpr rfl) (take_map_succ _ hpt)⟩⟩⟩)⟩
      | non =>
        cases td_none.mp he3
        exact ⟨_, rfl, .inl ⟨rfl, le_line rfl, fun D3 hD3 => ⟨_, rfl, .inr ⟨false, rfl, D3, _, _, .str "-", rfl, rfl, SqL.of upd_same, rfl, ky2 _ _ _ (Same.new hD3) (td_str.mpr rfl) (take_map_succ _ hpt)⟩⟩⟩⟩
      | txt z =>
        cases td_str.mp he3
        exact ⟨_, rfl, .inr (.inl ⟨z, rfl, le_line rfl, fun D3 hD3 => ⟨_, rfl, .inr ⟨true, rfl, D3, _, _, .str z, rfl, rfl, SqL.of upd_same, rfl, ky2 _ _ _ (Same.new hD3) (td_str.mpr rfl) (take_map_succ _ hpt)⟩⟩⟩)⟩
    · intro H2 acc s2 hD ha
      have ea : acc = (x.pts.map Pt.s).map V.str := by
        rw [hyl, List.take_length] at ha
        refine tds_strs (K := K) (H := H2) (l := x.pts.map Pt.s) ?_
        rw [List.map_map]
        exact ha
      subst ea
      have hsum := sum_le (l := x.pts.map Pt.s) (n := 14) fun q hq => by
        obtain ⟨r, hr, rfl⟩ := List.mem_map.mp hq
        exact (pts_free (htk x xm) r hr).2.2
      rw [List.length_map] at hsum
      have h1 : (" " : Str).length = 1 := by decide +kernel
      have hll := line_len (htk x xm)
      have h2 : ("\n" : Str).length = 1 := by decide +kernel
      have htl : (textS (came.take i)).length ≤ 101000 := by
        have h5 := text_len (xs := came.take i) fun z hz => htk z (List.mem_of_mem_take hz)
        rw [List.length_take] at h5
        omega
      have et : textS (came.take (i + 1)) = textS (came.take i) ++ lineS x ++ "\n" := by
        rw [List.take_add_one, hx1]
        exact text_snoc _ x
      refine ⟨_, D2, x.pts.map Pt.s, rfl, rfl, .inl (SqL.of hD), ?_, _, _, rfl, rfl, ?_, _, _, rfl, rfl, ?_, some (.ref pp), u2, ?_, s1.trans s2⟩
      · rw [List.length_map, h1]; omega
      · rw [sizeLine_eq, join_eq]
        show (textS (came.take i)).length + (lineS x).length ≤ _
        omega
      · rw [sizeLine_eq, join_eq, h2, Str.length_append]
        show (textS (came.take i)).length + (lineS x).length + 1 ≤ _
        omega
      · rw [et, join_eq]
        rfl
  · rintro σ H1 ⟨u1, u2, rfl, s1⟩
    rw [hxl, List.take_length]
    exact ⟨_, rfl, q H1 s1⟩
end
end Ol
namespace Ol
open PySem PySem.Spec PyProof.Rows L2
/-! ### what goes out and what is told can be compared -/
theorem gs_w1 : gs "order" ∧ gs "lost" ∧ gs "ended" ∧ gs "worn" ∧ gs "spent" ∧ gs "wait" ∧ gs "hear" ∧ gs "new" ∧ gs "on" := by decide +kernel
theorem all_nil {α : Type} {p : α → Prop} : ∀ d ∈ ([] : List α), p d := fun _ z => nomatch z
theorem all_one {α : Type} {p : α → Prop} {x : α} (h : p x) : ∀ d ∈ [x], p d := fun d z => by rw [List.mem_singleton.mp z]; exact h
theorem all_cons {α : Type} {p : α → Prop} {x : α} {l : List α} (h : p x) (hl : ∀ d ∈ l, p d) : ∀ d ∈ x :: l, p d := fun d z => by
  rcases List.mem_cons.mp z with y | y
  · rw [y]; exact h
  · exact hl d y
theorem follow_sd {s : HS} {i : Nat} {c : Cmd} (h : c.ok) : ∀ d ∈ (s.follow i c).2.2, Sd 1 d := by
  obtain ⟨g1, g2, g3, g4, _⟩ := gs_w1
  cases c with
  | order t w a => exact all_one (sd_tup (all_cons (sd_str g1) (all_cons sd_int (all_cons sd_int (all_cons (sd_str h.2.1) (all_one sd_wd))))))
  | timer t due => exact all_nil
  | child t p a =>
    simp only [HS.follow]
    cases lk s.progs p <;> exact all_nil
  | send r k a =>
    have hl : Sd 1 (.tuple [.str "lost", .int (i : Int), wd r, .str k, wd a]) := sd_tup (all_cons (sd_str g2) (all_cons sd_int (all_cons sd_wd (all_cons (sd_str h.2.1) (all_one sd_wd)))))
    simp only [HS.follow]
    cases r with
    | none => exact all_one hl
    | some j =>
      simp only
      split
      · exact all_nil
      · exact all_one hl
  | drop t => exact all_nil
  | fin a => exact all_one (sd_tup (all_cons (sd_str g3) (all_cons sd_int (all_one sd_wd))))
  | worn => exact all_one (sd_tup (all_cons (sd_str g4) (all_one sd_int)))
theorem follows_sd (i : Nat) : ∀ (cs : List Cmd) (s : HS), (∀ c ∈ cs, Cmd.ok c) → ∀ d ∈ (s.follows i cs).2.2, Sd 1 d
  | [], _, _ => all_nil
  | c :: cs, s, h => fun d hd => by
    rcases List.mem_append.mp (show d ∈ (s.follow i c).2.2 ++ ((s.follow i c).1.follows i cs).2.2 from hd) with z | z
    · exact follow_sd (h c List.mem_cons_self) d z
    · exact follows_sd i cs _ (fun c hc => h c (List.mem_cons_of_mem _ hc)) d z
theorem step_sd {s : HS} {n k : Nat} (h : Hk s n k) {i : Nat} {p : Hap} (hp : p.ok) (lim : n + 1 ≤ 16000) : ∀ d ∈ (s.step i p).2.2, Sd 1 d := by
  unfold HS.step
  cases e : s.runs[i]? with
  | none => exact all_nil
  | some rr => exact follows_sd i _ _ (take_ok (h.rr _ (List.mem_of_getElem? e)).ro hp (by omega)).rk.ord
theorem loop_sd : ∀ (m : Nat) {s : HS} {row : Row} {out : List PyData} {n k : Nat}, Hk s n k → RowOk s row → n + m ≤ 16000 → k + 301 * m ≤ 10000000 → (∀ d ∈ out, Sd 1 d) → ∀ d ∈ (HS.loop m s row out).2.2, Sd 1 d
  | 0, s, row, out, n, k, h, hr, l1, l2, ho => ho
  | m + 1, s, [], out, n, k, h, hr, l1, l2, ho => ho
  | m + 1, s, (i, p) :: row, out, n, k, h, hr, l1, l2, ho => by
    obtain ⟨q1, q2, q3⟩ := hr (i, p) List.mem_cons_self
    obtain ⟨b1, b2, b3, b4, b5, b6, b7⟩ := step_ok h q1 q2 q3 (by omega) (by omega)
    have hr2 : RowOk (s.step i p).1 (row ++ (s.step i p).2.1) := (RowOk.mono (fun x hx => hr x (List.mem_cons_of_mem _ hx)) b2).append b3
    simp only [HS.loop]
    refine loop_sd m b1 hr2 (by omega) (by omega) fun d hd => ?_
    rcases List.mem_append.mp hd with z | z
    · exact ho d z
    · exact step_sd h q2 (by omega) d z
theorem put_sd {s : HS} {n k : Nat} (h : Hk s n k) {x : Inp} (hx : x.ok) (lim : n + 300 ≤ 16000) (lim2 : k + 90301 ≤ 10000000) : ∀ d ∈ (s.put x).2, Sd 1 d := fun d hd => by
  have k1 := h.at (max s.now x.mom)
  obtain ⟨a1, a2, a3, a4⟩ := first_ok k1 hx (by omega)
  have hl := loop_sd 300 (out := []) a1 a2 lim (by omega) all_nil
  rcases List.mem_append.mp hd with z | z
  · exact hl d z
  · split at z
    · exact all_one (p := fun d => Sd 1 d) (sd_tup (all_one (sd_str gs_w1.2.2.2.2.1))) d z
    · cases z
theorem sd_waits {r : RS} {c : Nat} (h : Ro r c) : Sd 2 r.waits := by
  obtain ⟨g1, g2, g3, g4, g5, g6, g7, g8, g9⟩ := gs_w1
  unfold RS.waits
  split
  · refine sd_tup (all_cons (sd_str g6) (all_one (sd_tup fun d hd => ?_)))
    obtain ⟨i, _, rfl⟩ := List.mem_map.mp hd
    exact sd_int
  · rename_i hm
    obtain ⟨z, k, e⟩ := h.rm.hear hm
    have ho := RS.here_ok h.rk e
    have ek : r.hereKey = k := by unfold RS.hereKey; rw [e]; rfl
    rw [ek]
    exact sd_tup (all_cons (sd_str g7) (all_one (sd_str ho)))
  · exact sd_tup (all_cons (sd_str g3) (all_one sd_wd))
  · refine sd_tup (all_one (sd_str ?_))
    cases r.mode
    · exact g8
    · exact g9
    · exact g6
    · exact g7
    · exact g3
    · exact g4
theorem sd_by (b : Option (Nat × Int)) : Sd 1 (byD b) := by
  cases b with
  | none => exact sd_none
  | some p => exact sd_tup (all_cons sd_int (all_one sd_int))
theorem sd_run {rr : RR} {c n : Nat} (h : RRk rr c n) : Sd 3 (runD rr) :=
  sd_lst (all_cons (sd_str h.nm) (all_cons (sd_waits h.ro) (all_cons (sd_lst fun d hd => by
    obtain ⟨p, hp, rfl⟩ := List.mem_map.mp hd
    exact sd_hap (h.hk p hp)) (all_one ((sd_by _).mono (by decide))))))
theorem sd_inp {x : Inp} (h : x.tk) : Sd 1 x.d := by
  rw [inp_pts]
  refine sd_tup fun d hd => ?_
  obtain ⟨p, hp, rfl⟩ := List.mem_map.mp hd
  rcases List.mem_cons.mp hp with z | z
  · rw [z]
    have hws : gs "start" ∧ gs "answer" ∧ gs "letter" ∧ gs "tick" := by decide +kernel
    have hw : gs x.word := by
      cases x
      · exact hws.1
      · exact hws.2.1
      · exact hws.2.2.1
      · exact hws.2.2.2
    exact sd_str hw
  · obtain ⟨i, hi⟩ := List.getElem?_of_mem z
    have hlt : i < x.kinds.length := by rw [kinds_len]; exact (List.getElem?_eq_some_iff.mp hi).1
    exact (rest_is h i p _ hi (List.getElem?_eq_getElem hlt)).sd
theorem sd_allD {s : HS} {n k : Nat} {came : List Inp} (h : Hk s n k) (ht : ∀ x ∈ came, Inp.tk x) : Sd 4 (.list (allD s came)) := by
  refine sd_lst fun d hd => ?_
  rcases List.mem_append.mp hd with z | z
  · have hc : Sd 3 (.list (came.map Inp.d)) := (sd_lst (n := 1) fun d hd => by
      obtain ⟨x, hx, rfl⟩ := List.mem_map.mp hd
      exact sd_inp (ht x hx)).mono (by decide)
    have htm : Sd 3 (.list (s.openTimers.map encTm)) := (sd_lst (n := 1) fun d hd => by
      obtain ⟨x, hx, rfl⟩ := List.mem_map.mp hd
      exact sd_tm x).mono (by decide)
    exact all_cons (p := fun d => Sd 3 d) sd_int (all_cons hc (all_cons sd_int (all_cons ((sd_lst (sd_orders h)).mono (by decide)) (all_cons htm (all_one sd_wd))))) d z
  · obtain ⟨rr, hr, rfl⟩ := List.mem_map.mp z
    exact sd_run (h.rr rr hr)
end Ol
namespace Ol
open PySem PySem.Spec PyProof.Rows L2
/-! ### three houses side by side: made, risen, the law's own -/
theorem Upto.dj {F F' : List Addr} {H H' : Hp} (U : Upto F H H' F') {G : List Addr} (h1 : ∀ b ∈ G, b ∉ F) (h2 : ∀ b ∈ G, H b ≠ none) : ∀ b ∈ G, b ∉ F' := fun b hb m => by
  rcases U.new b m with z | z
  · exact h1 b hb z
  · exact h2 b hb z
section
variable {K : PySem.W.Frag} {B H H' : Hp} {pd am ar al : Addr} {progs : List (Str × List Stm)} {sm sr sl : HS} {cm cr : List Inp} {Xm Xr : HX} {Xl : LX}
theorem HouseAt.some {a : Addr} {s : HS} {came : List Inp} {X : HX} (R : HouseAt K H a s came X) : ∀ b ∈ X.F a, H b ≠ none := fun b m z => by
  obtain ⟨o, h, _⟩ := R.thing m
  rw [z] at h
  cases h
theorem LawAt.some {a : Addr} {s : HS} {X : LX} (R : LawAt K H a s X) : ∀ b ∈ X.F a, H b ≠ none := fun b m z => by
  obtain ⟨o, h, _⟩ := R.thing m
  rw [z] at h
  cases h
theorem HX.pdF (X : HX) (a : Addr) : X.pd ∈ X.F a := HX.inO (List.mem_of_getElem? (rfl : (X.O a)[8]? = some X.pd))
structure L3 (K : PySem.W.Frag) (B H : Hp) (pd : Addr) (progs : List (Str × List Stm)) (am : Addr) (sm : HS) (cm : List Inp) (Xm : HX) (ar : Addr) (sr : HS) (cr : List Inp) (Xr : HX) (al : Addr) (sl : HS) (Xl : LX) : Prop where
  m : HouseAt K H am sm cm Xm
  r : HouseAt K H ar sr cr Xr
  l : LawAt K H al sl Xl
  pe : Xl.pd = pd
  pg : PgAt K B pd progs
  b : Same B H
  bm : ∀ b ∈ Xm.F am, B b = none
  br : ∀ b ∈ Xr.F ar, B b = none
  bl : ∀ b ∈ Xl.F al, B b = none
  mr : ∀ b ∈ Xm.F am, b ∉ Xr.F ar
  ml : ∀ b ∈ Xm.F am, b ∉ Xl.F al
  rl : ∀ b ∈ Xr.F ar, b ∉ Xl.F al
theorem L3.pdB (h : L3 K B H pd progs am sm cm Xm ar sr cr Xr al sl Xl) : B pd ≠ none := by
  obtain ⟨_, e, _⟩ := h.pg
  rw [e]
  exact fun z => nomatch z
theorem L3.old {F F' : List Addr} (b : Same B H) (U : Upto F H H' F') (hB : ∀ b ∈ F, B b = none) : Same B H' := fun c o e => U.keep c o (b c o e) fun m => by rw [hB c m] at e; cases e
theorem L3.fresh {F F' : List Addr} (b : Same B H) (U : Upto F H H' F') (hB : ∀ b ∈ F, B b = none) : ∀ b ∈ F', B b = none := fun c m => by
  rcases U.new c m with z | z
  · exact hB c z
  · cases e : B c with
    | none => rfl
    | some o => rw [b c o e] at z; cases z
theorem L3.same (h : L3 K B H pd progs am sm cm Xm ar sr cr Xr al sl Xl) (e : Same H H') : L3 K B H' pd progs am sm cm Xm ar sr cr Xr al sl Xl :=
  ⟨h.m.same e, h.r.same e, h.l.same e, h.pe, h.pg, h.b.trans e, h.bm, h.br, h.bl, h.mr, h.ml, h.rl⟩
theorem L3.side {F F' : List Addr} (h : L3 K B H pd progs am sm cm Xm ar sr cr Xr al sl Xl) (U : Upto F H H' F') (hB : ∀ b ∈ F, B b = none) (h1 : ∀ b ∈ Xm.F am, b ∉ F) (h2 : ∀ b ∈ Xr.F ar, b ∉ F) (h3 : ∀ b ∈ Xl.F al, b ∉ F) : L3 K B H' pd progs am sm cm Xm ar sr cr Xr al sl Xl :=
  ⟨h.m.upto U h1 (h1 _ (HX.pdF _ _)), h.r.upto U h2 (h2 _ (HX.pdF _ _)), h.l.upto U h3 (fun m => h.pdB (by rw [← h.pe]; exact hB _ m)), h.pe, h.pg, L3.old h.b U hB, h.bm, h.br, h.bl, h.mr, h.ml, h.rl⟩
theorem L3.stepM {s' : HS} {c' : List Inp} {X' : HX} (h : L3 K B H pd progs am sm cm Xm ar sr cr Xr al sl Xl) (T : HouseTo K H (Xm.F am) H' am s' c' X') : L3 K B H' pd progs am s' c' X' ar sr cr Xr al sl Xl := by
  have hr : ∀ b ∈ Xr.F ar, b ∉ Xm.F am := fun b hb m => h.mr b m hb
  have hl : ∀ b ∈ Xl.F al, b ∉ Xm.F am := fun b hb m => h.ml b m hb
  refine ⟨T.1, h.r.upto T.2 hr (hr _ (HX.pdF _ _)), h.l.upto T.2 hl (fun m => h.pdB (by rw [← h.pe]; exact h.bm _ m)), h.pe, h.pg, L3.old h.b T.2 h.bm, L3.fresh h.b T.2 h.bm, h.br, h.bl, fun b hb m => ?_, fun b hb m => ?_, h.rl⟩
  · exact T.2.dj hr h.r.some b m hb
  · exact T.2.dj hl h.l.some b m hb
theorem L3.stepR {s' : HS} {c' : List Inp} {X' : HX} (h : L3 K B H pd progs am sm cm Xm ar sr cr Xr al sl Xl) (T : HouseTo K H (Xr.F ar) H' ar s' c' X') : L3 K B H' pd progs am sm cm Xm ar s' c' X' al sl Xl := by
  have hl : ∀ b ∈ Xl.F al, b ∉ Xr.F ar := fun b hb m => h.rl b m hb
  refine ⟨h.m.upto T.2 h.mr (h.mr _ (HX.pdF _ _)), T.1, h.l.upto T.2 hl (fun m => h.pdB (by rw [← h.pe]; exact h.br _ m)), h.pe, h.pg, L3.old h.b T.2 h.br, h.bm, L3.fresh h.b T.2 h.br, h.bl, fun b hb m => ?_, h.ml, fun b hb m => ?_⟩
  · exact T.2.dj h.mr h.m.some b hb m
  · exact T.2.dj hl h.l.some b m hb
theorem L3.stepL {s' : HS} {X' : LX} (h : L3 K B H pd progs am sm cm Xm ar sr cr Xr al sl Xl) (T : LawTo K H (Xl.F al) H' al s' X') (e : X'.pd = Xl.pd) : L3 K B H' pd progs am sm cm Xm ar sr cr Xr al s' X' := by
  refine ⟨h.m.upto T.2 h.ml (h.ml _ (HX.pdF _ _)), h.r.upto T.2 h.rl (h.rl _ (HX.pdF _ _)), T.1, e.trans h.pe, h.pg, L3.old h.b T.2 h.bl, h.bm, h.br, L3.fresh h.b T.2 h.bl, h.mr, fun b hb m => ?_, fun b hb m => ?_⟩
  · exact T.2.dj h.ml h.m.some b hb m
  · exact T.2.dj h.rl h.r.some b hb m
/-- another house has come up -/
theorem L3.newR {a : Addr} {s' : HS} {c' : List Inp} {X' : HX} (h : L3 K B H pd progs am sm cm Xm ar sr cr Xr al sl Xl) (e : Same H H') (R : HouseAt K H' a s' c' X') (f : ∀ b ∈ X'.F a, H b = none) : L3 K B H' pd progs am sm cm Xm a s' c' X' al sl Xl := by
  refine ⟨h.m.same e, R, h.l.same e, h.pe, h.pg, h.b.trans e, h.bm, fun b hb => ?_, h.bl, fun b hb m => h.m.some b hb (f b m), h.ml, fun b hb m => h.l.some b m (f b hb)⟩
  cases e1 : B b with
  | none => rfl
  | some o => have := f b hb; rw [h.b b o e1] at this; cases this
/-- a house beside the three -/
structure Sd3 (B : Hp) (Xm : HX) (am : Addr) (Xr : HX) (ar : Addr) (Xl : LX) (al : Addr) (F : List Addr) : Prop where
  hb : ∀ b ∈ F, B b = none
  h1 : ∀ b ∈ Xm.F am, b ∉ F
  h2 : ∀ b ∈ Xr.F ar, b ∉ F
  h3 : ∀ b ∈ Xl.F al, b ∉ F
theorem L3.sd (h : L3 K B H pd progs am sm cm Xm ar sr cr Xr al sl Xl) {F : List Addr} (f : ∀ b ∈ F, H b = none) : Sd3 B Xm am Xr ar Xl al F :=
  ⟨(fun b hb => by
    cases e1 : B b with
    | none => rfl
    | some o => have := f b hb; rw [h.b b o e1] at this; cases this), fun b hb m => h.m.some b hb (f b m), fun b hb m => h.r.some b hb (f b m), fun b hb m => h.l.some b hb (f b m)⟩
theorem L3.side3 {F F' : List Addr} (h : L3 K B H pd progs am sm cm Xm ar sr cr Xr al sl Xl) (S : Sd3 B Xm am Xr ar Xl al F) (U : Upto F H H' F') : L3 K B H' pd progs am sm cm Xm ar sr cr Xr al sl Xl ∧ Sd3 B Xm am Xr ar Xl al F' :=
  ⟨h.side U S.hb S.h1 S.h2 S.h3, L3.fresh h.b U S.hb, U.dj S.h1 h.m.some, U.dj S.h2 h.r.some, U.dj S.h3 h.l.some⟩
/-- the heap without F -/
def offs (H : Hp) (F : List Addr) : Hp := fun b => if b ∈ F then none else H b
theorem offs_in {F : List Addr} {b : Addr} (h : b ∈ F) : offs H F b = none := by unfold offs; rw [if_pos h]
theorem offs_out {F : List Addr} {b : Addr} (h : b ∉ F) : offs H F b = H b := by unfold offs; rw [if_neg h]
theorem offs_same {F : List Addr} : Same (offs H F) H := fun b o e => by
  by_cases h : b ∈ F
  · rw [offs_in h] at e; cases e
  · rwa [offs_out h] at e
theorem offs_mono {G : Hp} {F : List Addr} (h : Same G H) (hf : ∀ b ∈ F, G b = none) : Same G (offs H F) := fun b o e => by
  rw [offs_out fun m => by rw [hf b m] at e; cases e]
  exact h b o e
end
end Ol
namespace Ol
open PySem PySem.Spec PyProof.Rows L2
open TL
structure Good (progs : List (Str × List Stm)) (s : HS) (came : List Inp) (i : Nat) : Prop where
  hk : Hk s (300 * i) (90301 * i)
  sp : s = (HS.init progs).puts came
  now : 0 ≤ s.now
  len : came.length = i
  tk : ∀ x ∈ came, Inp.tk x ∧ x.ok
theorem Good.step {progs : List (Str × List Stm)} {s : HS} {came : List Inp} {i : Nat} (G : Good progs s came i) {x : Inp} (h1 : x.ok) (h2 : x.tk) (hi : i < 42) : Good progs (s.put x).1 (came ++ [x]) (i + 1) := by
  have k := (put_ok G.hk h1 (by omega) (by omega)).1
  refine ⟨k.weak (Nat.le_of_eq (by omega)) (Nat.le_of_eq (by omega)) (by omega) (by omega), by rw [puts_snoc, ← G.sp], ?_, by rw [List.length_append, G.len]; rfl, fun y hy => ?_⟩
  · rw [put_now]
    have := G.now
    omega
  · rcases List.mem_append.mp hy with z | z
    · exact G.tk y z
    · rw [List.mem_singleton.mp z]; exact ⟨h2, h1⟩
abbrev dictR : List V → Hp → VK → Prop := fun xs H Q => ∃ a kvs, xs = [V.ref a] ∧ Rd H a (HO.dK kvs) ∧ ∀ (p : Addr), H p = none → Q (V.ref p) (upd H p (HO.dK kvs))
abbrev contT (K : PySem.W.Frag) : TS := tSeq (tAsg (tF (spLInput K) (tCons (tF (spHand K) (tCons (tVar 0) (tCons (tVar 10) (tCons (tVar 9) tNil)))) (tCons (tVar 3) tNil))) (gName 13)) (tSeq (tAsg (tF (spLIn K) (tCons (tVar 3) (tCons (tVar 13) tNil))) (gName 14)) (tIfS (tOr (tTest (tOp (rNeD K) (tM (He.ga K "House") "take" (spHTake K) (tVar 2) (tCons (tVar 13) tNil)) (tVar 14))) (tTest (tOp (rNeD K) (tM (He.ga K "House") "take" (spHTake K) (tVar 8) (tCons (tVar 13) tNil)) (tVar 14)))) (tRet (tC (V.bl false))) tNext))
abbrev thenT (K : PySem.W.Frag) : TS := tSeq (tAsg (tF (spKeep K) (tCons (tVar 2) tNil)) (gName 11)) (tSeq (tIfS (tTest (tOp rNe (tVar 11) (tF (spLText K) (tCons (tM (He.ga K "House") "inputs" (spInputs K) (tVar 2) tNil) tNil)))) (tRet (tC (V.bl false))) tNext) (tSeq (tAsg (tF (spComeUp K) (tCons (tCB dictR (tCons (tVar 1) tNil)) (tCons (tVar 11) tNil))) (gName 8)) (tSeq (tAsg (tF (spComeUp K) (tCons (tCB dictR (tCons (tVar 1) tNil)) (tCons (tVar 11) tNil))) (gName 12)) (tSeq (tIfS (tTest (tOp (rNeD K) (tF (spLAll K) (tCons (tVar 8) tNil)) (tF (spLAll K) (tCons (tVar 2) tNil)))) (tRet (tC (V.bl false))) tNext) (tSeq (tDrop (tM (He.ga K "House") "take" (spHTake K) (tVar 12) (tCons (tTup (tCons (tC (V.str "start")) (tCons (tC (V.int 9)) (tCons (tC (V.str "one")) (tCons (tC (V.int 1)) tNil))))) tNil))) (tSeq (tDrop (tM (He.ga K "House") "take" (spHTake K) (tVar 12) (tCons (tTup (tCons (tC (V.str "tick")) (tCons (tOp (rI CPow fun i j => V.int (i ^ j.toNat)) (tC (V.int 10)) (tC (V.int 12))) tNil))) tNil))) (tIfS (tOr (tTest (tOp (rNeD K) (tF (spLAll K) (tCons (tVar 8) tNil)) (tF (spLAll K) (tCons (tVar 2) tNil)))) (tTest (tOp rNe (tF (spKeep K) (tCons (tVar 8) tNil)) (tVar 11)))) (tRet (tC (V.bl false))) tNext)))))))
section
variable {K : PySem.W.Frag} {B H : Hp} {ps pd am ar al pc ph : Addr} {progs : List (Str × List Stm)} {s : HS} {came : List Inp} {Xm Xr : HX} {Xl : LX} {xs : List Int} {i : Nat} {i1 i2 c : Int} {u11 u12 u13 u14 : Option V} {D : Ends}
theorem neSame {d : PyData} {n : Nat} (h : Sd n d) : (!PyData.eqv d d) = false := by rw [h.refl]; rfl
theorem cont_ok (L : L3 K B H pd progs am s came Xm ar s came Xr al s Xl) (hps : SqL K B ps (xs.map V.int)) (G : Good progs s came i) (hi : i < 42)
    (hD : ∀ (x : Inp) (Xm' Xr' : HX) (Xl' : LX) (v13 v14 : Option V) (H' : Hp), L3 K B H' pd progs am (s.put x).1 (came ++ [x]) Xm' ar (s.put x).1 (came ++ [x]) Xr' al (s.put x).1 Xl' → Good progs (s.put x).1 (came ++ [x]) (i + 1) →
      D.nx [some (.ref ps), some (.ref pd), some (.ref am), some (.ref al), some (.ref pc), some (.ref ph), some (.int i1), some (.int i2), some (.ref ar), some (.int (i : Int)), some (.int c), u11, u12, v13, v14] H') :
    contT K D [some (.ref ps), some (.ref pd), some (.ref am), some (.ref al), some (.ref pc), some (.ref ph), some (.int i1), some (.int i2), some (.ref ar), some (.int (i : Int)), some (.int c), u11, u12, u13, u14] H := by
  refine ⟨_, rfl, _, rfl, _, rfl, ps, xs, c, (i : Int), rfl, Same.sql L.b hps, fun p H1 s1 hp ha => ⟨_, rfl, p, al, s, Xl, _, _, rfl, ha, (L.same s1).l, G.hk, L.l.notIn hp, fun z => ?_, G.now, fun x v H2 hok htk t2 htd => ?_⟩⟩
  · rw [L.pe] at z
    cases e : B pd with
    | none => exact L.pdB e
    | some o => rw [z, L.b _ _ e] at hp; cases hp
  have s12 : Same H H2 := t2.old s1 hp
  have L2 := L.same s12
  have hcl : came.length < 16000000 := by rw [G.len]; omega
  refine ⟨_, rfl, _, rfl, al, s, Xl, 300 * i, 90301 * i, x, v, rfl, L2.l, G.hk, htd, hok, by omega, by omega, fun H3 Xl' pl ov TL hpl hplF hpl' hov hpe => ?_⟩
  have L3' := L2.stepL TL hpe
  have hsd := put_sd G.hk hok (by omega) (by omega)
  have hSd : Sd 2 (.list (s.put x).2) := sd_lst hsd
  have npm : pl ∉ Xm.F am := fun m => by
    rcases hplF with z | z
    · exact L2.ml pl m z
    · exact L2.m.some pl m z
  have npr : pl ∉ Xr.F ar := fun m => by
    rcases hplF with z | z
    · exact L2.rl pl m z
    · exact L2.r.some pl m z
  have v3 := TD.fx TL.2.fx _ _ htd
  refine ⟨_, rfl, am, rfl, ml_house L3'.m.ob rfl, _, rfl, am, s, came, Xm, 300 * i, 90301 * i, x, v, rfl, L3'.m, G.hk, v3, hok, by omega, by omega, hcl, fun H4 Xm' pm om TM hpm _ _ hom => ?_⟩
  have L4 := L3'.stepM TM
  have pl4 := TM.2.keep _ _ hpl npm
  have ov4 := TDs.fx TM.2.fx _ _ hov
  have v4 := TD.fx TM.2.fx _ _ v3
  refine ⟨_, rfl, _, _, .lst (SqL.of hpm) (TDs.dp _ _ hom), .lst (SqL.of pl4) (TDs.dp _ _ ov4), hSd.shaped, hSd.shaped, _, rfl, ifF (neSame hSd) ?_⟩
  refine ⟨_, rfl, ar, rfl, ml_house L4.r.ob rfl, _, rfl, ar, s, came, Xr, 300 * i, 90301 * i, x, v, rfl, L4.r, G.hk, v4, hok, by omega, by omega, hcl, fun H5 Xr' pr or' TR hpr _ _ hor => ?_⟩
  have L5 := L4.stepR TR
  have pl5 := TR.2.keep _ _ pl4 npr
  have ov5 := TDs.fx TR.2.fx _ _ ov4
  refine ⟨_, rfl, _, _, .lst (SqL.of hpr) (TDs.dp _ _ hor), .lst (SqL.of pl5) (TDs.dp _ _ ov5), hSd.shaped, hSd.shaped, _, rfl, ifF (neSame hSd) ?_⟩
  exact hD x Xm' Xr' Xl' _ _ H5 L5 (G.step hok htk hi)
theorem then_ok (L : L3 K B H pd progs am s came Xm ar s came Xr al s Xl) (G : Good progs s came i) (hi : i < 42) (hk0 : Hk (HS.init progs) 0 0)
    (hD : ∀ (a' : Addr) (X' : HX) (v11 v12 : Option V) (H' : Hp), L3 K B H' pd progs am s came Xm a' s came X' al s Xl →
      D.nx [some (.ref ps), some (.ref pd), some (.ref am), some (.ref al), some (.ref pc), some (.ref ph), some (.int i1), some (.int i2), some (.ref a'), some (.int (i : Int)), some (.int c), v11, v12, u13, u14] H') :
    thenT K D [some (.ref ps), some (.ref pd), some (.ref am), some (.ref al), some (.ref pc), some (.ref ph), some (.int i1), some (.int i2), some (.ref ar), some (.int (i : Int)), some (.int c), u11, u12, u13, u14] H := by
  have htk : ∀ x ∈ came, Inp.tk x := fun x hx => (G.tk x hx).1
  have hcl : came.length ≤ 42 := by rw [G.len]; omega
  have hA : Sd 4 (.list (allD s came)) := sd_allD G.hk htk
  refine ⟨_, rfl, am, s, came, Xm, rfl, L.m, htk, by omega, fun H1 s1 => ?_⟩
  have L1 := L.same s1
  refine ⟨_, rfl, _, rfl, am, rfl, ml_house L1.m.ob rfl, am, s, came, Xm, rfl, L1.m, fun p1 hp1 => ⟨p1, Xm.cameV, came, rfl, upd_same, TDs.fx (Same.fx (Same.new hp1)) _ _ L1.m.tc, htk, by omega, fun H2 s2 => ?_⟩⟩
  have L2 := L1.same ((Same.new hp1).trans s2)
  refine ⟨rfl, _, rfl, ifF (by simp) ?_⟩
  have hpgAt : ∀ {Hx : Hp} (Lx : Same B Hx), ∃ pgV, Hx pd = some (.dK (mk2 Sum.inr id pgV)) ∧ ∀ (q : Addr), Hx q = none → PgAt K (upd Hx q (.dK (mk2 Sum.inr id pgV))) q progs := fun {Hx} Lx => by
    obtain ⟨pgV, k1, k2⟩ := L.pg
    exact ⟨pgV, Lx _ _ k1, fun q hq => ⟨pgV, upd_same, PK2.mono k2 fun _ _ z => TD.fx (Same.fx (Lx.trans (Same.new hq))) _ _ z⟩⟩
  obtain ⟨pgV2, k2, g2⟩ := hpgAt L2.b
  refine ⟨_, rfl, pd, _, rfl, .inl k2, fun p3 hp3 => ⟨_, rfl, p3, progs, came, rfl, g2 p3 hp3, hk0, G.tk, by omega, fun H4 a' X' R4 s4 f4 => ?_⟩⟩
  rw [← G.sp] at R4
  have L4 := (L2.same (Same.new hp3)).newR s4 R4 f4
  obtain ⟨pgV4, k4, g4⟩ := hpgAt L4.b
  refine ⟨_, rfl, pd, _, rfl, .inl k4, fun p5 hp5 => ⟨_, rfl, p5, progs, came, rfl, g4 p5 hp5, hk0, G.tk, by omega, fun H6 b X6 R6 s6 f6 => ?_⟩⟩
  rw [← G.sp] at R6
  have L5 := L4.same (Same.new (o := .dK (mk2 Sum.inr id pgV4)) hp5)
  have S6 := L5.sd f6
  have L6 := L5.same s6
  refine ⟨_, rfl, a', s, came, X', _, _, rfl, L6.r, G.hk, fun p7 H7 s7 hp7 d7 => ⟨_, rfl, am, s, came, Xm, _, _, rfl, (L6.same s7).m, G.hk, fun p8 H8 s8 hp8 d8 => ⟨_, _, Dp.same s8 _ _ d7, d8, hA.shaped, hA.shaped, _, rfl, ifF (neSame hA) ?_⟩⟩⟩
  have L8 := (L6.same s7).same s8
  have R8 := (R6.same s7).same s8
  have ho1 : (Inp.start 9 "one" (some 1)).ok := ⟨by decide, by decide, wb_some (by decide) (by decide)⟩
  refine ⟨_, rfl, b, rfl, ml_house R8.ob rfl, le_line rfl, fun pt hpt => ⟨b, s, came, X6, _, _, .start 9 "one" (some 1), .ref pt, rfl, R8.same (Same.new hpt), G.hk, TD.newU hpt (TDs.mk (td_str.mpr rfl) (TDs.mk (td_int.mpr rfl) (TDs.mk (td_str.mpr rfl) (TDs.mk (td_wd.mpr rfl) TDs.nil)))), ho1, by omega, by omega, by omega, fun H9 X9 p9 o9 T9 _ _ _ _ => ?_⟩⟩
  obtain ⟨L9, S9⟩ := (L8.same (Same.new hpt)).side3 S6 T9.2
  have k9 := (put_ok G.hk ho1 (by omega) (by omega)).1
  have ho2 : (Inp.tick 1000000000000).ok := ⟨by decide, by decide⟩
  refine ⟨_, rfl, b, rfl, ml_house T9.1.ob rfl, _, _, rfl, rfl, ⟨by decide, by decide, by decide⟩, le_line rfl, fun pu hpu => ⟨b, _, _, X9, _, _, .tick 1000000000000, .ref pu, rfl, T9.1.same (Same.new hpu), k9, TD.newU hpu (TDs.mk (td_str.mpr rfl) (TDs.mk (td_int.mpr rfl) TDs.nil)), ho2, by omega, by omega, by rw [List.length_append]; show came.length + 1 < _; omega, fun H10 X10 p10 o10 T10 _ _ _ _ => ?_⟩⟩
  obtain ⟨L10, _⟩ := (L9.same (Same.new hpu)).side3 S9 T10.2
  refine ⟨_, rfl, a', s, came, X', _, _, rfl, L10.r, G.hk, fun p11 H11 s11 hp11 d11 => ⟨_, rfl, am, s, came, Xm, _, _, rfl, (L10.same s11).m, G.hk, fun p12 H12 s12 hp12 d12 => ⟨_, _, Dp.same s12 _ _ d11, d12, hA.shaped, hA.shaped, _, rfl, ifF (neSame hA) ?_⟩⟩⟩
  have L12 := (L10.same s11).same s12
  refine ⟨_, rfl, a', s, came, X', rfl, L12.r, htk, by omega, fun H13 s13 => ⟨_, rfl, rfl, _, rfl, ifF (by simp) ?_⟩⟩
  exact hD a' X' _ _ H13 (L12.same s13)
end
end Ol
namespace Ol
open PySem PySem.Spec PyProof.Rows L2
open TL
local macro_rules | `(tactic| walk_at "len") => `(tactic| (intro vs H Q E h; first | (rcases h with ⟨hh, _⟩; rw [hh]; rfl) | (rcases h with ⟨_, hh, _⟩; rw [hh]; rfl) | (rcases h with ⟨_, _, hh, _⟩; rw [hh]; rfl) | (rcases h with ⟨_, _, _, hh, _⟩; rw [hh]; rfl) | (rcases h with ⟨_, _, _, _, hh, _⟩; rw [hh]; rfl) | (rcases h with ⟨_, _, _, _, _, hh, _⟩; rw [hh]; rfl) | (rcases h with ⟨_, _, _, _, _, _, hh, _⟩; rw [hh]; rfl) | (rcases h with ⟨_, _, _, _, _, _, _, hh, _⟩; rw [hh]; rfl) | (rcases h with ⟨_, _, _, _, _, _, _, _, hh, _⟩; rw [hh]; rfl) | (rcases h with ⟨_, _, _, _, _, _, _, _, _, hh, _⟩; rw [hh]; rfl) | (rcases h with ⟨_, _, _, _, _, _, _, _, _, _, hh, _⟩; rw [hh]; rfl) | (rcases h with ⟨_, _, _, _, _, _, _, _, _, _, _, hh, _⟩; rw [hh]; rfl) | (rcases h with ⟨_, _, _, _, _, _, _, _, _, _, _, _, hh, _⟩; rw [hh]; rfl) | (rcases h with ⟨_, _, _, _, _, _, _, _, _, _, _, _, _, hh, _⟩; rw [hh]; rfl) | (rcases h with ⟨_, _, _, _, _, _, _, _, _, _, _, _, _, _, hh, _⟩; rw [hh]; rfl) | (rcases h with ⟨_, _, _, _, _, _, _, _, _, _, _, _, _, _, _, hh, _⟩; rw [hh]; rfl) | (rcases h with ⟨_, _, _, _, _, _, _, _, _, _, _, _, _, _, _, _, hh, _⟩; rw [hh]; rfl) | (rcases h with ⟨_, _, _, _, _, _, _, _, _, _, _, _, _, _, _, _, _, hh, _⟩; rw [hh]; rfl) | (rcases h with ⟨_, _, _, _, _, _, _, _, _, _, _, _, _, _, _, _, _, _, hh, _⟩; rw [hh]; rfl) | (rcases h with ⟨_, _, _, _, _, _, _, _, _, _, _, _, _, _, _, _, _, _, _, hh, _⟩; rw [hh]; rfl)))
theorem cut_cells (xs : List Int) : ∃ cs : List Int, cutV (xs.map V.int) (some 5) (some 45) = cs.map V.int ∧ cs.length ≤ 40 := by
  have e1 : HT.sIx xs.length 0 (some 5) = min 5 xs.length := HT.sIx_nat _ _ 5
  have e2 : HT.sIx xs.length xs.length (some 45) = min 45 xs.length := HT.sIx_nat _ _ 45
  refine ⟨(xs.drop (HT.sIx xs.length 0 (some 5))).take (HT.sIx xs.length xs.length (some 45) - HT.sIx xs.length 0 (some 5)), ?_, ?_⟩
  · unfold cutV
    rw [List.length_map, List.map_take, List.map_drop]
  · rw [List.length_take, e1, e2]
    omega
def spLaw (K : PySem.W.Frag) : Sp := fun vs H Q _ => ∃ (ps : Addr) (xs : List Int), vs = [.ref ps] ∧ SqL K H ps (xs.map V.int) ∧ xs.length ≤ 1000 ∧ ∀ H', Q (.bl true) H'
section
variable {P : Program} {w : World} {K : PySem.W.Frag} {mg : Str → Option Value} {base : Heap}
theorem fnF_mk {d : He.DefD} {N ps : List Str} {k : Nat} {sp : Sp} {fd : FuncData} (F : FunD K d.name d.qual d.params d.body d.scope [] [] (He.fAd K d.at_) fd) (S : FnScope N ps d.scope)
    (len : ∀ vs H Q E, sp vs H Q E → vs.length = ps.length)
    (hbody : ∀ (cdv : Value) (f : Addr) (A : Around) (outer : List Env) (s : Shared) (H : Hp) (vs : List V) (Q : VK) (E : XK), Room k (A.deeper (envOfC d.qual d.scope s.heap.objs.size f cdv)) → sp vs H Q E →
      ∃ t, PSs (cxOf CX0 P w K mg base N d.qual d.scope f cdv A outer s H E).nox d.body t ∧ t { nx := fun _ H' => Q .non H', rt := Q } (start N vs) H) : FnOk P w K mg base CX0 (k + 1) (He.fAd K d.at_) fd ps sp :=
  F.ok S len fun cdv A outer s H vs Q E hr hsp => by
    obtain ⟨t, h, q⟩ := hbody cdv _ A outer s H vs Q E hr hsp
    exact ⟨t, h.nox, q⟩
theorem sc_law : FnScope ["script", "programs", "made", "house", "cells", "hand", "ahead", "again", "risen", "k", "cell", "text", "beside", "some", "due"] ["script"] (defScope s_law) := ⟨rfl, rfl, rfl, by decide +kernel, rfl, by decide +kernel, by decide +kernel⟩
theorem law_fn (T : Tx w K mg) {fd : FuncData} (F : FunD K d_law.name d_law.qual d_law.params d_law.body d_law.scope [] [] (He.fAd K d_law.at_) fd) : FnOk P w K mg base CX0 15 (He.fAd K d_law.at_) fd ["script"] (spLaw K) := by
  have sc := sc_law
  refine fnF_mk F sc ?len ?body
  case len => walk_at "len"
  intro cdv f A outer s H vs Q E hr h
  refine ⟨_, (pss_cons (ps_set (i := 1) sc.nd rfl (Or.inl rfl) (pe_f (ok__law_programs T) (hr.mono (by decide)) (by rfl) (g__law_programs T) (pa_cons (pv 0) pa_nil)))
    (pss_cons (ps_set (i := 2) sc.nd rfl (Or.inl rfl) (pe_mk (d := d_House___init__) (mk_House T) (ok_House___init__ T) (hr.mono (by decide)) (by rfl) (g_House T) (pa_cons (pe_callTy call_dictD (by rfl) (z_dict T) (by decide +kernel) (pa_cons (pv 1) pa_nil)) pa_nil)))
    (pss_cons (ps_set (i := 3) sc.nd rfl (Or.inl rfl) (pe_f (ok__law_new T) (hr.mono (by decide)) (by rfl) (g__law_new T) (pa_cons (pv 1) pa_nil)))
    (pss_cons (ps_set (i := 4) sc.nd rfl (Or.inl rfl) (pe_slice sl_list (pv 0) (po_some pe_int) (po_some pe_int)))
    (pss_cons (ps_set (i := 5) sc.nd rfl (Or.inl rfl) (pe_f (ok__law_hand T) (hr.mono (by decide)) (by rfl) (g__law_hand T) (pa_cons (pv 0) (pa_cons (pe_ix ix_list (pe_op op_catL (pv 0) (pe_lst (pa_cons pe_int pa_nil))) pe_int (fun _ _ => rfl)) (pa_cons pe_int pa_nil)))))
    (pss_cons (ps_set (i := 6) sc.nd rfl (Or.inl rfl) (pe_f (ok__law_draw T) (hr.mono (by decide)) (by rfl) (g__law_draw T) (pa_cons (pv 5) (pa_cons (pe_op op_add (pe_callB call_len_seq (by rfl) (z_len T) (by decide +kernel) (pa_cons (pv 4) pa_nil)) pe_int) pa_nil))))
    (pss_cons (ps_set (i := 7) sc.nd rfl (Or.inl rfl) (pe_f (ok__law_draw T) (hr.mono (by decide)) (by rfl) (g__law_draw T) (pa_cons (pv 5) (pa_cons (pe_op op_add (pe_callB call_len_seq (by rfl) (z_len T) (by decide +kernel) (pa_cons (pv 4) pa_nil)) pe_int) pa_nil))))
    (pss_cons (ps_set (i := 8) sc.nd rfl (Or.inl rfl) (pe_f (ok_come_up_house T) (hr.mono (by decide)) (by rfl) (g_come_up_house T) (pa_cons (pe_callTy call_dictD (by rfl) (z_dict T) (by decide +kernel) (pa_cons (pv 1) pa_nil)) (pa_cons pe_str pa_nil))))
    (pss_cons (ps_for PassesOwn.never (by rfl) (pi_enum (by rfl) (z_enumerate T) (pa_cons (pe_op op_catL (pv 4) (pe_lst (pa_cons pe_int pa_nil))) pa_nil)) (pg_tup (by rfl) (pgs_cons (pg_name (i := 9) sc.nd rfl (Or.inl rfl)) (pgs_cons (pg_name (i := 10) sc.nd rfl (Or.inl rfl)) pgs_nil))) (pss_cons (ps_if (pt_cmpR op_in_seq (pv 9) (pe_tup (pa_cons (pv 6) (pa_cons (pv 7) pa_nil))) (by rfl)) (pss_cons (ps_set (i := 11) sc.nd rfl (Or.inl rfl) (pe_f (ok_keep_house T) (hr.mono (by decide)) (by rfl) (g_keep_house T) (pa_cons (pv 2) pa_nil)))
    (pss_cons (ps_if (pt_cmpR op_ne (pv 11) (pe_f (ok__law_text T) (hr.mono (by decide)) (by rfl) (g__law_text T) (pa_cons (pe_m0 (d := d_House_inputs) (c_House T) (m_House_inputs T) (ok_House_inputs T) (hr.mono (by decide)) (pv 2)) pa_nil)) (nomark _)) (pss_one (ps_ret pe_bl)) pss_nil)
    (pss_cons (ps_set (i := 8) sc.nd rfl (Or.inl rfl) (pe_f (ok_come_up_house T) (hr.mono (by decide)) (by rfl) (g_come_up_house T) (pa_cons (pe_callTy call_dictD (by rfl) (z_dict T) (by decide +kernel) (pa_cons (pv 1) pa_nil)) (pa_cons (pv 11) pa_nil))))
    (pss_cons (ps_set (i := 12) sc.nd rfl (Or.inl rfl) (pe_f (ok_come_up_house T) (hr.mono (by decide)) (by rfl) (g_come_up_house T) (pa_cons (pe_callTy call_dictD (by rfl) (z_dict T) (by decide +kernel) (pa_cons (pv 1) pa_nil)) (pa_cons (pv 11) pa_nil))))
    (pss_cons (ps_if (pt_cmpR (op_neD hr.units) (pe_f (ok__law_all T) (hr.mono (by decide)) (by rfl) (g__law_all T) (pa_cons (pv 8) pa_nil)) (pe_f (ok__law_all T) (hr.mono (by decide)) (by rfl) (g__law_all T) (pa_cons (pv 2) pa_nil)) (nomark _)) (pss_one (ps_ret pe_bl)) pss_nil)
    (pss_cons (ps_expr (pe_m (d := d_House_take) (c_House T) (m_House_take T) (ok_House_take T) (hr.mono (by decide)) (pv 12) (pa_cons (pe_tup (pa_cons pe_str (pa_cons pe_int (pa_cons pe_str (pa_cons pe_int pa_nil))))) pa_nil)))
    (pss_cons (ps_expr (pe_m (d := d_House_take) (c_House T) (m_House_take T) (ok_House_take T) (hr.mono (by decide)) (pv 12) (pa_cons (pe_tup (pa_cons pe_str (pa_cons (pe_op op_pow pe_int pe_int) pa_nil))) pa_nil)))
    (pss_one (ps_if ((pw_or (pt_cmpR (op_neD hr.units) (pe_f (ok__law_all T) (hr.mono (by decide)) (by rfl) (g__law_all T) (pa_cons (pv 8) pa_nil)) (pe_f (ok__law_all T) (hr.mono (by decide)) (by rfl) (g__law_all T) (pa_cons (pv 2) pa_nil)) (nomark _)) (pw_or1 (pt_cmpR op_ne (pe_f (ok_keep_house T) (hr.mono (by decide)) (by rfl) (g_keep_house T) (pa_cons (pv 8) pa_nil)) (pv 11) (nomark _))))).pt (pss_one (ps_ret pe_bl)) pss_nil))))))))) pss_nil)
    (pss_cons (ps_set (i := 13) sc.nd rfl (Or.inl rfl) (pe_f (ok__law_input T) (hr.mono (by decide)) (by rfl) (g__law_input T) (pa_cons (pe_f (ok__law_hand T) (hr.mono (by decide)) (by rfl) (g__law_hand T) (pa_cons (pv 0) (pa_cons (pv 10) (pa_cons (pv 9) pa_nil)))) (pa_cons (pv 3) pa_nil))))
    (pss_cons (ps_set (i := 14) sc.nd rfl (Or.inl rfl) (pe_f (ok__law_in T) (hr.mono (by decide)) (by rfl) (g__law_in T) (pa_cons (pv 3) (pa_cons (pv 13) pa_nil))))
    (pss_one (ps_if ((pw_or (pt_cmpR (op_neD hr.units) (pe_m (d := d_House_take) (c_House T) (m_House_take T) (ok_House_take T) (hr.mono (by decide)) (pv 2) (pa_cons (pv 13) pa_nil)) (pv 14) (nomark _)) (pw_or1 (pt_cmpR (op_neD hr.units) (pe_m (d := d_House_take) (c_House T) (m_House_take T) (ok_House_take T) (hr.mono (by decide)) (pv 8) (pa_cons (pv 13) pa_nil)) (pv 14) (nomark _))))).pt (pss_one (ps_ret pe_bl)) pss_nil))))))
    (pss_one (ps_ret (pe_and (pe_cmpR (op_eqD hr.units) (pe_f (ok__law_all T) (hr.mono (by decide)) (by rfl) (g__law_all T) (pa_cons (pv 8) pa_nil)) (pe_f (ok__law_all T) (hr.mono (by decide)) (by rfl) (g__law_all T) (pa_cons (pv 2) pa_nil)) (nomark _)) (pe_one (pe_cmpR op_eq (pe_f (ok_keep_house T) (hr.mono (by decide)) (by rfl) (g_keep_house T) (pa_cons (pv 8) pa_nil)) (pe_f (ok_keep_house T) (hr.mono (by decide)) (by rfl) (g_keep_house T) (pa_cons (pv 2) pa_nil)) (nomark _))))))))))))))), ?_⟩
  obtain ⟨ps, xs, rfl, hps, hxl, q⟩ := h
  refine ⟨_, rfl, ps, xs, rfl, hps, hxl, fun pd progs H1 s1 hpd hpg hpo => ?_⟩
  have hk0 : Hk (HS.init progs) 0 0 := hinit_ok (fun q hq => (hpo q hq).1) fun q hq => (hpo q hq).2
  have hpgAt : ∀ {Hx : Hp} (Lx : Same H1 Hx), ∃ pgV, Hx pd = some (.dK (mk2 Sum.inr id pgV)) ∧ ∀ (q : Addr), Hx q = none → PgAt K (upd Hx q (.dK (mk2 Sum.inr id pgV))) q progs := fun {Hx} Lx => by
    obtain ⟨pgV, k1, k2⟩ := hpg
    exact ⟨pgV, Lx _ _ k1, fun q hq => ⟨pgV, upd_same, PK2.mono k2 fun _ _ z => TD.fx (Same.fx (Lx.trans (Same.new hq))) _ _ z⟩⟩
  obtain ⟨pgV, k1, g1⟩ := hpgAt (Same.refl H1)
  refine ⟨_, rfl, pd, _, rfl, .inl k1, fun p2 hp2 am dx h1 h2 hne => ?_⟩
  have hpg2 := g1 p2 hp2
  have s2 := Same.new (o := .dK (mk2 Sum.inr id pgV)) hp2
  have m2 : upd H1 p2 (.dK (mk2 Sum.inr id pgV)) p2 ≠ none := by rw [upd_same]; exact fun z => nomatch z
  generalize upd H1 p2 (.dK (mk2 Sum.inr id pgV)) = H2 at *
  have sa : Same H2 (upd (upd H2 dx (.own am)) am (.ins (cH K) dx [])) := (Same.new h2).trans (Same.new (by rw [upd_ne (Ne.symm hne)]; exact h1))
  refine ⟨am, dx, p2, progs, rfl, upd_same, hpg2.keep (fun o e => sa _ _ e) (Same.fx sa), (fun z => by rw [z] at m2; exact m2 h1), fun H3 Xm Rm0 keep fresh xpd => ⟨rfl, ?_⟩⟩
  have s3 : Same H2 H3 := fun b o e => keep b o (sa _ _ e) (fun z => by rw [z, h1] at e; cases e)
  have f3 : ∀ b ∈ Xm.F am, H2 b = none := fun b hb => by
    rcases fresh b hb with z | z
    · rw [z]; exact h1
    · cases e : H2 b with
      | none => rfl
      | some o => cases (sa _ _ e).symm.trans z
  have s13 := s2.trans s3
  have hpg3 : PgAt K H3 pd progs := hpg.keep (fun o e => s13 _ _ e) (Same.fx s13)
  refine ⟨_, rfl, pd, progs, rfl, hpg3, fun al H4 Xl Rl hlp s4 fl => ?_⟩
  have s14 := s13.trans s4
  refine ⟨_, rfl, _, rfl, _, rfl, ps, _, rfl, Same.sql (s1.trans s14) hps, fun pc hpc => ?_⟩
  obtain ⟨cs, ecs, hcs⟩ := cut_cells xs
  rw [ecs]
  have s5 := Same.new (o := .lst (cs.map V.int)) hpc
  have m5 : upd H4 pc (.lst (cs.map V.int)) pc = some (.lst (cs.map V.int)) := upd_same
  generalize upd H4 pc (.lst (cs.map V.int)) = H5 at *
  have s15 := s14.trans s5
  refine ⟨_, rfl, _, rfl, le_line rfl, fun pz hpz => ⟨ps, pz, xs.map V.int, [.int 0], rfl, rfl, Same.sql ((s1.trans s15).trans (Same.new hpz)) hps, SqL.of upd_same, by rw [sizeLine_eq, List.length_map]; show xs.length + 1 ≤ _; omega, fun py hpy => ?_⟩⟩
  obtain ⟨c0, hc0⟩ := cell (xs := xs) (zs := [0]) (i := 0) (by decide) (by show (0:Int) < (xs.length : Int) + 1; omega)
  have s56 := (Same.new (o := .lst [.int 0]) hpz).trans (Same.new (o := .lst (xs.map V.int ++ [.int 0])) hpy)
  refine ⟨py, _, _, _, rfl, rfl, SqL.of upd_same, hc0, ps, xs, c0, 77, rfl, Same.sql ((s1.trans s15).trans s56) hps, fun ph H6 s6 hph ha => ?_⟩
  have s66 := s56.trans s6
  have hph5 := Same.free s56 hph
  have hcp : pc ≠ ph := fun z => by rw [z, hph5] at m5; cases m5
  have m6 := s66 _ _ m5
  refine ⟨_, rfl, _, rfl, pc, _, rfl, .inl (SqL.of m6), _, _, rfl, rfl, ph, _, rfl, ha, by omega, by rw [List.length_map]; omega, fun i1 H7 _ _ t7 => ?_⟩
  have m7 := t7.get m6 hcp
  refine ⟨_, rfl, _, rfl, pc, _, rfl, .inl (SqL.of m7), _, _, rfl, rfl, ph, _, rfl, t7.ha, by omega, by rw [List.length_map]; omega, fun i2 H8 _ _ t8 => ?_⟩
  have s58 : Same H5 H8 := (t7.trans t8).old s66 hph5
  have s18 := s15.trans s58
  obtain ⟨pgV8, k8, g8⟩ := hpgAt s18
  refine ⟨_, rfl, pd, _, rfl, .inl k8, fun p9 hp9 => ⟨p9, progs, [], rfl, g8 p9 hp9, hk0, (fun _ z => nomatch z), Nat.zero_le _, fun H9 ar Xr Rr s9 fr => ?_⟩⟩
  have s89 := (Same.new (o := .dK (mk2 Sum.inr id pgV8)) hp9).trans s9
  have s59 := s58.trans s89
  refine ⟨_, rfl, le_line rfl, fun pz2 hpz2 => ⟨pc, pz2, cs.map V.int, [.int 0], rfl, rfl, SqL.of (Same.new hpz2 _ _ (s59 _ _ m5)), SqL.of upd_same, by rw [sizeLine_eq, List.length_map]; show cs.length + 1 ≤ _; omega, fun pl hpl => ?_⟩⟩
  have s99 := (Same.new (o := .lst [.int 0]) hpz2).trans (Same.new (o := .lst (cs.map V.int ++ [.int 0])) hpl)
  have mL : upd (upd H9 pz2 (.lst [.int 0])) pl (.lst (cs.map V.int ++ [.int 0])) pl = some (.lst (cs.map V.int ++ [.int 0])) := upd_same
  have hpl9 : H9 pl = none := Same.free (Same.new hpz2) hpl
  generalize upd (upd H9 pz2 (.lst [.int 0])) pl (.lst (cs.map V.int ++ [.int 0])) = HL at *
  have sH8 : Same H8 (upd H8 p9 (.dK (mk2 Sum.inr id pgV8))) := Same.new hp9
  generalize upd H8 p9 (.dK (mk2 Sum.inr id pgV8)) = H8' at *
  have s38 : Same H3 H8' := (((s4.trans s5).trans s58).trans sH8)
  have s48 : Same H4 H8' := ((s5.trans s58).trans sH8)
  have s39 := s38.trans s9
  have s49 := s48.trans s9
  have RmL := Rm0.same (s39.trans s99)
  have RlL := Rl.same (s49.trans s99)
  have RrL := Rr.same s99
  have mr : ∀ b ∈ Xm.F am, b ∉ Xr.F ar := fun b hb m => (Rm0.same s38).some b hb (fr b m)
  have ml : ∀ b ∈ Xm.F am, b ∉ Xl.F al := fun b hb m => Rm0.some b hb (fl b m)
  have rl : ∀ b ∈ Xr.F ar, b ∉ Xl.F al := fun b hb m => (Rl.same s48).some b m (fr b hb)
  have s1L : Same H1 HL := (s18.trans sH8).trans (s9.trans s99)
  have fA : ∀ b ∈ Xm.F am ++ (Xl.F al ++ Xr.F ar), H1 b = none := fun b hb => by
    rcases List.mem_append.mp hb with z | z
    · exact Same.free s2 (f3 b z)
    · rcases List.mem_append.mp z with z | z
      · exact Same.free s13 (fl b z)
      · exact Same.free (s18.trans sH8) (fr b z)
  have nL : pl ∉ Xm.F am ++ (Xl.F al ++ Xr.F ar) := fun hb => by
    rcases List.mem_append.mp hb with z | z
    · exact (Rm0.same s39).some pl z hpl9
    · rcases List.mem_append.mp z with z | z
      · exact (Rl.same s49).some pl z hpl9
      · exact Rr.some pl z hpl9
  have b1 : Same H1 (offs HL (Xm.F am ++ (Xl.F al ++ Xr.F ar))) := offs_mono s1L fA
  have bL : offs HL (Xm.F am ++ (Xl.F al ++ Xr.F ar)) pl = some (.lst (cs.map V.int ++ [.int 0])) := (offs_out nL).trans mL
  have bps : SqL K (offs HL (Xm.F am ++ (Xl.F al ++ Xr.F ar))) ps (xs.map V.int) := Same.sql (s1.trans b1) hps
  have L0 : L3 K (offs HL (Xm.F am ++ (Xl.F al ++ Xr.F ar))) HL pd progs am (HS.init progs) [] Xm ar (HS.init progs) [] Xr al (HS.init progs) Xl :=
    ⟨RmL, RrL, RlL, hlp, hpg.keep (fun o e => b1 _ _ e) (Same.fx b1), offs_same, fun b hb => offs_in (List.mem_append_left _ hb), fun b hb => offs_in (List.mem_append_right _ (List.mem_append_right _ hb)), fun b hb => offs_in (List.mem_append_right _ (List.mem_append_left _ hb)), mr, ml, rl⟩
  have G0 : Good progs (HS.init progs) [] 0 := ⟨hk0, rfl, by show (0:Int) ≤ 0; omega, rfl, fun _ z => nomatch z⟩
  generalize offs HL (Xm.F am ++ (Xl.F al ++ Xr.F ar)) = B at *
  have hlen : (cs.map V.int ++ [V.int 0]).length ≤ 41 := by rw [List.length_append, List.length_map]; show cs.length + 1 ≤ 41; omega
  refine ⟨pl, cs.map V.int ++ [.int 0], rfl, SqL.of mL, for_it (walk_enum (xs := cs.map V.int ++ [.int 0])) (fun i σ H' => ∃ (ar : Addr) (s : HS) (came : List Inp) (Xm Xr : HX) (Xl : LX) (u9 u10 u11 u12 u13 u14 : Option V),
    σ = [some (.ref ps), some (.ref pd), some (.ref am), some (.ref al), some (.ref pc), some (.ref ph), some (.int i1), some (.int i2), some (.ref ar), u9, u10, u11, u12, u13, u14] ∧ L3 K B H' pd progs am s came Xm ar s came Xr al s Xl ∧ Good progs s came i) ⟨ar, _, [], Xm, Xr, Xl, _, _, _, _, _, _, rfl, L0, G0⟩ ?_ ?_ ?_⟩
  · rintro i σ H' _ ⟨ar, s, came, Xm, Xr, Xl, u9, u10, u11, u12, u13, u14, _, L, _⟩
    exact SqL.of (L.b _ _ bL)
  · rintro i x σ H' H'' hi ⟨ar, s, came, Xm, Xr, Xl, u9, u10, u11, u12, u13, u14, rfl, L, G⟩ ⟨T2, y1, y2, rfl, hT, rfl, e1, e2⟩
    cases e1
    obtain ⟨c, _, rfl⟩ := ints_mem (l := cs ++ [0]) (by rw [List.map_append]; exact List.mem_of_getElem? e2)
    have LT := L.same (Same.new (o := .tup [.int (i : Nat), .int c]) hT)
    have hi42 : i < 42 := by omega
    refine ⟨T2, _, rfl, SqT.of upd_same, rfl, _, _, rfl, _, _, rfl, rfl, ?_⟩
    refine ⟨_, rfl, _, rfl, _, rfl, le_line rfl, fun pt hpt => ⟨pt, [.int i1, .int i2], rfl, .inr (SqT.of upd_same), rfl, rfl, _, rfl, ?_⟩⟩
    have LP := LT.same (Same.new (o := .tup [.int i1, .int i2]) hpt)
    by_cases hin : inV (.int (i : Int)) [.int i1, .int i2] = true
    · refine ifT hin ?_
      exact then_ok LP G hi42 hk0 fun a' X' v11 v12 H9 L9 => cont_ok L9 bps G hi42 fun x Xm' Xr' Xl' v13 v14 H10 L10 G10 => ⟨a', _, _, Xm', Xr', Xl', _, _, _, _, _, _, rfl, L10, G10⟩
    · refine ifF (Bool.eq_false_iff.mpr hin) ?_
      exact cont_ok LP bps G hi42 fun x Xm' Xr' Xl' v13 v14 H10 L10 G10 => ⟨ar, _, _, Xm', Xr', Xl', _, _, _, _, _, _, rfl, L10, G10⟩
  · rintro σ H' ⟨ar, s, came, Xm, Xr, Xl, u9, u10, u11, u12, u13, u14, rfl, L, G⟩
    have htk : ∀ x ∈ came, Inp.tk x := fun x hx => (G.tk x hx).1
    have hcl : came.length ≤ 41 := by rw [G.len]; exact hlen
    have hA : Sd 4 (.list (allD s came)) := sd_allD G.hk htk
    refine ⟨_, rfl, ar, s, came, Xr, _, _, rfl, L.r, G.hk, fun p7 H7 s7 hp7 d7 => ⟨_, rfl, am, s, came, Xm, _, _, rfl, (L.same s7).m, G.hk, fun p8 H8 s8 hp8 d8 => ⟨_, _, Dp.same s8 _ _ d7, d8, hA.shaped, hA.shaped, ?_⟩⟩⟩
    have L8 := (L.same s7).same s8
    refine ⟨_, rfl, ifT hA.refl ⟨_, rfl, ar, s, came, Xr, rfl, L8.r, htk, by omega, fun H9 s9 => ⟨_, rfl, am, s, came, Xm, rfl, (L8.same s9).m, htk, by omega, fun H10 s10 => ⟨rfl, ?_⟩⟩⟩⟩
    rw [decide_eq_true (rfl : V.str (textS came) = V.str (textS came))]
    exact q H10
end
end Ol
namespace Ol
open PySem PySem.Spec PyProof.Rows L2
theorem facts {P : Program} {w : World} {K : PySem.W.Frag} {h : Heap} {mg : Str → Option Value} {f : Addr} (X : K.In h) (G : h.Ns mainGlobals mg) (hfa : mg ("law" : Str) = some (.ref f)) (c : He.SaysT fa fn ts w K) (he : ex K = true) :
    ∃ fd : FuncData, (∀ (s : Shared) (v : Value), BindsTo s fd ⟨[v], []⟩ [("script", v)]) ∧ ∀ base : Heap, K.In base → base.Ns mainGlobals mg → FnOk P w K mg base CX0 15 f fd ["script"] (spLaw K) := by
  have T : Tx w K mg := ⟨h, X, G, c, he⟩
  obtain ⟨fd, F⟩ := F_law T
  have e := hfa.symm.trans (g_law T)
  cases e
  have b := FunD.bindsA (ps := ["script"]) F fun _ _ _ _ _ _ us hl => match us, hl with | [_], _ => rfl
  exact ⟨fd, fun s v => b s [v] rfl, fun base _ _ => law_fn T F⟩
end Ol
open PySem PySem.W PySem.Calls PyProof.Rows
theorem PySem.Challenge.cw_outlast_k59_whole_comes_up_holds : PySem.Challenge.rw_outlast_k59_whole_comes_up.Holds := by
  w_on; o_law
  refine HandSHeadRun.head_any (r := OpenLaw.row PySem.Challenge.rw_outlast_k59_whole_comes_up) (q := view (OpenLaw.row PySem.Challenge.rw_outlast_k59_whole_comes_up).prog [63]) (H := Ol.hk) (ob := Ol.ob) (M := 4000) (loose := Ol.names) (d := HandSHeadRun.topDef (OpenLaw.row PySem.Challenge.rw_outlast_k59_whole_comes_up).prog 63) (kwd := []) Ol.ob_eq
    (by kernel_rfl) (fun s => by kernel_rfl) Ol.run (by kernel_rfl) (by kernel_rfl) (by kernel_rfl) (by rfl) (by first | assumption | decide +kernel) (by decide +kernel) ⟨rfl, rfl, rfl, rfl, rfl, by decide +kernel⟩ ?hw ?hc
  case hw => w_witness2
  case hc =>
    refine L2.walk_ofE (l := PySem.Challenge.rw_outlast_k59_whole_comes_up) (n := 63) (k := 15) (x := "script") (CX := L2.CX0) rfl (by decide) (by kernel_rfl) ⟨rfl, by decide, by decide⟩ ?F (fun _ _ _ _ z => z)
    intro w mg fa h Y G hmg0
    obtain ⟨K, KX, c⟩ := Y
    have hmg : mg ("law" : PySem.Str) = some (.ref fa) := by
      have e : (HandSHeadRun.topDef (OpenLaw.row PySem.Challenge.rw_outlast_k59_whole_comes_up).prog 63).name = ("law" : PySem.Str) := by kernel_rfl
      rw [← e]
      exact hmg0
    obtain ⟨fd, hb, hF⟩ := Ol.facts (P := (PySem.Challenge.rw_outlast_k59_whole_comes_up).prog) (w := w) KX G hmg c.t c.more
    exact ⟨K, fd, Ol.spLaw K, KX, hb, fun H a ns hl _ hS => ⟨a, ns, rfl, hS, by omega, fun _ => rfl⟩, hF⟩
