import PyProof.Rows.All
import Wide.All
import OpenK.AllK
import Wide.FinOn
import KE.KStateDown
import KE.DataMinMax
import HandS.Base
import HandS.Call
import HandS.List
import HandS.Comp
import HandS.Ends
import HandS.Dict
import HandS.Iter
import HandS.Text
import HandS.More
import HandS.Exc
import HandS.TryOnly
import HandS.ExcOwn
import HandS.CallSlots
import HandS.CallRecv
import HandS.Words
import HandS.WordsList
import HandS.WordsDict
import HandS.WordsExc
import HandS.Defaults
import HandS.SortKw
import HandS.IsInst
import HandS.TupAny
import HandS.Zip
import HandS.Flow
import HandS.Head0
import HandS.Head1
import HandS.Head2
import HandS.HeadEnd
import HandS.HeadHook1
import HandS.HeadHook2
import HandS.HeadHook3
import HandS.HeadHook4
import PySem.Str
import HandS.Walk
import HandS.Keys
import HandS.Lambda
import KE.GoesMore
import PySem.Challenge.RW_bellbook_k37_whole_walk
set_option Elab.async false
set_option linter.all false
set_option maxRecDepth 100000
set_option maxHeartbeats 4000000
/-! X0: the text by places. -/
namespace BB
open PySem L2
def top (i : Nat) : Stmt := PySem.Challenge.pw_bellbook_k37_whole_walk.main.body.getD i (.Pass ⟨0, 0, 0, 0⟩)
abbrev s_is_name : Stmt := top 15
abbrev s_checked_name : Stmt := top 16
abbrev s_checked_number : Stmt := top 17
abbrev s_in_view : Stmt := top 21
abbrev s_made : Stmt := top 22
abbrev s_with_left : Stmt := top 23
abbrev s_fresh : Stmt := top 24
abbrev s_renews : Stmt := top 25
abbrev s_filled : Stmt := top 26
abbrev s_lessened : Stmt := top 27
abbrev s_ahead : Stmt := top 28
abbrev s_allows : Stmt := top 29
abbrev s_other_side : Stmt := top 30
abbrev s_wanted : Stmt := top 32
abbrev s_offered : Stmt := top 33
abbrev s_volume : Stmt := top 34
abbrev s_limits : Stmt := top 35
abbrev s_limit_of : Stmt := top 36
abbrev s_poured : Stmt := top 38
abbrev s_rank_at : Stmt := top 40
abbrev s_call_price : Stmt := top 41
abbrev s_parts_of : Stmt := top 42
abbrev s_paired : Stmt := top 43
abbrev s_line_behind : Stmt := top 44
abbrev s_called : Stmt := top 45
abbrev s_joined : Stmt := top 47
abbrev s_served : Stmt := top 48
abbrev s_met : Stmt := top 50
abbrev s_could : Stmt := top 51
abbrev s_Kind_lets : Stmt := inClass (top 53) 0
abbrev s_Kind_keeps : Stmt := inClass (top 53) 1
abbrev s_Now_keeps : Stmt := inClass (top 55) 0
abbrev s_Whole_lets : Stmt := inClass (top 56) 0
abbrev s_Whole_keeps : Stmt := inClass (top 56) 1
abbrev s_Quiet_lets : Stmt := inClass (top 57) 0
abbrev s_kind_of : Stmt := top 58
abbrev s_entered : Stmt := top 59
abbrev s_Phase_meets : Stmt := inClass (top 61) 0
abbrev s_Phase_takes : Stmt := inClass (top 61) 1
abbrev s_Phase_rests_asleep : Stmt := inClass (top 61) 2
abbrev s_Phase_leads : Stmt := inClass (top 61) 3
abbrev s_Open_meets : Stmt := inClass (top 62) 0
abbrev s_Open_takes : Stmt := inClass (top 62) 1
abbrev s_Open_rests_asleep : Stmt := inClass (top 62) 2
abbrev s_Open_leads : Stmt := inClass (top 62) 3
abbrev s_Call_takes : Stmt := inClass (top 63) 0
abbrev s_Call_rests_asleep : Stmt := inClass (top 63) 1
abbrev s_Call_leads : Stmt := inClass (top 63) 2
abbrev s_Halt_leads : Stmt := inClass (top 64) 0
abbrev s_phase_of : Stmt := top 65
abbrev s_named : Stmt := top 67
abbrev s_unnamed : Stmt := top 68
abbrev s_exchanged : Stmt := top 69
abbrev s_is_met : Stmt := top 70
abbrev s_told : Stmt := top 71
abbrev s_Floor_init : Stmt := inClass (top 72) 0
abbrev s_Floor_line_of : Stmt := inClass (top 72) 1
abbrev s_Floor_set_line : Stmt := inClass (top 72) 2
abbrev s_Floor_known : Stmt := inClass (top 72) 3
abbrev s_Floor_enter : Stmt := inClass (top 72) 4
abbrev s_Floor_come_in : Stmt := inClass (top 72) 5
abbrev s_Floor_first_awake : Stmt := inClass (top 72) 6
abbrev s_Floor_woken : Stmt := inClass (top 72) 7
abbrev s_Floor_lay : Stmt := inClass (top 72) 8
abbrev s_Floor_find : Stmt := inClass (top 72) 9
abbrev s_Floor_take_out : Stmt := inClass (top 72) 10
abbrev s_Floor_lessen : Stmt := inClass (top 72) 11
abbrev s_Floor_turn : Stmt := inClass (top 72) 12
abbrev s_Floor_look : Stmt := inClass (top 72) 13
abbrev s_law_cell_at : Stmt := top 74
abbrev s_law_name : Stmt := top 75
abbrev s_law_whole : Stmt := top 76
abbrev s_law_alike : Stmt := top 77
abbrev s_law_deed : Stmt := top 78
abbrev s_law_done : Stmt := top 79
abbrev s_law_floor : Stmt := top 80
abbrev s_law_fits : Stmt := top 81
abbrev s_law_anew : Stmt := top 82
abbrev s_law_joined : Stmt := top 83
abbrev s_law_allowed : Stmt := top 84
abbrev s_law_met_first : Stmt := top 85
abbrev s_law_called : Stmt := top 86
abbrev s_law_came : Stmt := top 87
abbrev s_law_ended : Stmt := top 88
abbrev s_law_could : Stmt := top 89
abbrev s_law_begin : Stmt := top 90
abbrev s_law_put_otherwise : Stmt := top 91
abbrev s_law_lessened : Stmt := top 92
abbrev s_law_step : Stmt := top 93
abbrev s_law : Stmt := top 94
end BB
set_option Elab.async false
set_option linter.all false
set_option maxRecDepth 100000
set_option maxHeartbeats 0
/-! H0: the head: facts by names, the run of the top. -/
namespace BB
open PySem PySem.Spec PyProof.Rows L2
def d_is_name : He.DefD := ⟨("is_name", none), "is_name", "is_name", defArgs s_is_name, defBody s_is_name, defScope s_is_name, [], []⟩
def d_checked_name : He.DefD := ⟨("checked_name", none), "checked_name", "checked_name", defArgs s_checked_name, defBody s_checked_name, defScope s_checked_name, [], []⟩
def d_checked_number : He.DefD := ⟨("checked_number", none), "checked_number", "checked_number", defArgs s_checked_number, defBody s_checked_number, defScope s_checked_number, [], []⟩
def d_in_view : He.DefD := ⟨("in_view", none), "in_view", "in_view", defArgs s_in_view, defBody s_in_view, defScope s_in_view, [], []⟩
def d_made : He.DefD := ⟨("made", none), "made", "made", defArgs s_made, defBody s_made, defScope s_made, [.int 0], []⟩
def d_with_left : He.DefD := ⟨("with_left", none), "with_left", "with_left", defArgs s_with_left, defBody s_with_left, defScope s_with_left, [], []⟩
def d_fresh : He.DefD := ⟨("fresh", none), "fresh", "fresh", defArgs s_fresh, defBody s_fresh, defScope s_fresh, [], []⟩
def d_renews : He.DefD := ⟨("renews", none), "renews", "renews", defArgs s_renews, defBody s_renews, defScope s_renews, [], []⟩
def d_filled : He.DefD := ⟨("filled", none), "filled", "filled", defArgs s_filled, defBody s_filled, defScope s_filled, [], []⟩
def d_lessened : He.DefD := ⟨("lessened", none), "lessened", "lessened", defArgs s_lessened, defBody s_lessened, defScope s_lessened, [], []⟩
def d_ahead : He.DefD := ⟨("ahead", none), "ahead", "ahead", defArgs s_ahead, defBody s_ahead, defScope s_ahead, [], []⟩
def d_allows : He.DefD := ⟨("allows", none), "allows", "allows", defArgs s_allows, defBody s_allows, defScope s_allows, [], []⟩
def d_other_side : He.DefD := ⟨("other_side", none), "other_side", "other_side", defArgs s_other_side, defBody s_other_side, defScope s_other_side, [], []⟩
def d_wanted : He.DefD := ⟨("wanted", none), "wanted", "wanted", defArgs s_wanted, defBody s_wanted, defScope s_wanted, [], []⟩
def d_offered : He.DefD := ⟨("offered", none), "offered", "offered", defArgs s_offered, defBody s_offered, defScope s_offered, [], []⟩
def d_volume : He.DefD := ⟨("volume", none), "volume", "volume", defArgs s_volume, defBody s_volume, defScope s_volume, [], []⟩
def d_limits : He.DefD := ⟨("limits", none), "limits", "limits", defArgs s_limits, defBody s_limits, defScope s_limits, [], []⟩
def d_limit_of : He.DefD := ⟨("limit_of", none), "limit_of", "limit_of", defArgs s_limit_of, defBody s_limit_of, defScope s_limit_of, [], []⟩
def d_poured : He.DefD := ⟨("poured", none), "poured", "poured", defArgs s_poured, defBody s_poured, defScope s_poured, [], []⟩
def d_rank_at : He.DefD := ⟨("rank_at", none), "rank_at", "rank_at", defArgs s_rank_at, defBody s_rank_at, defScope s_rank_at, [], []⟩
def d_call_price : He.DefD := ⟨("call_price", none), "call_price", "call_price", defArgs s_call_price, defBody s_call_price, defScope s_call_price, [], []⟩
def d_parts_of : He.DefD := ⟨("parts_of", none), "parts_of", "parts_of", defArgs s_parts_of, defBody s_parts_of, defScope s_parts_of, [], []⟩
def d_paired : He.DefD := ⟨("paired", none), "paired", "paired", defArgs s_paired, defBody s_paired, defScope s_paired, [], []⟩
def d_line_behind : He.DefD := ⟨("line_behind", none), "line_behind", "line_behind", defArgs s_line_behind, defBody s_line_behind, defScope s_line_behind, [], []⟩
def d_called : He.DefD := ⟨("called", none), "called", "called", defArgs s_called, defBody s_called, defScope s_called, [], []⟩
def d_joined : He.DefD := ⟨("joined", none), "joined", "joined", defArgs s_joined, defBody s_joined, defScope s_joined, [], []⟩
def d_served : He.DefD := ⟨("served", none), "served", "served", defArgs s_served, defBody s_served, defScope s_served, [], []⟩
def d_met : He.DefD := ⟨("met", none), "met", "met", defArgs s_met, defBody s_met, defScope s_met, [], []⟩
def d_could : He.DefD := ⟨("could", none), "could", "could", defArgs s_could, defBody s_could, defScope s_could, [], []⟩
def d_kind_of : He.DefD := ⟨("kind_of", none), "kind_of", "kind_of", defArgs s_kind_of, defBody s_kind_of, defScope s_kind_of, [], []⟩
def d_entered : He.DefD := ⟨("entered", none), "entered", "entered", defArgs s_entered, defBody s_entered, defScope s_entered, [], []⟩
def d_phase_of : He.DefD := ⟨("phase_of", none), "phase_of", "phase_of", defArgs s_phase_of, defBody s_phase_of, defScope s_phase_of, [], []⟩
def d_named : He.DefD := ⟨("named", none), "named", "named", defArgs s_named, defBody s_named, defScope s_named, [], []⟩
def d_unnamed : He.DefD := ⟨("unnamed", none), "unnamed", "unnamed", defArgs s_unnamed, defBody s_unnamed, defScope s_unnamed, [], []⟩
def d_exchanged : He.DefD := ⟨("exchanged", none), "exchanged", "exchanged", defArgs s_exchanged, defBody s_exchanged, defScope s_exchanged, [], []⟩
def d_is_met : He.DefD := ⟨("is_met", none), "is_met", "is_met", defArgs s_is_met, defBody s_is_met, defScope s_is_met, [], []⟩
def d_told : He.DefD := ⟨("told", none), "told", "told", defArgs s_told, defBody s_told, defScope s_told, [], []⟩
def d_Floor_init : He.DefD := ⟨("Floor", some "__init__"), "__init__", "Floor.__init__", defArgs s_Floor_init, defBody s_Floor_init, defScope s_Floor_init, [], []⟩
def d_Floor_line_of : He.DefD := ⟨("Floor", some "line_of"), "line_of", "Floor.line_of", defArgs s_Floor_line_of, defBody s_Floor_line_of, defScope s_Floor_line_of, [], []⟩
def d_Floor_set_line : He.DefD := ⟨("Floor", some "set_line"), "set_line", "Floor.set_line", defArgs s_Floor_set_line, defBody s_Floor_set_line, defScope s_Floor_set_line, [], []⟩
def d_Floor_known : He.DefD := ⟨("Floor", some "known"), "known", "Floor.known", defArgs s_Floor_known, defBody s_Floor_known, defScope s_Floor_known, [], []⟩
def d_Floor_enter : He.DefD := ⟨("Floor", some "enter"), "enter", "Floor.enter", defArgs s_Floor_enter, defBody s_Floor_enter, defScope s_Floor_enter, [], []⟩
def d_Floor_come_in : He.DefD := ⟨("Floor", some "come_in"), "come_in", "Floor.come_in", defArgs s_Floor_come_in, defBody s_Floor_come_in, defScope s_Floor_come_in, [], []⟩
def d_Floor_first_awake : He.DefD := ⟨("Floor", some "first_awake"), "first_awake", "Floor.first_awake", defArgs s_Floor_first_awake, defBody s_Floor_first_awake, defScope s_Floor_first_awake, [], []⟩
def d_Floor_woken : He.DefD := ⟨("Floor", some "woken"), "woken", "Floor.woken", defArgs s_Floor_woken, defBody s_Floor_woken, defScope s_Floor_woken, [], []⟩
def d_Floor_lay : He.DefD := ⟨("Floor", some "lay"), "lay", "Floor.lay", defArgs s_Floor_lay, defBody s_Floor_lay, defScope s_Floor_lay, [], []⟩
def d_Floor_find : He.DefD := ⟨("Floor", some "find"), "find", "Floor.find", defArgs s_Floor_find, defBody s_Floor_find, defScope s_Floor_find, [], []⟩
def d_Floor_take_out : He.DefD := ⟨("Floor", some "take_out"), "take_out", "Floor.take_out", defArgs s_Floor_take_out, defBody s_Floor_take_out, defScope s_Floor_take_out, [], []⟩
def d_Floor_lessen : He.DefD := ⟨("Floor", some "lessen"), "lessen", "Floor.lessen", defArgs s_Floor_lessen, defBody s_Floor_lessen, defScope s_Floor_lessen, [], []⟩
def d_Floor_turn : He.DefD := ⟨("Floor", some "turn"), "turn", "Floor.turn", defArgs s_Floor_turn, defBody s_Floor_turn, defScope s_Floor_turn, [], []⟩
def d_Floor_look : He.DefD := ⟨("Floor", some "look"), "look", "Floor.look", defArgs s_Floor_look, defBody s_Floor_look, defScope s_Floor_look, [], []⟩
def d_law_cell_at : He.DefD := ⟨("_law_cell_at", none), "_law_cell_at", "_law_cell_at", defArgs s_law_cell_at, defBody s_law_cell_at, defScope s_law_cell_at, [], []⟩
def d_law_name : He.DefD := ⟨("_law_name", none), "_law_name", "_law_name", defArgs s_law_name, defBody s_law_name, defScope s_law_name, [], []⟩
def d_law_whole : He.DefD := ⟨("_law_whole", none), "_law_whole", "_law_whole", defArgs s_law_whole, defBody s_law_whole, defScope s_law_whole, [], []⟩
def d_law_alike : He.DefD := ⟨("_law_alike", none), "_law_alike", "_law_alike", defArgs s_law_alike, defBody s_law_alike, defScope s_law_alike, [], []⟩
def d_law_deed : He.DefD := ⟨("_law_deed", none), "_law_deed", "_law_deed", defArgs s_law_deed, defBody s_law_deed, defScope s_law_deed, [], []⟩
def d_law_done : He.DefD := ⟨("_law_done", none), "_law_done", "_law_done", defArgs s_law_done, defBody s_law_done, defScope s_law_done, [], []⟩
def d_law_floor : He.DefD := ⟨("_law_floor", none), "_law_floor", "_law_floor", defArgs s_law_floor, defBody s_law_floor, defScope s_law_floor, [], []⟩
def d_law_fits : He.DefD := ⟨("_law_fits", none), "_law_fits", "_law_fits", defArgs s_law_fits, defBody s_law_fits, defScope s_law_fits, [], []⟩
def d_law_anew : He.DefD := ⟨("_law_anew", none), "_law_anew", "_law_anew", defArgs s_law_anew, defBody s_law_anew, defScope s_law_anew, [], []⟩
def d_law_joined : He.DefD := ⟨("_law_joined", none), "_law_joined", "_law_joined", defArgs s_law_joined, defBody s_law_joined, defScope s_law_joined, [], []⟩
def d_law_allowed : He.DefD := ⟨("_law_allowed", none), "_law_allowed", "_law_allowed", defArgs s_law_allowed, defBody s_law_allowed, defScope s_law_allowed, [], []⟩
def d_law_met_first : He.DefD := ⟨("_law_met_first", none), "_law_met_first", "_law_met_first", defArgs s_law_met_first, defBody s_law_met_first, defScope s_law_met_first, [], []⟩
def d_law_called : He.DefD := ⟨("_law_called", none), "_law_called", "_law_called", defArgs s_law_called, defBody s_law_called, defScope s_law_called, [], []⟩
def d_law_came : He.DefD := ⟨("_law_came", none), "_law_came", "_law_came", defArgs s_law_came, defBody s_law_came, defScope s_law_came, [], []⟩
def d_law_ended : He.DefD := ⟨("_law_ended", none), "_law_ended", "_law_ended", defArgs s_law_ended, defBody s_law_ended, defScope s_law_ended, [], []⟩
def d_law_could : He.DefD := ⟨("_law_could", none), "_law_could", "_law_could", defArgs s_law_could, defBody s_law_could, defScope s_law_could, [], []⟩
def d_law_begin : He.DefD := ⟨("_law_begin", none), "_law_begin", "_law_begin", defArgs s_law_begin, defBody s_law_begin, defScope s_law_begin, [], []⟩
def d_law_put_otherwise : He.DefD := ⟨("_law_put_otherwise", none), "_law_put_otherwise", "_law_put_otherwise", defArgs s_law_put_otherwise, defBody s_law_put_otherwise, defScope s_law_put_otherwise, [], []⟩
def d_law_lessened : He.DefD := ⟨("_law_lessened", none), "_law_lessened", "_law_lessened", defArgs s_law_lessened, defBody s_law_lessened, defScope s_law_lessened, [], []⟩
def d_law_step : He.DefD := ⟨("_law_step", none), "_law_step", "_law_step", defArgs s_law_step, defBody s_law_step, defScope s_law_step, [], []⟩
def d_law : He.DefD := ⟨("law", none), "law", "law", defArgs s_law, defBody s_law, defScope s_law, [], []⟩
def d_Limit_lets : He.DefD := ⟨("Limit", some "lets"), "lets", "Kind.lets", defArgs s_Kind_lets, defBody s_Kind_lets, defScope s_Kind_lets, [], []⟩
def d_Limit_keeps : He.DefD := ⟨("Limit", some "keeps"), "keeps", "Kind.keeps", defArgs s_Kind_keeps, defBody s_Kind_keeps, defScope s_Kind_keeps, [], []⟩
def d_Now_lets : He.DefD := ⟨("Now", some "lets"), "lets", "Kind.lets", defArgs s_Kind_lets, defBody s_Kind_lets, defScope s_Kind_lets, [], []⟩
def d_Now_keeps : He.DefD := ⟨("Now", some "keeps"), "keeps", "Now.keeps", defArgs s_Now_keeps, defBody s_Now_keeps, defScope s_Now_keeps, [], []⟩
def d_Whole_lets : He.DefD := ⟨("Whole", some "lets"), "lets", "Whole.lets", defArgs s_Whole_lets, defBody s_Whole_lets, defScope s_Whole_lets, [], []⟩
def d_Whole_keeps : He.DefD := ⟨("Whole", some "keeps"), "keeps", "Whole.keeps", defArgs s_Whole_keeps, defBody s_Whole_keeps, defScope s_Whole_keeps, [], []⟩
def d_Quiet_lets : He.DefD := ⟨("Quiet", some "lets"), "lets", "Quiet.lets", defArgs s_Quiet_lets, defBody s_Quiet_lets, defScope s_Quiet_lets, [], []⟩
def d_Quiet_keeps : He.DefD := ⟨("Quiet", some "keeps"), "keeps", "Kind.keeps", defArgs s_Kind_keeps, defBody s_Kind_keeps, defScope s_Kind_keeps, [], []⟩
def d_Open_meets : He.DefD := ⟨("Open", some "meets"), "meets", "Open.meets", defArgs s_Open_meets, defBody s_Open_meets, defScope s_Open_meets, [], []⟩
def d_Open_takes : He.DefD := ⟨("Open", some "takes"), "takes", "Open.takes", defArgs s_Open_takes, defBody s_Open_takes, defScope s_Open_takes, [], []⟩
def d_Open_rests_asleep : He.DefD := ⟨("Open", some "rests_asleep"), "rests_asleep", "Open.rests_asleep", defArgs s_Open_rests_asleep, defBody s_Open_rests_asleep, defScope s_Open_rests_asleep, [], []⟩
def d_Open_leads : He.DefD := ⟨("Open", some "leads"), "leads", "Open.leads", defArgs s_Open_leads, defBody s_Open_leads, defScope s_Open_leads, [], []⟩
def d_Call_meets : He.DefD := ⟨("Call", some "meets"), "meets", "Phase.meets", defArgs s_Phase_meets, defBody s_Phase_meets, defScope s_Phase_meets, [], []⟩
def d_Call_takes : He.DefD := ⟨("Call", some "takes"), "takes", "Call.takes", defArgs s_Call_takes, defBody s_Call_takes, defScope s_Call_takes, [], []⟩
def d_Call_rests_asleep : He.DefD := ⟨("Call", some "rests_asleep"), "rests_asleep", "Call.rests_asleep", defArgs s_Call_rests_asleep, defBody s_Call_rests_asleep, defScope s_Call_rests_asleep, [], []⟩
def d_Call_leads : He.DefD := ⟨("Call", some "leads"), "leads", "Call.leads", defArgs s_Call_leads, defBody s_Call_leads, defScope s_Call_leads, [], []⟩
def d_Halt_meets : He.DefD := ⟨("Halt", some "meets"), "meets", "Phase.meets", defArgs s_Phase_meets, defBody s_Phase_meets, defScope s_Phase_meets, [], []⟩
def d_Halt_takes : He.DefD := ⟨("Halt", some "takes"), "takes", "Phase.takes", defArgs s_Phase_takes, defBody s_Phase_takes, defScope s_Phase_takes, [], []⟩
def d_Halt_rests_asleep : He.DefD := ⟨("Halt", some "rests_asleep"), "rests_asleep", "Phase.rests_asleep", defArgs s_Phase_rests_asleep, defBody s_Phase_rests_asleep, defScope s_Phase_rests_asleep, [], []⟩
def d_Halt_leads : He.DefD := ⟨("Halt", some "leads"), "leads", "Halt.leads", defArgs s_Halt_leads, defBody s_Halt_leads, defScope s_Halt_leads, [], []⟩
def fn : List He.DefD := [d_is_name, d_checked_name, d_checked_number, d_in_view, d_made, d_with_left, d_fresh, d_renews, d_filled, d_lessened, d_ahead, d_allows, d_other_side, d_wanted, d_offered, d_volume, d_limits, d_limit_of, d_poured, d_rank_at, d_call_price, d_parts_of, d_paired, d_line_behind, d_called, d_joined, d_served, d_met, d_could, d_kind_of, d_entered, d_phase_of, d_named, d_unnamed, d_exchanged, d_is_met, d_told, d_Floor_init, d_Floor_line_of, d_Floor_set_line, d_Floor_known, d_Floor_enter, d_Floor_come_in, d_Floor_first_awake, d_Floor_woken, d_Floor_lay, d_Floor_find, d_Floor_take_out, d_Floor_lessen, d_Floor_turn, d_Floor_look, d_law_cell_at, d_law_name, d_law_whole, d_law_alike, d_law_deed, d_law_done, d_law_floor, d_law_fits, d_law_anew, d_law_joined, d_law_allowed, d_law_met_first, d_law_called, d_law_came, d_law_ended, d_law_could, d_law_begin, d_law_put_otherwise, d_law_lessened, d_law_step, d_law, d_Limit_lets, d_Limit_keeps, d_Now_lets, d_Now_keeps, d_Whole_lets, d_Whole_keeps, d_Quiet_lets, d_Quiet_keeps, d_Open_meets, d_Open_takes, d_Open_rests_asleep, d_Open_leads, d_Call_meets, d_Call_takes, d_Call_rests_asleep, d_Call_leads, d_Halt_meets, d_Halt_takes, d_Halt_rests_asleep, d_Halt_leads]
def fa : List He.Fa := [.glo "is_name", .glo "checked_name", .glo "checked_number", .glo "in_view", .glo "made", .glo "with_left", .glo "fresh", .glo "renews", .glo "filled", .glo "lessened", .glo "ahead", .glo "allows", .glo "other_side", .glo "wanted", .glo "offered", .glo "volume", .glo "limits", .glo "limit_of", .glo "poured", .glo "rank_at", .glo "call_price", .glo "parts_of", .glo "paired", .glo "line_behind", .glo "called", .glo "joined", .glo "served", .glo "met", .glo "could", .glo "kind_of", .glo "entered", .glo "phase_of", .glo "named", .glo "unnamed", .glo "exchanged", .glo "is_met", .glo "told", .glo "_law_cell_at", .glo "_law_name", .glo "_law_whole", .glo "_law_alike", .glo "_law_deed", .glo "_law_done", .glo "_law_floor", .glo "_law_fits", .glo "_law_anew", .glo "_law_joined", .glo "_law_allowed", .glo "_law_met_first", .glo "_law_called", .glo "_law_came", .glo "_law_ended", .glo "_law_could", .glo "_law_begin", .glo "_law_put_otherwise", .glo "_law_lessened", .glo "_law_step", .glo "law", .glo "BourseError", .glo "BadName", .glo "BadNumber", .glo "BadSide", .glo "BadKind", .glo "BadPhase", .glo "NoOrder", .glo "Twice", .glo "NotNow", .glo "Limit", .glo "Now", .glo "Whole", .glo "Quiet", .glo "Open", .glo "Call", .glo "Halt", .glo "Floor", .free "min", .free "len", .free "abs", .free "sorted", .free "range", .free "enumerate", .free "zip", .free "isinstance", .free "int", .free "str", .free "bool", .free "list", .free "tuple", .str "LETTERS" "abcdefghijklmnopqrstuvwxyz", .str "FIGURES" "0123456789", .int "LONGEST" 12, .int "MOST" 1000000000, .int "PEAKS" 16, .cls "Limit", .cls "Now", .cls "Whole", .cls "Quiet", .cls "Open", .cls "Call", .cls "Halt", .cls "Floor", .meth "Limit" "lets", .meth "Limit" "keeps", .meth "Now" "lets", .meth "Now" "keeps", .meth "Whole" "lets", .meth "Whole" "keeps", .meth "Quiet" "lets", .meth "Quiet" "keeps", .meth "Open" "meets", .meth "Open" "takes", .meth "Open" "rests_asleep", .meth "Open" "leads", .meth "Call" "meets", .meth "Call" "takes", .meth "Call" "rests_asleep", .meth "Call" "leads", .meth "Halt" "meets", .meth "Halt" "takes", .meth "Halt" "rests_asleep", .meth "Halt" "leads", .meth "Floor" "line_of", .meth "Floor" "set_line", .meth "Floor" "known", .meth "Floor" "enter", .meth "Floor" "come_in", .meth "Floor" "first_awake", .meth "Floor" "woken", .meth "Floor" "lay", .meth "Floor" "find", .meth "Floor" "take_out", .meth "Floor" "lessen", .meth "Floor" "turn", .meth "Floor" "look", .noat "Floor" "phase", .noat "Floor" "last", .noat "Floor" "leap", .noat "Floor" "buys", .noat "Floor" "sells", .noat "Floor" "asleep", .mkr "Floor", .exc "BadName", .exc "BadNumber", .exc "BadSide", .exc "BadKind", .exc "BadPhase", .exc "NoOrder", .exc "Twice", .exc "NotNow", .exm "BadName" "BourseError" true, .exm "BadNumber" "BourseError" true, .exm "BadSide" "BourseError" true, .exm "BadKind" "BourseError" true, .exm "BadPhase" "BourseError" true, .exm "NoOrder" "BourseError" true, .exm "Twice" "BourseError" true, .exm "NotNow" "BourseError" true]
/-- a class without an own __init__ -/
def plainCls (K : PySem.W.Frag) (x : Str) : Bool := PySem.W.makesIn K (He.ga K x) && (He.eqO (PySem.W.findIn K (.ref (He.ga K x)) "__init__") (some (some (.builtin "object.__init__"))) && PySem.W.keepIn K (.ref (He.ga K x)))
def plains : List Str := ["Limit", "Now", "Whole", "Quiet", "Open", "Call", "Halt"]
def exY (K : PySem.W.Frag) : Bool := plains.all fun x => plainCls K x
/-! ### the Hook: the part of the heap that the facts read -/
def frL {α : Type} : List Addr → (List Addr → α) → α
  | [], k => k []
  | a :: r, k => HandSHeadRun.frNat a fun a => frL r fun r => k (a :: r)
theorem frL_eq {α : Type} : ∀ (l : List Addr) (k : List Addr → α), frL l k = k l
  | [], _ => rfl
  | a :: r, k => by
    show HandSHeadRun.frNat a (fun a => frL r fun r => k (a :: r)) = k (a :: r)
    rw [HandSHeadRun.frNat_eq, frL_eq r]
def refG (o : Obj) : List Addr := match o.data with
  | .dict es _ => es.toList.flatMap fun e => He.refV e.val
  | _ => []
def refC (o : Obj) : List Addr := match o.data with
  | .func fd => He.refV fd.code ++ He.refV fd.defaults
  | .cls cd => [cd.ns]
  | _ => []
def via (g : Addr → Option Obj) (f : Obj → List Addr) (as : List Addr) : List Addr := as.flatMap fun a => match g a with
  | some o => f o
  | none => []
def withK {α : Type} (g : Addr → Option Obj) (k : PySem.W.Frag → α) : α :=
  frL (via g refG [mainGlobals]) fun l1 => frL (via g refC l1) fun l2 => frL (via g refG l2) fun l3 => frL (via g refC l3) fun l4 => k (He.frG g (mainGlobals :: (l1 ++ (l2 ++ (l3 ++ l4)))))
theorem withK_eq {α : Type} (g : Addr → Option Obj) (k : PySem.W.Frag → α) : ∃ as, withK g k = k (He.frG g as) := by
  unfold withK
  simp only [frL_eq]
  exact ⟨_, rfl⟩
abbrev AlY : Type := He.AlD × Bool
def obY (g : Addr → Option Obj) : AlY := withK g fun K => (He.obsD fa fn K, exY K)
structure SaysY (K : PySem.W.Frag) : Prop where
  d : He.SaysD fa fn K
  more : exY K = true
def hk : PySem.W.Hook where
  α := AlY
  obs := fun s => obY s.heap.get?
  val := fun _ => (He.valD fn, true)
  says := fun _ h => ∃ K : PySem.W.Frag, K.In h ∧ SaysY K
  of := fun _ s e => by
    obtain ⟨as, q⟩ := withK_eq s.heap.get? fun K => (He.obsD fa fn K, exY K)
    have e2 : obY s.heap.get? = (He.valD fn, true) := e
    unfold obY at e2
    rw [q] at e2
    exact ⟨_, He.frG_in, congrArg (fun z : AlY => z.1) e2, congrArg (fun z : AlY => z.2) e2⟩
  keeps := fun _ _ _ ⟨K, hK, c⟩ k => ⟨K, PySem.W.Frag.In.keeps hK k, c⟩
abbrev R : PySem.W.OpenRow := PySem.W.OpenLaw.row PySem.Challenge.rw_bellbook_k37_whole_walk
def ob (s : PySem.W.SharedT) : AlY := obY (HandSHeadRun.getT s)
theorem ob_eq (s : PySem.W.SharedT) : ob s = hk.obs s.abs := by
  have e : HandSHeadRun.getT s = s.abs.heap.get? := funext (HandSHeadRun.getT_eq s)
  show obY (HandSHeadRun.getT s) = obY s.abs.heap.get?
  rw [e]
end BB
set_option Elab.async false
set_option linter.all false
set_option maxRecDepth 100000
set_option maxHeartbeats 0
/-! H1: the run of the top, in the kernel. -/
namespace BB
open PySem PySem.Spec PyProof.Rows L2
def loose0 : List Str := ["_wall", "BourseError", "BadName", "BadNumber", "BadSide", "BadKind", "BadPhase", "NoOrder", "Twice", "NotNow", "LETTERS", "FIGURES", "LONGEST", "is_name", "checked_name", "checked_number", "MOST", "PEAKS", "in_view", "made", "with_left", "fresh", "renews", "filled", "lessened", "ahead", "allows", "other_side", "wanted", "offered"]
def loose1 : List Str := ["volume", "limits", "limit_of", "poured", "rank_at", "call_price", "parts_of", "paired", "line_behind", "called", "joined", "served", "met", "could", "Kind", "Limit", "Now", "Whole", "Quiet", "kind_of", "entered", "Phase", "Open", "Call", "Halt", "phase_of", "named", "unnamed", "exchanged", "is_met"]
def loose2 : List Str := ["told", "Floor", "_law_cell_at", "_law_name", "_law_whole", "_law_alike", "_law_deed", "_law_done", "_law_floor", "_law_fits", "_law_anew", "_law_joined", "_law_allowed", "_law_met_first", "_law_called", "_law_came", "_law_ended", "_law_could", "_law_begin", "_law_put_otherwise", "_law_lessened", "_law_step"]
def loose : List Str := loose0 ++ (loose1 ++ (loose2))
theorem run (w : World) : HandSHeadRun.RunEq R (PySem.W.view R.prog [94]) hk ob 9000 loose w := by
  intro os
  kernel_rfl
end BB
/-! M1: the mirror: what the program's floor does, over plain lists. -/
namespace BB
open PySem (Str)
inductive Kd where
  | limit | now | whole | quiet
  deriving DecidableEq, Repr
inductive Ph where
  | opn | call | halt
  deriving DecidableEq, Repr
structure Ord where
  name : Str
  who : Str
  buy : Bool
  price : Int
  left : Int
  shown : Int
  peak : Int
  deriving DecidableEq
def inView (left peak : Int) : Int := if peak = 0 then left else if left < peak then left else peak
def withLeft (o : Ord) (l s : Int) : Ord := { o with left := l, shown := s }
def fresh (o : Ord) (l : Int) : Ord := withLeft o l (inView l o.peak)
def min2 (i j : Int) : Int := if j < i then j else i
def abs1 (i : Int) : Int := if i < 0 then -i else i
def renews (o : Ord) (a : Int) : Bool := decide (a = o.shown) && decide (a < o.left)
def filled (o : Ord) (a : Int) : Option Ord :=
  if o.left - a = 0 then none else if renews o a = true then some (fresh o (o.left - a)) else some (withLeft o (o.left - a) (o.shown - a))
def ahead (buy : Bool) (p q : Int) : Bool := if buy = true then decide (q < p) else decide (p < q)
def allows (buy : Bool) (limit price : Int) : Bool := !ahead buy price limit
def joined : List Ord → Ord → List Ord
  | [], o => [o]
  | h :: t, o => if ahead o.buy o.price h.price = true then o :: h :: t else h :: joined t o
def served : List Ord → Int → List Ord
  | [], _ => []
  | f :: r, a => match filled f a with
    | none => r
    | some b => if renews f a = true then joined r b else b :: r
inductive Step where
  | trade (n : Str) (p a : Int)
  | shun (n : Str) (l : Int)
  | gone (n : Str) (l : Int)
structure Met where
  steps : List Step
  line : List Ord
  left : Int
  halted : Bool
def Met.pre (s : Step) (m : Met) : Met := { m with steps := s :: m.steps }
/-- the meeting: fuel, the order, the last price ahead, the leap; the line, what is left -/
def metF (o : Ord) (last leap : Int) : Nat → List Ord → Int → Met
  | 0, line, l => ⟨[], line, l, false⟩
  | _ + 1, [], l => ⟨[], [], l, false⟩
  | n + 1, h :: t, l =>
    if 0 < l ∧ allows o.buy o.price h.price = true then
      if h.who = o.who then (metF o last leap n t l).pre (.shun h.name h.left)
      else if leap < abs1 (h.price - last) then ⟨[], h :: t, l, true⟩
      else (metF o last leap n (served (h :: t) (min2 l h.shown)) (l - min2 l h.shown)).pre (.trade h.name h.price (min2 l h.shown))
    else ⟨[], h :: t, l, false⟩
def met (o : Ord) (line : List Ord) (last leap : Int) : Met := metF o last leap (line.length + o.left.toNat + 1) line o.left
def could (o : Ord) (line : List Ord) (last leap : Int) : Int := o.left - (met o line last leap).left
def crosses (o : Ord) : List Ord → Bool
  | [] => false
  | h :: _ => allows o.buy o.price h.price
def lets (w : Kd) (cr : Bool) (amount wanted : Int) : Bool := match w with
  | .limit => true
  | .now => true
  | .whole => decide (wanted ≤ amount)
  | .quiet => !cr
def keeps : Kd → Bool
  | .limit => true
  | .quiet => true
  | _ => false
structure Entd where
  steps : List Step
  line : List Ord
  rest : Option Ord
  halted : Bool
def entered (w : Kd) (o : Ord) (line : List Ord) (last leap : Int) : Entd :=
  if lets w (crosses o line) (could o line last leap) o.left = true then
    let m := met o line last leap
    if 0 < m.left ∧ keeps w = true then ⟨m.steps, m.line, some (fresh o m.left), m.halted⟩
    else if 0 < m.left then ⟨m.steps ++ [.gone o.name m.left], m.line, none, m.halted⟩
    else ⟨m.steps, m.line, none, m.halted⟩
  else ⟨[.gone o.name o.left], line, none, false⟩
inductive Fact where
  | trade (b s : Str) (p a : Int)
  | shun (n : Str) (l : Int)
  | gone (n : Str) (l : Int)
  | rest (n : Str) (l : Int)
  | sleep (n : Str) (t : Int)
  | wake (n : Str)
  | out (n : Str) (l : Int)
  | less (n : Str) (l : Int)
  | phase (w : Ph)
def told (o : Ord) : Step → Fact
  | .trade n p a => if o.buy = true then .trade o.name n p a else .trade n o.name p a
  | .shun n l => .shun n l
  | .gone n l => .gone n l
def lastOf (last : Int) : List Step → Int
  | [] => last
  | .trade _ p _ :: r => lastOf p r
  | _ :: r => lastOf last r
structure Slp where
  kd : Kd
  ord : Ord
  trig : Int
structure Floor where
  phase : Ph
  last : Int
  leap : Int
  buys : List Ord
  sells : List Ord
  asleep : List Slp
def Floor.line (F : Floor) (b : Bool) : List Ord := if b = true then F.buys else F.sells
def Floor.setLine (F : Floor) (b : Bool) (l : List Ord) : Floor := if b = true then { F with buys := l } else { F with sells := l }
def Floor.known (F : Floor) : List Ord := F.buys ++ F.sells ++ F.asleep.map (·.ord)
def restOf (e : Entd) : List Fact := match e.rest with
  | some r => [.rest r.name r.left]
  | none => []
def haltOf (e : Entd) : List Fact := if e.halted = true then [.phase .call] else []
def Floor.behind (F : Floor) (o : Ord) (e : Entd) : Floor :=
  let F1 := { F.setLine (!o.buy) e.line with last := lastOf F.last e.steps }
  let F2 := match e.rest with
    | some r => F1.setLine o.buy (joined (F1.line o.buy) r)
    | none => F1
  if e.halted = true then { F2 with phase := .call } else F2
def comeIn (w : Kd) (o : Ord) (F : Floor) : List Fact × Floor :=
  if F.phase = .opn then
    let e := entered w o (F.line (!o.buy)) F.last F.leap
    (e.steps.map (told o) ++ restOf e ++ haltOf e, F.behind o e)
  else ([.rest o.name o.left], F.setLine o.buy (joined (F.line o.buy) o))
def isMet (b : Bool) (trig last : Int) : Bool := if b = true then decide (trig ≤ last) else decide (last ≤ trig)
/-- the first sleeper whose trigger is met, and the others -/
def firstMet (last : Int) : List Slp → Option (Nat × Slp)
  | [] => none
  | s :: r => if isMet s.ord.buy s.trig last = true then some (0, s) else (firstMet last r).map fun p => (p.1 + 1, p.2)
def wokenF : Nat → Floor → List Fact × Floor
  | 0, F => ([], F)
  | n + 1, F => if F.phase = .opn then
      match firstMet F.last F.asleep with
      | none => ([], F)
      | some (k, s) =>
        let r := comeIn s.kd s.ord { F with asleep := F.asleep.take k ++ F.asleep.drop (k + 1) }
        let q := wokenF n r.2
        (.wake s.ord.name :: (r.1 ++ q.1), q.2)
    else ([], F)
def woken (F : Floor) : List Fact × Floor := wokenF F.asleep.length F
def takes (p : Ph) (w : Kd) : Bool := match p with
  | .opn => true
  | .call => decide (w = .limit)
  | .halt => false
def leads (p q : Ph) : Bool := match p with
  | .opn => decide (q = .call) || decide (q = .halt)
  | .call => decide (q = .opn) || decide (q = .halt)
  | .halt => decide (q = .call)
def knows (F : Floor) (n : Str) : Bool := F.known.any fun o => decide (o.name = n)
def enter (w : Kd) (o : Ord) (F : Floor) : Option (List Fact × Floor) :=
  if takes F.phase w = true ∧ knows F o.name = false then
    let r := comeIn w o F
    let q := woken r.2
    some (r.1 ++ q.1, q.2)
  else none
def sleeps : Kd → Bool
  | .limit => true
  | .now => true
  | _ => false
def lay (w : Kd) (o : Ord) (trig : Int) (F : Floor) : Option (List Fact × Floor) :=
  if sleeps w = true ∧ F.phase ≠ .halt ∧ knows F o.name = false then
    let q := woken { F with asleep := F.asleep ++ [⟨w, o, trig⟩] }
    some (.sleep o.name trig :: q.1, q.2)
  else none
def find (n : Str) (F : Floor) : Option Ord := F.known.find? fun o => decide (o.name = n)
def unnamed (n : Str) (l : List Ord) : List Ord := l.filter fun o => !decide (o.name = n)
def takeOut (n : Str) (F : Floor) : Option (List Fact × Floor) := match find n F with
  | none => none
  | some o => some ([.out n o.left], { F with buys := unnamed n F.buys, sells := unnamed n F.sells, asleep := F.asleep.filter fun s => !decide (s.ord.name = n) })
def lessened (o : Ord) (l : Int) : Ord := withLeft o l (min2 o.shown l)
def exchanged (l : List Ord) (o : Ord) : List Ord := l.map fun x => if x.name = o.name then o else x
def lessen (n : Str) (l : Int) (F : Floor) : Option (List Fact × Floor) := match find n F with
  | none => none
  | some o => if 1 ≤ l ∧ l ≤ o.left then
      some ([.less n l], { F with buys := exchanged F.buys (lessened o l), sells := exchanged F.sells (lessened o l), asleep := F.asleep.map fun s => if s.ord.name = n then { s with ord := lessened o l } else s })
    else none
/-! the call -/
def wanted (b : Bool) (price : Int) : List Ord → Int
  | [] => 0
  | o :: r => (if allows b o.price price = true then o.left else 0) + wanted b price r
def volume (buys sells : List Ord) (price : Int) : Int := min2 (wanted true price buys) (wanted false price sells)
def poured : Int → List Int → List Int
  | _, [] => []
  | a, z :: r => min2 z a :: poured (a - min2 z a) r
def partsOf (line : List Ord) (a : Int) : List Int := poured a (line.map (·.left))
def behindOf : List Ord → List Int → List Ord
  | o :: r, p :: ps => if p = 0 then o :: behindOf r ps else if p < o.left then fresh o (o.left - p) :: behindOf r ps else behindOf r ps
  | _, _ => []
def lineBehind (line : List Ord) (a : Int) : List Ord := behindOf line (partsOf line a)
/-- who meets whom: fuel; the buyers' names with what each gets, the sellers' with what each gives -/
def pairs : Nat → List (Str × Int) → List (Str × Int) → List (Str × Str × Int)
  | 0, _, _ => []
  | _ + 1, [], _ => []
  | _ + 1, _ :: _, [] => []
  | n + 1, (b, g) :: bs, (s, h) :: ss => if 0 < g then
      (b, s, min2 g h) :: pairs n ((b, g - min2 g h) :: bs) (if h - min2 g h = 0 then ss else (s, h - min2 g h) :: ss)
    else pairs n bs ((s, h) :: ss)
def withNames (line : List Ord) (ps : List Int) : List (Str × Int) := (line.map (·.name)).zip ps
def paired (buys sells : List Ord) (a : Int) : List (Str × Str × Int) :=
  pairs (2 * buys.length + sells.length + 1) (withNames buys (partsOf buys a)) (withNames sells (partsOf sells a))
/-- the price that a call may come to (which one is left open) -/
def CallOk (F : Floor) : Option Int → Prop
  | none => True
  | some p => 0 < volume F.buys F.sells p
def called (F : Floor) : Option Int → List Fact × Floor
  | none => ([], F)
  | some p =>
    let v := volume F.buys F.sells p
    ((paired F.buys F.sells v).map fun t => .trade t.1 t.2.1 p t.2.2, { F with buys := lineBehind F.buys v, sells := lineBehind F.sells v, last := p })
def turn (w : Ph) (pr : Option Int) (F : Floor) : Option (List Fact × Floor) :=
  if leads F.phase w = true then
    let c := if w = .opn then called F pr else ([], F)
    let q := woken { c.2 with phase := w }
    some (c.1 ++ [.phase w] ++ q.1, q.2)
  else none
end BB
/-! M2: lemmas of the mirror: orders that are well made, lines in their order, names, sizes. -/
namespace BB
open PySem (Str)
/-- a text whose signs are code points -/
def sOk (x : Str) : Bool := x.cps.all (· < 0x110000)
/-- an order as the floor holds it -/
structure Ok (o : Ord) : Prop where
  s1 : 1 ≤ o.shown
  sl : o.shown ≤ o.left
  p0 : 0 ≤ o.peak
  pl : o.peak = 0 → o.shown = o.left
  p16 : o.peak ≠ 0 → o.left ≤ 16 * o.peak
  nk : sOk o.name = true
  wk : sOk o.who = true
/-- .. behind an order that is ahead or equal -/
def After (b : Bool) (p q : Int) : Prop := if b = true then q ≤ p else p ≤ q
def Sorted (b : Bool) : List Ord → Prop
  | [] => True
  | o :: r => (∀ x ∈ r, After b o.price x.price) ∧ Sorted b r
structure LineOk (b : Bool) (l : List Ord) : Prop where
  ok : ∀ o ∈ l, Ok o
  side : ∀ o ∈ l, o.buy = b
  srt : Sorted b l
theorem LineOk.nil (b : Bool) : LineOk b [] := ⟨by simp, by simp, trivial⟩
theorem LineOk.tail {b : Bool} {o : Ord} {l : List Ord} (h : LineOk b (o :: l)) : LineOk b l :=
  ⟨fun x hx => h.ok x (List.mem_cons_of_mem _ hx), fun x hx => h.side x (List.mem_cons_of_mem _ hx), h.srt.2⟩
theorem LineOk.head {b : Bool} {o : Ord} {l : List Ord} (h : LineOk b (o :: l)) : Ok o := h.ok o List.mem_cons_self
theorem min2_le1 (i j : Int) : min2 i j ≤ i := by unfold min2; split <;> omega
theorem min2_le2 (i j : Int) : min2 i j ≤ j := by unfold min2; split <;> omega
theorem min2_or (i j : Int) : min2 i j = i ∨ min2 i j = j := by unfold min2; split <;> omega
theorem min2_comm (i j : Int) : min2 i j = min2 j i := by unfold min2; split <;> split <;> omega
theorem inView_le {l p : Int} (h : 0 ≤ l) : inView l p ≤ l := by unfold inView; (repeat' split) <;> omega
theorem inView_pos {l p : Int} (h : 1 ≤ l) (hp : 0 ≤ p) : 1 ≤ inView l p := by unfold inView; (repeat' split) <;> omega
theorem fresh_ok {o : Ord} (h : Ok o) {l : Int} (h1 : 1 ≤ l) (h2 : l ≤ o.left) : Ok (fresh o l) := by
  refine ⟨inView_pos h1 h.p0, inView_le (by omega), h.p0, fun e => ?_, fun e => ?_, h.nk, h.wk⟩
  · have e' : o.peak = 0 := e
    show inView l o.peak = l
    unfold inView
    rw [if_pos e']
  · have z := h.p16 e
    show l ≤ 16 * o.peak
    omega
theorem filled_ok {o b : Ord} (h : Ok o) {a : Int} (h1 : 1 ≤ a) (h2 : a ≤ o.shown) (e : filled o a = some b) : Ok b := by
  have hsl := h.sl
  unfold filled at e
  split at e
  · cases e
  · split at e
    · cases e
      exact fresh_ok h (by omega) (by omega)
    · rename_i hn hr
      cases e
      have hr2 : ¬ (a = o.shown ∧ a < o.left) := fun z => hr (by unfold renews; rw [decide_eq_true z.1, decide_eq_true z.2]; rfl)
      refine ⟨?_, ?_, h.p0, fun e => ?_, fun e => ?_, h.nk, h.wk⟩
      · show 1 ≤ o.shown - a
        omega
      · show o.shown - a ≤ o.left - a
        omega
      · have := h.pl e
        show o.shown - a = o.left - a
        omega
      · have := h.p16 e
        show o.left - a ≤ 16 * o.peak
        omega
theorem filled_name {o b : Ord} {a : Int} (e : filled o a = some b) : b.name = o.name ∧ b.buy = o.buy ∧ b.price = o.price ∧ b.who = o.who ∧ b.peak = o.peak := by
  unfold filled at e
  split at e
  · cases e
  · split at e <;> cases e <;> exact ⟨rfl, rfl, rfl, rfl, rfl⟩
/-! names -/
def cn (n : Str) (l : List Ord) : Nat := l.countP fun o => decide (o.name = n)
theorem cn_nil (n : Str) : cn n [] = 0 := rfl
theorem cn_cons (n : Str) (o : Ord) (l : List Ord) : cn n (o :: l) = cn n l + if o.name = n then 1 else 0 := by
  unfold cn
  rw [List.countP_cons]
  simp
theorem cn_append (n : Str) (l m : List Ord) : cn n (l ++ m) = cn n l + cn n m := by
  unfold cn
  rw [List.countP_append]
theorem cn_joined (n : Str) (o : Ord) : ∀ l : List Ord, cn n (joined l o) = cn n l + if o.name = n then 1 else 0
  | [] => by
    show cn n [o] = _
    rw [cn_cons]
  | h :: t => by
    unfold joined
    split
    · rw [cn_cons]
    · rw [cn_cons, cn_joined n o t, cn_cons]
      omega
theorem cn_mem {n : Str} {l : List Ord} (h : cn n l = 0) : ∀ o ∈ l, o.name ≠ n := fun o ho e => by
  have : 0 < cn n l := List.countP_pos_iff.mpr ⟨o, ho, decide_eq_true e⟩
  omega
theorem cn_zero {n : Str} {l : List Ord} (h : ∀ o ∈ l, o.name ≠ n) : cn n l = 0 := by
  unfold cn
  exact List.countP_eq_zero.mpr fun o ho => by simpa using h o ho
/-! joined -/
theorem joined_mem {o x : Ord} : ∀ {l : List Ord}, x ∈ joined l o ↔ x = o ∨ x ∈ l
  | [] => by simp [joined]
  | h :: t => by
    unfold joined
    split
    · simp
    · rw [List.mem_cons, joined_mem (l := t), List.mem_cons]
      constructor
      · rintro (rfl | rfl | h)
        · exact .inr (.inl rfl)
        · exact .inl rfl
        · exact .inr (.inr h)
      · rintro (rfl | rfl | h)
        · exact .inr (.inl rfl)
        · exact .inl rfl
        · exact .inr (.inr h)
theorem joined_len (o : Ord) : ∀ l : List Ord, (joined l o).length = l.length + 1
  | [] => rfl
  | h :: t => by
    unfold joined
    split
    · rfl
    · show (joined t o).length + 1 = _
      rw [joined_len o t]
      rfl
theorem ahead_after {b : Bool} {p q : Int} (h : ahead b p q = true) : After b p q := by
  unfold ahead at h
  unfold After
  cases b
  · have h2 : p < q := by simpa using h
    show p ≤ q
    omega
  · have h2 : q < p := by simpa using h
    show q ≤ p
    omega
theorem nahead_after {b : Bool} {p q : Int} (h : ¬ ahead b p q = true) : After b q p := by
  unfold ahead at h
  unfold After
  cases b
  · have h2 : ¬ p < q := by simpa using h
    show q ≤ p
    omega
  · have h2 : ¬ q < p := by simpa using h
    show p ≤ q
    omega
theorem After.trans {b : Bool} {p q r : Int} (h : After b p q) (k : After b q r) : After b p r := by
  unfold After at *
  cases b
  · simp only [Bool.false_eq_true, if_false] at *
    omega
  · simp only [if_true] at *
    omega
theorem joined_sorted {b : Bool} {o : Ord} (hb : o.buy = b) : ∀ {l : List Ord}, Sorted b l → Sorted b (joined l o)
  | [], _ => ⟨by simp, trivial⟩
  | h :: t, ⟨h1, h2⟩ => by
    unfold joined
    split
    · rename_i c
      rw [hb] at c
      refine ⟨fun x hx => ?_, h1, h2⟩
      rcases List.mem_cons.mp hx with rfl | hx
      · exact ahead_after c
      · exact (ahead_after c).trans (h1 x hx)
    · rename_i c
      rw [hb] at c
      refine ⟨fun x hx => ?_, joined_sorted hb h2⟩
      rcases joined_mem.mp hx with rfl | hx
      · exact nahead_after c
      · exact h1 x hx
theorem joined_ok {b : Bool} {l : List Ord} {o : Ord} (hl : LineOk b l) (ho : Ok o) (hb : o.buy = b) : LineOk b (joined l o) :=
  ⟨fun x hx => (joined_mem.mp hx).elim (fun e => e ▸ ho) (hl.ok x), fun x hx => (joined_mem.mp hx).elim (fun e => e ▸ hb) (hl.side x), joined_sorted hb hl.srt⟩
/-! served -/
theorem served_cons (f : Ord) (r : List Ord) (a : Int) : served (f :: r) a = match filled f a with
    | none => r
    | some b => if renews f a = true then joined r b else b :: r := rfl
theorem served_ok {b : Bool} {f : Ord} {r : List Ord} {a : Int} (h : LineOk b (f :: r)) (h1 : 1 ≤ a) (h2 : a ≤ f.shown) : LineOk b (served (f :: r) a) := by
  rw [served_cons]
  have hf := h.head
  split
  · exact h.tail
  · rename_i x e
    obtain ⟨n1, n2, n3, n4, n5⟩ := filled_name e
    have hx := filled_ok hf h1 h2 e
    have hb : x.buy = b := n2.trans (h.side f List.mem_cons_self)
    split
    · exact joined_ok h.tail hx hb
    · refine ⟨fun y hy => ?_, fun y hy => ?_, ?_, h.tail.srt⟩
      · rcases List.mem_cons.mp hy with rfl | hy
        · exact hx
        · exact h.tail.ok y hy
      · rcases List.mem_cons.mp hy with rfl | hy
        · exact hb
        · exact h.tail.side y hy
      · intro y hy
        rw [n3]
        exact h.srt.1 y hy
theorem served_cn (n : Str) (f : Ord) (r : List Ord) (a : Int) : cn n (served (f :: r) a) ≤ cn n (f :: r) := by
  rw [served_cons]
  split
  · rw [cn_cons]
    omega
  · rename_i x e
    obtain ⟨n1, _⟩ := filled_name e
    split
    · rw [cn_joined, cn_cons, n1]
      omega
    · rw [cn_cons, cn_cons, n1]
      omega
theorem served_len (f : Ord) (r : List Ord) (a : Int) : (served (f :: r) a).length ≤ r.length + 1 := by
  rw [served_cons]
  split
  · omega
  · split
    · rw [joined_len]
      omega
    · exact Nat.le_refl _
/-! the meeting: a potential that bounds its steps -/
def pot (o : Ord) : Nat := if o.peak = 0 then 1 else 1 + ((o.left - o.shown + o.peak - 1) / o.peak).toNat
def potL : List Ord → Nat
  | [] => 0
  | o :: r => pot o + potL r
theorem pot_pos (o : Ord) : 1 ≤ pot o := by unfold pot; split <;> omega
theorem pot_le {o : Ord} (h : Ok o) : pot o ≤ 17 := by
  unfold pot
  split
  · omega
  · rename_i hp
    have h0 := h.p0
    have h16 := h.p16 hp
    have h1 := h.s1
    have hp1 : 0 < o.peak := by omega
    have : (o.left - o.shown + o.peak - 1) / o.peak < 17 := by
      rw [Int.ediv_lt_iff_lt_mul hp1]
      omega
    omega
theorem potL_le : ∀ {l : List Ord}, (∀ o ∈ l, Ok o) → potL l ≤ 17 * l.length
  | [], _ => Nat.le_refl _
  | o :: r, h => by
    have h1 := pot_le (h o List.mem_cons_self)
    have h2 := potL_le (l := r) fun x hx => h x (List.mem_cons_of_mem _ hx)
    show pot o + potL r ≤ 17 * (r.length + 1)
    omega
theorem potL_joined (o : Ord) : ∀ l : List Ord, potL (joined l o) = potL l + pot o
  | [] => by
    show pot o + 0 = 0 + pot o
    omega
  | h :: t => by
    unfold joined
    split
    · show pot o + (pot h + potL t) = pot h + potL t + pot o
      omega
    · show pot h + potL (joined t o) = pot h + potL t + pot o
      rw [potL_joined o t]
      omega
/-- a trade of all that is shown lowers the potential -/
theorem pot_fill {f b : Ord} (h : Ok f) (e : filled f f.shown = some b) : pot b + 1 ≤ pot f ∧ renews f f.shown = true := by
  have h1 := h.s1
  have hsl := h.sl
  unfold filled at e
  split at e
  · cases e
  · rename_i hne
    have hr : renews f f.shown = true := by
      unfold renews
      rw [decide_eq_true rfl, decide_eq_true (show f.shown < f.left by omega)]
      rfl
    rw [if_pos hr] at e
    cases e
    refine ⟨?_, hr⟩
    have hp : f.peak ≠ 0 := fun z => by
      have := h.pl z
      omega
    have hp1 : 0 < f.peak := by
      have := h.p0
      omega
    unfold pot
    have e1 : (fresh f (f.left - f.shown)).peak = f.peak := rfl
    have e2 : (fresh f (f.left - f.shown)).left = f.left - f.shown := rfl
    have e3 : (fresh f (f.left - f.shown)).shown = inView (f.left - f.shown) f.peak := rfl
    rw [e1, if_neg hp, if_neg hp, e2, e3]
    unfold inView
    rw [if_neg hp]
    split
    · rename_i hlt
      have d1 : (f.left - f.shown - (f.left - f.shown) + f.peak - 1) / f.peak = 0 := by
        apply Int.ediv_eq_zero_of_lt <;> omega
      have d2 : 1 ≤ (f.left - f.shown + f.peak - 1) / f.peak := by
        rw [Int.le_ediv_iff_mul_le hp1]
        omega
      omega
    · rename_i hge
      have d1 : (f.left - f.shown + f.peak - 1) / f.peak = (f.left - f.shown - f.peak + f.peak - 1) / f.peak + 1 := by
        have : f.left - f.shown + f.peak - 1 = (f.left - f.shown - f.peak + f.peak - 1) + f.peak := by omega
        rw [this, Int.add_ediv_of_dvd_right (Int.dvd_refl _), Int.ediv_self hp]
      have d2 : 0 ≤ (f.left - f.shown - f.peak + f.peak - 1) / f.peak := by
        apply Int.ediv_nonneg <;> omega
      omega
theorem potL_served {f : Ord} {r : List Ord} (h : Ok f) : potL (served (f :: r) f.shown) + 1 ≤ potL (f :: r) := by
  rw [served_cons]
  have hp := pot_pos f
  split
  · show potL r + 1 ≤ pot f + potL r
    omega
  · rename_i b e
    obtain ⟨h1, h2⟩ := pot_fill h e
    rw [if_pos h2, potL_joined]
    show potL r + pot b + 1 ≤ pot f + potL r
    omega
section
variable {o : Ord} {last leap : Int}
/-- what a meeting leaves -/
structure MetEnd (b : Bool) (o : Ord) (last leap : Int) (line : List Ord) (l : Int) (m : Met) : Prop where
  ok : LineOk b m.line
  le : m.left ≤ l
  nn : 0 ≤ m.left
  cnt : ∀ n, cn n m.line ≤ cn n line
  len : m.line.length ≤ line.length
  stp : m.steps.length ≤ potL line + 1
  nil : m.left = 0 → m.halted = false
  fin : 0 < m.left → m.halted = false → m.line = [] ∨ ∃ h t, m.line = h :: t ∧ ¬ allows o.buy o.price h.price = true
  hlt : m.halted = true → ∃ h t, m.line = h :: t ∧ allows o.buy o.price h.price = true ∧ h.who ≠ o.who ∧ leap < abs1 (h.price - last)
  nz : 0 < m.left → m.left < l ∨ m.left = l
theorem metF_end {b : Bool} : ∀ {n : Nat} {line : List Ord} {l : Int}, LineOk b line → 0 ≤ l → line.length + l.toNat < n → MetEnd b o last leap line l (metF o last leap n line l)
  | 0, line, l, _, _, hn => by omega
  | n + 1, [], l, hl, h0, hn => ⟨hl, Int.le_refl _, h0, fun _ => Nat.le_refl _, Nat.le_refl _, Nat.zero_le _, fun _ => rfl, fun _ _ => .inl rfl, fun q => (by cases q), fun _ => .inr rfl⟩
  | n + 1, h :: t, l, hl, h0, hn => by
    have hlen : (h :: t).length = t.length + 1 := rfl
    have hpp := pot_pos h
    unfold metF
    split
    · rename_i hc
      obtain ⟨hl0, hal⟩ := hc
      split
      · have q := metF_end (n := n) (line := t) (l := l) hl.tail h0 (by omega)
        refine ⟨q.ok, q.le, q.nn, fun x => ?_, ?_, ?_, q.nil, q.fin, q.hlt, q.nz⟩
        · have := q.cnt x
          rw [cn_cons]
          show cn x (metF o last leap n t l).line ≤ _
          omega
        · have := q.len
          show (metF o last leap n t l).line.length ≤ t.length + 1
          omega
        · have := q.stp
          show (metF o last leap n t l).steps.length + 1 ≤ pot h + potL t + 1
          omega
      · rename_i hw
        split
        · rename_i hj
          exact ⟨hl, Int.le_refl _, h0, fun _ => Nat.le_refl _, Nat.le_refl _, Nat.zero_le _, fun z => by
            have z' : l = 0 := z
            omega, fun _ q => (by cases q), fun _ => ⟨h, t, rfl, hal, hw, hj⟩, fun _ => .inr rfl⟩
        · have hk := hl.head
          have ha1 : 1 ≤ min2 l h.shown := by
            have := hk.s1
            rcases min2_or l h.shown with e | e <;> omega
          have ha2 := min2_le2 l h.shown
          have ha3 := min2_le1 l h.shown
          have hlen2 := served_len h t (min2 l h.shown)
          have q := metF_end (n := n) (line := served (h :: t) (min2 l h.shown)) (l := l - min2 l h.shown) (served_ok hl ha1 ha2) (by omega) (by omega)
          refine ⟨q.ok, ?_, q.nn, fun x => Nat.le_trans (q.cnt x) (served_cn x h t _), Nat.le_trans q.len hlen2, ?_, q.nil, q.fin, q.hlt, ?_⟩
          · have := q.le
            show (metF o last leap n (served (h :: t) (min2 l h.shown)) (l - min2 l h.shown)).left ≤ l
            omega
          · have q1 := q.stp
            show (metF o last leap n (served (h :: t) (min2 l h.shown)) (l - min2 l h.shown)).steps.length + 1 ≤ potL (h :: t) + 1
            rcases min2_or l h.shown with e | e
            · -- the order is through
              have q2 : (metF o last leap n (served (h :: t) (min2 l h.shown)) (l - min2 l h.shown)).steps = [] := by
                rw [e, Int.sub_self]
                cases n with
                | zero => rfl
                | succ n =>
                  cases served (h :: t) l with
                  | nil => rfl
                  | cons x y =>
                    unfold metF
                    rw [if_neg (by omega)]
              rw [q2]
              exact Nat.le_add_left _ _
            · rw [e] at q1 ⊢
              have := potL_served (r := t) hk
              omega
          · intro z
            left
            have := q.le
            show (metF o last leap n (served (h :: t) (min2 l h.shown)) (l - min2 l h.shown)).left < l
            omega
    · rename_i hc
      refine ⟨hl, Int.le_refl _, h0, fun _ => Nat.le_refl _, Nat.le_refl _, Nat.zero_le _, fun _ => rfl, fun z _ => .inr ⟨h, t, rfl, fun q => hc ⟨z, q⟩⟩, fun q => (by cases q), fun _ => .inr rfl⟩
theorem met_end {b : Bool} {line : List Ord} (hl : LineOk b line) (h0 : 0 ≤ o.left) : MetEnd b o last leap line o.left (met o line last leap) := metF_end hl h0 (Nat.lt_succ_self _)
end
end BB
set_option Elab.async false
set_option linter.all false
set_option maxRecDepth 100000
set_option maxHeartbeats 4000000
/-! C0: rules beside HandS: a class without __init__, d.update(d2), tuple > tuple, min(xs, default=0). -/
namespace BB
open PySem PySem.Spec PyProof.Rows L2
/-! ### C(), no __init__ but object's -/
structure MkN (K : PySem.W.Frag) (C : Addr) : Prop where
  makes : PySem.W.makesIn K C = true
  init : PySem.W.findIn K (.ref C) "__init__" = some (some (.builtin "object.__init__"))
  kp : PySem.W.keepIn K (.ref C) = true
def tMakeN (C : Addr) : TE := fun _ H Q => ∀ x dx, H x = none → H dx = none → dx ≠ x → Q (.ref x) (upd (upd H dx (.own x)) x (.ins C dx []))
section
variable {X : Cx} {C : Addr} {x : Str} {p pos : Pos}
theorem run_makeN {pins : List (Addr × Obj)} {σ : L2.St} {H : Hp} {s : Shared} {Q : VK} (M : MkN X.K C) (I : Inv X pins σ H s)
    (h : ∀ x dx, H x = none → H dx = none → dx ≠ x → Q (.ref x) (upd (upd H dx (.own x)) x (.ins C dx []))) :
    wpAny (model X.prog X.w) X.A (call (.ref C) []) (EP X pins σ Q) X.xe s := by
  have hq := h (s.heap.objs.size + 1) s.heap.objs.size (I.hok.fresh (Nat.le_succ _)) (I.hok.fresh (Nat.le_refl _)) (Nat.ne_of_lt (Nat.lt_succ_self _))
  have I2 := Inv.made (C := C) I
  have Y := PySem.W.makes_of (M := model X.prog X.w) I.kIn M.makes
  refine wpAny_call (make_map0 I.kIn M.makes M.init (fun self => PySem.W.Looks.of_pure (PySem.W.oi_bind self)) ?_)
  obtain ⟨hh, g, d, t, os⟩ := s
  have e1 : ((hh.push PySem.W.emptyDict).push (PySem.W.instObj C hh.objs.size)).get? (hh.objs.size + 1) = some (PySem.W.instObj C hh.objs.size) := by heap_get
  have t1 : PySem.W.Looks (model X.prog X.w) ((hh.push PySem.W.emptyDict).push (PySem.W.instObj C hh.objs.size)) (typeOf (.ref (hh.objs.size + 1))) (.ref C) := (PySem.W.Looks.ld e1).andThen .now
  have t2 : PySem.W.Looks (model X.prog X.w) ((hh.push PySem.W.emptyDict).push (PySem.W.instObj C hh.objs.size)) (isInstance (.ref (hh.objs.size + 1)) (.type "object")) true :=
    t1.andThen (Y.top.keeps fun b o e => Heap.get?_push_of_some _ (Heap.get?_push_of_some _ e))
  refine codeAny_call_builtin PySem.W.oi_plain PySem.W.entry_oi (@PySem.W.check_slot (model X.prog X.w) _ _ _ "object.__init__" "object" "__init__" (.ref (hh.objs.size + 1)) [] [] _ PySem.W.oi_kind PySem.W.oi_split t2 (PySem.W.oi_args (.ref (hh.objs.size + 1))) ?_)
  rw [PySem.W.oi_run]
  exact wpAny_pure (And.intro rfl ⟨V.ref (hh.objs.size + 1), _, I2, rfl, hq⟩)
theorem pe_makeN (M : MkN X.K C) (hg : Gl X x) (hm : X.mg x = some (.ref C)) (hdb : (x == ("__debug__" : Str)) = false := by decide) : PE X (.Call (.Name x p) [] [] pos) (tMakeN C) := by
  refine ⟨fun pins s σ H Q I h => ?_⟩
  refine wpAny_Call_Name_kw (ld_glob I hg hm ?_ hdb)
  exact PySem.W.callWith_K0 I.kIn M.kp (run_makeN M I h)
end
/-! ### t > u of tuples of ints: some answer -/
theorem rcGt_int (A : Around) (s : Shared) (a : Int) (t : Tok) (c : Int) (u : Tok) : ∃ k, SeqAt.RcOp .Gt A s (.int a t) (.int c u) k :=
  ⟨decide (c < a), fun prog w E Q h => gt_int h⟩
section
variable {X : Cx}
def rGtT (K : PySem.W.Frag) : R2 := fun x y H Q => ∃ (a b : Addr) (ns ms : List Int), x = .ref a ∧ y = .ref b ∧ SqT K H a (ns.map V.int) ∧ SqT K H b (ms.map V.int) ∧ ∀ k, Q (.bl k) H
theorem ints_at {its : Array Value} {ns : List Int} (h : IntsAre its.toList ns) (j : Nat) (hj : j < its.size) : ∃ n t, its[j] = .int n t := by
  have key : ∀ (l : List Value) (ns : List Int), IntsAre l ns → ∀ (j : Nat) (hj : j < l.length), ∃ n t, l[j] = .int n t := by
    intro l ns hl
    induction hl with
    | nil => intro j hj; exact absurd hj (Nat.not_lt_zero _)
    | cons a t _ ih =>
      intro j hj
      cases j with
      | zero => exact ⟨a, t, rfl⟩
      | succ j => exact ih j (Nat.lt_of_succ_lt_succ hj)
  obtain ⟨n, t, e⟩ := key its.toList ns h j (by simpa using hj)
  exact ⟨n, t, by rw [← Array.getElem_toList]; exact e⟩
theorem op_gtT (hu : X.A.units < cLine) : OpR X (compareOp .Gt) (rGtT X.K) := by
  intro pins s σ H x y v u Q I rx ry h
  obtain ⟨a, b, ns, ms, rfl, rfl, ha, hb, q⟩ := h
  cases rx
  cases ry
  obtain ⟨its, r1, p1, _⟩ := I.tuple ha
  obtain ⟨its2, r2, p2, _⟩ := I.tuple hb
  have i1 : IntsAre its.toArray.toList ns := intsAre_of r1
  have i2 : IntsAre its2.toArray.toList ms := intsAre_of r2
  have he : ∃ e : Nat → Bool, ∀ j (h1 : j < its.toArray.size) (h2 : j < its2.toArray.size), SeqAt.EqAt X.A.in1 s its.toArray[j] its2.toArray[j] (e j) := by
    have f : ∀ j, ∃ k : Bool, ∀ (h1 : j < its.toArray.size) (h2 : j < its2.toArray.size), SeqAt.EqAt X.A.in1 s its.toArray[j] its2.toArray[j] k := fun j => by
      by_cases h1 : j < its.toArray.size
      · by_cases h2 : j < its2.toArray.size
        · obtain ⟨n, t, e1⟩ := ints_at i1 j h1
          obtain ⟨m, t2, e2⟩ := ints_at i2 j h2
          obtain ⟨k, hk, _⟩ := HT.eqAt_int X.A.in1 s n t m t2
          exact ⟨k, fun _ _ => by rw [e1, e2]; exact hk⟩
        · exact ⟨true, fun _ z => absurd z h2⟩
      · exact ⟨true, fun z => absurd z h1⟩
    exact ⟨fun j => Classical.choose (f j), fun j => Classical.choose_spec (f j)⟩
  have hr : ∃ r : Nat → Bool, ∀ j (h1 : j < its.toArray.size) (h2 : j < its2.toArray.size), SeqAt.RcOp .Gt X.A.in1 s its.toArray[j] its2.toArray[j] (r j) := by
    have f : ∀ j, ∃ k : Bool, ∀ (h1 : j < its.toArray.size) (h2 : j < its2.toArray.size), SeqAt.RcOp .Gt X.A.in1 s its.toArray[j] its2.toArray[j] k := fun j => by
      by_cases h1 : j < its.toArray.size
      · by_cases h2 : j < its2.toArray.size
        · obtain ⟨n, t, e1⟩ := ints_at i1 j h1
          obtain ⟨m, t2, e2⟩ := ints_at i2 j h2
          obtain ⟨k, hk⟩ := rcGt_int X.A.in1 s n t m t2
          exact ⟨k, fun _ _ => by rw [e1, e2]; exact hk⟩
        · exact ⟨true, fun _ z => absurd z h2⟩
      · exact ⟨true, fun z => absurd z h1⟩
    exact ⟨fun j => Classical.choose (f j), fun j => Classical.choose_spec (f j)⟩
  obtain ⟨e, he⟩ := he
  obtain ⟨r, hr⟩ := hr
  show wpAny (model X.prog X.w) X.A (richCompare .Gt (.ref a) (.ref b)) _ _ _
  exact SeqAt.RcOp.tuples_gt p1 p2 hu he (fun j h1 h2 _ => hr j h1 h2) X.prog X.w _ _ ⟨.bl _, H, I, rfl, q _⟩
end
/-! ### d.update(d2) -/
section
variable {X : Cx}
def rUpd : V → List V → Hp → VK → Prop := fun x vs H Q => ∃ (d o : Addr) (kvs more : List (Key × V)), x = .ref d ∧ vs = [.ref o] ∧ d ≠ o ∧ H d = some (.dK kvs) ∧ H o = some (.dK more) ∧ kvs.length + more.length ≤ sizeLine ∧
  Q .non (upd H d (.dK (mergeK kvs more)))
theorem mt_update : MtR X "dict.update" rUpd := by
  intro pins s σ H x xs v us Q I rx rxs h
  obtain ⟨d, o, kvs, more, rfl, rfl, hdo, hd, ho, hz, q⟩ := h
  cases rx
  obtain ⟨u, rfl, ru⟩ := vals1 rxs
  obtain rfl : u = Value.ref o := ru
  obtain ⟨z1, n1, vs, r1, d1⟩ := dk_of I.hok hd
  obtain ⟨z2, n2, ws, r2, d2⟩ := dk_of I.hok ho
  have hl1 : kvs.length = vs.length := r1.length
  have hl2 : more.length = ws.length := r2.length
  refine call_meetsIn PySem.F.slot_dict_update d1.typeIs PySem.F.entry_dict_update (PySem.F.args_dict_update_2 _ _) (meets_dict_update (mixKind X.prog X.w) d o hdo n2)
    ⟨vs, ws, d1, d2, by omega, fun h' hm1 hm2 hs => ?_⟩
  refine ⟨.non, _, d_write (t' := s.toks) I (by rw [hd]; trivial) hs ?_ (dk_new (Nat.le_trans (length_mergeK more kvs) hz) n1 (KV.merge r2 r1) hm1), rfl, q⟩
  obtain ⟨ob, _, _, e, _⟩ := hm1
  exact ⟨ob, e⟩
end
end BB
set_option Elab.async false
set_option linter.all false
set_option maxRecDepth 100000
set_option maxHeartbeats 4000000
/-! C1: the text's environment, defs as promises by their names, data as they stand in the heap. -/
namespace BB
open PySem PySem.Spec PyProof.Rows L2
/-! ### what the top has left -/
def Txt (K : PySem.W.Frag) (mg : Str → Option Value) : Prop := SaysY K ∧ ∃ h : Heap, K.In h ∧ h.Ns mainGlobals mg
section
variable {K : PySem.W.Frag} {mg : Str → Option Value}
theorem Txt.fact (T : Txt K mg) (i : Nat) {f : He.Fa} (h : fa[i]? = some f := by rfl) : f.ok K = true := T.1.d.fact i h
theorem Txt.glo (T : Txt K mg) (i : Nat) {x : Str} (h : fa[i]? = some (.glo x) := by rfl) : mg x = some (.ref (He.ga K x)) := by
  obtain ⟨S, h0, X, G⟩ := T
  exact He.glo_ok X G (S.d.fact i h)
theorem Txt.fre (T : Txt K mg) (i : Nat) {x : Str} (h : fa[i]? = some (.free x) := by rfl) : mg x = none := by
  obtain ⟨S, h0, X, G⟩ := T
  exact He.free_ok X G (S.d.fact i h)
theorem Txt.ci (T : Txt K mg) (i : Nat) {x : Str} {n : Int} (h : fa[i]? = some (.int x n) := by rfl) : ∃ t, mg x = some (.int n t) := by
  obtain ⟨S, h0, X, G⟩ := T
  exact He.int_ok X G (S.d.fact i h)
theorem Txt.cs (T : Txt K mg) (i : Nat) {x z : Str} (h : fa[i]? = some (.str x z) := by rfl) : ∃ t, mg x = some (.str z t) := by
  obtain ⟨S, h0, X, G⟩ := T
  exact He.str_ok X G (S.d.fact i h)
theorem Txt.def_ (T : Txt K mg) (i : Nat) {d : He.DefD} (h : fn[i]? = some d := by rfl) : ∃ fd, FunD K d.name d.qual d.params d.body d.scope (d.dvs K) (d.kws K) (He.fAd K d.at_) fd := T.1.d.def_ i h
theorem Txt.plain (T : Txt K mg) (i : Nat) {x : Str} (h : plains[i]? = some x := by rfl) : MkN K (He.ga K x) := by
  have z : (plains.all fun x => plainCls K x) = true := T.1.more
  have q := List.all_eq_true.mp z x (List.mem_of_getElem? h)
  obtain ⟨q1, q2⟩ := He.ba (show (PySem.W.makesIn K (He.ga K x) && (He.eqO (PySem.W.findIn K (.ref (He.ga K x)) "__init__") (some (some (.builtin "object.__init__"))) && PySem.W.keepIn K (.ref (He.ga K x)))) = true from q)
  obtain ⟨q3, q4⟩ := He.ba q2
  exact ⟨q1, He.eqO_ok q3, q4⟩
end
/-! ### a def of the module, by its name -/
structure GdAt (P : Program) (w : World) (K : PySem.W.Frag) (mg : Str → Option Value) (base : Heap) (CX : CXT) (k : Nat) (x : Str) (ps : List Str) (sp : Sp) (f : Addr) (fd : FuncData) : Prop where
  F : FnOk P w K mg base CX k f fd ps sp
  b : Binds K fd ps []
  kp : PySem.W.keepIn K (.ref f) = true
  m : mg x = some (.ref f)
def Gd (P : Program) (w : World) (K : PySem.W.Frag) (mg : Str → Option Value) (base : Heap) (CX : CXT) (k : Nat) (x : Str) (ps : List Str) (sp : Sp) : Prop := ∃ f fd, GdAt P w K mg base CX k x ps sp f fd
/-- a method of the class at C -/
structure MdAt (P : Program) (w : World) (K : PySem.W.Frag) (mg : Str → Option Value) (base : Heap) (CX : CXT) (k : Nat) (C : Addr) (x : Str) (ps : List Str) (sp : Sp) (f : Addr) (fd : FuncData) : Prop where
  F : FnOk P w K mg base CX k f fd ps sp
  b : Binds K fd ps []
  c : Cls K C
  me : Meth K C x f
def Md (P : Program) (w : World) (K : PySem.W.Frag) (mg : Str → Option Value) (base : Heap) (CX : CXT) (k : Nat) (C : Addr) (x : Str) (ps : List Str) (sp : Sp) : Prop := ∃ f fd, MdAt P w K mg base CX k C x ps sp f fd
section
variable {X : Cx} {CX : CXT} {k : Nat} {ps : List Str} {sp : Sp} {x m : Str} {p pos apos : Pos} {e o : Expr} {es : List Expr} {ta : TE} {t : TA} {C : Addr} {E : XK}
theorem cgX (G : Gd X.prog X.w X.K X.mg X.base CX k x ps sp) (hr : Room k X.A) (hx : Passes CX X E) (ha : PA X (e :: es) t) (hg : Gl X x := by rfl) (hdb : (x == ("__debug__" : Str)) = false := by decide)
    (he : starEach (e :: es) X.env = (false, eval e X.env) :: starEach es X.env := by rfl) (hpl : (backTo pos (starEach es X.env)).any (·.1) = false := by rfl) :
    PE X (.Call (.Name x p) (e :: es) [] pos) (tCall sp [] E t) := by
  obtain ⟨f, fd, g⟩ := G
  exact pe_call g.F hr hg g.m g.kp g.b .nil hx ha hdb he hpl
theorem cg (G : Gd X.prog X.w X.K X.mg X.base CX0 k x ps sp) (hr : Room k X.A) (ha : PA X (e :: es) t) (hg : Gl X x := by rfl) (hdb : (x == ("__debug__" : Str)) = false := by decide)
    (he : starEach (e :: es) X.env = (false, eval e X.env) :: starEach es X.env := by rfl) (hpl : (backTo pos (starEach es X.env)).any (·.1) = false := by rfl) :
    PE X (.Call (.Name x p) (e :: es) [] pos) (tCall sp [] E0 t) := cgX G hr pass0 ha hg hdb he hpl
theorem cmX (G : Md X.prog X.w X.K X.mg X.base CX k C m ps sp) (hr : Room k X.A) (hx : Passes CX X E) (ho : PE X o ta) (ha : PA X (e :: es) t) {pl : Sem Bool}
    (hst : starEach (e :: es) X.env = (false, eval e X.env) :: starEach es X.env := by rfl) (hpl : (backTo pos (starEach es X.env)).any (·.1) = false := by rfl)
    (ht : eval (.Call (.Attribute o m apos) (e :: es) [] pos) X.env = (do
      let ov ← eval o X.env
      standAt apos.atName
      let (f, first) ← holding [ov] (getMethod ov m pl)
      callWith pos f first (backTo pos (starEach (e :: es) X.env)) (backToKw pos (keywordEach [] X.env))) := by rfl) :
    PE X (.Call (.Attribute o m apos) (e :: es) [] pos) (tMeth C m sp [] E ta t) := by
  obtain ⟨f, fd, g⟩ := G
  exact pe_meth ho g.c g.me g.F hr g.b .nil hx ha hst hpl ht
theorem cm (G : Md X.prog X.w X.K X.mg X.base CX0 k C m ps sp) (hr : Room k X.A) (ho : PE X o ta) (ha : PA X (e :: es) t) {pl : Sem Bool}
    (hst : starEach (e :: es) X.env = (false, eval e X.env) :: starEach es X.env := by rfl) (hpl : (backTo pos (starEach es X.env)).any (·.1) = false := by rfl)
    (ht : eval (.Call (.Attribute o m apos) (e :: es) [] pos) X.env = (do
      let ov ← eval o X.env
      standAt apos.atName
      let (f, first) ← holding [ov] (getMethod ov m pl)
      callWith pos f first (backTo pos (starEach (e :: es) X.env)) (backToKw pos (keywordEach [] X.env))) := by rfl) :
    PE X (.Call (.Attribute o m apos) (e :: es) [] pos) (tMeth C m sp [] E0 ta t) := cmX G hr pass0 ho ha hst hpl ht
theorem cmX0 (G : Md X.prog X.w X.K X.mg X.base CX k C m ps sp) (hr : Room k X.A) (hx : Passes CX X E) (ho : PE X o ta) {pl : Sem Bool}
    (ht : eval (.Call (.Attribute o m apos) [] [] pos) X.env = (do
      let ov ← eval o X.env
      standAt apos.atName
      let (f, first) ← holding [ov] (getMethod ov m pl)
      callWith pos f first (backTo pos (starEach [] X.env)) (backToKw pos (keywordEach [] X.env))) := by rfl) :
    PE X (.Call (.Attribute o m apos) [] [] pos) (tMeth C m sp [] E ta tNil) := by
  obtain ⟨f, fd, g⟩ := G
  exact pe_meth0 ho g.c g.me g.F hr g.b .nil hx ht
theorem cm0 (G : Md X.prog X.w X.K X.mg X.base CX0 k C m ps sp) (hr : Room k X.A) (ho : PE X o ta) {pl : Sem Bool}
    (ht : eval (.Call (.Attribute o m apos) [] [] pos) X.env = (do
      let ov ← eval o X.env
      standAt apos.atName
      let (f, first) ← holding [ov] (getMethod ov m pl)
      callWith pos f first (backTo pos (starEach [] X.env)) (backToKw pos (keywordEach [] X.env))) := by rfl) :
    PE X (.Call (.Attribute o m apos) [] [] pos) (tMeth C m sp [] E0 ta tNil) := cmX0 G hr pass0 ho ht
theorem pe_ci {n : Int} (h : ∃ t, X.mg x = some (.int n t)) (hg : Gl X x := by rfl) (hd : (x == ("__debug__" : Str)) = false := by decide) : PE X (.Name x pos) (tC (.int n)) := by
  obtain ⟨t, e⟩ := h
  exact pe_glob hg e ⟨t, rfl⟩ hd
theorem pe_cs {z : Str} (h : ∃ t, X.mg x = some (.str z t)) (hg : Gl X x := by rfl) (hd : (x == ("__debug__" : Str)) = false := by decide) : PE X (.Name x pos) (tC (.str z)) := by
  obtain ⟨t, e⟩ := h
  exact pe_glob hg e ⟨t, rfl⟩ hd
end
section
variable {P : Program} {w : World} {K : PySem.W.Frag} {mg : Str → Option Value} {base : Heap} {x qual : Str} {st : Stmt} {f C : Addr} {N ps : List Str} {k : Nat} {sp : Sp}
/-- a def that lets nothing out -/
theorem gd0 (F : ∃ fd, FunD K x qual (defArgs st) (defBody st) (defScope st) [] [] f fd) (hm : mg x = some (.ref f)) (S : FnScope N ps (defScope st))
    (hb : ∀ (kV doc pm : Value) (an : Option Addr) (cdv ct : Value) (us : List Value), us.length = ps.length → bindArgs (PySem.W.fnOf x qual (defArgs st) (defBody st) (defScope st) .none kV doc pm an cdv ct) ⟨us, []⟩ = pure (ps.zip us))
    (len : ∀ vs H Q E, sp vs H Q E → vs.length = ps.length)
    (hbody : ∀ (cdv : Value) (A : Around) (outer : List Env) (s : Shared) (H : Hp) (vs : List V) (Q : VK) (E : XK), Room k (A.deeper (envOfC qual (defScope st) s.heap.objs.size f cdv)) → sp vs H Q E →
      ∃ t, PSs (cxOf CX0 P w K mg base N qual (defScope st) f cdv A outer s H E).nox (defBody st) t ∧ t { nx := fun _ H' => Q .non H', rt := Q } (start N vs) H) : Gd P w K mg base CX0 (k + 1) x ps sp := by
  obtain ⟨fd, F⟩ := F
  refine ⟨f, fd, F.ok S len fun cdv A outer s H vs Q E hr hsp => ?_, F.bindsN hb, F.kp, hm⟩
  obtain ⟨t, h, q⟩ := hbody cdv A outer s H vs Q E hr hsp
  exact ⟨t, h.nox, q⟩
/-- a def that may raise -/
theorem gdX (F : ∃ fd, FunD K x qual (defArgs st) (defBody st) (defScope st) [] [] f fd) (hm : mg x = some (.ref f)) (S : FnScope N ps (defScope st))
    (hb : ∀ (kV doc pm : Value) (an : Option Addr) (cdv ct : Value) (us : List Value), us.length = ps.length → bindArgs (PySem.W.fnOf x qual (defArgs st) (defBody st) (defScope st) .none kV doc pm an cdv ct) ⟨us, []⟩ = pure (ps.zip us))
    (len : ∀ vs H Q E, sp vs H Q E → vs.length = ps.length)
    (hbody : ∀ (cdv : Value) (A : Around) (outer : List Env) (s : Shared) (H : Hp) (vs : List V) (Q : VK) (E : XK), Room k (A.deeper (envOfC qual (defScope st) s.heap.objs.size f cdv)) → sp vs H Q E →
      ∃ t, PSs (cxOf (L2.CX P w) P w K mg base N qual (defScope st) f cdv A outer s H E) (defBody st) t ∧ t { nx := fun _ H' => Q .non H', rt := Q } (start N vs) H) : Gd P w K mg base (L2.CX P w) (k + 1) x ps sp := by
  obtain ⟨fd, F⟩ := F
  exact ⟨f, fd, F.ok S len hbody, F.bindsN hb, F.kp, hm⟩
theorem md0 (F : ∃ fd, FunD K x qual (defArgs st) (defBody st) (defScope st) [] [] f fd) (c : Cls K C) (me : Meth K C x f) (S : FnScope N ps (defScope st))
    (hb : ∀ (kV doc pm : Value) (an : Option Addr) (cdv ct : Value) (us : List Value), us.length = ps.length → bindArgs (PySem.W.fnOf x qual (defArgs st) (defBody st) (defScope st) .none kV doc pm an cdv ct) ⟨us, []⟩ = pure (ps.zip us))
    (len : ∀ vs H Q E, sp vs H Q E → vs.length = ps.length)
    (hbody : ∀ (cdv : Value) (A : Around) (outer : List Env) (s : Shared) (H : Hp) (vs : List V) (Q : VK) (E : XK), Room k (A.deeper (envOfC qual (defScope st) s.heap.objs.size f cdv)) → sp vs H Q E →
      ∃ t, PSs (cxOf CX0 P w K mg base N qual (defScope st) f cdv A outer s H E).nox (defBody st) t ∧ t { nx := fun _ H' => Q .non H', rt := Q } (start N vs) H) : Md P w K mg base CX0 (k + 1) C x ps sp := by
  obtain ⟨fd, F⟩ := F
  refine ⟨f, fd, F.ok S len fun cdv A outer s H vs Q E hr hsp => ?_, F.bindsN hb, c, me⟩
  obtain ⟨t, h, q⟩ := hbody cdv A outer s H vs Q E hr hsp
  exact ⟨t, h.nox, q⟩
theorem mdX (F : ∃ fd, FunD K x qual (defArgs st) (defBody st) (defScope st) [] [] f fd) (c : Cls K C) (me : Meth K C x f) (S : FnScope N ps (defScope st))
    (hb : ∀ (kV doc pm : Value) (an : Option Addr) (cdv ct : Value) (us : List Value), us.length = ps.length → bindArgs (PySem.W.fnOf x qual (defArgs st) (defBody st) (defScope st) .none kV doc pm an cdv ct) ⟨us, []⟩ = pure (ps.zip us))
    (len : ∀ vs H Q E, sp vs H Q E → vs.length = ps.length)
    (hbody : ∀ (cdv : Value) (A : Around) (outer : List Env) (s : Shared) (H : Hp) (vs : List V) (Q : VK) (E : XK), Room k (A.deeper (envOfC qual (defScope st) s.heap.objs.size f cdv)) → sp vs H Q E →
      ∃ t, PSs (cxOf (L2.CX P w) P w K mg base N qual (defScope st) f cdv A outer s H E) (defBody st) t ∧ t { nx := fun _ H' => Q .non H', rt := Q } (start N vs) H) : Md P w K mg base (L2.CX P w) (k + 1) C x ps sp := by
  obtain ⟨fd, F⟩ := F
  exact ⟨f, fd, F.ok S len hbody, F.bindsN hb, c, me⟩
end
/-! ### data -/
def sd (b : Bool) : Str := if b = true then "buy" else "sell"
def Kd.s : Kd → Str
  | .limit => "limit"
  | .now => "now"
  | .whole => "whole"
  | .quiet => "quiet"
def Ph.s : Ph → Str
  | .opn => "open"
  | .call => "call"
  | .halt => "halt"
def Ord.v (o : Ord) : List V := [.str o.name, .str o.who, .str (sd o.buy), .int o.price, .int o.left, .int o.shown, .int o.peak]
def Fact.v : Fact → List V
  | .trade b s p a => [.str "trade", .str b, .str s, .int p, .int a]
  | .shun n l => [.str "shun", .str n, .int l]
  | .gone n l => [.str "gone", .str n, .int l]
  | .rest n l => [.str "rest", .str n, .int l]
  | .sleep n t => [.str "sleep", .str n, .int t]
  | .wake n => [.str "wake", .str n]
  | .out n l => [.str "out", .str n, .int l]
  | .less n l => [.str "less", .str n, .int l]
  | .phase w => [.str "phase", .str w.s]
def Step.v : Step → List V
  | .trade n p a => [.str "trade", .str n, .int p, .int a]
  | .shun n l => [.str "shun", .str n, .int l]
  | .gone n l => [.str "gone", .str n, .int l]
/-- v is the tuple xs -/
def TupAt (H : Hp) (v : V) (xs : List V) : Prop := ∃ a, v = .ref a ∧ H a = some (.tup xs)
/-- tuples, one by one -/
inductive Tups (H : Hp) : List V → List (List V) → Prop where
  | nil : Tups H [] []
  | cons {v : V} {vs : List V} {x : List V} {xs : List (List V)} : TupAt H v x → Tups H vs xs → Tups H (v :: vs) (x :: xs)
/-- at l a list of tuples -/
def LstAt (H : Hp) (l : Addr) (xs : List (List V)) : Prop := ∃ vs, H l = some (.lst vs) ∧ Tups H vs xs
abbrev OrdAt (H : Hp) (v : V) (o : Ord) : Prop := TupAt H v o.v
abbrev Ords (H : Hp) (vs : List V) (os : List Ord) : Prop := Tups H vs (os.map Ord.v)
abbrev LinAt (H : Hp) (l : Addr) (os : List Ord) : Prop := LstAt H l (os.map Ord.v)
/-- the tuples stand -/
def Kt (H H' : Hp) : Prop := ∀ a xs, H a = some (.tup xs) → H' a = some (.tup xs)
theorem Kt.refl (H : Hp) : Kt H H := fun _ _ h => h
theorem Kt.trans {H H1 H2 : Hp} (a : Kt H H1) (b : Kt H1 H2) : Kt H H2 := fun c x h => b c x (a c x h)
theorem Kt.same {H H' : Hp} (h : Same H H') : Kt H H' := fun a x e => h a _ e
theorem Kt.upd {H : Hp} {l : Addr} {o : HO} (h : ∀ xs, H l ≠ some (.tup xs)) : Kt H (upd H l o) := fun a xs e => by
  rw [upd_ne (fun q => h xs (by rw [← q]; exact e))]
  exact e
theorem same_upd {H : Hp} {l : Addr} {o : HO} (h : H l = none) : Same H (upd H l o) := fun a x e => by
  rw [upd_ne (ne_of_none e h)]
  exact e
theorem TupAt.kt {H H' : Hp} {v : V} {x : List V} (k : Kt H H') (h : TupAt H v x) : TupAt H' v x := by
  obtain ⟨a, e, q⟩ := h
  exact ⟨a, e, k a x q⟩
theorem Tups.kt {H H' : Hp} (k : Kt H H') : ∀ {vs : List V} {xs : List (List V)}, Tups H vs xs → Tups H' vs xs
  | _, _, .nil => .nil
  | _, _, .cons h t => .cons (h.kt k) (t.kt k)
theorem LstAt.same {H H' : Hp} {l : Addr} {xs : List (List V)} (k : Same H H') (h : LstAt H l xs) : LstAt H' l xs := by
  obtain ⟨vs, e, t⟩ := h
  exact ⟨vs, k l _ e, t.kt (Kt.same k)⟩
theorem Tups.length {H : Hp} : ∀ {vs : List V} {xs : List (List V)}, Tups H vs xs → vs.length = xs.length
  | _, _, .nil => rfl
  | _, _, .cons _ t => congrArg Nat.succ t.length
theorem Tups.get {H : Hp} : ∀ {vs : List V} {xs : List (List V)} {i : Nat} {v : V}, Tups H vs xs → vs[i]? = some v → ∃ x, xs[i]? = some x ∧ TupAt H v x
  | _, _, i, v, .nil, e => by simp at e
  | _, _, 0, v, .cons h t, e => by
    have q := Option.some.inj (show some _ = some v from e)
    subst q
    exact ⟨_, rfl, h⟩
  | _, _, i + 1, v, .cons h t, e => t.get (i := i) (v := v) (by simpa using e)
theorem Tups.at {H : Hp} : ∀ {vs : List V} {xs : List (List V)} {i : Nat} {x : List V}, Tups H vs xs → xs[i]? = some x → ∃ v, vs[i]? = some v ∧ TupAt H v x
  | _, _, i, x, .nil, e => by simp at e
  | _, _, 0, x, .cons h t, e => by
    have q := Option.some.inj (show some _ = some x from e)
    subst q
    exact ⟨_, rfl, h⟩
  | _, _, i + 1, x, .cons h t, e => t.at (i := i) (x := x) (by simpa using e)
theorem Tups.append {H : Hp} : ∀ {vs ws : List V} {xs ys : List (List V)}, Tups H vs xs → Tups H ws ys → Tups H (vs ++ ws) (xs ++ ys)
  | _, _, _, _, .nil, h => h
  | _, _, _, _, .cons a t, h => .cons a (t.append h)
theorem Tups.one {H : Hp} {v : V} {x : List V} (h : TupAt H v x) : Tups H [v] [x] := .cons h .nil
theorem Tups.take {H : Hp} : ∀ {vs : List V} {xs : List (List V)} (n : Nat), Tups H vs xs → Tups H (vs.take n) (xs.take n)
  | _, _, 0, _ => .nil
  | _, _, _ + 1, .nil => .nil
  | _, _, n + 1, .cons a t => .cons a (t.take n)
theorem Tups.drop {H : Hp} : ∀ {vs : List V} {xs : List (List V)} (n : Nat), Tups H vs xs → Tups H (vs.drop n) (xs.drop n)
  | _, _, 0, h => h
  | _, _, _ + 1, .nil => .nil
  | _, _, n + 1, .cons _ t => t.drop n
theorem Tups.head {H : Hp} {vs : List V} {x : List V} {xs : List (List V)} (h : Tups H vs (x :: xs)) : ∃ v ws, vs = v :: ws ∧ TupAt H v x ∧ Tups H ws xs := by
  cases h with
  | cons a t => exact ⟨_, _, rfl, a, t⟩
theorem Tups.nil_of {H : Hp} {vs : List V} (h : Tups H vs []) : vs = [] := by
  cases h
  rfl
/-! ### tests -/
theorem iteB {c c' : Bool} {A B : Prop} (e : c = c') (h : if c' = true then A else B) : if c = true then A else B := by
  rw [e]
  exact h
theorem iteY {c : Bool} {A B : Prop} (e : c = true) (h : A) : if c = true then A else B := by
  rw [if_pos e]
  exact h
theorem iteN {c : Bool} {A B : Prop} (e : c = false) (h : B) : if c = true then A else B := by
  rw [e, if_neg Bool.false_ne_true]
  exact h
theorem sd_buy (b : Bool) : decide (V.str (sd b) = V.str "buy") = b := by cases b <;> decide +kernel
theorem sd_sell (b : Bool) : decide (V.str (sd b) = V.str "sell") = !b := by cases b <;> decide +kernel
end BB
set_option Elab.async false
set_option linter.all false
set_option maxRecDepth 100000
set_option maxHeartbeats 4000000
/-! C2: the facts of the top by their names; the slots of each def (both printed by gen.py). -/
namespace BB
open PySem PySem.Spec PyProof.Rows L2
section
variable {K : PySem.W.Frag} {mg : Str → Option Value}
theorem Txt.g_is_name (T : Txt K mg) : mg "is_name" = some (.ref (He.ga K "is_name")) := T.glo 0
theorem Txt.g_checked_name (T : Txt K mg) : mg "checked_name" = some (.ref (He.ga K "checked_name")) := T.glo 1
theorem Txt.g_checked_number (T : Txt K mg) : mg "checked_number" = some (.ref (He.ga K "checked_number")) := T.glo 2
theorem Txt.g_in_view (T : Txt K mg) : mg "in_view" = some (.ref (He.ga K "in_view")) := T.glo 3
theorem Txt.g_made (T : Txt K mg) : mg "made" = some (.ref (He.ga K "made")) := T.glo 4
theorem Txt.g_with_left (T : Txt K mg) : mg "with_left" = some (.ref (He.ga K "with_left")) := T.glo 5
theorem Txt.g_fresh (T : Txt K mg) : mg "fresh" = some (.ref (He.ga K "fresh")) := T.glo 6
theorem Txt.g_renews (T : Txt K mg) : mg "renews" = some (.ref (He.ga K "renews")) := T.glo 7
theorem Txt.g_filled (T : Txt K mg) : mg "filled" = some (.ref (He.ga K "filled")) := T.glo 8
theorem Txt.g_lessened (T : Txt K mg) : mg "lessened" = some (.ref (He.ga K "lessened")) := T.glo 9
theorem Txt.g_ahead (T : Txt K mg) : mg "ahead" = some (.ref (He.ga K "ahead")) := T.glo 10
theorem Txt.g_allows (T : Txt K mg) : mg "allows" = some (.ref (He.ga K "allows")) := T.glo 11
theorem Txt.g_other_side (T : Txt K mg) : mg "other_side" = some (.ref (He.ga K "other_side")) := T.glo 12
theorem Txt.g_wanted (T : Txt K mg) : mg "wanted" = some (.ref (He.ga K "wanted")) := T.glo 13
theorem Txt.g_offered (T : Txt K mg) : mg "offered" = some (.ref (He.ga K "offered")) := T.glo 14
theorem Txt.g_volume (T : Txt K mg) : mg "volume" = some (.ref (He.ga K "volume")) := T.glo 15
theorem Txt.g_limits (T : Txt K mg) : mg "limits" = some (.ref (He.ga K "limits")) := T.glo 16
theorem Txt.g_limit_of (T : Txt K mg) : mg "limit_of" = some (.ref (He.ga K "limit_of")) := T.glo 17
theorem Txt.g_poured (T : Txt K mg) : mg "poured" = some (.ref (He.ga K "poured")) := T.glo 18
theorem Txt.g_rank_at (T : Txt K mg) : mg "rank_at" = some (.ref (He.ga K "rank_at")) := T.glo 19
theorem Txt.g_call_price (T : Txt K mg) : mg "call_price" = some (.ref (He.ga K "call_price")) := T.glo 20
theorem Txt.g_parts_of (T : Txt K mg) : mg "parts_of" = some (.ref (He.ga K "parts_of")) := T.glo 21
theorem Txt.g_paired (T : Txt K mg) : mg "paired" = some (.ref (He.ga K "paired")) := T.glo 22
theorem Txt.g_line_behind (T : Txt K mg) : mg "line_behind" = some (.ref (He.ga K "line_behind")) := T.glo 23
theorem Txt.g_called (T : Txt K mg) : mg "called" = some (.ref (He.ga K "called")) := T.glo 24
theorem Txt.g_joined (T : Txt K mg) : mg "joined" = some (.ref (He.ga K "joined")) := T.glo 25
theorem Txt.g_served (T : Txt K mg) : mg "served" = some (.ref (He.ga K "served")) := T.glo 26
theorem Txt.g_met (T : Txt K mg) : mg "met" = some (.ref (He.ga K "met")) := T.glo 27
theorem Txt.g_could (T : Txt K mg) : mg "could" = some (.ref (He.ga K "could")) := T.glo 28
theorem Txt.g_kind_of (T : Txt K mg) : mg "kind_of" = some (.ref (He.ga K "kind_of")) := T.glo 29
theorem Txt.g_entered (T : Txt K mg) : mg "entered" = some (.ref (He.ga K "entered")) := T.glo 30
theorem Txt.g_phase_of (T : Txt K mg) : mg "phase_of" = some (.ref (He.ga K "phase_of")) := T.glo 31
theorem Txt.g_named (T : Txt K mg) : mg "named" = some (.ref (He.ga K "named")) := T.glo 32
theorem Txt.g_unnamed (T : Txt K mg) : mg "unnamed" = some (.ref (He.ga K "unnamed")) := T.glo 33
theorem Txt.g_exchanged (T : Txt K mg) : mg "exchanged" = some (.ref (He.ga K "exchanged")) := T.glo 34
theorem Txt.g_is_met (T : Txt K mg) : mg "is_met" = some (.ref (He.ga K "is_met")) := T.glo 35
theorem Txt.g_told (T : Txt K mg) : mg "told" = some (.ref (He.ga K "told")) := T.glo 36
theorem Txt.g_law_cell_at (T : Txt K mg) : mg "_law_cell_at" = some (.ref (He.ga K "_law_cell_at")) := T.glo 37
theorem Txt.g_law_name (T : Txt K mg) : mg "_law_name" = some (.ref (He.ga K "_law_name")) := T.glo 38
theorem Txt.g_law_whole (T : Txt K mg) : mg "_law_whole" = some (.ref (He.ga K "_law_whole")) := T.glo 39
theorem Txt.g_law_alike (T : Txt K mg) : mg "_law_alike" = some (.ref (He.ga K "_law_alike")) := T.glo 40
theorem Txt.g_law_deed (T : Txt K mg) : mg "_law_deed" = some (.ref (He.ga K "_law_deed")) := T.glo 41
theorem Txt.g_law_done (T : Txt K mg) : mg "_law_done" = some (.ref (He.ga K "_law_done")) := T.glo 42
theorem Txt.g_law_floor (T : Txt K mg) : mg "_law_floor" = some (.ref (He.ga K "_law_floor")) := T.glo 43
theorem Txt.g_law_fits (T : Txt K mg) : mg "_law_fits" = some (.ref (He.ga K "_law_fits")) := T.glo 44
theorem Txt.g_law_anew (T : Txt K mg) : mg "_law_anew" = some (.ref (He.ga K "_law_anew")) := T.glo 45
theorem Txt.g_law_joined (T : Txt K mg) : mg "_law_joined" = some (.ref (He.ga K "_law_joined")) := T.glo 46
theorem Txt.g_law_allowed (T : Txt K mg) : mg "_law_allowed" = some (.ref (He.ga K "_law_allowed")) := T.glo 47
theorem Txt.g_law_met_first (T : Txt K mg) : mg "_law_met_first" = some (.ref (He.ga K "_law_met_first")) := T.glo 48
theorem Txt.g_law_called (T : Txt K mg) : mg "_law_called" = some (.ref (He.ga K "_law_called")) := T.glo 49
theorem Txt.g_law_came (T : Txt K mg) : mg "_law_came" = some (.ref (He.ga K "_law_came")) := T.glo 50
theorem Txt.g_law_ended (T : Txt K mg) : mg "_law_ended" = some (.ref (He.ga K "_law_ended")) := T.glo 51
theorem Txt.g_law_could (T : Txt K mg) : mg "_law_could" = some (.ref (He.ga K "_law_could")) := T.glo 52
theorem Txt.g_law_begin (T : Txt K mg) : mg "_law_begin" = some (.ref (He.ga K "_law_begin")) := T.glo 53
theorem Txt.g_law_put_otherwise (T : Txt K mg) : mg "_law_put_otherwise" = some (.ref (He.ga K "_law_put_otherwise")) := T.glo 54
theorem Txt.g_law_lessened (T : Txt K mg) : mg "_law_lessened" = some (.ref (He.ga K "_law_lessened")) := T.glo 55
theorem Txt.g_law_step (T : Txt K mg) : mg "_law_step" = some (.ref (He.ga K "_law_step")) := T.glo 56
theorem Txt.g_law (T : Txt K mg) : mg "law" = some (.ref (He.ga K "law")) := T.glo 57
theorem Txt.g_BourseError (T : Txt K mg) : mg "BourseError" = some (.ref (He.ga K "BourseError")) := T.glo 58
theorem Txt.g_BadName (T : Txt K mg) : mg "BadName" = some (.ref (He.ga K "BadName")) := T.glo 59
theorem Txt.g_BadNumber (T : Txt K mg) : mg "BadNumber" = some (.ref (He.ga K "BadNumber")) := T.glo 60
theorem Txt.g_BadSide (T : Txt K mg) : mg "BadSide" = some (.ref (He.ga K "BadSide")) := T.glo 61
theorem Txt.g_BadKind (T : Txt K mg) : mg "BadKind" = some (.ref (He.ga K "BadKind")) := T.glo 62
theorem Txt.g_BadPhase (T : Txt K mg) : mg "BadPhase" = some (.ref (He.ga K "BadPhase")) := T.glo 63
theorem Txt.g_NoOrder (T : Txt K mg) : mg "NoOrder" = some (.ref (He.ga K "NoOrder")) := T.glo 64
theorem Txt.g_Twice (T : Txt K mg) : mg "Twice" = some (.ref (He.ga K "Twice")) := T.glo 65
theorem Txt.g_NotNow (T : Txt K mg) : mg "NotNow" = some (.ref (He.ga K "NotNow")) := T.glo 66
theorem Txt.g_Limit (T : Txt K mg) : mg "Limit" = some (.ref (He.ga K "Limit")) := T.glo 67
theorem Txt.g_Now (T : Txt K mg) : mg "Now" = some (.ref (He.ga K "Now")) := T.glo 68
theorem Txt.g_Whole (T : Txt K mg) : mg "Whole" = some (.ref (He.ga K "Whole")) := T.glo 69
theorem Txt.g_Quiet (T : Txt K mg) : mg "Quiet" = some (.ref (He.ga K "Quiet")) := T.glo 70
theorem Txt.g_Open (T : Txt K mg) : mg "Open" = some (.ref (He.ga K "Open")) := T.glo 71
theorem Txt.g_Call (T : Txt K mg) : mg "Call" = some (.ref (He.ga K "Call")) := T.glo 72
theorem Txt.g_Halt (T : Txt K mg) : mg "Halt" = some (.ref (He.ga K "Halt")) := T.glo 73
theorem Txt.g_Floor (T : Txt K mg) : mg "Floor" = some (.ref (He.ga K "Floor")) := T.glo 74
theorem Txt.b_min (T : Txt K mg) : mg "min" = none := T.fre 75
theorem Txt.b_len (T : Txt K mg) : mg "len" = none := T.fre 76
theorem Txt.b_abs (T : Txt K mg) : mg "abs" = none := T.fre 77
theorem Txt.b_sorted (T : Txt K mg) : mg "sorted" = none := T.fre 78
theorem Txt.b_range (T : Txt K mg) : mg "range" = none := T.fre 79
theorem Txt.b_enumerate (T : Txt K mg) : mg "enumerate" = none := T.fre 80
theorem Txt.b_zip (T : Txt K mg) : mg "zip" = none := T.fre 81
theorem Txt.b_isinstance (T : Txt K mg) : mg "isinstance" = none := T.fre 82
theorem Txt.b_int (T : Txt K mg) : mg "int" = none := T.fre 83
theorem Txt.b_str (T : Txt K mg) : mg "str" = none := T.fre 84
theorem Txt.b_bool (T : Txt K mg) : mg "bool" = none := T.fre 85
theorem Txt.b_list (T : Txt K mg) : mg "list" = none := T.fre 86
theorem Txt.b_tuple (T : Txt K mg) : mg "tuple" = none := T.fre 87
theorem Txt.c_LETTERS (T : Txt K mg) : ∃ t, mg "LETTERS" = some (.str "abcdefghijklmnopqrstuvwxyz" t) := T.cs 88
theorem Txt.c_FIGURES (T : Txt K mg) : ∃ t, mg "FIGURES" = some (.str "0123456789" t) := T.cs 89
theorem Txt.c_LONGEST (T : Txt K mg) : ∃ t, mg "LONGEST" = some (.int 12 t) := T.ci 90
theorem Txt.c_MOST (T : Txt K mg) : ∃ t, mg "MOST" = some (.int 1000000000 t) := T.ci 91
theorem Txt.c_PEAKS (T : Txt K mg) : ∃ t, mg "PEAKS" = some (.int 16 t) := T.ci 92
theorem Txt.l_Limit (T : Txt K mg) : Cls K (He.ga K "Limit") := He.cls_ok (T.fact 93 (f := .cls "Limit"))
theorem Txt.l_Now (T : Txt K mg) : Cls K (He.ga K "Now") := He.cls_ok (T.fact 94 (f := .cls "Now"))
theorem Txt.l_Whole (T : Txt K mg) : Cls K (He.ga K "Whole") := He.cls_ok (T.fact 95 (f := .cls "Whole"))
theorem Txt.l_Quiet (T : Txt K mg) : Cls K (He.ga K "Quiet") := He.cls_ok (T.fact 96 (f := .cls "Quiet"))
theorem Txt.l_Open (T : Txt K mg) : Cls K (He.ga K "Open") := He.cls_ok (T.fact 97 (f := .cls "Open"))
theorem Txt.l_Call (T : Txt K mg) : Cls K (He.ga K "Call") := He.cls_ok (T.fact 98 (f := .cls "Call"))
theorem Txt.l_Halt (T : Txt K mg) : Cls K (He.ga K "Halt") := He.cls_ok (T.fact 99 (f := .cls "Halt"))
theorem Txt.l_Floor (T : Txt K mg) : Cls K (He.ga K "Floor") := He.cls_ok (T.fact 100 (f := .cls "Floor"))
theorem Txt.m_Limit_lets (T : Txt K mg) : Meth K (He.ga K "Limit") "lets" (He.ma K (He.ga K "Limit") "lets") := He.meth_ok (T.fact 101 (f := .meth "Limit" "lets"))
theorem Txt.m_Limit_keeps (T : Txt K mg) : Meth K (He.ga K "Limit") "keeps" (He.ma K (He.ga K "Limit") "keeps") := He.meth_ok (T.fact 102 (f := .meth "Limit" "keeps"))
theorem Txt.m_Now_lets (T : Txt K mg) : Meth K (He.ga K "Now") "lets" (He.ma K (He.ga K "Now") "lets") := He.meth_ok (T.fact 103 (f := .meth "Now" "lets"))
theorem Txt.m_Now_keeps (T : Txt K mg) : Meth K (He.ga K "Now") "keeps" (He.ma K (He.ga K "Now") "keeps") := He.meth_ok (T.fact 104 (f := .meth "Now" "keeps"))
theorem Txt.m_Whole_lets (T : Txt K mg) : Meth K (He.ga K "Whole") "lets" (He.ma K (He.ga K "Whole") "lets") := He.meth_ok (T.fact 105 (f := .meth "Whole" "lets"))
theorem Txt.m_Whole_keeps (T : Txt K mg) : Meth K (He.ga K "Whole") "keeps" (He.ma K (He.ga K "Whole") "keeps") := He.meth_ok (T.fact 106 (f := .meth "Whole" "keeps"))
theorem Txt.m_Quiet_lets (T : Txt K mg) : Meth K (He.ga K "Quiet") "lets" (He.ma K (He.ga K "Quiet") "lets") := He.meth_ok (T.fact 107 (f := .meth "Quiet" "lets"))
theorem Txt.m_Quiet_keeps (T : Txt K mg) : Meth K (He.ga K "Quiet") "keeps" (He.ma K (He.ga K "Quiet") "keeps") := He.meth_ok (T.fact 108 (f := .meth "Quiet" "keeps"))
theorem Txt.m_Open_meets (T : Txt K mg) : Meth K (He.ga K "Open") "meets" (He.ma K (He.ga K "Open") "meets") := He.meth_ok (T.fact 109 (f := .meth "Open" "meets"))
theorem Txt.m_Open_takes (T : Txt K mg) : Meth K (He.ga K "Open") "takes" (He.ma K (He.ga K "Open") "takes") := He.meth_ok (T.fact 110 (f := .meth "Open" "takes"))
theorem Txt.m_Open_rests_asleep (T : Txt K mg) : Meth K (He.ga K "Open") "rests_asleep" (He.ma K (He.ga K "Open") "rests_asleep") := He.meth_ok (T.fact 111 (f := .meth "Open" "rests_asleep"))
theorem Txt.m_Open_leads (T : Txt K mg) : Meth K (He.ga K "Open") "leads" (He.ma K (He.ga K "Open") "leads") := He.meth_ok (T.fact 112 (f := .meth "Open" "leads"))
theorem Txt.m_Call_meets (T : Txt K mg) : Meth K (He.ga K "Call") "meets" (He.ma K (He.ga K "Call") "meets") := He.meth_ok (T.fact 113 (f := .meth "Call" "meets"))
theorem Txt.m_Call_takes (T : Txt K mg) : Meth K (He.ga K "Call") "takes" (He.ma K (He.ga K "Call") "takes") := He.meth_ok (T.fact 114 (f := .meth "Call" "takes"))
theorem Txt.m_Call_rests_asleep (T : Txt K mg) : Meth K (He.ga K "Call") "rests_asleep" (He.ma K (He.ga K "Call") "rests_asleep") := He.meth_ok (T.fact 115 (f := .meth "Call" "rests_asleep"))
theorem Txt.m_Call_leads (T : Txt K mg) : Meth K (He.ga K "Call") "leads" (He.ma K (He.ga K "Call") "leads") := He.meth_ok (T.fact 116 (f := .meth "Call" "leads"))
theorem Txt.m_Halt_meets (T : Txt K mg) : Meth K (He.ga K "Halt") "meets" (He.ma K (He.ga K "Halt") "meets") := He.meth_ok (T.fact 117 (f := .meth "Halt" "meets"))
theorem Txt.m_Halt_takes (T : Txt K mg) : Meth K (He.ga K "Halt") "takes" (He.ma K (He.ga K "Halt") "takes") := He.meth_ok (T.fact 118 (f := .meth "Halt" "takes"))
theorem Txt.m_Halt_rests_asleep (T : Txt K mg) : Meth K (He.ga K "Halt") "rests_asleep" (He.ma K (He.ga K "Halt") "rests_asleep") := He.meth_ok (T.fact 119 (f := .meth "Halt" "rests_asleep"))
theorem Txt.m_Halt_leads (T : Txt K mg) : Meth K (He.ga K "Halt") "leads" (He.ma K (He.ga K "Halt") "leads") := He.meth_ok (T.fact 120 (f := .meth "Halt" "leads"))
theorem Txt.m_Floor_line_of (T : Txt K mg) : Meth K (He.ga K "Floor") "line_of" (He.ma K (He.ga K "Floor") "line_of") := He.meth_ok (T.fact 121 (f := .meth "Floor" "line_of"))
theorem Txt.m_Floor_set_line (T : Txt K mg) : Meth K (He.ga K "Floor") "set_line" (He.ma K (He.ga K "Floor") "set_line") := He.meth_ok (T.fact 122 (f := .meth "Floor" "set_line"))
theorem Txt.m_Floor_known (T : Txt K mg) : Meth K (He.ga K "Floor") "known" (He.ma K (He.ga K "Floor") "known") := He.meth_ok (T.fact 123 (f := .meth "Floor" "known"))
theorem Txt.m_Floor_enter (T : Txt K mg) : Meth K (He.ga K "Floor") "enter" (He.ma K (He.ga K "Floor") "enter") := He.meth_ok (T.fact 124 (f := .meth "Floor" "enter"))
theorem Txt.m_Floor_come_in (T : Txt K mg) : Meth K (He.ga K "Floor") "come_in" (He.ma K (He.ga K "Floor") "come_in") := He.meth_ok (T.fact 125 (f := .meth "Floor" "come_in"))
theorem Txt.m_Floor_first_awake (T : Txt K mg) : Meth K (He.ga K "Floor") "first_awake" (He.ma K (He.ga K "Floor") "first_awake") := He.meth_ok (T.fact 126 (f := .meth "Floor" "first_awake"))
theorem Txt.m_Floor_woken (T : Txt K mg) : Meth K (He.ga K "Floor") "woken" (He.ma K (He.ga K "Floor") "woken") := He.meth_ok (T.fact 127 (f := .meth "Floor" "woken"))
theorem Txt.m_Floor_lay (T : Txt K mg) : Meth K (He.ga K "Floor") "lay" (He.ma K (He.ga K "Floor") "lay") := He.meth_ok (T.fact 128 (f := .meth "Floor" "lay"))
theorem Txt.m_Floor_find (T : Txt K mg) : Meth K (He.ga K "Floor") "find" (He.ma K (He.ga K "Floor") "find") := He.meth_ok (T.fact 129 (f := .meth "Floor" "find"))
theorem Txt.m_Floor_take_out (T : Txt K mg) : Meth K (He.ga K "Floor") "take_out" (He.ma K (He.ga K "Floor") "take_out") := He.meth_ok (T.fact 130 (f := .meth "Floor" "take_out"))
theorem Txt.m_Floor_lessen (T : Txt K mg) : Meth K (He.ga K "Floor") "lessen" (He.ma K (He.ga K "Floor") "lessen") := He.meth_ok (T.fact 131 (f := .meth "Floor" "lessen"))
theorem Txt.m_Floor_turn (T : Txt K mg) : Meth K (He.ga K "Floor") "turn" (He.ma K (He.ga K "Floor") "turn") := He.meth_ok (T.fact 132 (f := .meth "Floor" "turn"))
theorem Txt.m_Floor_look (T : Txt K mg) : Meth K (He.ga K "Floor") "look" (He.ma K (He.ga K "Floor") "look") := He.meth_ok (T.fact 133 (f := .meth "Floor" "look"))
theorem Txt.n_phase (T : Txt K mg) : NoAttr K (He.ga K "Floor") "phase" := He.noat_ok (T.fact 134 (f := .noat "Floor" "phase"))
theorem Txt.n_last (T : Txt K mg) : NoAttr K (He.ga K "Floor") "last" := He.noat_ok (T.fact 135 (f := .noat "Floor" "last"))
theorem Txt.n_leap (T : Txt K mg) : NoAttr K (He.ga K "Floor") "leap" := He.noat_ok (T.fact 136 (f := .noat "Floor" "leap"))
theorem Txt.n_buys (T : Txt K mg) : NoAttr K (He.ga K "Floor") "buys" := He.noat_ok (T.fact 137 (f := .noat "Floor" "buys"))
theorem Txt.n_sells (T : Txt K mg) : NoAttr K (He.ga K "Floor") "sells" := He.noat_ok (T.fact 138 (f := .noat "Floor" "sells"))
theorem Txt.n_asleep (T : Txt K mg) : NoAttr K (He.ga K "Floor") "asleep" := He.noat_ok (T.fact 139 (f := .noat "Floor" "asleep"))
theorem Txt.mk_Floor (T : Txt K mg) : Mk K (He.ga K "Floor") (He.ma K (He.ga K "Floor") "__init__") := He.mkr_ok (T.fact 140 (f := .mkr "Floor"))
theorem Txt.x_BadName (T : Txt K mg) : PySem.W.excIn K (He.ga K "BadName") He.veBase "ValueError.__new__" = true ∧ PySem.W.keepIn K (.ref (He.ga K "BadName")) = true ∧ PySem.W.subIn K (.ref (He.ga K "BadName")) (.type "BaseException") = some true ∧ PySem.W.typeIn K (.ref (He.ga K "BadName")) = some (.type "type") := He.exc_ok (T.fact 141 (f := .exc "BadName"))
theorem Txt.x_BadNumber (T : Txt K mg) : PySem.W.excIn K (He.ga K "BadNumber") He.veBase "ValueError.__new__" = true ∧ PySem.W.keepIn K (.ref (He.ga K "BadNumber")) = true ∧ PySem.W.subIn K (.ref (He.ga K "BadNumber")) (.type "BaseException") = some true ∧ PySem.W.typeIn K (.ref (He.ga K "BadNumber")) = some (.type "type") := He.exc_ok (T.fact 142 (f := .exc "BadNumber"))
theorem Txt.x_BadSide (T : Txt K mg) : PySem.W.excIn K (He.ga K "BadSide") He.veBase "ValueError.__new__" = true ∧ PySem.W.keepIn K (.ref (He.ga K "BadSide")) = true ∧ PySem.W.subIn K (.ref (He.ga K "BadSide")) (.type "BaseException") = some true ∧ PySem.W.typeIn K (.ref (He.ga K "BadSide")) = some (.type "type") := He.exc_ok (T.fact 143 (f := .exc "BadSide"))
theorem Txt.x_BadKind (T : Txt K mg) : PySem.W.excIn K (He.ga K "BadKind") He.veBase "ValueError.__new__" = true ∧ PySem.W.keepIn K (.ref (He.ga K "BadKind")) = true ∧ PySem.W.subIn K (.ref (He.ga K "BadKind")) (.type "BaseException") = some true ∧ PySem.W.typeIn K (.ref (He.ga K "BadKind")) = some (.type "type") := He.exc_ok (T.fact 144 (f := .exc "BadKind"))
theorem Txt.x_BadPhase (T : Txt K mg) : PySem.W.excIn K (He.ga K "BadPhase") He.veBase "ValueError.__new__" = true ∧ PySem.W.keepIn K (.ref (He.ga K "BadPhase")) = true ∧ PySem.W.subIn K (.ref (He.ga K "BadPhase")) (.type "BaseException") = some true ∧ PySem.W.typeIn K (.ref (He.ga K "BadPhase")) = some (.type "type") := He.exc_ok (T.fact 145 (f := .exc "BadPhase"))
theorem Txt.x_NoOrder (T : Txt K mg) : PySem.W.excIn K (He.ga K "NoOrder") He.veBase "ValueError.__new__" = true ∧ PySem.W.keepIn K (.ref (He.ga K "NoOrder")) = true ∧ PySem.W.subIn K (.ref (He.ga K "NoOrder")) (.type "BaseException") = some true ∧ PySem.W.typeIn K (.ref (He.ga K "NoOrder")) = some (.type "type") := He.exc_ok (T.fact 146 (f := .exc "NoOrder"))
theorem Txt.x_Twice (T : Txt K mg) : PySem.W.excIn K (He.ga K "Twice") He.veBase "ValueError.__new__" = true ∧ PySem.W.keepIn K (.ref (He.ga K "Twice")) = true ∧ PySem.W.subIn K (.ref (He.ga K "Twice")) (.type "BaseException") = some true ∧ PySem.W.typeIn K (.ref (He.ga K "Twice")) = some (.type "type") := He.exc_ok (T.fact 147 (f := .exc "Twice"))
theorem Txt.x_NotNow (T : Txt K mg) : PySem.W.excIn K (He.ga K "NotNow") He.veBase "ValueError.__new__" = true ∧ PySem.W.keepIn K (.ref (He.ga K "NotNow")) = true ∧ PySem.W.subIn K (.ref (He.ga K "NotNow")) (.type "BaseException") = some true ∧ PySem.W.typeIn K (.ref (He.ga K "NotNow")) = some (.type "type") := He.exc_ok (T.fact 148 (f := .exc "NotNow"))
theorem Txt.e_BadName (T : Txt K mg) : PySem.W.exmOne K (.ref (He.ga K "BadName")) (.ref (He.ga K "BourseError")) = some true := He.exm_ok (T.fact 149 (f := .exm "BadName" "BourseError" true))
theorem Txt.e_BadNumber (T : Txt K mg) : PySem.W.exmOne K (.ref (He.ga K "BadNumber")) (.ref (He.ga K "BourseError")) = some true := He.exm_ok (T.fact 150 (f := .exm "BadNumber" "BourseError" true))
theorem Txt.e_BadSide (T : Txt K mg) : PySem.W.exmOne K (.ref (He.ga K "BadSide")) (.ref (He.ga K "BourseError")) = some true := He.exm_ok (T.fact 151 (f := .exm "BadSide" "BourseError" true))
theorem Txt.e_BadKind (T : Txt K mg) : PySem.W.exmOne K (.ref (He.ga K "BadKind")) (.ref (He.ga K "BourseError")) = some true := He.exm_ok (T.fact 152 (f := .exm "BadKind" "BourseError" true))
theorem Txt.e_BadPhase (T : Txt K mg) : PySem.W.exmOne K (.ref (He.ga K "BadPhase")) (.ref (He.ga K "BourseError")) = some true := He.exm_ok (T.fact 153 (f := .exm "BadPhase" "BourseError" true))
theorem Txt.e_NoOrder (T : Txt K mg) : PySem.W.exmOne K (.ref (He.ga K "NoOrder")) (.ref (He.ga K "BourseError")) = some true := He.exm_ok (T.fact 154 (f := .exm "NoOrder" "BourseError" true))
theorem Txt.e_Twice (T : Txt K mg) : PySem.W.exmOne K (.ref (He.ga K "Twice")) (.ref (He.ga K "BourseError")) = some true := He.exm_ok (T.fact 155 (f := .exm "Twice" "BourseError" true))
theorem Txt.e_NotNow (T : Txt K mg) : PySem.W.exmOne K (.ref (He.ga K "NotNow")) (.ref (He.ga K "BourseError")) = some true := He.exm_ok (T.fact 156 (f := .exm "NotNow" "BourseError" true))
theorem Txt.k_Limit (T : Txt K mg) : MkN K (He.ga K "Limit") := T.plain 0
theorem Txt.k_Now (T : Txt K mg) : MkN K (He.ga K "Now") := T.plain 1
theorem Txt.k_Whole (T : Txt K mg) : MkN K (He.ga K "Whole") := T.plain 2
theorem Txt.k_Quiet (T : Txt K mg) : MkN K (He.ga K "Quiet") := T.plain 3
theorem Txt.k_Open (T : Txt K mg) : MkN K (He.ga K "Open") := T.plain 4
theorem Txt.k_Call (T : Txt K mg) : MkN K (He.ga K "Call") := T.plain 5
theorem Txt.k_Halt (T : Txt K mg) : MkN K (He.ga K "Halt") := T.plain 6
theorem Txt.d_is_name (T : Txt K mg) : ∃ fd, FunD K "is_name" "is_name" (defArgs s_is_name) (defBody s_is_name) (defScope s_is_name) [] [] (He.fAd K ("is_name", none)) fd := T.def_ 0 (d := BB.d_is_name)
theorem Txt.d_checked_name (T : Txt K mg) : ∃ fd, FunD K "checked_name" "checked_name" (defArgs s_checked_name) (defBody s_checked_name) (defScope s_checked_name) [] [] (He.fAd K ("checked_name", none)) fd := T.def_ 1 (d := BB.d_checked_name)
theorem Txt.d_checked_number (T : Txt K mg) : ∃ fd, FunD K "checked_number" "checked_number" (defArgs s_checked_number) (defBody s_checked_number) (defScope s_checked_number) [] [] (He.fAd K ("checked_number", none)) fd := T.def_ 2 (d := BB.d_checked_number)
theorem Txt.d_in_view (T : Txt K mg) : ∃ fd, FunD K "in_view" "in_view" (defArgs s_in_view) (defBody s_in_view) (defScope s_in_view) [] [] (He.fAd K ("in_view", none)) fd := T.def_ 3 (d := BB.d_in_view)
theorem Txt.d_made (T : Txt K mg) : ∃ fd, FunD K "made" "made" (defArgs s_made) (defBody s_made) (defScope s_made) [.int 0] [] (He.fAd K ("made", none)) fd := T.def_ 4 (d := BB.d_made)
theorem Txt.d_with_left (T : Txt K mg) : ∃ fd, FunD K "with_left" "with_left" (defArgs s_with_left) (defBody s_with_left) (defScope s_with_left) [] [] (He.fAd K ("with_left", none)) fd := T.def_ 5 (d := BB.d_with_left)
theorem Txt.d_fresh (T : Txt K mg) : ∃ fd, FunD K "fresh" "fresh" (defArgs s_fresh) (defBody s_fresh) (defScope s_fresh) [] [] (He.fAd K ("fresh", none)) fd := T.def_ 6 (d := BB.d_fresh)
theorem Txt.d_renews (T : Txt K mg) : ∃ fd, FunD K "renews" "renews" (defArgs s_renews) (defBody s_renews) (defScope s_renews) [] [] (He.fAd K ("renews", none)) fd := T.def_ 7 (d := BB.d_renews)
theorem Txt.d_filled (T : Txt K mg) : ∃ fd, FunD K "filled" "filled" (defArgs s_filled) (defBody s_filled) (defScope s_filled) [] [] (He.fAd K ("filled", none)) fd := T.def_ 8 (d := BB.d_filled)
theorem Txt.d_lessened (T : Txt K mg) : ∃ fd, FunD K "lessened" "lessened" (defArgs s_lessened) (defBody s_lessened) (defScope s_lessened) [] [] (He.fAd K ("lessened", none)) fd := T.def_ 9 (d := BB.d_lessened)
theorem Txt.d_ahead (T : Txt K mg) : ∃ fd, FunD K "ahead" "ahead" (defArgs s_ahead) (defBody s_ahead) (defScope s_ahead) [] [] (He.fAd K ("ahead", none)) fd := T.def_ 10 (d := BB.d_ahead)
theorem Txt.d_allows (T : Txt K mg) : ∃ fd, FunD K "allows" "allows" (defArgs s_allows) (defBody s_allows) (defScope s_allows) [] [] (He.fAd K ("allows", none)) fd := T.def_ 11 (d := BB.d_allows)
theorem Txt.d_other_side (T : Txt K mg) : ∃ fd, FunD K "other_side" "other_side" (defArgs s_other_side) (defBody s_other_side) (defScope s_other_side) [] [] (He.fAd K ("other_side", none)) fd := T.def_ 12 (d := BB.d_other_side)
theorem Txt.d_wanted (T : Txt K mg) : ∃ fd, FunD K "wanted" "wanted" (defArgs s_wanted) (defBody s_wanted) (defScope s_wanted) [] [] (He.fAd K ("wanted", none)) fd := T.def_ 13 (d := BB.d_wanted)
theorem Txt.d_offered (T : Txt K mg) : ∃ fd, FunD K "offered" "offered" (defArgs s_offered) (defBody s_offered) (defScope s_offered) [] [] (He.fAd K ("offered", none)) fd := T.def_ 14 (d := BB.d_offered)
theorem Txt.d_volume (T : Txt K mg) : ∃ fd, FunD K "volume" "volume" (defArgs s_volume) (defBody s_volume) (defScope s_volume) [] [] (He.fAd K ("volume", none)) fd := T.def_ 15 (d := BB.d_volume)
theorem Txt.d_limits (T : Txt K mg) : ∃ fd, FunD K "limits" "limits" (defArgs s_limits) (defBody s_limits) (defScope s_limits) [] [] (He.fAd K ("limits", none)) fd := T.def_ 16 (d := BB.d_limits)
theorem Txt.d_limit_of (T : Txt K mg) : ∃ fd, FunD K "limit_of" "limit_of" (defArgs s_limit_of) (defBody s_limit_of) (defScope s_limit_of) [] [] (He.fAd K ("limit_of", none)) fd := T.def_ 17 (d := BB.d_limit_of)
theorem Txt.d_poured (T : Txt K mg) : ∃ fd, FunD K "poured" "poured" (defArgs s_poured) (defBody s_poured) (defScope s_poured) [] [] (He.fAd K ("poured", none)) fd := T.def_ 18 (d := BB.d_poured)
theorem Txt.d_rank_at (T : Txt K mg) : ∃ fd, FunD K "rank_at" "rank_at" (defArgs s_rank_at) (defBody s_rank_at) (defScope s_rank_at) [] [] (He.fAd K ("rank_at", none)) fd := T.def_ 19 (d := BB.d_rank_at)
theorem Txt.d_call_price (T : Txt K mg) : ∃ fd, FunD K "call_price" "call_price" (defArgs s_call_price) (defBody s_call_price) (defScope s_call_price) [] [] (He.fAd K ("call_price", none)) fd := T.def_ 20 (d := BB.d_call_price)
theorem Txt.d_parts_of (T : Txt K mg) : ∃ fd, FunD K "parts_of" "parts_of" (defArgs s_parts_of) (defBody s_parts_of) (defScope s_parts_of) [] [] (He.fAd K ("parts_of", none)) fd := T.def_ 21 (d := BB.d_parts_of)
theorem Txt.d_paired (T : Txt K mg) : ∃ fd, FunD K "paired" "paired" (defArgs s_paired) (defBody s_paired) (defScope s_paired) [] [] (He.fAd K ("paired", none)) fd := T.def_ 22 (d := BB.d_paired)
theorem Txt.d_line_behind (T : Txt K mg) : ∃ fd, FunD K "line_behind" "line_behind" (defArgs s_line_behind) (defBody s_line_behind) (defScope s_line_behind) [] [] (He.fAd K ("line_behind", none)) fd := T.def_ 23 (d := BB.d_line_behind)
theorem Txt.d_called (T : Txt K mg) : ∃ fd, FunD K "called" "called" (defArgs s_called) (defBody s_called) (defScope s_called) [] [] (He.fAd K ("called", none)) fd := T.def_ 24 (d := BB.d_called)
theorem Txt.d_joined (T : Txt K mg) : ∃ fd, FunD K "joined" "joined" (defArgs s_joined) (defBody s_joined) (defScope s_joined) [] [] (He.fAd K ("joined", none)) fd := T.def_ 25 (d := BB.d_joined)
theorem Txt.d_served (T : Txt K mg) : ∃ fd, FunD K "served" "served" (defArgs s_served) (defBody s_served) (defScope s_served) [] [] (He.fAd K ("served", none)) fd := T.def_ 26 (d := BB.d_served)
theorem Txt.d_met (T : Txt K mg) : ∃ fd, FunD K "met" "met" (defArgs s_met) (defBody s_met) (defScope s_met) [] [] (He.fAd K ("met", none)) fd := T.def_ 27 (d := BB.d_met)
theorem Txt.d_could (T : Txt K mg) : ∃ fd, FunD K "could" "could" (defArgs s_could) (defBody s_could) (defScope s_could) [] [] (He.fAd K ("could", none)) fd := T.def_ 28 (d := BB.d_could)
theorem Txt.d_kind_of (T : Txt K mg) : ∃ fd, FunD K "kind_of" "kind_of" (defArgs s_kind_of) (defBody s_kind_of) (defScope s_kind_of) [] [] (He.fAd K ("kind_of", none)) fd := T.def_ 29 (d := BB.d_kind_of)
theorem Txt.d_entered (T : Txt K mg) : ∃ fd, FunD K "entered" "entered" (defArgs s_entered) (defBody s_entered) (defScope s_entered) [] [] (He.fAd K ("entered", none)) fd := T.def_ 30 (d := BB.d_entered)
theorem Txt.d_phase_of (T : Txt K mg) : ∃ fd, FunD K "phase_of" "phase_of" (defArgs s_phase_of) (defBody s_phase_of) (defScope s_phase_of) [] [] (He.fAd K ("phase_of", none)) fd := T.def_ 31 (d := BB.d_phase_of)
theorem Txt.d_named (T : Txt K mg) : ∃ fd, FunD K "named" "named" (defArgs s_named) (defBody s_named) (defScope s_named) [] [] (He.fAd K ("named", none)) fd := T.def_ 32 (d := BB.d_named)
theorem Txt.d_unnamed (T : Txt K mg) : ∃ fd, FunD K "unnamed" "unnamed" (defArgs s_unnamed) (defBody s_unnamed) (defScope s_unnamed) [] [] (He.fAd K ("unnamed", none)) fd := T.def_ 33 (d := BB.d_unnamed)
theorem Txt.d_exchanged (T : Txt K mg) : ∃ fd, FunD K "exchanged" "exchanged" (defArgs s_exchanged) (defBody s_exchanged) (defScope s_exchanged) [] [] (He.fAd K ("exchanged", none)) fd := T.def_ 34 (d := BB.d_exchanged)
theorem Txt.d_is_met (T : Txt K mg) : ∃ fd, FunD K "is_met" "is_met" (defArgs s_is_met) (defBody s_is_met) (defScope s_is_met) [] [] (He.fAd K ("is_met", none)) fd := T.def_ 35 (d := BB.d_is_met)
theorem Txt.d_told (T : Txt K mg) : ∃ fd, FunD K "told" "told" (defArgs s_told) (defBody s_told) (defScope s_told) [] [] (He.fAd K ("told", none)) fd := T.def_ 36 (d := BB.d_told)
theorem Txt.d_Floor_init (T : Txt K mg) : ∃ fd, FunD K "__init__" "Floor.__init__" (defArgs s_Floor_init) (defBody s_Floor_init) (defScope s_Floor_init) [] [] (He.fAd K ("Floor", some "__init__")) fd := T.def_ 37 (d := BB.d_Floor_init)
theorem Txt.d_Floor_line_of (T : Txt K mg) : ∃ fd, FunD K "line_of" "Floor.line_of" (defArgs s_Floor_line_of) (defBody s_Floor_line_of) (defScope s_Floor_line_of) [] [] (He.fAd K ("Floor", some "line_of")) fd := T.def_ 38 (d := BB.d_Floor_line_of)
theorem Txt.d_Floor_set_line (T : Txt K mg) : ∃ fd, FunD K "set_line" "Floor.set_line" (defArgs s_Floor_set_line) (defBody s_Floor_set_line) (defScope s_Floor_set_line) [] [] (He.fAd K ("Floor", some "set_line")) fd := T.def_ 39 (d := BB.d_Floor_set_line)
theorem Txt.d_Floor_known (T : Txt K mg) : ∃ fd, FunD K "known" "Floor.known" (defArgs s_Floor_known) (defBody s_Floor_known) (defScope s_Floor_known) [] [] (He.fAd K ("Floor", some "known")) fd := T.def_ 40 (d := BB.d_Floor_known)
theorem Txt.d_Floor_enter (T : Txt K mg) : ∃ fd, FunD K "enter" "Floor.enter" (defArgs s_Floor_enter) (defBody s_Floor_enter) (defScope s_Floor_enter) [] [] (He.fAd K ("Floor", some "enter")) fd := T.def_ 41 (d := BB.d_Floor_enter)
theorem Txt.d_Floor_come_in (T : Txt K mg) : ∃ fd, FunD K "come_in" "Floor.come_in" (defArgs s_Floor_come_in) (defBody s_Floor_come_in) (defScope s_Floor_come_in) [] [] (He.fAd K ("Floor", some "come_in")) fd := T.def_ 42 (d := BB.d_Floor_come_in)
theorem Txt.d_Floor_first_awake (T : Txt K mg) : ∃ fd, FunD K "first_awake" "Floor.first_awake" (defArgs s_Floor_first_awake) (defBody s_Floor_first_awake) (defScope s_Floor_first_awake) [] [] (He.fAd K ("Floor", some "first_awake")) fd := T.def_ 43 (d := BB.d_Floor_first_awake)
theorem Txt.d_Floor_woken (T : Txt K mg) : ∃ fd, FunD K "woken" "Floor.woken" (defArgs s_Floor_woken) (defBody s_Floor_woken) (defScope s_Floor_woken) [] [] (He.fAd K ("Floor", some "woken")) fd := T.def_ 44 (d := BB.d_Floor_woken)
theorem Txt.d_Floor_lay (T : Txt K mg) : ∃ fd, FunD K "lay" "Floor.lay" (defArgs s_Floor_lay) (defBody s_Floor_lay) (defScope s_Floor_lay) [] [] (He.fAd K ("Floor", some "lay")) fd := T.def_ 45 (d := BB.d_Floor_lay)
theorem Txt.d_Floor_find (T : Txt K mg) : ∃ fd, FunD K "find" "Floor.find" (defArgs s_Floor_find) (defBody s_Floor_find) (defScope s_Floor_find) [] [] (He.fAd K ("Floor", some "find")) fd := T.def_ 46 (d := BB.d_Floor_find)
theorem Txt.d_Floor_take_out (T : Txt K mg) : ∃ fd, FunD K "take_out" "Floor.take_out" (defArgs s_Floor_take_out) (defBody s_Floor_take_out) (defScope s_Floor_take_out) [] [] (He.fAd K ("Floor", some "take_out")) fd := T.def_ 47 (d := BB.d_Floor_take_out)
theorem Txt.d_Floor_lessen (T : Txt K mg) : ∃ fd, FunD K "lessen" "Floor.lessen" (defArgs s_Floor_lessen) (defBody s_Floor_lessen) (defScope s_Floor_lessen) [] [] (He.fAd K ("Floor", some "lessen")) fd := T.def_ 48 (d := BB.d_Floor_lessen)
theorem Txt.d_Floor_turn (T : Txt K mg) : ∃ fd, FunD K "turn" "Floor.turn" (defArgs s_Floor_turn) (defBody s_Floor_turn) (defScope s_Floor_turn) [] [] (He.fAd K ("Floor", some "turn")) fd := T.def_ 49 (d := BB.d_Floor_turn)
theorem Txt.d_Floor_look (T : Txt K mg) : ∃ fd, FunD K "look" "Floor.look" (defArgs s_Floor_look) (defBody s_Floor_look) (defScope s_Floor_look) [] [] (He.fAd K ("Floor", some "look")) fd := T.def_ 50 (d := BB.d_Floor_look)
theorem Txt.d_law_cell_at (T : Txt K mg) : ∃ fd, FunD K "_law_cell_at" "_law_cell_at" (defArgs s_law_cell_at) (defBody s_law_cell_at) (defScope s_law_cell_at) [] [] (He.fAd K ("_law_cell_at", none)) fd := T.def_ 51 (d := BB.d_law_cell_at)
theorem Txt.d_law_name (T : Txt K mg) : ∃ fd, FunD K "_law_name" "_law_name" (defArgs s_law_name) (defBody s_law_name) (defScope s_law_name) [] [] (He.fAd K ("_law_name", none)) fd := T.def_ 52 (d := BB.d_law_name)
theorem Txt.d_law_whole (T : Txt K mg) : ∃ fd, FunD K "_law_whole" "_law_whole" (defArgs s_law_whole) (defBody s_law_whole) (defScope s_law_whole) [] [] (He.fAd K ("_law_whole", none)) fd := T.def_ 53 (d := BB.d_law_whole)
theorem Txt.d_law_alike (T : Txt K mg) : ∃ fd, FunD K "_law_alike" "_law_alike" (defArgs s_law_alike) (defBody s_law_alike) (defScope s_law_alike) [] [] (He.fAd K ("_law_alike", none)) fd := T.def_ 54 (d := BB.d_law_alike)
theorem Txt.d_law_deed (T : Txt K mg) : ∃ fd, FunD K "_law_deed" "_law_deed" (defArgs s_law_deed) (defBody s_law_deed) (defScope s_law_deed) [] [] (He.fAd K ("_law_deed", none)) fd := T.def_ 55 (d := BB.d_law_deed)
theorem Txt.d_law_done (T : Txt K mg) : ∃ fd, FunD K "_law_done" "_law_done" (defArgs s_law_done) (defBody s_law_done) (defScope s_law_done) [] [] (He.fAd K ("_law_done", none)) fd := T.def_ 56 (d := BB.d_law_done)
theorem Txt.d_law_floor (T : Txt K mg) : ∃ fd, FunD K "_law_floor" "_law_floor" (defArgs s_law_floor) (defBody s_law_floor) (defScope s_law_floor) [] [] (He.fAd K ("_law_floor", none)) fd := T.def_ 57 (d := BB.d_law_floor)
theorem Txt.d_law_fits (T : Txt K mg) : ∃ fd, FunD K "_law_fits" "_law_fits" (defArgs s_law_fits) (defBody s_law_fits) (defScope s_law_fits) [] [] (He.fAd K ("_law_fits", none)) fd := T.def_ 58 (d := BB.d_law_fits)
theorem Txt.d_law_anew (T : Txt K mg) : ∃ fd, FunD K "_law_anew" "_law_anew" (defArgs s_law_anew) (defBody s_law_anew) (defScope s_law_anew) [] [] (He.fAd K ("_law_anew", none)) fd := T.def_ 59 (d := BB.d_law_anew)
theorem Txt.d_law_joined (T : Txt K mg) : ∃ fd, FunD K "_law_joined" "_law_joined" (defArgs s_law_joined) (defBody s_law_joined) (defScope s_law_joined) [] [] (He.fAd K ("_law_joined", none)) fd := T.def_ 60 (d := BB.d_law_joined)
theorem Txt.d_law_allowed (T : Txt K mg) : ∃ fd, FunD K "_law_allowed" "_law_allowed" (defArgs s_law_allowed) (defBody s_law_allowed) (defScope s_law_allowed) [] [] (He.fAd K ("_law_allowed", none)) fd := T.def_ 61 (d := BB.d_law_allowed)
theorem Txt.d_law_met_first (T : Txt K mg) : ∃ fd, FunD K "_law_met_first" "_law_met_first" (defArgs s_law_met_first) (defBody s_law_met_first) (defScope s_law_met_first) [] [] (He.fAd K ("_law_met_first", none)) fd := T.def_ 62 (d := BB.d_law_met_first)
theorem Txt.d_law_called (T : Txt K mg) : ∃ fd, FunD K "_law_called" "_law_called" (defArgs s_law_called) (defBody s_law_called) (defScope s_law_called) [] [] (He.fAd K ("_law_called", none)) fd := T.def_ 63 (d := BB.d_law_called)
theorem Txt.d_law_came (T : Txt K mg) : ∃ fd, FunD K "_law_came" "_law_came" (defArgs s_law_came) (defBody s_law_came) (defScope s_law_came) [] [] (He.fAd K ("_law_came", none)) fd := T.def_ 64 (d := BB.d_law_came)
theorem Txt.d_law_ended (T : Txt K mg) : ∃ fd, FunD K "_law_ended" "_law_ended" (defArgs s_law_ended) (defBody s_law_ended) (defScope s_law_ended) [] [] (He.fAd K ("_law_ended", none)) fd := T.def_ 65 (d := BB.d_law_ended)
theorem Txt.d_law_could (T : Txt K mg) : ∃ fd, FunD K "_law_could" "_law_could" (defArgs s_law_could) (defBody s_law_could) (defScope s_law_could) [] [] (He.fAd K ("_law_could", none)) fd := T.def_ 66 (d := BB.d_law_could)
theorem Txt.d_law_begin (T : Txt K mg) : ∃ fd, FunD K "_law_begin" "_law_begin" (defArgs s_law_begin) (defBody s_law_begin) (defScope s_law_begin) [] [] (He.fAd K ("_law_begin", none)) fd := T.def_ 67 (d := BB.d_law_begin)
theorem Txt.d_law_put_otherwise (T : Txt K mg) : ∃ fd, FunD K "_law_put_otherwise" "_law_put_otherwise" (defArgs s_law_put_otherwise) (defBody s_law_put_otherwise) (defScope s_law_put_otherwise) [] [] (He.fAd K ("_law_put_otherwise", none)) fd := T.def_ 68 (d := BB.d_law_put_otherwise)
theorem Txt.d_law_lessened (T : Txt K mg) : ∃ fd, FunD K "_law_lessened" "_law_lessened" (defArgs s_law_lessened) (defBody s_law_lessened) (defScope s_law_lessened) [] [] (He.fAd K ("_law_lessened", none)) fd := T.def_ 69 (d := BB.d_law_lessened)
theorem Txt.d_law_step (T : Txt K mg) : ∃ fd, FunD K "_law_step" "_law_step" (defArgs s_law_step) (defBody s_law_step) (defScope s_law_step) [] [] (He.fAd K ("_law_step", none)) fd := T.def_ 70 (d := BB.d_law_step)
theorem Txt.d_law (T : Txt K mg) : ∃ fd, FunD K "law" "law" (defArgs s_law) (defBody s_law) (defScope s_law) [] [] (He.fAd K ("law", none)) fd := T.def_ 71 (d := BB.d_law)
theorem Txt.d_Limit_lets (T : Txt K mg) : ∃ fd, FunD K "lets" "Kind.lets" (defArgs s_Kind_lets) (defBody s_Kind_lets) (defScope s_Kind_lets) [] [] (He.fAd K ("Limit", some "lets")) fd := T.def_ 72 (d := BB.d_Limit_lets)
theorem Txt.d_Limit_keeps (T : Txt K mg) : ∃ fd, FunD K "keeps" "Kind.keeps" (defArgs s_Kind_keeps) (defBody s_Kind_keeps) (defScope s_Kind_keeps) [] [] (He.fAd K ("Limit", some "keeps")) fd := T.def_ 73 (d := BB.d_Limit_keeps)
theorem Txt.d_Now_lets (T : Txt K mg) : ∃ fd, FunD K "lets" "Kind.lets" (defArgs s_Kind_lets) (defBody s_Kind_lets) (defScope s_Kind_lets) [] [] (He.fAd K ("Now", some "lets")) fd := T.def_ 74 (d := BB.d_Now_lets)
theorem Txt.d_Now_keeps (T : Txt K mg) : ∃ fd, FunD K "keeps" "Now.keeps" (defArgs s_Now_keeps) (defBody s_Now_keeps) (defScope s_Now_keeps) [] [] (He.fAd K ("Now", some "keeps")) fd := T.def_ 75 (d := BB.d_Now_keeps)
theorem Txt.d_Whole_lets (T : Txt K mg) : ∃ fd, FunD K "lets" "Whole.lets" (defArgs s_Whole_lets) (defBody s_Whole_lets) (defScope s_Whole_lets) [] [] (He.fAd K ("Whole", some "lets")) fd := T.def_ 76 (d := BB.d_Whole_lets)
theorem Txt.d_Whole_keeps (T : Txt K mg) : ∃ fd, FunD K "keeps" "Whole.keeps" (defArgs s_Whole_keeps) (defBody s_Whole_keeps) (defScope s_Whole_keeps) [] [] (He.fAd K ("Whole", some "keeps")) fd := T.def_ 77 (d := BB.d_Whole_keeps)
theorem Txt.d_Quiet_lets (T : Txt K mg) : ∃ fd, FunD K "lets" "Quiet.lets" (defArgs s_Quiet_lets) (defBody s_Quiet_lets) (defScope s_Quiet_lets) [] [] (He.fAd K ("Quiet", some "lets")) fd := T.def_ 78 (d := BB.d_Quiet_lets)
theorem Txt.d_Quiet_keeps (T : Txt K mg) : ∃ fd, FunD K "keeps" "Kind.keeps" (defArgs s_Kind_keeps) (defBody s_Kind_keeps) (defScope s_Kind_keeps) [] [] (He.fAd K ("Quiet", some "keeps")) fd := T.def_ 79 (d := BB.d_Quiet_keeps)
theorem Txt.d_Open_meets (T : Txt K mg) : ∃ fd, FunD K "meets" "Open.meets" (defArgs s_Open_meets) (defBody s_Open_meets) (defScope s_Open_meets) [] [] (He.fAd K ("Open", some "meets")) fd := T.def_ 80 (d := BB.d_Open_meets)
theorem Txt.d_Open_takes (T : Txt K mg) : ∃ fd, FunD K "takes" "Open.takes" (defArgs s_Open_takes) (defBody s_Open_takes) (defScope s_Open_takes) [] [] (He.fAd K ("Open", some "takes")) fd := T.def_ 81 (d := BB.d_Open_takes)
theorem Txt.d_Open_rests_asleep (T : Txt K mg) : ∃ fd, FunD K "rests_asleep" "Open.rests_asleep" (defArgs s_Open_rests_asleep) (defBody s_Open_rests_asleep) (defScope s_Open_rests_asleep) [] [] (He.fAd K ("Open", some "rests_asleep")) fd := T.def_ 82 (d := BB.d_Open_rests_asleep)
theorem Txt.d_Open_leads (T : Txt K mg) : ∃ fd, FunD K "leads" "Open.leads" (defArgs s_Open_leads) (defBody s_Open_leads) (defScope s_Open_leads) [] [] (He.fAd K ("Open", some "leads")) fd := T.def_ 83 (d := BB.d_Open_leads)
theorem Txt.d_Call_meets (T : Txt K mg) : ∃ fd, FunD K "meets" "Phase.meets" (defArgs s_Phase_meets) (defBody s_Phase_meets) (defScope s_Phase_meets) [] [] (He.fAd K ("Call", some "meets")) fd := T.def_ 84 (d := BB.d_Call_meets)
theorem Txt.d_Call_takes (T : Txt K mg) : ∃ fd, FunD K "takes" "Call.takes" (defArgs s_Call_takes) (defBody s_Call_takes) (defScope s_Call_takes) [] [] (He.fAd K ("Call", some "takes")) fd := T.def_ 85 (d := BB.d_Call_takes)
theorem Txt.d_Call_rests_asleep (T : Txt K mg) : ∃ fd, FunD K "rests_asleep" "Call.rests_asleep" (defArgs s_Call_rests_asleep) (defBody s_Call_rests_asleep) (defScope s_Call_rests_asleep) [] [] (He.fAd K ("Call", some "rests_asleep")) fd := T.def_ 86 (d := BB.d_Call_rests_asleep)
theorem Txt.d_Call_leads (T : Txt K mg) : ∃ fd, FunD K "leads" "Call.leads" (defArgs s_Call_leads) (defBody s_Call_leads) (defScope s_Call_leads) [] [] (He.fAd K ("Call", some "leads")) fd := T.def_ 87 (d := BB.d_Call_leads)
theorem Txt.d_Halt_meets (T : Txt K mg) : ∃ fd, FunD K "meets" "Phase.meets" (defArgs s_Phase_meets) (defBody s_Phase_meets) (defScope s_Phase_meets) [] [] (He.fAd K ("Halt", some "meets")) fd := T.def_ 88 (d := BB.d_Halt_meets)
theorem Txt.d_Halt_takes (T : Txt K mg) : ∃ fd, FunD K "takes" "Phase.takes" (defArgs s_Phase_takes) (defBody s_Phase_takes) (defScope s_Phase_takes) [] [] (He.fAd K ("Halt", some "takes")) fd := T.def_ 89 (d := BB.d_Halt_takes)
theorem Txt.d_Halt_rests_asleep (T : Txt K mg) : ∃ fd, FunD K "rests_asleep" "Phase.rests_asleep" (defArgs s_Phase_rests_asleep) (defBody s_Phase_rests_asleep) (defScope s_Phase_rests_asleep) [] [] (He.fAd K ("Halt", some "rests_asleep")) fd := T.def_ 90 (d := BB.d_Halt_rests_asleep)
theorem Txt.d_Halt_leads (T : Txt K mg) : ∃ fd, FunD K "leads" "Halt.leads" (defArgs s_Halt_leads) (defBody s_Halt_leads) (defScope s_Halt_leads) [] [] (He.fAd K ("Halt", some "leads")) fd := T.def_ 91 (d := BB.d_Halt_leads)
end
theorem sc_is_name : FnScope ["text", "sign"] ["text"] (defScope s_is_name) := ⟨rfl, rfl, rfl, by decide +kernel, rfl, by decide +kernel, by decide +kernel⟩
theorem sc_checked_name : FnScope ["text"] ["text"] (defScope s_checked_name) := ⟨rfl, rfl, rfl, by decide +kernel, rfl, by decide +kernel, by decide +kernel⟩
theorem sc_checked_number : FnScope ["number", "low", "high"] ["number", "low", "high"] (defScope s_checked_number) := ⟨rfl, rfl, rfl, by decide +kernel, rfl, by decide +kernel, by decide +kernel⟩
theorem sc_in_view : FnScope ["left", "peak"] ["left", "peak"] (defScope s_in_view) := ⟨rfl, rfl, rfl, by decide +kernel, rfl, by decide +kernel, by decide +kernel⟩
theorem sc_made : FnScope ["name", "who", "side", "price", "amount", "peak"] ["name", "who", "side", "price", "amount", "peak"] (defScope s_made) := ⟨rfl, rfl, rfl, by decide +kernel, rfl, by decide +kernel, by decide +kernel⟩
theorem sc_with_left : FnScope ["order", "left", "shown"] ["order", "left", "shown"] (defScope s_with_left) := ⟨rfl, rfl, rfl, by decide +kernel, rfl, by decide +kernel, by decide +kernel⟩
theorem sc_fresh : FnScope ["order", "left"] ["order", "left"] (defScope s_fresh) := ⟨rfl, rfl, rfl, by decide +kernel, rfl, by decide +kernel, by decide +kernel⟩
theorem sc_renews : FnScope ["order", "amount"] ["order", "amount"] (defScope s_renews) := ⟨rfl, rfl, rfl, by decide +kernel, rfl, by decide +kernel, by decide +kernel⟩
theorem sc_filled : FnScope ["order", "amount", "left"] ["order", "amount"] (defScope s_filled) := ⟨rfl, rfl, rfl, by decide +kernel, rfl, by decide +kernel, by decide +kernel⟩
theorem sc_lessened : FnScope ["order", "left"] ["order", "left"] (defScope s_lessened) := ⟨rfl, rfl, rfl, by decide +kernel, rfl, by decide +kernel, by decide +kernel⟩
theorem sc_ahead : FnScope ["side", "price", "other"] ["side", "price", "other"] (defScope s_ahead) := ⟨rfl, rfl, rfl, by decide +kernel, rfl, by decide +kernel, by decide +kernel⟩
theorem sc_allows : FnScope ["side", "limit", "price"] ["side", "limit", "price"] (defScope s_allows) := ⟨rfl, rfl, rfl, by decide +kernel, rfl, by decide +kernel, by decide +kernel⟩
theorem sc_other_side : FnScope ["side"] ["side"] (defScope s_other_side) := ⟨rfl, rfl, rfl, by decide +kernel, rfl, by decide +kernel, by decide +kernel⟩
theorem sc_wanted : FnScope ["buys", "price", "many", "order"] ["buys", "price"] (defScope s_wanted) := ⟨rfl, rfl, rfl, by decide +kernel, rfl, by decide +kernel, by decide +kernel⟩
theorem sc_offered : FnScope ["sells", "price", "many", "order"] ["sells", "price"] (defScope s_offered) := ⟨rfl, rfl, rfl, by decide +kernel, rfl, by decide +kernel, by decide +kernel⟩
theorem sc_volume : FnScope ["buys", "sells", "price"] ["buys", "sells", "price"] (defScope s_volume) := ⟨rfl, rfl, rfl, by decide +kernel, rfl, by decide +kernel, by decide +kernel⟩
theorem sc_limits : FnScope ["buys", "sells", "prices", "order"] ["buys", "sells"] (defScope s_limits) := ⟨rfl, rfl, rfl, by decide +kernel, rfl, by decide +kernel, by decide +kernel⟩
theorem sc_limit_of : FnScope ["order"] ["order"] (defScope s_limit_of) := ⟨rfl, rfl, rfl, by decide +kernel, rfl, by decide +kernel, by decide +kernel⟩
theorem sc_poured : FnScope ["amount", "sizes", "told", "size", "part"] ["amount", "sizes"] (defScope s_poured) := ⟨rfl, rfl, rfl, by decide +kernel, rfl, by decide +kernel, by decide +kernel⟩
theorem sc_rank_at : FnScope ["buys", "sells", "near", "price", "want", "offer"] ["buys", "sells", "near", "price"] (defScope s_rank_at) := ⟨rfl, rfl, rfl, by decide +kernel, rfl, by decide +kernel, by decide +kernel⟩
theorem sc_call_price : FnScope ["buys", "sells", "near", "best", "price", "here"] ["buys", "sells", "near"] (defScope s_call_price) := ⟨rfl, rfl, rfl, by decide +kernel, rfl, by decide +kernel, by decide +kernel⟩
theorem sc_parts_of : FnScope ["line", "amount", "order"] ["line", "amount"] (defScope s_parts_of) := ⟨rfl, rfl, rfl, by decide +kernel, rfl, by decide +kernel, by decide +kernel⟩
theorem sc_paired : FnScope ["buys", "sells", "amount", "gets", "gives", "trades", "seat", "k", "part"] ["buys", "sells", "amount"] (defScope s_paired) := ⟨rfl, rfl, rfl, by decide +kernel, rfl, by decide +kernel, by decide +kernel⟩
theorem sc_line_behind : FnScope ["line", "amount", "rest", "order", "part"] ["line", "amount"] (defScope s_line_behind) := ⟨rfl, rfl, rfl, by decide +kernel, rfl, by decide +kernel, by decide +kernel⟩
theorem sc_called : FnScope ["buys", "sells", "near", "price", "amount"] ["buys", "sells", "near"] (defScope s_called) := ⟨rfl, rfl, rfl, by decide +kernel, rfl, by decide +kernel, by decide +kernel⟩
theorem sc_joined : FnScope ["line", "order", "one", "at"] ["line", "order"] (defScope s_joined) := ⟨rfl, rfl, rfl, by decide +kernel, rfl, by decide +kernel, by decide +kernel⟩
theorem sc_served : FnScope ["line", "amount", "first", "behind", "rest"] ["line", "amount"] (defScope s_served) := ⟨rfl, rfl, rfl, by decide +kernel, rfl, by decide +kernel, by decide +kernel⟩
theorem sc_met : FnScope ["order", "line", "last", "leap", "steps", "left", "head", "amount"] ["order", "line", "last", "leap"] (defScope s_met) := ⟨rfl, rfl, rfl, by decide +kernel, rfl, by decide +kernel, by decide +kernel⟩
theorem sc_could : FnScope ["order", "line", "last", "leap"] ["order", "line", "last", "leap"] (defScope s_could) := ⟨rfl, rfl, rfl, by decide +kernel, rfl, by decide +kernel, by decide +kernel⟩
theorem sc_Kind_lets : FnScope ["self", "crosses", "amount", "wanted"] ["self", "crosses", "amount", "wanted"] (defScope s_Kind_lets) := ⟨rfl, rfl, rfl, by decide +kernel, rfl, by decide +kernel, by decide +kernel⟩
theorem sc_Kind_keeps : FnScope ["self"] ["self"] (defScope s_Kind_keeps) := ⟨rfl, rfl, rfl, by decide +kernel, rfl, by decide +kernel, by decide +kernel⟩
theorem sc_Now_keeps : FnScope ["self"] ["self"] (defScope s_Now_keeps) := ⟨rfl, rfl, rfl, by decide +kernel, rfl, by decide +kernel, by decide +kernel⟩
theorem sc_Whole_lets : FnScope ["self", "crosses", "amount", "wanted"] ["self", "crosses", "amount", "wanted"] (defScope s_Whole_lets) := ⟨rfl, rfl, rfl, by decide +kernel, rfl, by decide +kernel, by decide +kernel⟩
theorem sc_Whole_keeps : FnScope ["self"] ["self"] (defScope s_Whole_keeps) := ⟨rfl, rfl, rfl, by decide +kernel, rfl, by decide +kernel, by decide +kernel⟩
theorem sc_Quiet_lets : FnScope ["self", "crosses", "amount", "wanted"] ["self", "crosses", "amount", "wanted"] (defScope s_Quiet_lets) := ⟨rfl, rfl, rfl, by decide +kernel, rfl, by decide +kernel, by decide +kernel⟩
theorem sc_kind_of : FnScope ["word"] ["word"] (defScope s_kind_of) := ⟨rfl, rfl, rfl, by decide +kernel, rfl, by decide +kernel, by decide +kernel⟩
theorem sc_entered : FnScope ["word", "order", "line", "last", "leap", "kind", "crosses", "meeting", "steps", "left", "rest"] ["word", "order", "line", "last", "leap"] (defScope s_entered) := ⟨rfl, rfl, rfl, by decide +kernel, rfl, by decide +kernel, by decide +kernel⟩
theorem sc_Phase_meets : FnScope ["self"] ["self"] (defScope s_Phase_meets) := ⟨rfl, rfl, rfl, by decide +kernel, rfl, by decide +kernel, by decide +kernel⟩
theorem sc_Phase_takes : FnScope ["self", "word"] ["self", "word"] (defScope s_Phase_takes) := ⟨rfl, rfl, rfl, by decide +kernel, rfl, by decide +kernel, by decide +kernel⟩
theorem sc_Phase_rests_asleep : FnScope ["self"] ["self"] (defScope s_Phase_rests_asleep) := ⟨rfl, rfl, rfl, by decide +kernel, rfl, by decide +kernel, by decide +kernel⟩
theorem sc_Phase_leads : FnScope ["self", "word"] ["self", "word"] (defScope s_Phase_leads) := ⟨rfl, rfl, rfl, by decide +kernel, rfl, by decide +kernel, by decide +kernel⟩
theorem sc_Open_meets : FnScope ["self"] ["self"] (defScope s_Open_meets) := ⟨rfl, rfl, rfl, by decide +kernel, rfl, by decide +kernel, by decide +kernel⟩
theorem sc_Open_takes : FnScope ["self", "word"] ["self", "word"] (defScope s_Open_takes) := ⟨rfl, rfl, rfl, by decide +kernel, rfl, by decide +kernel, by decide +kernel⟩
theorem sc_Open_rests_asleep : FnScope ["self"] ["self"] (defScope s_Open_rests_asleep) := ⟨rfl, rfl, rfl, by decide +kernel, rfl, by decide +kernel, by decide +kernel⟩
theorem sc_Open_leads : FnScope ["self", "word"] ["self", "word"] (defScope s_Open_leads) := ⟨rfl, rfl, rfl, by decide +kernel, rfl, by decide +kernel, by decide +kernel⟩
theorem sc_Call_takes : FnScope ["self", "word"] ["self", "word"] (defScope s_Call_takes) := ⟨rfl, rfl, rfl, by decide +kernel, rfl, by decide +kernel, by decide +kernel⟩
theorem sc_Call_rests_asleep : FnScope ["self"] ["self"] (defScope s_Call_rests_asleep) := ⟨rfl, rfl, rfl, by decide +kernel, rfl, by decide +kernel, by decide +kernel⟩
theorem sc_Call_leads : FnScope ["self", "word"] ["self", "word"] (defScope s_Call_leads) := ⟨rfl, rfl, rfl, by decide +kernel, rfl, by decide +kernel, by decide +kernel⟩
theorem sc_Halt_leads : FnScope ["self", "word"] ["self", "word"] (defScope s_Halt_leads) := ⟨rfl, rfl, rfl, by decide +kernel, rfl, by decide +kernel, by decide +kernel⟩
theorem sc_phase_of : FnScope ["word"] ["word"] (defScope s_phase_of) := ⟨rfl, rfl, rfl, by decide +kernel, rfl, by decide +kernel, by decide +kernel⟩
theorem sc_named : FnScope ["orders", "name", "order"] ["orders", "name"] (defScope s_named) := ⟨rfl, rfl, rfl, by decide +kernel, rfl, by decide +kernel, by decide +kernel⟩
theorem sc_unnamed : FnScope ["orders", "name", "order"] ["orders", "name"] (defScope s_unnamed) := ⟨rfl, rfl, rfl, by decide +kernel, rfl, by decide +kernel, by decide +kernel⟩
theorem sc_exchanged : FnScope ["orders", "order", "one"] ["orders", "order"] (defScope s_exchanged) := ⟨rfl, rfl, rfl, by decide +kernel, rfl, by decide +kernel, by decide +kernel⟩
theorem sc_is_met : FnScope ["side", "trigger", "last"] ["side", "trigger", "last"] (defScope s_is_met) := ⟨rfl, rfl, rfl, by decide +kernel, rfl, by decide +kernel, by decide +kernel⟩
theorem sc_told : FnScope ["order", "step"] ["order", "step"] (defScope s_told) := ⟨rfl, rfl, rfl, by decide +kernel, rfl, by decide +kernel, by decide +kernel⟩
theorem sc_Floor_init : FnScope ["self", "mark", "leap"] ["self", "mark", "leap"] (defScope s_Floor_init) := ⟨rfl, rfl, rfl, by decide +kernel, rfl, by decide +kernel, by decide +kernel⟩
theorem sc_Floor_line_of : FnScope ["self", "side"] ["self", "side"] (defScope s_Floor_line_of) := ⟨rfl, rfl, rfl, by decide +kernel, rfl, by decide +kernel, by decide +kernel⟩
theorem sc_Floor_set_line : FnScope ["self", "side", "line"] ["self", "side", "line"] (defScope s_Floor_set_line) := ⟨rfl, rfl, rfl, by decide +kernel, rfl, by decide +kernel, by decide +kernel⟩
theorem sc_Floor_known : FnScope ["self", "sleeper"] ["self"] (defScope s_Floor_known) := ⟨rfl, rfl, rfl, by decide +kernel, rfl, by decide +kernel, by decide +kernel⟩
theorem sc_Floor_enter : FnScope ["self", "word", "order"] ["self", "word", "order"] (defScope s_Floor_enter) := ⟨rfl, rfl, rfl, by decide +kernel, rfl, by decide +kernel, by decide +kernel⟩
theorem sc_Floor_come_in : FnScope ["self", "word", "order", "side", "across", "steps", "line", "rest", "halted", "facts", "step"] ["self", "word", "order"] (defScope s_Floor_come_in) := ⟨rfl, rfl, rfl, by decide +kernel, rfl, by decide +kernel, by decide +kernel⟩
theorem sc_Floor_first_awake : FnScope ["self", "k", "sleeper"] ["self"] (defScope s_Floor_first_awake) := ⟨rfl, rfl, rfl, by decide +kernel, rfl, by decide +kernel, by decide +kernel⟩
theorem sc_Floor_woken : FnScope ["self", "facts", "k", "sleeper"] ["self"] (defScope s_Floor_woken) := ⟨rfl, rfl, rfl, by decide +kernel, rfl, by decide +kernel, by decide +kernel⟩
theorem sc_Floor_lay : FnScope ["self", "word", "order", "trigger"] ["self", "word", "order", "trigger"] (defScope s_Floor_lay) := ⟨rfl, rfl, rfl, by decide +kernel, rfl, by decide +kernel, by decide +kernel⟩
theorem sc_Floor_find : FnScope ["self", "name", "found"] ["self", "name"] (defScope s_Floor_find) := ⟨rfl, rfl, rfl, by decide +kernel, rfl, by decide +kernel, by decide +kernel⟩
theorem sc_Floor_take_out : FnScope ["self", "name", "order", "sleeper"] ["self", "name"] (defScope s_Floor_take_out) := ⟨rfl, rfl, rfl, by decide +kernel, rfl, by decide +kernel, by decide +kernel⟩
theorem sc_Floor_lessen : FnScope ["self", "name", "left", "order", "sleeper"] ["self", "name", "left"] (defScope s_Floor_lessen) := ⟨rfl, rfl, rfl, by decide +kernel, rfl, by decide +kernel, by decide +kernel⟩
theorem sc_Floor_turn : FnScope ["self", "word", "facts", "price", "trades", "buys", "sells", "trade"] ["self", "word"] (defScope s_Floor_turn) := ⟨rfl, rfl, rfl, by decide +kernel, rfl, by decide +kernel, by decide +kernel⟩
theorem sc_Floor_look : FnScope ["self"] ["self"] (defScope s_Floor_look) := ⟨rfl, rfl, rfl, by decide +kernel, rfl, by decide +kernel, by decide +kernel⟩
theorem sc_law_cell_at : FnScope ["script", "k"] ["script", "k"] (defScope s_law_cell_at) := ⟨rfl, rfl, rfl, by decide +kernel, rfl, by decide +kernel, by decide +kernel⟩
theorem sc_law_name : FnScope ["number", "signs", "name"] ["number"] (defScope s_law_name) := ⟨rfl, rfl, rfl, by decide +kernel, rfl, by decide +kernel, by decide +kernel⟩
theorem sc_law_whole : FnScope ["found"] ["found"] (defScope s_law_whole) := ⟨rfl, rfl, rfl, by decide +kernel, rfl, by decide +kernel, by decide +kernel⟩
theorem sc_law_alike : FnScope ["found", "due", "k"] ["found", "due"] (defScope s_law_alike) := ⟨rfl, rfl, rfl, by decide +kernel, rfl, by decide +kernel, by decide +kernel⟩
theorem sc_law_deed : FnScope ["script", "at", "spread", "many", "names", "one", "two", "three", "word", "side", "who", "amount", "peak", "own", "order", "name", "turned"] ["script", "at", "spread", "many", "names"] (defScope s_law_deed) := ⟨rfl, rfl, rfl, by decide +kernel, rfl, by decide +kernel, by decide +kernel⟩
theorem sc_law_done : FnScope ["floor", "deed"] ["floor", "deed"] (defScope s_law_done) := ⟨rfl, rfl, rfl, by decide +kernel, rfl, by decide +kernel, by decide +kernel⟩
theorem sc_law_floor : FnScope ["head", "floor"] ["head"] (defScope s_law_floor) := ⟨rfl, rfl, rfl, by decide +kernel, rfl, by decide +kernel, by decide +kernel⟩
theorem sc_law_fits : FnScope ["facts", "shapes", "fact", "part", "sign"] ["facts"] (defScope s_law_fits) := ⟨rfl, rfl, rfl, by decide +kernel, rfl, by decide +kernel, by decide +kernel⟩
theorem sc_law_anew : FnScope ["order", "left", "shown"] ["order", "left"] (defScope s_law_anew) := ⟨rfl, rfl, rfl, by decide +kernel, rfl, by decide +kernel, by decide +kernel⟩
theorem sc_law_joined : FnScope ["line", "order", "at"] ["line", "order"] (defScope s_law_joined) := ⟨rfl, rfl, rfl, by decide +kernel, rfl, by decide +kernel, by decide +kernel⟩
theorem sc_law_allowed : FnScope ["order", "price"] ["order", "price"] (defScope s_law_allowed) := ⟨rfl, rfl, rfl, by decide +kernel, rfl, by decide +kernel, by decide +kernel⟩
theorem sc_law_met_first : FnScope ["state", "fact", "order", "facing", "line", "names", "first", "left"] ["state", "fact", "order", "facing"] (defScope s_law_met_first) := ⟨rfl, rfl, rfl, by decide +kernel, rfl, by decide +kernel, by decide +kernel⟩
theorem sc_law_called : FnScope ["state", "fact", "side", "name", "line"] ["state", "fact"] (defScope s_law_called) := ⟨rfl, rfl, rfl, by decide +kernel, rfl, by decide +kernel, by decide +kernel⟩
theorem sc_law_came : FnScope ["state", "fact", "order", "facing", "line"] ["state", "fact"] (defScope s_law_came) := ⟨rfl, rfl, rfl, by decide +kernel, rfl, by decide +kernel, by decide +kernel⟩
theorem sc_law_ended : FnScope ["state", "fact", "order", "line"] ["state", "fact", "order", "line"] (defScope s_law_ended) := ⟨rfl, rfl, rfl, by decide +kernel, rfl, by decide +kernel, by decide +kernel⟩
theorem sc_law_could : FnScope ["state", "order", "line", "left", "first", "part"] ["state", "order", "line"] (defScope s_law_could) := ⟨rfl, rfl, rfl, by decide +kernel, rfl, by decide +kernel, by decide +kernel⟩
theorem sc_law_begin : FnScope ["state", "word", "order", "line"] ["state", "word", "order"] (defScope s_law_begin) := ⟨rfl, rfl, rfl, by decide +kernel, rfl, by decide +kernel, by decide +kernel⟩
theorem sc_law_put_otherwise : FnScope ["state", "fact", "side", "asleep", "word", "order", "trigger", "one"] ["state", "fact"] (defScope s_law_put_otherwise) := ⟨rfl, rfl, rfl, by decide +kernel, rfl, by decide +kernel, by decide +kernel⟩
theorem sc_law_lessened : FnScope ["order", "fact"] ["order", "fact"] (defScope s_law_lessened) := ⟨rfl, rfl, rfl, by decide +kernel, rfl, by decide +kernel, by decide +kernel⟩
theorem sc_law_step : FnScope ["state", "deed", "fact", "woken_ones", "one"] ["state", "deed", "fact"] (defScope s_law_step) := ⟨rfl, rfl, rfl, by decide +kernel, rfl, by decide +kernel, by decide +kernel⟩
theorem sc_law : FnScope ["script", "head", "floor", "begun", "leap", "state", "names", "at", "deed", "stands", "wants", "facts", "fact", "due", "one"] ["script"] (defScope s_law) := ⟨rfl, rfl, rfl, by decide +kernel, rfl, by decide +kernel, by decide +kernel⟩
end BB
set_option Elab.async false
set_option linter.all false
set_option maxRecDepth 100000
set_option maxHeartbeats 4000000
/-! D0: == and != of tuples of numbers and texts, of lists of such. -/
namespace BB
open PySem PySem.Spec PyProof.Rows L2
def fl : V → Bool
  | .int _ => true
  | .str x => sOk x
  | _ => false
def vd : V → PyData
  | .int i => .int i
  | .str x => .str x
  | _ => .none
def tdd (xs : List V) : PyData := .tuple (xs.map vd)
section
variable {K : PySem.W.Frag} {H : Hp}
theorem fl_dp {v : V} (h : fl v = true) : Dp K H v (vd v) := by
  cases v with
  | int i => exact .int i
  | str x => exact .str x
  | _ => cases h
theorem fls_dp : ∀ {xs : List V}, xs.all fl = true → DpAll K H xs (xs.map vd)
  | [], _ => .nil
  | v :: xs, h => by
    obtain ⟨h1, h2⟩ := Bool.and_eq_true_iff.mp (show (fl v && xs.all fl) = true from h)
    exact .cons (fl_dp h1) (fls_dp h2)
theorem eqv_fl {x y : V} (hx : fl x = true) (hy : fl y = true) : PyData.eqv (vd x) (vd y) = decide (x = y) := by
  cases x with
  | int i =>
    cases y with
    | int j =>
      rw [dec_int]
      rfl
    | str z =>
      rw [decide_eq_false (by intro q; cases q)]
      rfl
    | _ => cases hy
  | str z =>
    cases y with
    | int j =>
      rw [decide_eq_false (by intro q; cases q)]
      rfl
    | str u =>
      rw [dec_str]
      rfl
    | _ => cases hy
  | _ => cases hx
theorem eqvAll_fl : ∀ {xs ys : List V}, xs.all fl = true → ys.all fl = true → PyData.eqvAll (xs.map vd) (ys.map vd) = decide (xs = ys)
  | [], [], _, _ => rfl
  | [], y :: ys, _, _ => by
    rw [decide_eq_false (by intro q; cases q)]
    rfl
  | x :: xs, [], _, _ => by
    rw [decide_eq_false (by intro q; cases q)]
    rfl
  | x :: xs, y :: ys, hx, hy => by
    obtain ⟨h1, h2⟩ := Bool.and_eq_true_iff.mp (show (fl x && xs.all fl) = true from hx)
    obtain ⟨k1, k2⟩ := Bool.and_eq_true_iff.mp (show (fl y && ys.all fl) = true from hy)
    show (PyData.eqv (vd x) (vd y) && PyData.eqvAll (xs.map vd) (ys.map vd)) = _
    rw [eqv_fl h1 k1, eqvAll_fl h2 k2]
    by_cases e : x = y
    · by_cases f : xs = ys
      · rw [decide_eq_true e, decide_eq_true f, decide_eq_true (by rw [e, f])]
        rfl
      · rw [decide_eq_true e, decide_eq_false f, decide_eq_false (fun q => f (List.cons.inj q).2)]
        rfl
    · rw [decide_eq_false e, decide_eq_false (fun q => e (List.cons.inj q).1)]
      rfl
theorem eqv_tdd {xs ys : List V} (hx : xs.all fl = true) (hy : ys.all fl = true) : PyData.eqv (tdd xs) (tdd ys) = decide (xs = ys) := by
  unfold tdd
  rw [PyData.eqv]
  exact eqvAll_fl hx hy
theorem eqvAll_tdd : ∀ {xs ys : List (List V)}, (∀ x ∈ xs, x.all fl = true) → (∀ x ∈ ys, x.all fl = true) → PyData.eqvAll (xs.map tdd) (ys.map tdd) = decide (xs = ys)
  | [], [], _, _ => rfl
  | [], y :: ys, _, _ => by
    rw [decide_eq_false (by intro q; cases q)]
    rfl
  | x :: xs, [], _, _ => by
    rw [decide_eq_false (by intro q; cases q)]
    rfl
  | x :: xs, y :: ys, hx, hy => by
    show (PyData.eqv (tdd x) (tdd y) && PyData.eqvAll (xs.map tdd) (ys.map tdd)) = _
    rw [eqv_tdd (hx x List.mem_cons_self) (hy y List.mem_cons_self), eqvAll_tdd (fun z hz => hx z (List.mem_cons_of_mem _ hz)) fun z hz => hy z (List.mem_cons_of_mem _ hz)]
    by_cases e : x = y
    · by_cases f : xs = ys
      · rw [decide_eq_true e, decide_eq_true f, decide_eq_true (by rw [e, f])]
        rfl
      · rw [decide_eq_true e, decide_eq_false f, decide_eq_false (fun q => f (List.cons.inj q).2)]
        rfl
    · rw [decide_eq_false e, decide_eq_false (fun q => e (List.cons.inj q).1)]
      rfl
theorem lay_fls : ∀ {xs : List V}, xs.all fl = true → PyData.canLayAll0 (xs.map vd) = true ∧ PyData.depthAll (xs.map vd) ≤ 1
  | [], _ => ⟨rfl, by simp [PyData.depthAll]⟩
  | v :: xs, h => by
    obtain ⟨h1, h2⟩ := Bool.and_eq_true_iff.mp (show (fl v && xs.all fl) = true from h)
    obtain ⟨a, b⟩ := lay_fls h2
    cases v with
    | int i =>
      refine ⟨by simp [PyData.canLayAll0, PyData.canLay0, vd, a], ?_⟩
      show max (PyData.depth (.int i)) (PyData.depthAll (xs.map vd)) ≤ 1
      have : PyData.depth (.int i) ≤ 1 := by simp [PyData.depth]
      omega
    | str z =>
      have hz : PyData.strOk z = true := h1
      refine ⟨by simp [PyData.canLayAll0, PyData.canLay0, vd, a, hz], ?_⟩
      show max (PyData.depth (.str z)) (PyData.depthAll (xs.map vd)) ≤ 1
      have : PyData.depth (.str z) ≤ 1 := by simp [PyData.depth]
      omega
    | _ => cases h1
theorem lay_tdd {xs : List V} (h : xs.all fl = true) : PyData.canLay0 (tdd xs) = true ∧ PyData.depth (tdd xs) ≤ 2 := by
  obtain ⟨a, b⟩ := lay_fls h
  refine ⟨by simpa [tdd, PyData.canLay0] using a, ?_⟩
  have : PyData.depth (tdd xs) ≤ 1 + PyData.depthAll (xs.map vd) := by
    unfold tdd
    simp [PyData.depth] <;> omega
  omega
theorem lay_tdds : ∀ {xs : List (List V)}, (∀ x ∈ xs, x.all fl = true) → PyData.canLayAll0 (xs.map tdd) = true ∧ PyData.depthAll (xs.map tdd) ≤ 2
  | [], _ => ⟨rfl, by simp [PyData.depthAll]⟩
  | x :: xs, h => by
    obtain ⟨a, b⟩ := lay_tdds (xs := xs) fun z hz => h z (List.mem_cons_of_mem _ hz)
    obtain ⟨c, d⟩ := lay_tdd (h x List.mem_cons_self)
    refine ⟨by simp [PyData.canLayAll0, a, c], ?_⟩
    show max (PyData.depth (tdd x)) (PyData.depthAll (xs.map tdd)) ≤ 2
    omega
theorem shaped_tdd {xs : List V} (h : xs.all fl = true) : SeqAt.shaped (tdd xs) = true := by
  obtain ⟨a, b⟩ := lay_tdd h
  exact Bool.and_eq_true_iff.mpr ⟨a, decide_eq_true (Nat.le_trans b (by decide))⟩
theorem shaped_tdds {xs : List (List V)} (h : ∀ x ∈ xs, x.all fl = true) : SeqAt.shaped (.list (xs.map tdd)) = true := by
  obtain ⟨a, b⟩ := lay_tdds h
  refine Bool.and_eq_true_iff.mpr ⟨by simpa [PyData.canLay0] using a, decide_eq_true ?_⟩
  have : PyData.depth (.list (xs.map tdd)) ≤ 1 + PyData.depthAll (xs.map tdd) := by simp [PyData.depth] <;> omega
  omega
theorem shaped_fls {xs : List V} (h : xs.all fl = true) : SeqAt.shaped (.list (xs.map vd)) = true := by
  obtain ⟨a, b⟩ := lay_fls h
  refine Bool.and_eq_true_iff.mpr ⟨by simpa [PyData.canLay0] using a, decide_eq_true ?_⟩
  have : PyData.depth (.list (xs.map vd)) ≤ 1 + PyData.depthAll (xs.map vd) := by simp [PyData.depth] <;> omega
  omega
theorem tups_dp : ∀ {vs : List V} {xs : List (List V)}, Tups H vs xs → (∀ x ∈ xs, x.all fl = true) → DpAll K H vs (xs.map tdd)
  | _, _, .nil, _ => .nil
  | _, _, .cons ⟨a, e, ha⟩ t, h => by
    subst e
    exact .cons (.tup (SqT.of ha) (fls_dp (h _ List.mem_cons_self))) (tups_dp t fun z hz => h z (List.mem_cons_of_mem _ hz))
theorem lst_dp {l : Addr} {xs : List (List V)} (h : LstAt H l xs) (hf : ∀ x ∈ xs, x.all fl = true) : Dp K H (.ref l) (.list (xs.map tdd)) := by
  obtain ⟨vs, e, t⟩ := h
  exact .lst (SqL.of e) (tups_dp t hf)
variable {Q : VK}
/-- t == u, t != u of tuples -/
theorem eq_tups {a b : Addr} {xs ys : List V} (ha : H a = some (.tup xs)) (hb : H b = some (.tup ys)) (q : Q (.bl (decide (xs = ys))) H) (fa : xs.all fl = true := by rfl) (fb : ys.all fl = true := by rfl) : rEqD K (.ref a) (.ref b) H Q :=
  ⟨tdd xs, tdd ys, .tup (SqT.of ha) (fls_dp fa), .tup (SqT.of hb) (fls_dp fb), shaped_tdd fa, shaped_tdd fb, by rw [eqv_tdd fa fb]; exact q⟩
theorem ne_tups {a b : Addr} {xs ys : List V} (ha : H a = some (.tup xs)) (hb : H b = some (.tup ys)) (q : Q (.bl (!decide (xs = ys))) H) (fa : xs.all fl = true := by rfl) (fb : ys.all fl = true := by rfl) : rNeD K (.ref a) (.ref b) H Q :=
  ⟨tdd xs, tdd ys, .tup (SqT.of ha) (fls_dp fa), .tup (SqT.of hb) (fls_dp fb), shaped_tdd fa, shaped_tdd fb, by rw [eqv_tdd fa fb]; exact q⟩
/-- l != m of lists of tuples -/
theorem ne_lsts {l m : Addr} {xs ys : List (List V)} (hl : LstAt H l xs) (hm : LstAt H m ys) (fl1 : ∀ x ∈ xs, x.all fl = true) (fl2 : ∀ x ∈ ys, x.all fl = true) (q : Q (.bl (!decide (xs = ys))) H) : rNeD K (.ref l) (.ref m) H Q :=
  ⟨_, _, lst_dp hl fl1, lst_dp hm fl2, shaped_tdds fl1, shaped_tdds fl2, by rw [PyData.eqv, eqvAll_tdd fl1 fl2]; exact q⟩
theorem isEmpty_dec {α : Type} [DecidableEq α] (xs : List α) : decide (xs = []) = xs.isEmpty := by
  cases xs <;> simp
/-- l == [], l != [] -/
theorem eq_lnil {l m : Addr} {xs : List (List V)} (hl : LstAt H l xs) (hm : H m = some (.lst [])) (fl1 : ∀ x ∈ xs, x.all fl = true) (q : Q (.bl xs.isEmpty) H) : rEqD K (.ref l) (.ref m) H Q :=
  ⟨_, .list ([].map tdd), lst_dp hl fl1, .lst (SqL.of hm) .nil, shaped_tdds fl1, shaped_tdds (by simp), by rw [PyData.eqv, eqvAll_tdd fl1 (by simp), isEmpty_dec]; exact q⟩
theorem ne_lnil {l m : Addr} {xs : List (List V)} (hl : LstAt H l xs) (hm : H m = some (.lst [])) (fl1 : ∀ x ∈ xs, x.all fl = true) (q : Q (.bl (!xs.isEmpty)) H) : rNeD K (.ref l) (.ref m) H Q :=
  ⟨_, .list ([].map tdd), lst_dp hl fl1, .lst (SqL.of hm) .nil, shaped_tdds fl1, shaped_tdds (by simp), by rw [PyData.eqv, eqvAll_tdd fl1 (by simp), isEmpty_dec]; exact q⟩
/-- .. of a list of numbers or texts -/
theorem eq_fnil {l m : Addr} {xs : List V} (hl : H l = some (.lst xs)) (hm : H m = some (.lst [])) (f : xs.all fl = true) (q : Q (.bl xs.isEmpty) H) : rEqD K (.ref l) (.ref m) H Q :=
  ⟨.list (xs.map vd), .list ([].map vd), .lst (SqL.of hl) (fls_dp f), .lst (SqL.of hm) .nil, shaped_fls f, shaped_fls (by rfl), by rw [PyData.eqv, eqvAll_fl f (by rfl), isEmpty_dec]; exact q⟩
theorem ne_fnil {l m : Addr} {xs : List V} (hl : H l = some (.lst xs)) (hm : H m = some (.lst [])) (f : xs.all fl = true) (q : Q (.bl (!xs.isEmpty)) H) : rNeD K (.ref l) (.ref m) H Q :=
  ⟨.list (xs.map vd), .list ([].map vd), .lst (SqL.of hl) (fls_dp f), .lst (SqL.of hm) .nil, shaped_fls f, shaped_fls (by rfl), by rw [PyData.eqv, eqvAll_fl f (by rfl), isEmpty_dec]; exact q⟩
end
theorem sOk_sd (b : Bool) : sOk (sd b) = true := by cases b <;> decide +kernel
theorem ord_fl {o : Ord} (h : Ok o) : o.v.all fl = true := by
  show (sOk o.name && (sOk o.who && (sOk (sd o.buy) && true))) = true
  rw [h.nk, h.wk, sOk_sd]
  rfl
theorem ords_fl {os : List Ord} (h : ∀ o ∈ os, Ok o) : ∀ x ∈ os.map Ord.v, x.all fl = true := by
  intro x hx
  obtain ⟨o, ho, rfl⟩ := List.mem_map.mp hx
  exact ord_fl (h o ho)
theorem isEmpty_map {α β : Type} (f : α → β) (l : List α) : (l.map f).isEmpty = l.isEmpty := by cases l <;> rfl
end BB
set_option Elab.async false
set_option linter.all false
set_option maxRecDepth 100000
set_option maxHeartbeats 4000000
/-! W1: names, numbers, orders. -/
namespace BB
open PySem PySem.Spec PyProof.Rows L2
local macro_rules | `(tactic| walk_at "rd") => `(tactic| repeat (first | refine ⟨_, rfl, ?_⟩ | refine ⟨_, _, rfl, rfl, ?_⟩ | refine ⟨_, _, rfl, ?_⟩ | refine ⟨rfl, ?_⟩ | refine ⟨_, _, _, _, rfl, rfl, SqT.of (by assumption), rfl, ?_⟩ | refine ⟨Nat.le_of_ble_eq_true rfl, ?_⟩))
section
variable {P : Program} {w : World} {K : PySem.W.Frag} {mg : Str → Option Value} {base : Heap}
def spNum0 : Sp := fun vs H Q _ => ∃ n lo hi : Int, vs = [.int n, .int lo, .int hi] ∧ lo ≤ n ∧ n ≤ hi ∧ Q (.int n) H
theorem ok_num0 (T : Txt K mg) : Gd P w K mg base CX0 1 "checked_number" ["number", "low", "high"] spNum0 := by
  refine gd0 T.d_checked_number T.g_checked_number sc_checked_number (fun _ _ _ _ _ _ us hl => match us, hl with | [_, _, _], _ => rfl) (fun vs H Q E h => ?_) (fun cdv A outer s H vs Q E hr h => ?_)
  · obtain ⟨n, lo, hi, rfl, _⟩ := h
    rfl
  · obtain ⟨n, lo, hi, rfl, h1, h2, q⟩ := h
    refine ⟨_, pss_cons (ps_if (PW.pt (pw_or (pt_cmpR op_lt (pv 0) (pv 1) (nomark _)) (pw_or1 (pt_cmpR op_gt (pv 0) (pv 2) (nomark _))))) (pss_one ps_never) pss_nil)
      (pss_one (ps_ret (pv 0))), ?_⟩
    walk_at "rd"
    refine iteN (decide_eq_false (by omega)) ?_
    walk_at "rd"
    refine iteN (decide_eq_false (by omega)) ?_
    walk_at "rd"
    exact q
def spInView : Sp := fun vs H Q _ => ∃ l p : Int, vs = [.int l, .int p] ∧ Q (.int (inView l p)) H
theorem ok_in_view (T : Txt K mg) : Gd P w K mg base CX0 1 "in_view" ["left", "peak"] spInView := by
  refine gd0 T.d_in_view T.g_in_view sc_in_view (fun _ _ _ _ _ _ us hl => match us, hl with | [_, _], _ => rfl) (fun vs H Q E h => ?_) (fun cdv A outer s H vs Q E hr h => ?_)
  · obtain ⟨l, p, rfl, _⟩ := h
    rfl
  · obtain ⟨l, p, rfl, q⟩ := h
    refine ⟨_, pss_cons (ps_if (pt_cmpR op_eq (pv 1) pe_int (nomark _)) (pss_one (ps_ret (pv 0))) pss_nil)
      (pss_one (ps_ret (pe_callB (call_min2 rfl) (by rfl) T.b_min (by decide +kernel) (pa_cons (pv 1) (pa_cons (pv 0) pa_nil))))), ?_⟩
    walk_at "rd"
    refine iteB dec_int ?_
    unfold inView at q
    refine ite2 (fun c => ?_) (fun c => ?_)
    · rw [if_pos (by simpa using c)] at q
      walk_at "rd"
      exact q
    · rw [if_neg (by simpa using c)] at q
      walk_at "rd"
      exact q
def spWithLeft : Sp := fun vs H Q _ => ∃ (a : Addr) (o : Ord) (l s : Int), vs = [.ref a, .int l, .int s] ∧ H a = some (.tup o.v) ∧ ∀ p, H p = none → Q (.ref p) (upd H p (.tup (withLeft o l s).v))
theorem ok_with_left (T : Txt K mg) : Gd P w K mg base CX0 1 "with_left" ["order", "left", "shown"] spWithLeft := by
  refine gd0 T.d_with_left T.g_with_left sc_with_left (fun _ _ _ _ _ _ us hl => match us, hl with | [_, _, _], _ => rfl) (fun vs H Q E h => ?_) (fun cdv A outer s H vs Q E hr h => ?_)
  · obtain ⟨a, o, l, z, rfl, _⟩ := h
    rfl
  · obtain ⟨a, o, l, z, rfl, ha, q⟩ := h
    refine ⟨_, pss_one (ps_ret (pe_tup (pa_cons (pe_ix ix_tup (pv 0) pe_int (fun _ _ => rfl)) (pa_cons (pe_ix ix_tup (pv 0) pe_int (fun _ _ => rfl)) (pa_cons (pe_ix ix_tup (pv 0) pe_int (fun _ _ => rfl)) (pa_cons (pe_ix ix_tup (pv 0) pe_int (fun _ _ => rfl)) (pa_cons (pv 1) (pa_cons (pv 2) (pa_cons (pe_ix ix_tup (pv 0) pe_int (fun _ _ => rfl)) pa_nil))))))))), ?_⟩
    walk_at "rd"
    exact q
theorem ok_fresh (T : Txt K mg) : Gd P w K mg base CX0 2 "fresh" ["order", "left"] (fun vs H Q _ => ∃ (a : Addr) (o : Ord) (l : Int), vs = [.ref a, .int l] ∧ H a = some (.tup o.v) ∧ ∀ p, H p = none → Q (.ref p) (upd H p (.tup (BB.fresh o l).v))) := by
  have g_with_left := ok_with_left (P := P) (w := w) (base := base) T
  have g_in_view := ok_in_view (P := P) (w := w) (base := base) T
  refine gd0 T.d_fresh T.g_fresh sc_fresh (fun _ _ _ _ _ _ us hl => match us, hl with | [_, _], _ => rfl) (fun vs H Q E h => ?_) (fun cdv A outer s H vs Q E hr h => ?_)
  · obtain ⟨a, o, l, rfl, _⟩ := h
    rfl
  · obtain ⟨a, o, l, rfl, ha, q⟩ := h
    refine ⟨_, pss_one (ps_ret (cg g_with_left (hr.mono (by decide)) (pa_cons (pv 0) (pa_cons (pv 1) (pa_cons (cg g_in_view (hr.mono (by decide)) (pa_cons (pv 1) (pa_cons (pe_ix ix_tup (pv 0) pe_int (fun _ _ => rfl)) pa_nil))) pa_nil))))), ?_⟩
    walk_at "rd"
    exact ⟨a, o, l, _, rfl, ha, q⟩
theorem ok_renews (T : Txt K mg) : Gd P w K mg base CX0 1 "renews" ["order", "amount"] (fun vs H Q _ => ∃ (a : Addr) (o : Ord) (n : Int), vs = [.ref a, .int n] ∧ H a = some (.tup o.v) ∧ Q (.bl (BB.renews o n)) H) := by
  refine gd0 T.d_renews T.g_renews sc_renews (fun _ _ _ _ _ _ us hl => match us, hl with | [_, _], _ => rfl) (fun vs H Q E h => ?_) (fun cdv A outer s H vs Q E hr h => ?_)
  · obtain ⟨a, o, l, rfl, _⟩ := h
    rfl
  · obtain ⟨a, o, n, rfl, ha, q⟩ := h
    refine ⟨_, pss_one (ps_ret (pe_and (pe_cmpR op_eq (pv 1) (pe_ix ix_tup (pv 0) pe_int (fun _ _ => rfl)) (nomark _)) (pe_one (pe_cmpR op_lt (pv 1) (pe_ix ix_tup (pv 0) pe_int (fun _ _ => rfl)) (nomark _))))), ?_⟩
    walk_at "rd"
    refine iteB dec_int ?_
    have e : BB.renews o n = (decide (n = o.shown) && decide (n < o.left)) := rfl
    refine ite2 (fun c => ?_) (fun c => ?_)
    · walk_at "rd"
      rw [e, decide_eq_true (show n = o.shown by simpa using c), Bool.true_and] at q
      exact q
    · rw [e, decide_eq_false (show ¬ n = o.shown by simpa using c), Bool.false_and] at q
      exact q
theorem ok_filled (T : Txt K mg) : Gd P w K mg base CX0 3 "filled" ["order", "amount"] (fun vs H Q _ => ∃ (a : Addr) (o : Ord) (n : Int), vs = [.ref a, .int n] ∧ H a = some (.tup o.v) ∧ 1 ≤ n ∧ n ≤ o.shown ∧
    (BB.filled o n = none → Q .non H) ∧ (∀ b, BB.filled o n = some b → ∀ p, H p = none → Q (.ref p) (upd H p (.tup b.v)))) := by
  have g_checked_number := ok_num0 (P := P) (w := w) (base := base) T
  have g_renews := ok_renews (P := P) (w := w) (base := base) T
  have g_fresh := ok_fresh (P := P) (w := w) (base := base) T
  have g_with_left := ok_with_left (P := P) (w := w) (base := base) T
  refine gd0 T.d_filled T.g_filled sc_filled (fun _ _ _ _ _ _ us hl => match us, hl with | [_, _], _ => rfl) (fun vs H Q E h => ?_) (fun cdv A outer s H vs Q E hr h => ?_)
  · obtain ⟨a, o, l, rfl, _⟩ := h
    rfl
  · obtain ⟨a, o, n, rfl, ha, h1, h2, q1, q2⟩ := h
    refine ⟨_, pss_cons (ps_expr (cg g_checked_number (hr.mono (by decide)) (pa_cons (pv 1) (pa_cons pe_int (pa_cons (pe_ix ix_tup (pv 0) pe_int (fun _ _ => rfl)) pa_nil)))))
      (pss_cons (ps_set (i := 2) sc_filled.nd rfl (Or.inl rfl) (pe_op op_sub (pe_ix ix_tup (pv 0) pe_int (fun _ _ => rfl)) (pv 1)))
      (pss_cons (ps_if (pt_cmpR op_eq (pv 2) pe_int (nomark _)) (pss_one (ps_ret pe_non)) pss_nil)
      (pss_cons (ps_if (pt_val (cg g_renews (hr.mono (by decide)) (pa_cons (pv 0) (pa_cons (pv 1) pa_nil)))) (pss_one (ps_ret (cg g_fresh (hr.mono (by decide)) (pa_cons (pv 0) (pa_cons (pv 2) pa_nil))))) pss_nil)
      (pss_one (ps_ret (cg g_with_left (hr.mono (by decide)) (pa_cons (pv 0) (pa_cons (pv 2) (pa_cons (pe_op op_sub (pe_ix ix_tup (pv 0) pe_int (fun _ _ => rfl)) (pv 1)) pa_nil))))))))), ?_⟩
    walk_at "rd"
    refine ⟨n, 1, o.shown, rfl, h1, h2, ?_⟩
    walk_at "rd"
    refine iteB dec_int ?_
    unfold BB.filled at q1 q2
    refine ite2 (fun c => ?_) (fun c => ?_)
    · rw [if_pos (show o.left - n = 0 by simpa using c)] at q1
      exact q1 rfl
    · rw [if_neg (show ¬ o.left - n = 0 by simpa using c)] at q1 q2
      walk_at "rd"
      refine ⟨a, o, n, rfl, ha, ?_⟩
      walk_at "rd"
      refine ite2 (fun d => ?_) (fun d => ?_)
      · rw [if_pos d] at q2
        walk_at "rd"
        exact ⟨a, o, _, rfl, ha, q2 _ rfl⟩
      · rw [if_neg d] at q2
        walk_at "rd"
        exact ⟨a, o, _, _, rfl, ha, q2 _ rfl⟩
theorem ok_ahead (T : Txt K mg) : Gd P w K mg base CX0 1 "ahead" ["side", "price", "other"] (fun vs H Q _ => ∃ (b : Bool) (p q : Int), vs = [.str (sd b), .int p, .int q] ∧ Q (.bl (BB.ahead b p q)) H) := by
  refine gd0 T.d_ahead T.g_ahead sc_ahead (fun _ _ _ _ _ _ us hl => match us, hl with | [_, _, _], _ => rfl) (fun vs H Q E h => ?_) (fun cdv A outer s H vs Q E hr h => ?_)
  · obtain ⟨b, p, r, rfl, _⟩ := h
    rfl
  · obtain ⟨b, p, r, rfl, q⟩ := h
    refine ⟨_, pss_cons (ps_if (pt_cmpR op_eq (pv 0) pe_str (nomark _)) (pss_one (ps_ret (pe_cmpR op_gt (pv 1) (pv 2) (nomark _)))) pss_nil)
      (pss_one (ps_ret (pe_cmpR op_lt (pv 1) (pv 2) (nomark _)))), ?_⟩
    walk_at "rd"
    refine iteB (sd_buy b) ?_
    cases b with
    | true =>
      refine iteY rfl ?_
      walk_at "rd"
      exact q
    | false =>
      refine iteN rfl ?_
      walk_at "rd"
      exact q
theorem ok_allows (T : Txt K mg) : Gd P w K mg base CX0 2 "allows" ["side", "limit", "price"] (fun vs H Q _ => ∃ (b : Bool) (p q : Int), vs = [.str (sd b), .int p, .int q] ∧ Q (.bl (BB.allows b p q)) H) := by
  have g_ahead := ok_ahead (P := P) (w := w) (base := base) T
  refine gd0 T.d_allows T.g_allows sc_allows (fun _ _ _ _ _ _ us hl => match us, hl with | [_, _, _], _ => rfl) (fun vs H Q E h => ?_) (fun cdv A outer s H vs Q E hr h => ?_)
  · obtain ⟨b, p, r, rfl, _⟩ := h
    rfl
  · obtain ⟨b, p, r, rfl, q⟩ := h
    refine ⟨_, pss_one (ps_ret (pe_not (cg g_ahead (hr.mono (by decide)) (pa_cons (pv 0) (pa_cons (pv 2) (pa_cons (pv 1) pa_nil)))))), ?_⟩
    walk_at "rd"
    exact ⟨b, r, p, rfl, _, rfl, q⟩
theorem ok_other_side (T : Txt K mg) : Gd P w K mg base CX0 1 "other_side" ["side"] (fun vs H Q _ => ∃ (b : Bool), vs = [.str (sd b)] ∧ Q (.str (sd (!b))) H) := by
  refine gd0 T.d_other_side T.g_other_side sc_other_side (fun _ _ _ _ _ _ us hl => match us, hl with | [_], _ => rfl) (fun vs H Q E h => ?_) (fun cdv A outer s H vs Q E hr h => ?_)
  · obtain ⟨b, rfl, _⟩ := h
    rfl
  · obtain ⟨b, rfl, q⟩ := h
    refine ⟨_, pss_cons (ps_if (pt_cmpR op_eq (pv 0) pe_str (nomark _)) (pss_one (ps_ret pe_str)) pss_nil)
      (pss_one (ps_ret pe_str)), ?_⟩
    walk_at "rd"
    refine iteB (sd_buy b) ?_
    cases b with
    | true => exact iteY rfl q
    | false => exact iteN rfl q
end
end BB
set_option Elab.async false
set_option linter.all false
set_option maxRecDepth 100000
set_option maxHeartbeats 4000000
/-! W2: names, orders made, lines. -/
namespace BB
open PySem PySem.Spec PyProof.Rows L2
local macro_rules | `(tactic| walk_at "rd") => `(tactic| repeat (first | refine ⟨_, rfl, ?_⟩ | refine ⟨_, _, rfl, rfl, ?_⟩ | refine ⟨_, _, rfl, ?_⟩ | refine ⟨rfl, ?_⟩ | refine ⟨_, _, _, _, rfl, rfl, SqT.of (by assumption), rfl, ?_⟩ | refine ⟨Nat.le_of_ble_eq_true rfl, ?_⟩))
/-! ### names -/
def isLet (c : Nat) : Bool := decide (97 ≤ c ∧ c ≤ 122)
def isFig (c : Nat) : Bool := decide (48 ≤ c ∧ c ≤ 57)
/-- a text that is a name -/
structure NameOk (z : Str) : Prop where
  len : z.cps.size ≤ 12
  hd : ∃ c r, z.cps.toList = c :: r ∧ isLet c = true
  all : ∀ c ∈ z.cps.toList, isLet c = true ∨ isFig c = true
theorem mem_letters {c : Nat} (h : isLet c = true) : decide (c ∈ (Str.ofString "abcdefghijklmnopqrstuvwxyz").cps.toList) = true := by
  have h1 : 97 ≤ c ∧ c ≤ 122 := of_decide_eq_true h
  have key : ∀ k : Fin 26, decide (97 + k.val ∈ (Str.ofString "abcdefghijklmnopqrstuvwxyz").cps.toList) = true := by decide +kernel
  have q := key ⟨c - 97, by omega⟩
  have e : 97 + (c - 97) = c := by omega
  rw [← e]
  exact q
theorem mem_figures {c : Nat} (h : isFig c = true) : decide (c ∈ (Str.ofString "0123456789").cps.toList) = true := by
  have h1 : 48 ≤ c ∧ c ≤ 57 := of_decide_eq_true h
  have key : ∀ k : Fin 10, decide (48 + k.val ∈ (Str.ofString "0123456789").cps.toList) = true := by decide +kernel
  have q := key ⟨c - 48, by omega⟩
  have e : 48 + (c - 48) = c := by omega
  rw [← e]
  exact q
section
variable {P : Program} {w : World} {K : PySem.W.Frag} {mg : Str → Option Value} {base : Heap}
theorem ok_is_name (T : Txt K mg) : Gd P w K mg base CX0 (1) "is_name" ["text"] (fun vs H Q E => ∃ z : Str, vs = [.str z] ∧ NameOk z ∧ Q (.bl true) H) := by
  refine gd0 T.d_is_name T.g_is_name sc_is_name (fun _ _ _ _ _ _ us hl => match us, hl with | [_], _ => rfl) (fun vs H Q E h => ?_) (fun cdv A outer s H vs Q E hr h => ?_)
  · obtain ⟨z, rfl, _⟩ := h
    rfl
  · obtain ⟨z, rfl, hz, q⟩ := h
    refine ⟨_, pss_cons (ps_if (PW.pt (pw_or (pt_cmpR op_eq (pv 0) pe_str (nomark _)) (pw_or1 (pt_cmpR op_gt (pe_callB call_len_str (by rfl) T.b_len (by decide +kernel) (pa_cons (pv 0) pa_nil)) (pe_ci T.c_LONGEST) (nomark _))))) (pss_one (ps_ret pe_bl)) pss_nil)
      (pss_cons (ps_if (pt_cmpR op_notIn_sign (pe_ix ix_str (pv 0) pe_int (fun _ _ => rfl)) (pe_cs T.c_LETTERS) (by rfl)) (pss_one (ps_ret pe_bl)) pss_nil)
      (pss_cons (ps_for PassesOwn.never rfl (pi_str (pv 0)) (pg_name (i := 1) sc_is_name.nd rfl (Or.inl rfl))
        (pss_one (ps_if (PW.pt (pw_and (pt_cmpR op_notIn_sign (pv 1) (pe_cs T.c_LETTERS) (by rfl)) (pw_and1 (pt_cmpR op_notIn_sign (pv 1) (pe_cs T.c_FIGURES) (by rfl))))) (pss_one (ps_ret pe_bl)) pss_nil)))
      (pss_one (ps_ret pe_bl)))), ?_⟩
    obtain ⟨c0, r0, e0, l0⟩ := hz.hd
    have hne : ¬ z = Str.ofString "" := fun e => by
      rw [e] at e0
      cases e0
    have hlen : z.length ≤ 12 := hz.len
    walk_at "rd"
    refine iteB dec_str (iteN (beq_eq_false_iff_ne.mpr hne) ?_)
    refine ⟨_, rfl, z, rfl, Nat.le_trans hlen (by decide), _, _, rfl, rfl, ?_⟩
    walk_at "rd"
    refine iteN (decide_eq_false (by omega)) ?_
    refine ⟨_, rfl, z, 0, c0, rfl, rfl, Nat.le_trans hlen (by decide), (show atI z.cps.toList ((0 : Nat) : Int) = some c0 from atI_nat (by rw [e0]; rfl)), c0, _, rfl, rfl, ?_⟩
    walk_at "rd"
    refine iteN (by rw [mem_letters l0]; rfl) ?_
    refine ⟨_, rfl, z, rfl, fun i m σ H' => i ≤ z.cps.size ∧ m = z.cps.size - i ∧ H' = H ∧ ∃ v, σ = [some (.str z), v], ⟨_, Nat.zero_le _, rfl, rfl, _, rfl⟩, ?_⟩
    rintro i m σ H' ⟨hi, rfl, rfl, v, rfl⟩
    by_cases hlt : i < z.cps.size
    · refine .inr ⟨hlt, fun σ' H'' => H'' = H' ∧ ∃ v, σ' = [some (.str z), v], fun σ' H'' z1 => ⟨z.cps.size - (i + 1), by omega, hlt, rfl, z1⟩, ?_⟩
      rintro x H'' ⟨rfl, c, hc, rfl⟩
      have hm : c ∈ z.cps.toList := Array.mem_toList_iff.mpr (Array.mem_of_getElem? hc)
      refine ⟨_, rfl, c, _, rfl, rfl, _, rfl, ?_⟩
      rcases hz.all c hm with h1 | h1
      · refine iteN (by rw [mem_letters h1]; rfl) ?_
        refine iteN rfl ?_
        exact ⟨rfl, _, rfl⟩
      · refine ite2 (fun _ => ?_) (fun _ => ?_)
        · refine ⟨_, rfl, c, _, rfl, rfl, _, rfl, ?_⟩
          refine iteN (by rw [mem_figures h1]; rfl) ?_
          exact ⟨rfl, _, rfl⟩
        · refine iteN rfl ?_
          exact ⟨rfl, _, rfl⟩
    · exact .inl ⟨Nat.le_of_not_lt hlt, q⟩
theorem ok_checked_name (T : Txt K mg) : Gd P w K mg base CX0 (2) "checked_name" ["text"] (fun vs H Q E => ∃ z : Str, vs = [.str z] ∧ NameOk z ∧ Q (.str z) H) := by
  have g_is_name := ok_is_name (P := P) (w := w) (base := base) T
  refine gd0 T.d_checked_name T.g_checked_name sc_checked_name (fun _ _ _ _ _ _ us hl => match us, hl with | [_], _ => rfl) (fun vs H Q E h => ?_) (fun cdv A outer s H vs Q E hr h => ?_)
  · obtain ⟨z, rfl, _⟩ := h
    rfl
  · obtain ⟨z, rfl, hz, q⟩ := h
    refine ⟨_, pss_cons (ps_if (pt_not (pt_val (cg g_is_name (hr.mono (by decide)) (pa_cons (pv 0) pa_nil)))) (pss_one ps_never) pss_nil)
      (pss_one (ps_ret (pv 0))), ?_⟩
    walk_at "rd"
    refine ⟨hz, ?_⟩
    walk_at "rd"
    exact q
end
section
variable {P : Program} {w : World} {K : PySem.W.Frag} {mg : Str → Option Value} {base : Heap} {x qual : Str} {st : Stmt} {f : Addr} {N ps : List Str} {k : Nat} {sp : Sp} {dvs : List V}
/-- a def with defaults, every parameter written -/
theorem gdD (F : ∃ fd, FunD K x qual (defArgs st) (defBody st) (defScope st) dvs [] f fd) (hm : mg x = some (.ref f)) (S : FnScope N ps (defScope st))
    (hb : ∀ fd, FunD K x qual (defArgs st) (defBody st) (defScope st) dvs [] f fd → Binds K fd ps [])
    (len : ∀ vs H Q E, sp vs H Q E → vs.length = ps.length)
    (hbody : ∀ (cdv : Value) (A : Around) (outer : List Env) (s : Shared) (H : Hp) (vs : List V) (Q : VK) (E : XK), Room k (A.deeper (envOfC qual (defScope st) s.heap.objs.size f cdv)) → sp vs H Q E →
      ∃ t, PSs (cxOf CX0 P w K mg base N qual (defScope st) f cdv A outer s H E).nox (defBody st) t ∧ t { nx := fun _ H' => Q .non H', rt := Q } (start N vs) H) : Gd P w K mg base CX0 (k + 1) x ps sp := by
  obtain ⟨fd, F⟩ := F
  refine ⟨f, fd, F.ok S len fun cdv A outer s H vs Q E hr hsp => ?_, hb fd F, F.kp, hm⟩
  obtain ⟨t, h, q⟩ := hbody cdv A outer s H vs Q E hr hsp
  exact ⟨t, h.nox, q⟩
end
section
variable {P : Program} {w : World} {K : PySem.W.Frag} {mg : Str → Option Value} {base : Heap}
/-- what made is handed here -/
structure MadeOk (n who : Str) (price amount peak : Int) : Prop where
  n : NameOk n
  who : NameOk who
  p1 : 1 ≤ price
  p2 : price ≤ 1000000000
  a1 : 1 ≤ amount
  a2 : amount ≤ 1000000000
  pk : peak = 0 ∨ (1 ≤ peak ∧ peak ≤ amount ∧ amount ≤ 16 * peak)
def newOrd (n who : Str) (b : Bool) (price amount peak : Int) : Ord := ⟨n, who, b, price, amount, inView amount peak, peak⟩
/-- the rest of made's reading -/
theorem made_rest {n who : Str} {b : Bool} {price amount peak : Int} {H : Hp} {Q : VK} (m : MadeOk n who price amount peak) (q : ∀ p, H p = none → Q (.ref p) (upd H p (.tup (newOrd n who b price amount peak).v))) :
    tSeq (tIfS (tTest (tOp rNe (tVar 5) (tC (V.int 0))))
        (tSeq (tDrop (tCall spNum0 [] E0 (tCons (tVar 5) (tCons (tC (V.int 1)) (tCons (tVar 4) tNil)))))
          (tIfS (tTest (tOp (rI0 fun i j => V.bl (decide (i < j))) (tOp (rI CMul fun i j => V.int (i * j)) (tVar 5) (tC (V.int 16))) (tVar 4))) tNever tNext)) tNext)
      (tRet (tTup (tCons (tVar 0) (tCons (tVar 1) (tCons (tVar 2) (tCons (tVar 3) (tCons (tVar 4) (tCons (tCall spInView [] E0 (tCons (tVar 4) (tCons (tVar 5) tNil))) (tCons (tVar 5) tNil)))))))))
      { nx := fun _ H' => Q .non H', rt := Q } (start ["name", "who", "side", "price", "amount", "peak"] [V.str n, V.str who, V.str (sd b), V.int price, V.int amount, V.int peak]) H := by
  have fin : tRet (tTup (tCons (tVar 0) (tCons (tVar 1) (tCons (tVar 2) (tCons (tVar 3) (tCons (tVar 4) (tCons (tCall spInView [] E0 (tCons (tVar 4) (tCons (tVar 5) tNil))) (tCons (tVar 5) tNil))))))))
      { nx := fun _ H' => Q .non H', rt := Q } (start ["name", "who", "side", "price", "amount", "peak"] [V.str n, V.str who, V.str (sd b), V.int price, V.int amount, V.int peak]) H := by
    walk_at "rd"
    exact q
  walk_at "rd"
  refine iteB (c' := !decide (peak = 0)) (by rw [dec_int]; rfl) ?_
  refine ite2 (fun c => ?_) (fun c => ?_)
  · have c2 : peak ≠ 0 := by simpa using c
    obtain ⟨h1, h2, h3⟩ := m.pk.resolve_left c2
    walk_at "rd"
    refine ⟨_, _, _, rfl, h1, h2, ?_⟩
    walk_at "rd"
    refine ⟨.inr ⟨by decide, by decide⟩, ?_⟩
    walk_at "rd"
    refine iteN (decide_eq_false (by omega)) ?_
    exact fin
  · exact fin
theorem ok_made (T : Txt K mg) : Gd P w K mg base CX0 (3) "made" ["name", "who", "side", "price", "amount", "peak"] (fun vs H Q E => ∃ (n who : Str) (b : Bool) (price amount peak : Int), vs = [.str n, .str who, .str (sd b), .int price, .int amount, .int peak] ∧ MadeOk n who price amount peak ∧ ∀ p, H p = none → Q (.ref p) (upd H p (.tup (newOrd n who b price amount peak).v))) := by
  have g_checked_name := ok_checked_name (P := P) (w := w) (base := base) T
  have g_in_view := ok_in_view (P := P) (w := w) (base := base) T
  have g_checked_number := ok_num0 (P := P) (w := w) (base := base) T
  refine gdD T.d_made T.g_made sc_made (fun fd F => by obtain ⟨ds, r, b⟩ := F.binds1 (ps := ["name", "who", "side", "price", "amount", "peak"]) 6 1 (by simp) rfl fun _ _ _ _ _ _ _ us its hl hi => match us, its, hl, hi with | [_, _, _, _, _, _], [_], _, _ => ⟨_, rfl, by kernel_rfl⟩; cases r; exact b) (fun vs H Q E h => ?_) (fun cdv A outer s H vs Q E hr h => ?_)
  · obtain ⟨n, who, b, price, amount, peak, rfl, _⟩ := h
    rfl
  · obtain ⟨n, who, b, price, amount, peak, rfl, m, q⟩ := h
    refine ⟨_, pss_cons (ps_expr (cg g_checked_name (hr.mono (by decide)) (pa_cons (pv 0) pa_nil)))
      (pss_cons (ps_expr (cg g_checked_name (hr.mono (by decide)) (pa_cons (pv 1) pa_nil)))
      (pss_cons (ps_if (PW.pt (pw_and (pt_cmpR op_ne (pv 2) pe_str (nomark _)) (pw_and1 (pt_cmpR op_ne (pv 2) pe_str (nomark _))))) (pss_one ps_never) pss_nil)
      (pss_cons (ps_expr (cg g_checked_number (hr.mono (by decide)) (pa_cons (pv 3) (pa_cons pe_int (pa_cons (pe_ci T.c_MOST) pa_nil)))))
      (pss_cons (ps_expr (cg g_checked_number (hr.mono (by decide)) (pa_cons (pv 4) (pa_cons pe_int (pa_cons (pe_ci T.c_MOST) pa_nil)))))
      (pss_cons (ps_if (pt_cmpR op_ne (pv 5) pe_int (nomark _)) (pss_cons (ps_expr (cg g_checked_number (hr.mono (by decide)) (pa_cons (pv 5) (pa_cons pe_int (pa_cons (pv 4) pa_nil)))))
      (pss_one (ps_if (pt_cmpR op_lt (pe_op op_mul (pv 5) (pe_ci T.c_PEAKS)) (pv 4) (nomark _)) (pss_one ps_never) pss_nil))) pss_nil)
      (pss_one (ps_ret (pe_tup (pa_cons (pv 0) (pa_cons (pv 1) (pa_cons (pv 2) (pa_cons (pv 3) (pa_cons (pv 4) (pa_cons (cg g_in_view (hr.mono (by decide)) (pa_cons (pv 4) (pa_cons (pv 5) pa_nil))) (pa_cons (pv 5) pa_nil))))))))))))))), ?_⟩
    walk_at "rd"
    refine ⟨m.n, ?_⟩
    walk_at "rd"
    refine ⟨m.who, ?_⟩
    walk_at "rd"
    refine iteB (c' := !b) (by rw [sd_buy]) ?_
    refine ite2 (fun c => ?_) (fun c => ?_)
    · have c2 : b = false := by simpa using c
      subst c2
      walk_at "rd"
      refine ⟨_, _, _, rfl, m.p1, m.p2, ?_⟩
      walk_at "rd"
      refine ⟨_, _, _, rfl, m.a1, m.a2, ?_⟩
      exact made_rest m q
    · refine iteN rfl ?_
      walk_at "rd"
      refine ⟨_, _, _, rfl, m.p1, m.p2, ?_⟩
      walk_at "rd"
      refine ⟨_, _, _, rfl, m.a1, m.a2, ?_⟩
      exact made_rest m q
end
end BB
set_option Elab.async false
set_option linter.all false
set_option maxRecDepth 100000
set_option maxHeartbeats 4000000
/-! W3: lines: joined, served. -/
namespace BB
open PySem PySem.Spec PyProof.Rows L2
local macro_rules | `(tactic| walk_at "rd") => `(tactic| repeat (first | refine ⟨_, rfl, ?_⟩ | refine ⟨_, _, rfl, rfl, ?_⟩ | refine ⟨_, _, rfl, ?_⟩ | refine ⟨rfl, ?_⟩ | refine ⟨_, _, _, _, rfl, rfl, SqT.of (by assumption), rfl, ?_⟩ | refine ⟨Nat.le_of_ble_eq_true rfl, ?_⟩))
theorem cutV_take (xs : List V) (k : Nat) : cutV xs none (some (k : Int)) = xs.take k := by
  unfold cutV
  rw [HT.sIx_none, HT.sIx_nat, List.drop_zero, Nat.sub_zero]
  by_cases h : k ≤ xs.length
  · rw [Nat.min_eq_left h]
  · rw [Nat.min_eq_right (by omega), List.take_of_length_le (Nat.le_refl _), List.take_of_length_le (by omega)]
theorem cutV_drop (xs : List V) (k : Nat) : cutV xs (some (k : Int)) none = xs.drop k := by
  unfold cutV
  rw [HT.sIx_none, HT.sIx_nat]
  by_cases h : k ≤ xs.length
  · rw [Nat.min_eq_left h, List.take_of_length_le (by rw [List.length_drop]; exact Nat.le_refl _)]
  · rw [Nat.min_eq_right (by omega), List.drop_of_length_le (l := xs) (i := k) (by omega), List.drop_of_length_le (l := xs) (i := xs.length) (Nat.le_refl _), List.take_nil]
theorem joined_at {o : Ord} : ∀ {os : List Ord} {k : Nat}, k ≤ os.length → (∀ j x, j < k → os[j]? = some x → ahead o.buy o.price x.price = false) → (∀ x, os[k]? = some x → ahead o.buy o.price x.price = true) →
    joined os o = os.take k ++ (o :: os.drop k)
  | [], 0, _, _, _ => rfl
  | [], k + 1, hk, _, _ => absurd hk (Nat.not_succ_le_zero _)
  | h :: t, 0, _, _, h2 => by
    unfold joined
    rw [if_pos (h2 h rfl)]
    rfl
  | h :: t, k + 1, hk, h1, h2 => by
    have h0 := h1 0 h (Nat.zero_lt_succ _) rfl
    have ih := joined_at (o := o) (os := t) (k := k) (Nat.le_of_succ_le_succ hk) (fun j x hj hx => h1 (j + 1) x (Nat.succ_lt_succ hj) hx) (fun x hx => h2 x hx)
    unfold joined
    rw [if_neg (by rw [h0]; exact Bool.false_ne_true), ih]
    rfl
theorem Ords.get {H : Hp} {vs : List V} {os : List Ord} {i : Nat} {v : V} (h : Ords H vs os) (e : vs[i]? = some v) : ∃ o b, os[i]? = some o ∧ v = .ref b ∧ H b = some (.tup o.v) := by
  obtain ⟨x, ex, b, ev, hb⟩ := Tups.get h e
  rw [List.getElem?_map] at ex
  cases q : os[i]? with
  | none =>
    rw [q] at ex
    cases ex
  | some o =>
    rw [q] at ex
    cases Option.some.inj ex
    exact ⟨o, b, rfl, ev, hb⟩
theorem Ords.at {H : Hp} {vs : List V} {os : List Ord} {i : Nat} {o : Ord} (h : Ords H vs os) (e : os[i]? = some o) : ∃ b, vs[i]? = some (.ref b) ∧ H b = some (.tup o.v) := by
  obtain ⟨v, ev, b, e1, hb⟩ := Tups.at (i := i) (x := o.v) h (by rw [List.getElem?_map, e]; rfl)
  subst e1
  exact ⟨b, ev, hb⟩
theorem Ords.len {H : Hp} {vs : List V} {os : List Ord} (h : Ords H vs os) : vs.length = os.length := by
  have e := Tups.length h
  rw [List.length_map] at e
  exact e
theorem line1000 {n : Nat} (h : n ≤ 1000) : n ≤ sizeLine := Nat.le_trans h (by decide)
/-- line[:k] + [v] + line[k:] -/
theorem LinAt.spliced {H : Hp} {l p : Addr} {vs : List V} {os : List Ord} {o : Ord} {v : V} {k : Nat} (hp : H p = some (.lst (vs.take k ++ [v] ++ vs.drop k))) (ht : Ords H vs os) (hv : OrdAt H v o) : LinAt H p (os.take k ++ (o :: os.drop k)) := by
  refine ⟨_, hp, ?_⟩
  have e : (os.take k ++ (o :: os.drop k)).map Ord.v = (os.map Ord.v).take k ++ [o.v] ++ (os.map Ord.v).drop k := by
    rw [List.map_append, List.map_cons, List.map_take, List.map_drop, List.append_assoc]
    rfl
  rw [e]
  exact ((Tups.take k ht).append (.one hv)).append (Tups.drop k ht)
section
variable {P : Program} {w : World} {K : PySem.W.Frag} {mg : Str → Option Value} {base : Heap}
theorem ok_joined (T : Txt K mg) : Gd P w K mg base CX0 (2) "joined" ["line", "order"] (fun vs H Q E => ∃ (l a : Addr) (os : List Ord) (o : Ord), vs = [.ref l, .ref a] ∧ LinAt H l os ∧ H a = some (.tup o.v) ∧ (∀ x ∈ os, x.name ≠ o.name) ∧ os.length ≤ 900 ∧ ∀ p H', Same H H' → H p = none → LinAt H' p (BB.joined os o) → Q (.ref p) H') := by
  have g_ahead := ok_ahead (P := P) (w := w) (base := base) T
  refine gd0 T.d_joined T.g_joined sc_joined (fun _ _ _ _ _ _ us hl => match us, hl with | [_, _], _ => rfl) (fun vs H Q E h => ?_) (fun cdv A outer s H vs Q E hr h => ?_)
  · obtain ⟨l, a, os, o, rfl, _⟩ := h
    rfl
  · obtain ⟨l, a, os, o, rfl, ⟨vs, hL, hT⟩, ha, hn, hz, q⟩ := h
    refine ⟨_, pss_cons (ps_for PassesOwn.never rfl (pi_list (pv 0)) (pg_name (i := 2) sc_joined.nd rfl (Or.inl rfl))
        (pss_one (ps_if (pt_cmpR op_eq (pe_ix ix_tup (pv 2) pe_int (fun _ _ => rfl)) (pe_ix ix_tup (pv 1) pe_int (fun _ _ => rfl)) (nomark _)) (pss_one ps_never) pss_nil)))
      (pss_cons (ps_set (i := 3) sc_joined.nd rfl (Or.inl rfl) pe_int)
      (pss_cons (ps_while PassesOwn.never (PW.pt (pw_and (pt_cmpR op_lt (pv 3) (pe_callB call_len_seq (by rfl) T.b_len (by decide +kernel) (pa_cons (pv 0) pa_nil)) (nomark _)) (pw_and1 (pt_not (pt_val (cg g_ahead (hr.mono (by decide)) (pa_cons (pe_ix ix_tup (pv 1) pe_int (fun _ _ => rfl)) (pa_cons (pe_ix ix_tup (pv 1) pe_int (fun _ _ => rfl)) (pa_cons (pe_ix ix_tup (pe_ix ix_list (pv 0) (pv 3) (fun _ _ => rfl)) pe_int (fun _ _ => rfl)) pa_nil))))))))) (pss_one (ps_set (i := 3) sc_joined.nd rfl (Or.inl rfl) (pe_op op_add (pv 3) pe_int))))
      (pss_one (ps_ret (pe_op op_cat (pe_op op_cat (pe_slice sl_list (pv 0) po_none (po_some (pv 3))) (pe_lst (pa_cons (pv 1) pa_nil))) (pe_slice sl_list (pv 0) (po_some (pv 3)) po_none)))))), ?_⟩
    have hlen := Ords.len hT
    -- for one in line
    refine ⟨_, rfl, l, rfl, ⟨_, SqL.of hL⟩, for_list (K := K) (a := l) (xs := vs) (fun i σ H' => H' = H ∧ ∃ v, σ = [some (.ref l), some (.ref a), v, none]) ⟨rfl, _, rfl⟩ (fun i σ H' _ ⟨e, _⟩ => by rw [e]; exact SqL.of hL) ?_ ?_⟩
    · rintro i y σ H' hi ⟨rfl, v, rfl⟩
      obtain ⟨o', b, eo, rfl, hb⟩ := Ords.get hT hi
      walk_at "rd"
      refine iteB dec_str (iteN (beq_eq_false_iff_ne.mpr (hn o' (List.mem_of_getElem? eo))) ?_)
      exact ⟨rfl, _, rfl⟩
    rintro σ H' ⟨rfl, v, rfl⟩
    -- at = 0, while
    refine ⟨fun m σ H1 => H1 = H' ∧ ∃ k : Nat, m = os.length - k ∧ k ≤ os.length ∧ σ = [some (.ref l), some (.ref a), v, some (.int k)] ∧ ∀ j x, j < k → os[j]? = some x → BB.ahead o.buy o.price x.price = false, ⟨_, rfl, 0, rfl, Nat.zero_le _, rfl, fun j x hj => absurd hj (Nat.not_lt_zero _)⟩, ?_⟩
    rintro m σ H1 ⟨rfl, k, rfl, hk, rfl, hbef⟩
    have fin : (∀ x, os[k]? = some x → BB.ahead o.buy o.price x.price = true) → tRet (tOp rCat (tOp rCat (tSl (rSlL K) (tVar 0) tNoPart (tPart (tVar 3))) (tLst (tCons (tVar 1) tNil))) (tSl (rSlL K) (tVar 0) (tPart (tVar 3)) tNoPart))
        { nx := fun _ H' => Q .non H', rt := Q } [some (.ref l), some (.ref a), v, some (.int k)] H1 := fun hat => by
      refine ⟨_, rfl, _, rfl, _, rfl, _, _, rfl, SqL.of hL, fun p1 h1 => ?_⟩
      have s1 := same_upd (o := .lst (cutV vs none (some ↑k))) h1
      refine ⟨_, rfl, Nat.le_of_ble_eq_true rfl, fun p2 h2 => ?_⟩
      have s2 := same_upd (o := .lst [V.ref a]) h2
      refine ⟨p1, p2, _, _, rfl, rfl, s2 _ _ upd_same, upd_same, line1000 (by rw [cutV_take, List.length_take]; show _ + 1 ≤ 1000; omega), fun p3 h3 => ?_⟩
      have s3 := same_upd (o := .lst (cutV vs none (some ↑k) ++ [V.ref a])) h3
      have s123 := (s1.trans s2).trans s3
      refine ⟨_, rfl, _, rfl, _, rfl, _, _, rfl, SqL.of (s123 _ _ hL), fun p4 h4 => ?_⟩
      have s4 := same_upd (o := .lst (cutV vs (some ↑k) none)) h4
      refine ⟨p3, p4, _, _, rfl, rfl, s4 _ _ upd_same, upd_same, line1000 (by rw [cutV_take, cutV_drop, List.length_append, List.length_take, List.length_drop]; show _ + 1 + _ ≤ 1000; omega), fun p5 h5 => ?_⟩
      have s5 := same_upd (o := .lst (cutV vs none (some ↑k) ++ [V.ref a] ++ cutV vs (some ↑k) none)) h5
      have s := (s123.trans s4).trans s5
      refine q p5 _ s (((s123.trans s4).free h5)) ?_
      rw [joined_at hk hbef hat]
      exact LinAt.spliced (l := l) (by rw [upd_same, cutV_take, cutV_drop]) (Tups.kt (Kt.same s) hT) ⟨a, rfl, s _ _ ha⟩
    refine ⟨_, rfl, _, rfl, l, _, rfl, .inl (SqL.of hL), _, _, rfl, rfl, _, rfl, ?_⟩
    refine ite2 (fun c => ?_) (fun c => ?_)
    · have hlt : k < os.length := by
        have := of_decide_eq_true c
        omega
      obtain ⟨x, hx⟩ : ∃ x, os[k]? = some x := ⟨os[k], List.getElem?_eq_getElem hlt⟩
      obtain ⟨b, hb, hbx⟩ := Ords.at hT hx
      walk_at "rd"
      refine ⟨l, _, _, _, rfl, rfl, SqL.of hL, atI_nat hb, ?_⟩
      walk_at "rd"
      refine ⟨o.buy, o.price, x.price, rfl, _, rfl, ?_⟩
      cases hA : BB.ahead o.buy o.price x.price with
      | true =>
        refine iteN rfl ?_
        exact fin fun y hy => by rw [hx] at hy; cases hy; exact hA
      | false =>
        refine iteY rfl ⟨_, fun σ' H' z => z, ?_⟩
        walk_at "rd"
        refine ⟨os.length - (k + 1), by omega, rfl, k + 1, rfl, hlt, rfl, fun j y hj hy => ?_⟩
        by_cases e : j = k
        · subst e
          rw [hx] at hy
          cases hy
          exact hA
        · exact hbef j y (by omega) hy
    · refine iteN rfl ?_
      have : k = os.length := by
        have := of_decide_eq_false (Bool.eq_false_iff.mpr c)
        omega
      exact fin fun y hy => by rw [this, List.getElem?_eq_none (Nat.le_refl _)] at hy; cases hy
end
end BB
set_option Elab.async false
set_option linter.all false
set_option maxRecDepth 100000
set_option maxHeartbeats 4000000
/-! W4: served, met, could. -/
namespace BB
open PySem PySem.Spec PyProof.Rows L2
local macro_rules | `(tactic| walk_at "rd") => `(tactic| repeat (first | refine ⟨_, rfl, ?_⟩ | refine ⟨_, _, rfl, rfl, ?_⟩ | refine ⟨_, _, rfl, ?_⟩ | refine ⟨rfl, ?_⟩ | refine ⟨_, _, _, _, rfl, rfl, SqT.of (by assumption), rfl, ?_⟩ | refine ⟨Nat.le_of_ble_eq_true rfl, ?_⟩))
theorem at0 {v : V} {ws : List V} : atI (v :: ws) 0 = some v := atI_nat (xs := v :: ws) (j := 0) rfl
theorem sub1 (v : V) (ws : List V) : cutV (v :: ws) (some 1) none = ws := cutV_drop (v :: ws) 1
/-- S.append((..)), the tuple new at p -/
theorem LstAt.push {H : Hp} {S p : Addr} {vs x : List V} {xs : List (List V)} (hS : H S = some (.lst vs)) (ht : Tups H vs xs) (hp : H p = none) : LstAt (upd (upd H p (.tup x)) S (.lst (vs ++ [.ref p]))) S (xs ++ [x]) := by
  have npS : p ≠ S := fun e => by
    rw [← e, hp] at hS
    cases hS
  have k1 : Kt H (upd H p (.tup x)) := Kt.same (same_upd hp)
  have k2 : Kt (upd H p (.tup x)) (upd (upd H p (.tup x)) S (.lst (vs ++ [.ref p]))) := Kt.upd fun ys e => by
    rw [upd_ne npS.symm, hS] at e
    cases e
  exact ⟨_, upd_same, (ht.kt (k1.trans k2)).append (.one ⟨p, rfl, k2 _ _ upd_same⟩)⟩
/-- what stood when S and p were free stands -/
theorem push_same {H0 H : Hp} {S p : Addr} {o u : HO} (s : Same H0 H) (hS : H0 S = none) (hp : H p = none) : Same H0 (upd (upd H p o) S u) := fun b z e => by
  rw [upd_ne (ne_of_none e hS), upd_ne (ne_of_none (s _ _ e) hp)]
  exact s _ _ e
theorem push_kt {H : Hp} {S p : Addr} {vs : List V} {o u : HO} (hS : H S = some (.lst vs)) (hp : H p = none) : Kt H (upd (upd H p o) S u) := fun b z e => by
  rw [upd_ne (fun q => by rw [q, hS] at e; cases e), upd_ne (ne_of_none e hp)]
  exact e
theorem push_ne {H : Hp} {S p b : Addr} {o u z : HO} (h : H b = some z) (hb : b ≠ S) (hp : H p = none) : (upd (upd H p o) S u) b = some z := by
  rw [upd_ne hb, upd_ne (ne_of_none h hp)]
  exact h
section
variable {P : Program} {w : World} {K : PySem.W.Frag} {mg : Str → Option Value} {base : Heap}
theorem ok_served (T : Txt K mg) : Gd P w K mg base CX0 (4) "served" ["line", "amount"] (fun vs H Q E => ∃ (l : Addr) (f : Ord) (r : List Ord) (n : Int), vs = [.ref l, .int n] ∧ LinAt H l (f :: r) ∧ (∀ o ∈ f :: r, Ok o) ∧ 1 ≤ n ∧ n ≤ f.shown ∧ (∀ x ∈ r, x.name ≠ f.name) ∧ r.length ≤ 900 ∧ ∀ p H', Same H H' → H p = none → LinAt H' p (BB.served (f :: r) n) → Q (.ref p) H') := by
  have g_filled := ok_filled (P := P) (w := w) (base := base) T
  have g_renews := ok_renews (P := P) (w := w) (base := base) T
  have g_joined := ok_joined (P := P) (w := w) (base := base) T
  refine gd0 T.d_served T.g_served sc_served (fun _ _ _ _ _ _ us hl => match us, hl with | [_, _], _ => rfl) (fun vs H Q E h => ?_) (fun cdv A outer s H vs Q E hr h => ?_)
  · obtain ⟨l, f, r, n, rfl, _⟩ := h
    rfl
  · obtain ⟨l, f, r, n, rfl, ⟨vs, hL, hT⟩, hk, h1, h2, hn, hz, q⟩ := h
    refine ⟨_, pss_cons (ps_if (pt_cmpR (op_eqD hr.units) (pv 0) (pe_lst pa_nil) (nomark _)) (pss_one ps_never) pss_nil)
      (pss_cons (ps_set (i := 2) sc_served.nd rfl (Or.inl rfl) (pe_ix ix_list (pv 0) pe_int (fun _ _ => rfl)))
      (pss_cons (ps_set (i := 3) sc_served.nd rfl (Or.inl rfl) (cg g_filled (hr.mono (by decide)) (pa_cons (pv 2) (pa_cons (pv 1) pa_nil))))
      (pss_cons (ps_set (i := 4) sc_served.nd rfl (Or.inl rfl) (pe_slice sl_list (pv 0) (po_some pe_int) po_none))
      (pss_cons (ps_if (pt_cmpR op_isN (pv 3) pe_non (nomark _)) (pss_one (ps_ret (pv 4))) pss_nil)
      (pss_cons (ps_if (pt_val (cg g_renews (hr.mono (by decide)) (pa_cons (pv 2) (pa_cons (pv 1) pa_nil)))) (pss_one (ps_ret (cg g_joined (hr.mono (by decide)) (pa_cons (pv 4) (pa_cons (pv 3) pa_nil))))) pss_nil)
      (pss_one (ps_ret (pe_op op_cat (pe_lst (pa_cons (pv 3) pa_nil)) (pv 4))))))))), ?_⟩
    obtain ⟨v, ws, rfl, ⟨b, rfl, hb⟩, hW⟩ := Tups.head hT
    have hlen := Ords.len hW
    refine ⟨_, rfl, Nat.le_of_ble_eq_true rfl, fun e he => eq_lnil (xs := (f :: r).map Ord.v) (LstAt.same (same_upd he) ⟨_, hL, hT⟩) upd_same (ords_fl hk) ⟨_, rfl, ?_⟩⟩
    have s1 := same_upd (o := .lst []) he
    refine iteN rfl ?_
    refine ⟨_, rfl, l, _, _, _, rfl, rfl, SqL.of (s1 _ _ hL), at0, ?_⟩
    walk_at "rd"
    refine ⟨b, f, n, rfl, s1 _ _ hb, h1, h2, fun hf => ?_, fun x hf p hp => ?_⟩
    · refine ⟨_, rfl, _, rfl, _, _, rfl, SqL.of (s1 _ _ hL), fun p4 h4 => ?_⟩
      have s4 := same_upd (o := .lst (cutV (V.ref b :: ws) (some 1) none)) h4
      walk_at "rd"
      refine q p4 _ (s1.trans s4) (s1.free h4) ?_
      rw [served_cons, hf]
      exact ⟨_, by rw [upd_same, sub1], Tups.kt (Kt.same (s1.trans s4)) hW⟩
    · have s2 := same_upd (o := .tup x.v) hp
      obtain ⟨n1, n2, n3, n4, n5⟩ := filled_name hf
      refine ⟨_, rfl, _, rfl, _, _, rfl, SqL.of ((s1.trans s2) _ _ hL), fun p4 h4 => ?_⟩
      have s4 := same_upd (o := .lst (cutV (V.ref b :: ws) (some 1) none)) h4
      have s := (s1.trans s2).trans s4
      have hR : LinAt (upd (upd (upd H e (.lst [])) p (.tup x.v)) p4 (.lst (cutV (V.ref b :: ws) (some 1) none))) p4 r := ⟨_, by rw [upd_same, sub1], Tups.kt (Kt.same s) hW⟩
      have hx := s4 _ _ (upd_same (H := upd H e (.lst [])) (a := p) (o := .tup x.v))
      walk_at "rd"
      refine ⟨b, f, n, rfl, s _ _ hb, ?_⟩
      walk_at "rd"
      cases hr2 : BB.renews f n with
      | true =>
        refine iteY rfl ?_
        walk_at "rd"
        refine ⟨p4, p, r, x, rfl, hR, hx, fun y hy => by rw [n1]; exact hn y hy, hz, fun p5 H5 s5 h5 hj => ?_⟩
        refine q p5 H5 (s.trans s5) (s.free h5) ?_
        rw [served_cons, hf]
        show LinAt H5 p5 (if BB.renews f n = true then joined r x else x :: r)
        rw [if_pos hr2]
        exact hj
      | false =>
        refine iteN rfl ?_
        refine ⟨_, rfl, Nat.le_of_ble_eq_true rfl, fun p5 h5 => ?_⟩
        have s5 := same_upd (o := .lst [V.ref p]) h5
        obtain ⟨vs4, e4, t4⟩ := hR
        refine ⟨_, rfl, p5, p4, _, _, rfl, rfl, upd_same, s5 _ _ e4, line1000 (by rw [Ords.len t4]; show 1 + _ ≤ 1000; omega), fun p6 h6 => ?_⟩
        have s6 := same_upd (o := .lst ([V.ref p] ++ vs4)) h6
        refine q p6 _ ((s.trans s5).trans s6) ((s.trans s5).free h6) ?_
        rw [served_cons, hf]
        show LinAt _ p6 (if BB.renews f n = true then joined r x else x :: r)
        rw [if_neg (by rw [hr2]; exact Bool.false_ne_true)]
        exact ⟨_, upd_same, .cons ⟨p, rfl, (s5.trans s6) _ _ hx⟩ (Tups.kt (Kt.same (s5.trans s6)) t4)⟩
theorem ok_met (T : Txt K mg) : Gd P w K mg base CX0 (5) "met" ["order", "line", "last", "leap"] (fun vs H Q E => ∃ (b : Bool) (l a : Addr) (o : Ord) (os : List Ord) (last leap : Int), vs = [.ref a, .ref l, .int last, .int leap] ∧ H a = some (.tup o.v) ∧ LinAt H l os ∧ LineOk b os ∧ 0 ≤ o.left ∧ (∀ n, cn n os ≤ 1) ∧ os.length ≤ 900 ∧ ∀ p ls ll H', Same H H' → H p = none → H ls = none → H ll = none → ls ≠ ll → H' p = some (.tup [.ref ls, .ref ll, .int (BB.met o os last leap).left, .bl (BB.met o os last leap).halted]) → LstAt H' ls ((BB.met o os last leap).steps.map Step.v) → LinAt H' ll (BB.met o os last leap).line → Q (.ref p) H') := by
  have g_allows := ok_allows (P := P) (w := w) (base := base) T
  have g_served := ok_served (P := P) (w := w) (base := base) T
  refine gd0 T.d_met T.g_met sc_met (fun _ _ _ _ _ _ us hl => match us, hl with | [_, _, _, _], _ => rfl) (fun vs H Q E h => ?_) (fun cdv A outer s H vs Q E hr h => ?_)
  · obtain ⟨b, l, a, o, os, last, leap, rfl, _⟩ := h
    rfl
  · obtain ⟨b, l, a, o, os, last, leap, rfl, ha, ⟨vs, hL, hT⟩, hok, h0, hcn, hz, q⟩ := h
    refine ⟨_, pss_cons (ps_set (i := 4) sc_met.nd rfl (Or.inl rfl) (pe_lst pa_nil))
      (pss_cons (ps_set (i := 1) sc_met.nd rfl (Or.inl rfl) (pe_callTy call_list_of (by rfl) T.b_list (by decide +kernel) (pa_cons (pv 1) pa_nil)))
      (pss_cons (ps_set (i := 5) sc_met.nd rfl (Or.inl rfl) (pe_ix ix_tup (pv 0) pe_int (fun _ _ => rfl)))
      (pss_cons (ps_while PassesOwn.never (PW.pt (pw_and (pt_cmpR op_gt (pv 5) pe_int (nomark _)) (pw_and (pt_cmpR op_gt (pe_callB call_len_seq (by rfl) T.b_len (by decide +kernel) (pa_cons (pv 1) pa_nil)) pe_int (nomark _)) (pw_and1 (pt_val (cg g_allows (hr.mono (by decide)) (pa_cons (pe_ix ix_tup (pv 0) pe_int (fun _ _ => rfl)) (pa_cons (pe_ix ix_tup (pv 0) pe_int (fun _ _ => rfl)) (pa_cons (pe_ix ix_tup (pe_ix ix_list (pv 1) pe_int (fun _ _ => rfl)) pe_int (fun _ _ => rfl)) pa_nil))))))))) (pss_cons (ps_set (i := 6) sc_met.nd rfl (Or.inl rfl) (pe_ix ix_list (pv 1) pe_int (fun _ _ => rfl)))
      (pss_one (ps_if (pt_cmpR op_eq (pe_ix ix_tup (pv 6) pe_int (fun _ _ => rfl)) (pe_ix ix_tup (pv 0) pe_int (fun _ _ => rfl)) (nomark _)) (pss_cons (ps_expr (pe_bm PySem.F.plainAttrs_list PySem.F.slot_list_append PySem.F.type_list_append mt_append (pv 4) (pa_cons (pe_tup (pa_cons pe_str (pa_cons (pe_ix ix_tup (pv 6) pe_int (fun _ _ => rfl)) (pa_cons (pe_ix ix_tup (pv 6) pe_int (fun _ _ => rfl)) pa_nil)))) pa_nil)))
      (pss_one (ps_set (i := 1) sc_met.nd rfl (Or.inl rfl) (pe_slice sl_list (pv 1) (po_some pe_int) po_none)))) (pss_one (ps_if (pt_cmpR op_gt (pe_callB call_abs (by rfl) T.b_abs (by decide +kernel) (pa_cons (pe_op op_sub (pe_ix ix_tup (pv 6) pe_int (fun _ _ => rfl)) (pv 2)) pa_nil)) (pv 3) (nomark _)) (pss_one (ps_ret (pe_tup (pa_cons (pv 4) (pa_cons (pv 1) (pa_cons (pv 5) (pa_cons pe_bl pa_nil))))))) (pss_cons (ps_set (i := 7) sc_met.nd rfl (Or.inl rfl) (pe_callB (call_min2 rfl) (by rfl) T.b_min (by decide +kernel) (pa_cons (pv 5) (pa_cons (pe_ix ix_tup (pv 6) pe_int (fun _ _ => rfl)) pa_nil))))
      (pss_cons (ps_expr (pe_bm PySem.F.plainAttrs_list PySem.F.slot_list_append PySem.F.type_list_append mt_append (pv 4) (pa_cons (pe_tup (pa_cons pe_str (pa_cons (pe_ix ix_tup (pv 6) pe_int (fun _ _ => rfl)) (pa_cons (pe_ix ix_tup (pv 6) pe_int (fun _ _ => rfl)) (pa_cons (pv 7) pa_nil))))) pa_nil)))
      (pss_cons (ps_set (i := 1) sc_met.nd rfl (Or.inl rfl) (cg g_served (hr.mono (by decide)) (pa_cons (pv 1) (pa_cons (pv 7) pa_nil))))
      (pss_one (ps_set (i := 5) sc_met.nd rfl (Or.inl rfl) (pe_op op_sub (pv 5) (pv 7)))))))))))))
      (pss_one (ps_ret (pe_tup (pa_cons (pv 4) (pa_cons (pv 1) (pa_cons (pv 5) (pa_cons pe_bl pa_nil)))))))))), ?_⟩
    have me := met_end (o := o) (last := last) (leap := leap) hok h0
    generalize hm : BB.met o os last leap = m at q me
    have hbig : m.steps.length ≤ 20000 := by
      have h1 := me.stp
      have h2 := potL_le hok.ok
      omega
    -- steps = []; line = list(line); left = order[4]
    refine ⟨Nat.le_of_ble_eq_true rfl, fun S hS => ?_⟩
    have s1 := same_upd (o := .lst []) hS
    refine ⟨_, rfl, l, _, rfl, .inl (SqL.of (s1 _ _ hL)), fun l1 hl1 => ?_⟩
    have s2 := same_upd (o := .lst vs) hl1
    have hSl : S ≠ l1 := fun e => by
      rw [← e, upd_same] at hl1
      cases hl1
    refine ⟨_, rfl, _, _, _, _, rfl, rfl, SqT.of ((s1.trans s2) _ _ ha), rfl, ?_⟩
    refine ⟨fun μ σ H1 => ∃ (l' : Addr) (x : Int) (pre : List Step) (line : List Ord) (v6 v7 : Option V), σ = [some (.ref a), some (.ref l'), some (.int last), some (.int leap), some (.ref S), some (.int x), v6, v7] ∧ Same H H1 ∧ S ≠ l' ∧ H l' = none ∧
      LstAt H1 S (pre.map Step.v) ∧ LinAt H1 l' line ∧ LineOk b line ∧ 0 ≤ x ∧ line.length + x.toNat < μ ∧ (∀ n, cn n line ≤ 1) ∧ line.length ≤ 900 ∧ m = ⟨pre ++ (metF o last leap μ line x).steps, (metF o last leap μ line x).line, (metF o last leap μ line x).left, (metF o last leap μ line x).halted⟩,
      ⟨_, l1, o.left, [], os, none, none, rfl, s1.trans s2, hSl, s1.free hl1, ⟨[], by rw [upd_ne hSl, upd_same], .nil⟩, ⟨vs, upd_same, Tups.kt (Kt.same (s1.trans s2)) hT⟩, hok, h0, Nat.lt_succ_self _, hcn, hz, by rw [← hm]; rfl⟩, ?_⟩
    rintro μ σ H1 ⟨l', x, pre, line, v6, v7, rfl, sH, hSl', hl'0, hPre, hLine, hlok, hx0, hfuel, hlcn, hlz, hM⟩
    have ha1 := sH _ _ ha
    have fin : ∀ hb, m.steps = pre → m.line = line → m.left = x → m.halted = hb → ∀ v6, tRet (tTup (tCons (tVar 4) (tCons (tVar 1) (tCons (tVar 5) (tCons (tC (.bl hb)) tNil))))) { nx := fun _ H' => Q .non H', rt := Q }
        [some (.ref a), some (.ref l'), some (.int last), some (.int leap), some (.ref S), some (.int x), v6, v7] H1 := fun hb e1 e2 e3 e4 v6 => by
      walk_at "rd"
      intro p hp
      have s3 := same_upd (o := .tup [.ref S, .ref l', .int x, .bl hb]) hp
      refine q p S l' _ (sH.trans s3) (sH.free hp) hS hl'0 hSl' (by rw [e3, e4]; exact upd_same) (by rw [e1]; exact hPre.same s3) (by rw [e2]; exact hLine.same s3)
    obtain ⟨n, rfl⟩ : ∃ n, μ = n + 1 := ⟨μ - 1, by omega⟩
    obtain ⟨lv, hlv, hlT⟩ := id hLine
    have hlen := Ords.len hlT
    -- left > 0
    refine ⟨_, rfl, _, _, rfl, rfl, _, rfl, ?_⟩
    by_cases hx : ¬ 0 < x
    · refine iteN (decide_eq_false hx) (iteN rfl ?_)
      have e : metF o last leap (n + 1) line x = ⟨[], line, x, false⟩ := by
        cases line with
        | nil => rfl
        | cons h t =>
          unfold metF
          rw [if_neg fun z => hx z.1]
      rw [e] at hM
      rw [hM] at fin
      exact fin false (List.append_nil _) rfl rfl rfl v6
    replace hx : 0 < x := by omega
    refine iteY (decide_eq_true hx) ?_
    -- len(line) > 0
    refine ⟨_, rfl, l', _, rfl, .inl (SqL.of hlv), _, _, rfl, rfl, _, rfl, ?_⟩
    cases line with
    | nil =>
      refine iteN (decide_eq_false (by rw [hlen]; simp)) (iteN rfl ?_)
      have e : metF o last leap (n + 1) [] x = ⟨[], [], x, false⟩ := rfl
      rw [e] at hM
      rw [hM] at fin
      exact fin false (List.append_nil _) rfl rfl rfl v6
    | cons h t =>
    refine iteY (decide_eq_true (by rw [hlen]; simp only [List.length_cons]; omega)) ?_
    obtain ⟨hv, tv, rfl, ⟨hb, rfl, hhb⟩, htT⟩ := Tups.head hlT
    -- allows
    walk_at "rd"
    refine ⟨l', _, _, _, rfl, rfl, SqL.of hlv, at0, ?_⟩
    walk_at "rd"
    refine ⟨o.buy, o.price, h.price, rfl, _, rfl, ?_⟩
    cases hal : BB.allows o.buy o.price h.price with
    | false =>
      refine iteN rfl ?_
      have e : metF o last leap (n + 1) (h :: t) x = ⟨[], h :: t, x, false⟩ := by
        unfold metF
        rw [if_neg fun z => by rw [hal] at z; exact Bool.false_ne_true z.2]
      rw [e] at hM
      rw [hM] at fin
      exact fin false (List.append_nil _) rfl rfl rfl v6
    | true =>
    refine iteY rfl ⟨_, fun σ' H' z => z, ?_⟩
    -- head = line[0]
    refine ⟨_, rfl, l', _, _, _, rfl, rfl, SqL.of hlv, at0, ?_⟩
    walk_at "rd"
    refine iteB dec_str ?_
    obtain ⟨pv0, hpv0, hpT⟩ := id hPre
    have hplen : pv0.length = pre.length := by
      have := Tups.length hpT
      rw [List.length_map] at this
      exact this
    have hpl : pre.length ≤ 20000 := by
      rw [hM] at hbig
      have z : (pre ++ (metF o last leap (n + 1) (h :: t) x).steps).length ≤ 20000 := hbig
      rw [List.length_append] at z
      omega
    have hlt : pv0.length < sizeLine := Nat.lt_of_le_of_lt (by omega : pv0.length ≤ 20000) (by decide)
    have hcond : 0 < x ∧ BB.allows o.buy o.price h.price = true := ⟨hx, hal⟩
    by_cases hw : h.who = o.who
    · refine iteY (beq_iff_eq.mpr hw) ?_
      have e : metF o last leap (n + 1) (h :: t) x = (metF o last leap n t x).pre (.shun h.name h.left) := by
        conv => lhs; unfold metF
        rw [if_pos hcond, if_pos hw]
      rw [e] at hM
      -- steps.append(("shun", ..)); line = line[1:]
      refine ⟨_, rfl, .inl ⟨rfl, _, SqL.of hpv0⟩, ?_⟩
      walk_at "rd"
      intro p hp
      refine ⟨S, _, _, rfl, rfl, (same_upd hp) _ _ hpv0, hlt, ?_⟩
      have kt := push_kt (o := .tup (Step.v (.shun h.name h.left))) (u := .lst (pv0 ++ [.ref p])) hpv0 hp
      have hlv2 := push_ne (o := .tup (Step.v (.shun h.name h.left))) (u := .lst (pv0 ++ [.ref p])) hlv hSl'.symm hp
      refine ⟨_, rfl, _, rfl, _, _, rfl, SqL.of hlv2, fun p2 h2 => ?_⟩
      have s2 := same_upd (o := .lst (cutV (V.ref hb :: tv) (some 1) none)) h2
      have sP := push_same (o := .tup (Step.v (.shun h.name h.left))) (u := .lst (pv0 ++ [.ref p])) sH hS hp
      have hSp2 : S ≠ p2 := fun e => by
        rw [← e, upd_same] at h2
        cases h2
      refine ⟨n, Nat.lt_succ_self _, p2, x, pre ++ [.shun h.name h.left], t, _, _, rfl, sP.trans s2, hSp2, sP.free h2, ?_, ⟨_, by rw [upd_same, sub1], Tups.kt (kt.trans (Kt.same s2)) htT⟩, hlok.tail, hx0, ?_, fun n' => ?_, ?_, ?_⟩
      · rw [List.map_append]
        exact (LstAt.push hpv0 hpT hp).same s2
      · simp only [List.length_cons] at hfuel
        omega
      · have := hlcn n'
        rw [cn_cons] at this
        omega
      · simp only [List.length_cons] at hlz
        omega
      · rw [hM, List.append_assoc]
        rfl
    · refine iteN (beq_eq_false_iff_ne.mpr hw) ?_
      -- abs(head[3] - last) > leap
      walk_at "rd"
      by_cases hj : leap < abs1 (h.price - last)
      · refine iteY (decide_eq_true hj) ?_
        have e : metF o last leap (n + 1) (h :: t) x = ⟨[], h :: t, x, true⟩ := by
          unfold metF
          rw [if_pos hcond, if_neg hw, if_pos hj]
        rw [e] at hM
        rw [hM] at fin
        exact fin true (List.append_nil _) rfl rfl rfl _
      · refine iteN (decide_eq_false hj) ?_
        have e : metF o last leap (n + 1) (h :: t) x = (metF o last leap n (BB.served (h :: t) (min2 x h.shown)) (x - min2 x h.shown)).pre (.trade h.name h.price (min2 x h.shown)) := by
          conv => lhs; unfold metF
          rw [if_pos hcond, if_neg hw, if_neg hj]
        rw [e] at hM
        have hk := hlok.head
        have ha2 := min2_le2 x h.shown
        have ha3 := min2_le1 x h.shown
        have ha4 : 1 ≤ min2 x h.shown := by
          have := hk.s1
          rcases min2_or x h.shown with e | e <;> omega
        -- amount = min(left, head[5])
        walk_at "rd"
        refine ⟨.inl ⟨rfl, _, SqL.of hpv0⟩, ?_⟩
        walk_at "rd"
        intro p hp
        refine ⟨S, _, _, rfl, rfl, (same_upd hp) _ _ hpv0, hlt, ?_⟩
        have kt := push_kt (o := .tup (Step.v (.trade h.name h.price (min2 x h.shown)))) (u := .lst (pv0 ++ [.ref p])) hpv0 hp
        have hlv2 := push_ne (o := .tup (Step.v (.trade h.name h.price (min2 x h.shown)))) (u := .lst (pv0 ++ [.ref p])) hlv hSl'.symm hp
        have sP := push_same (o := .tup (Step.v (.trade h.name h.price (min2 x h.shown)))) (u := .lst (pv0 ++ [.ref p])) sH hS hp
        walk_at "rd"
        refine ⟨l', h, t, (min2 x h.shown), rfl, ⟨_, hlv2, Tups.kt kt hlT⟩, hlok.ok, ha4, ha2, fun y hy => ?_, ?_, fun p2 H2 s2 h2 hj2 => ?_⟩
        · have z := hlcn h.name
          rw [cn_cons, if_pos rfl] at z
          exact cn_mem (by omega) y hy
        · simp only [List.length_cons] at hlz
          omega
        walk_at "rd"
        have hSp2 : S ≠ p2 := fun e => by
          rw [← e, upd_same] at h2
          cases h2
        have hsl := served_len h t (min2 x h.shown)
        refine ⟨n, Nat.lt_succ_self _, p2, x - (min2 x h.shown), pre ++ [.trade h.name h.price (min2 x h.shown)], BB.served (h :: t) (min2 x h.shown), _, _, rfl, sP.trans s2, hSp2, sP.free h2, ?_, hj2, served_ok hlok ha4 ha2, by omega, ?_, fun n' => Nat.le_trans (served_cn n' h t (min2 x h.shown)) (hlcn n'), ?_, ?_⟩
        · rw [List.map_append]
          exact (LstAt.push hpv0 hpT hp).same s2
        · simp only [List.length_cons] at hfuel
          omega
        · simp only [List.length_cons] at hlz
          omega
        · rw [hM, List.append_assoc]
          rfl
end
end BB
set_option Elab.async false
set_option linter.all false
set_option maxRecDepth 100000
set_option maxHeartbeats 4000000
/-! W5: could, kinds, phases, small defs of the floor. -/
namespace BB
open PySem PySem.Spec PyProof.Rows L2
local macro_rules | `(tactic| walk_at "rd") => `(tactic| repeat (first | refine ⟨_, rfl, ?_⟩ | refine ⟨_, _, rfl, rfl, ?_⟩ | refine ⟨_, _, rfl, ?_⟩ | refine ⟨rfl, ?_⟩ | refine ⟨_, _, _, _, rfl, rfl, SqT.of (by assumption), rfl, ?_⟩ | refine ⟨Nat.le_of_ble_eq_true rfl, ?_⟩))
def kcls : Kd → Str
  | .limit => "Limit"
  | .now => "Now"
  | .whole => "Whole"
  | .quiet => "Quiet"
def pcls : Ph → Str
  | .opn => "Open"
  | .call => "Call"
  | .halt => "Halt"
theorem kd_lim (w : Kd) : decide (V.str w.s = V.str "limit") = decide (w = .limit) := by cases w <;> decide +kernel
theorem kd_now (w : Kd) : decide (V.str w.s = V.str "now") = decide (w = .now) := by cases w <;> decide +kernel
theorem kd_who (w : Kd) : decide (V.str w.s = V.str "whole") = decide (w = .whole) := by cases w <;> decide +kernel
theorem kd_qui (w : Kd) : decide (V.str w.s = V.str "quiet") = decide (w = .quiet) := by cases w <;> decide +kernel
theorem ph_opn (w : Ph) : decide (V.str w.s = V.str "open") = decide (w = .opn) := by cases w <;> decide +kernel
theorem ph_cal (w : Ph) : decide (V.str w.s = V.str "call") = decide (w = .call) := by cases w <;> decide +kernel
theorem ph_hal (w : Ph) : decide (V.str w.s = V.str "halt") = decide (w = .halt) := by cases w <;> decide +kernel
theorem made_same {H : Hp} {x dx : Addr} {o u : HO} (h1 : H x = none) (h2 : H dx = none) : Same H (upd (upd H dx o) x u) := fun b z e => by
  rw [upd_ne (ne_of_none e h1), upd_ne (ne_of_none e h2)]
  exact e
section
variable {P : Program} {w : World} {K : PySem.W.Frag} {mg : Str → Option Value} {base : Heap}
theorem ok_could (T : Txt K mg) : Gd P w K mg base CX0 (6) "could" ["order", "line", "last", "leap"] (fun vs H Q E => ∃ (b : Bool) (l a : Addr) (o : Ord) (os : List Ord) (last leap : Int), vs = [.ref a, .ref l, .int last, .int leap] ∧ H a = some (.tup o.v) ∧ LinAt H l os ∧ LineOk b os ∧ 0 ≤ o.left ∧ (∀ n, cn n os ≤ 1) ∧ os.length ≤ 900 ∧ ∀ H', Same H H' → Q (.int (BB.could o os last leap)) H') := by
  have g_met := ok_met (P := P) (w := w) (base := base) T
  refine gd0 T.d_could T.g_could sc_could (fun _ _ _ _ _ _ us hl => match us, hl with | [_, _, _, _], _ => rfl) (fun vs H Q E h => ?_) (fun cdv A outer s H vs Q E hr h => ?_)
  · obtain ⟨b, l, a, o, os, last, leap, rfl, _⟩ := h
    rfl
  · obtain ⟨b, l, a, o, os, last, leap, rfl, ha, hL, hok, h0, hcn, hz, q⟩ := h
    refine ⟨_, pss_one (ps_ret (pe_op op_sub (pe_ix ix_tup (pv 0) pe_int (fun _ _ => rfl)) (pe_ix ix_tup (cg g_met (hr.mono (by decide)) (pa_cons (pv 0) (pa_cons (pv 1) (pa_cons (pv 2) (pa_cons (pv 3) pa_nil))))) pe_int (fun _ _ => rfl)))), ?_⟩
    walk_at "rd"
    refine ⟨b, l, a, o, os, last, leap, rfl, ha, hL, hok, h0, hcn, hz, fun p ls ll H' s hp _ _ _ e1 e2 e3 => ?_⟩
    refine ⟨_, _, _, _, rfl, rfl, SqT.of e1, rfl, ?_⟩
    walk_at "rd"
    exact q H' s
theorem ok_Limit_lets (T : Txt K mg) : Md P w K mg base CX0 (1) (He.ga K "Limit") "lets" ["self", "crosses", "amount", "wanted"] (fun vs H Q E => ∃ (v : V) (c : Bool) (a b : Int), vs = [v, .bl c, .int a, .int b] ∧ Q (.bl (lets .limit c a b)) H) := by
  refine md0 T.d_Limit_lets T.l_Limit T.m_Limit_lets sc_Kind_lets (fun _ _ _ _ _ _ us hl => match us, hl with | [_, _, _, _], _ => rfl) (fun vs H Q E h => ?_) (fun cdv A outer s H vs Q E hr h => ?_)
  · obtain ⟨v, c, a, b, rfl, _⟩ := h
    rfl
  · obtain ⟨v, c, a, b, rfl, q⟩ := h
    refine ⟨_, pss_one (ps_ret pe_bl), ?_⟩
    exact q
theorem ok_Now_lets (T : Txt K mg) : Md P w K mg base CX0 (1) (He.ga K "Now") "lets" ["self", "crosses", "amount", "wanted"] (fun vs H Q E => ∃ (v : V) (c : Bool) (a b : Int), vs = [v, .bl c, .int a, .int b] ∧ Q (.bl (lets .now c a b)) H) := by
  refine md0 T.d_Now_lets T.l_Now T.m_Now_lets sc_Kind_lets (fun _ _ _ _ _ _ us hl => match us, hl with | [_, _, _, _], _ => rfl) (fun vs H Q E h => ?_) (fun cdv A outer s H vs Q E hr h => ?_)
  · obtain ⟨v, c, a, b, rfl, _⟩ := h
    rfl
  · obtain ⟨v, c, a, b, rfl, q⟩ := h
    refine ⟨_, pss_one (ps_ret pe_bl), ?_⟩
    exact q
theorem ok_Whole_lets (T : Txt K mg) : Md P w K mg base CX0 (1) (He.ga K "Whole") "lets" ["self", "crosses", "amount", "wanted"] (fun vs H Q E => ∃ (v : V) (c : Bool) (a b : Int), vs = [v, .bl c, .int a, .int b] ∧ Q (.bl (lets .whole c a b)) H) := by
  refine md0 T.d_Whole_lets T.l_Whole T.m_Whole_lets sc_Whole_lets (fun _ _ _ _ _ _ us hl => match us, hl with | [_, _, _, _], _ => rfl) (fun vs H Q E h => ?_) (fun cdv A outer s H vs Q E hr h => ?_)
  · obtain ⟨v, c, a, b, rfl, _⟩ := h
    rfl
  · obtain ⟨v, c, a, b, rfl, q⟩ := h
    refine ⟨_, pss_one (ps_ret (pe_cmpR op_ge (pv 2) (pv 3) (nomark _))), ?_⟩
    walk_at "rd"
    exact q
theorem ok_Quiet_lets (T : Txt K mg) : Md P w K mg base CX0 (1) (He.ga K "Quiet") "lets" ["self", "crosses", "amount", "wanted"] (fun vs H Q E => ∃ (v : V) (c : Bool) (a b : Int), vs = [v, .bl c, .int a, .int b] ∧ Q (.bl (lets .quiet c a b)) H) := by
  refine md0 T.d_Quiet_lets T.l_Quiet T.m_Quiet_lets sc_Quiet_lets (fun _ _ _ _ _ _ us hl => match us, hl with | [_, _, _, _], _ => rfl) (fun vs H Q E h => ?_) (fun cdv A outer s H vs Q E hr h => ?_)
  · obtain ⟨v, c, a, b, rfl, _⟩ := h
    rfl
  · obtain ⟨v, c, a, b, rfl, q⟩ := h
    refine ⟨_, pss_one (ps_ret (pe_not (pv 1))), ?_⟩
    walk_at "rd"
    exact q
theorem ok_Limit_keeps (T : Txt K mg) : Md P w K mg base CX0 (1) (He.ga K "Limit") "keeps" ["self"] (fun vs H Q E => ∃ (v : V), vs = [v] ∧ Q (.bl (keeps .limit)) H) := by
  refine md0 T.d_Limit_keeps T.l_Limit T.m_Limit_keeps sc_Kind_keeps (fun _ _ _ _ _ _ us hl => match us, hl with | [_], _ => rfl) (fun vs H Q E h => ?_) (fun cdv A outer s H vs Q E hr h => ?_)
  · obtain ⟨v, rfl, _⟩ := h
    rfl
  · obtain ⟨v, rfl, q⟩ := h
    refine ⟨_, pss_one (ps_ret pe_bl), ?_⟩
    exact q
theorem ok_Now_keeps (T : Txt K mg) : Md P w K mg base CX0 (1) (He.ga K "Now") "keeps" ["self"] (fun vs H Q E => ∃ (v : V), vs = [v] ∧ Q (.bl (keeps .now)) H) := by
  refine md0 T.d_Now_keeps T.l_Now T.m_Now_keeps sc_Now_keeps (fun _ _ _ _ _ _ us hl => match us, hl with | [_], _ => rfl) (fun vs H Q E h => ?_) (fun cdv A outer s H vs Q E hr h => ?_)
  · obtain ⟨v, rfl, _⟩ := h
    rfl
  · obtain ⟨v, rfl, q⟩ := h
    refine ⟨_, pss_one (ps_ret pe_bl), ?_⟩
    exact q
theorem ok_Whole_keeps (T : Txt K mg) : Md P w K mg base CX0 (1) (He.ga K "Whole") "keeps" ["self"] (fun vs H Q E => ∃ (v : V), vs = [v] ∧ Q (.bl (keeps .whole)) H) := by
  refine md0 T.d_Whole_keeps T.l_Whole T.m_Whole_keeps sc_Whole_keeps (fun _ _ _ _ _ _ us hl => match us, hl with | [_], _ => rfl) (fun vs H Q E h => ?_) (fun cdv A outer s H vs Q E hr h => ?_)
  · obtain ⟨v, rfl, _⟩ := h
    rfl
  · obtain ⟨v, rfl, q⟩ := h
    refine ⟨_, pss_one (ps_ret pe_bl), ?_⟩
    exact q
theorem ok_Quiet_keeps (T : Txt K mg) : Md P w K mg base CX0 (1) (He.ga K "Quiet") "keeps" ["self"] (fun vs H Q E => ∃ (v : V), vs = [v] ∧ Q (.bl (keeps .quiet)) H) := by
  refine md0 T.d_Quiet_keeps T.l_Quiet T.m_Quiet_keeps sc_Kind_keeps (fun _ _ _ _ _ _ us hl => match us, hl with | [_], _ => rfl) (fun vs H Q E h => ?_) (fun cdv A outer s H vs Q E hr h => ?_)
  · obtain ⟨v, rfl, _⟩ := h
    rfl
  · obtain ⟨v, rfl, q⟩ := h
    refine ⟨_, pss_one (ps_ret pe_bl), ?_⟩
    exact q
theorem ok_lets (T : Txt K mg) (k : Kd) : Md P w K mg base CX0 1 (He.ga K (kcls k)) "lets" ["self", "crosses", "amount", "wanted"] (fun vs H Q E => ∃ (v : V) (c : Bool) (a b : Int), vs = [v, .bl c, .int a, .int b] ∧ Q (.bl (lets k c a b)) H) := by
  cases k
  · exact ok_Limit_lets T
  · exact ok_Now_lets T
  · exact ok_Whole_lets T
  · exact ok_Quiet_lets T
theorem ok_keeps (T : Txt K mg) (k : Kd) : Md P w K mg base CX0 1 (He.ga K (kcls k)) "keeps" ["self"] (fun vs H Q E => ∃ (v : V), vs = [v] ∧ Q (.bl (keeps k)) H) := by
  cases k
  · exact ok_Limit_keeps T
  · exact ok_Now_keeps T
  · exact ok_Whole_keeps T
  · exact ok_Quiet_keeps T
theorem ok_kind_of (T : Txt K mg) : Gd P w K mg base CX0 (1) "kind_of" ["word"] (fun vs H Q E => ∃ (k : Kd), vs = [.str k.s] ∧ ∀ x dx H', Same H H' → H x = none → H' x = some (.ins (He.ga K (kcls k)) dx []) → Q (.ref x) H') := by
  refine gd0 T.d_kind_of T.g_kind_of sc_kind_of (fun _ _ _ _ _ _ us hl => match us, hl with | [_], _ => rfl) (fun vs H Q E h => ?_) (fun cdv A outer s H vs Q E hr h => ?_)
  · obtain ⟨k, rfl, _⟩ := h
    rfl
  · obtain ⟨k, rfl, q⟩ := h
    refine ⟨_, pss_cons (ps_if (pt_cmpR op_eq (pv 0) pe_str (nomark _)) (pss_one (ps_ret (pe_makeN T.k_Limit (by rfl) T.g_Limit))) pss_nil)
      (pss_cons (ps_if (pt_cmpR op_eq (pv 0) pe_str (nomark _)) (pss_one (ps_ret (pe_makeN T.k_Now (by rfl) T.g_Now))) pss_nil)
      (pss_cons (ps_if (pt_cmpR op_eq (pv 0) pe_str (nomark _)) (pss_one (ps_ret (pe_makeN T.k_Whole (by rfl) T.g_Whole))) pss_nil)
      (pss_cons (ps_if (pt_cmpR op_eq (pv 0) pe_str (nomark _)) (pss_one (ps_ret (pe_makeN T.k_Quiet (by rfl) T.g_Quiet))) pss_nil)
      (pss_one ps_never)))), ?_⟩
    walk_at "rd"
    refine iteB (kd_lim k) ?_
    cases k with
    | limit => exact iteY rfl fun x dx h1 h2 h3 => q x dx _ (made_same h1 h2) h1 upd_same
    | now =>
      refine iteN rfl ⟨_, rfl, rfl, _, rfl, ?_⟩
      refine iteB (kd_now _) (iteY rfl fun x dx h1 h2 h3 => q x dx _ (made_same h1 h2) h1 upd_same)
    | whole =>
      refine iteN rfl ⟨_, rfl, rfl, _, rfl, ?_⟩
      refine iteB (kd_now _) (iteN rfl ⟨_, rfl, rfl, _, rfl, ?_⟩)
      refine iteB (kd_who _) (iteY rfl fun x dx h1 h2 h3 => q x dx _ (made_same h1 h2) h1 upd_same)
    | quiet =>
      refine iteN rfl ⟨_, rfl, rfl, _, rfl, ?_⟩
      refine iteB (kd_now _) (iteN rfl ⟨_, rfl, rfl, _, rfl, ?_⟩)
      refine iteB (kd_who _) (iteN rfl ⟨_, rfl, rfl, _, rfl, ?_⟩)
      refine iteB (kd_qui _) (iteY rfl fun x dx h1 h2 h3 => q x dx _ (made_same h1 h2) h1 upd_same)
theorem ok_phase_of (T : Txt K mg) : Gd P w K mg base CX0 (1) "phase_of" ["word"] (fun vs H Q E => ∃ (k : Ph), vs = [.str k.s] ∧ ∀ x dx H', Same H H' → H x = none → H' x = some (.ins (He.ga K (pcls k)) dx []) → Q (.ref x) H') := by
  refine gd0 T.d_phase_of T.g_phase_of sc_phase_of (fun _ _ _ _ _ _ us hl => match us, hl with | [_], _ => rfl) (fun vs H Q E h => ?_) (fun cdv A outer s H vs Q E hr h => ?_)
  · obtain ⟨k, rfl, _⟩ := h
    rfl
  · obtain ⟨k, rfl, q⟩ := h
    refine ⟨_, pss_cons (ps_if (pt_cmpR op_eq (pv 0) pe_str (nomark _)) (pss_one (ps_ret (pe_makeN T.k_Open (by rfl) T.g_Open))) pss_nil)
      (pss_cons (ps_if (pt_cmpR op_eq (pv 0) pe_str (nomark _)) (pss_one (ps_ret (pe_makeN T.k_Call (by rfl) T.g_Call))) pss_nil)
      (pss_cons (ps_if (pt_cmpR op_eq (pv 0) pe_str (nomark _)) (pss_one (ps_ret (pe_makeN T.k_Halt (by rfl) T.g_Halt))) pss_nil)
      (pss_one ps_never))), ?_⟩
    walk_at "rd"
    refine iteB (ph_opn k) ?_
    cases k with
    | opn => exact iteY rfl fun x dx h1 h2 h3 => q x dx _ (made_same h1 h2) h1 upd_same
    | call =>
      refine iteN rfl ⟨_, rfl, rfl, _, rfl, ?_⟩
      refine iteB (ph_cal _) (iteY rfl fun x dx h1 h2 h3 => q x dx _ (made_same h1 h2) h1 upd_same)
    | halt =>
      refine iteN rfl ⟨_, rfl, rfl, _, rfl, ?_⟩
      refine iteB (ph_cal _) (iteN rfl ⟨_, rfl, rfl, _, rfl, ?_⟩)
      refine iteB (ph_hal _) (iteY rfl fun x dx h1 h2 h3 => q x dx _ (made_same h1 h2) h1 upd_same)
end
end BB
set_option Elab.async false
set_option linter.all false
set_option maxRecDepth 100000
set_option maxHeartbeats 4000000
/-! C3: the floor in the heap: its fields, its lists, its sleepers. -/
namespace BB
open PySem PySem.Spec PyProof.Rows L2
/-- a Floor's attributes -/
def ff (ph l le b s a : V) : List (Str × V) := [("phase", ph), ("last", l), ("leap", le), ("buys", b), ("sells", s), ("asleep", a)]
section
variable (ph l le b s a v : V)
theorem ff_phase : (ff ph l le b s a).lookup ("phase" : Str) = some ph := by kernel_rfl
theorem ff_last : (ff ph l le b s a).lookup ("last" : Str) = some l := by kernel_rfl
theorem ff_leap : (ff ph l le b s a).lookup ("leap" : Str) = some le := by kernel_rfl
theorem ff_buys : (ff ph l le b s a).lookup ("buys" : Str) = some b := by kernel_rfl
theorem ff_sells : (ff ph l le b s a).lookup ("sells" : Str) = some s := by kernel_rfl
theorem ff_asleep : (ff ph l le b s a).lookup ("asleep" : Str) = some a := by kernel_rfl
theorem fp_phase : putF "phase" v (ff ph l le b s a) = ff v l le b s a := by kernel_rfl
theorem fp_last : putF "last" v (ff ph l le b s a) = ff ph v le b s a := by kernel_rfl
theorem fp_buys : putF "buys" v (ff ph l le b s a) = ff ph l le v s a := by kernel_rfl
theorem fp_sells : putF "sells" v (ff ph l le b s a) = ff ph l le b v a := by kernel_rfl
theorem fp_asleep : putF "asleep" v (ff ph l le b s a) = ff ph l le b s v := by kernel_rfl
theorem ff_new : putF "asleep" a (putF "sells" s (putF "buys" b (putF "leap" le (putF "last" l (putF "phase" ph []))))) = ff ph l le b s a := by kernel_rfl
theorem ff_len : (ff ph l le b s a).length < 1000 := Nat.le_of_ble_eq_true rfl
end
/-! ### sleepers -/
def SlpAt (H : Hp) (v : V) (z : Slp) : Prop := ∃ a b, v = .ref a ∧ H a = some (.tup [.str z.kd.s, .ref b, .int z.trig]) ∧ H b = some (.tup z.ord.v)
inductive Slps (H : Hp) : List V → List Slp → Prop where
  | nil : Slps H [] []
  | cons {v : V} {vs : List V} {z : Slp} {zs : List Slp} : SlpAt H v z → Slps H vs zs → Slps H (v :: vs) (z :: zs)
def SlsAt (H : Hp) (l : Addr) (zs : List Slp) : Prop := ∃ vs, H l = some (.lst vs) ∧ Slps H vs zs
theorem SlpAt.kt {H H' : Hp} {v : V} {z : Slp} (k : Kt H H') (h : SlpAt H v z) : SlpAt H' v z := by
  obtain ⟨a, b, e, h1, h2⟩ := h
  exact ⟨a, b, e, k a _ h1, k b _ h2⟩
theorem Slps.kt {H H' : Hp} (k : Kt H H') : ∀ {vs : List V} {zs : List Slp}, Slps H vs zs → Slps H' vs zs
  | _, _, .nil => .nil
  | _, _, .cons h t => .cons (h.kt k) (t.kt k)
theorem SlsAt.same {H H' : Hp} {l : Addr} {zs : List Slp} (k : Same H H') (h : SlsAt H l zs) : SlsAt H' l zs := by
  obtain ⟨vs, e, t⟩ := h
  exact ⟨vs, k l _ e, t.kt (Kt.same k)⟩
theorem Slps.length {H : Hp} : ∀ {vs : List V} {zs : List Slp}, Slps H vs zs → vs.length = zs.length
  | _, _, .nil => rfl
  | _, _, .cons _ t => congrArg Nat.succ t.length
theorem Slps.get {H : Hp} : ∀ {vs : List V} {zs : List Slp} {i : Nat} {v : V}, Slps H vs zs → vs[i]? = some v → ∃ z, zs[i]? = some z ∧ SlpAt H v z
  | _, _, i, v, .nil, e => by simp at e
  | _, _, 0, v, .cons h t, e => by
    have q := Option.some.inj (show some _ = some v from e)
    subst q
    exact ⟨_, rfl, h⟩
  | _, _, i + 1, v, .cons h t, e => t.get (i := i) (v := v) (by simpa using e)
theorem Slps.at {H : Hp} : ∀ {vs : List V} {zs : List Slp} {i : Nat} {z : Slp}, Slps H vs zs → zs[i]? = some z → ∃ v, vs[i]? = some v ∧ SlpAt H v z
  | _, _, i, x, .nil, e => by simp at e
  | _, _, 0, x, .cons h t, e => by
    have q := Option.some.inj (show some _ = some x from e)
    subst q
    exact ⟨_, rfl, h⟩
  | _, _, i + 1, x, .cons h t, e => t.at (i := i) (z := x) (by simpa using e)
theorem Slps.append {H : Hp} : ∀ {vs ws : List V} {xs ys : List Slp}, Slps H vs xs → Slps H ws ys → Slps H (vs ++ ws) (xs ++ ys)
  | _, _, _, _, .nil, h => h
  | _, _, _, _, .cons a t, h => .cons a (t.append h)
theorem Slps.take {H : Hp} : ∀ {vs : List V} {xs : List Slp} (n : Nat), Slps H vs xs → Slps H (vs.take n) (xs.take n)
  | _, _, 0, _ => .nil
  | _, _, _ + 1, .nil => .nil
  | _, _, n + 1, .cons a t => .cons a (t.take n)
theorem Slps.drop {H : Hp} : ∀ {vs : List V} {xs : List Slp} (n : Nat), Slps H vs xs → Slps H (vs.drop n) (xs.drop n)
  | _, _, 0, h => h
  | _, _, _ + 1, .nil => .nil
  | _, _, n + 1, .cons _ t => t.drop n
theorem LstAt.ne {H : Hp} {l p C dx : Addr} {fs : List (Str × V)} {xs : List (List V)} (h : LstAt H l xs) (ho : H p = some (.ins C dx fs)) : l ≠ p := fun e => by
  obtain ⟨vs, q, _⟩ := h
  rw [e, ho] at q
  cases q
theorem SlsAt.ne {H : Hp} {l p C dx : Addr} {fs : List (Str × V)} {xs : List Slp} (h : SlsAt H l xs) (ho : H p = some (.ins C dx fs)) : l ≠ p := fun e => by
  obtain ⟨vs, q, _⟩ := h
  rw [e, ho] at q
  cases q
/-- the lists' places and all that the floor holds -/
structure FlIn (K : PySem.W.Frag) (H : Hp) (p dx lb ls la : Addr) (F : Floor) : Prop where
  o : H p = some (.ins (He.ga K "Floor") dx (ff (.str F.phase.s) (.int F.last) (.int F.leap) (.ref lb) (.ref ls) (.ref la)))
  b : LinAt H lb F.buys
  s : LinAt H ls F.sells
  a : SlsAt H la F.asleep
def FlAt (K : PySem.W.Frag) (H : Hp) (p : Addr) (F : Floor) : Prop := ∃ dx lb ls la, FlIn K H p dx lb ls la F
/-- all but the floor stands -/
def But (p : Addr) (H H' : Hp) : Prop := ∀ b o, H b = some o → b ≠ p → H' b = some o
theorem But.refl (p : Addr) (H : Hp) : But p H H := fun _ _ h _ => h
theorem But.trans {p : Addr} {H H1 H2 : Hp} (a : But p H H1) (b : But p H1 H2) : But p H H2 := fun c o h n => b c o (a c o h n) n
theorem But.of {p : Addr} {H H' : Hp} (s : Same H H') : But p H H' := fun b o h _ => s b o h
theorem But.upd {p : Addr} {H : Hp} {o : HO} : But p H (upd H p o) := fun b z h n => by
  rw [upd_ne n]
  exact h
theorem But.kt {H H' : Hp} {p C dx : Addr} {fs : List (Str × V)} (k : But p H H') (h : H p = some (.ins C dx fs)) : Kt H H' := fun a xs e =>
  k a _ e (fun q => by rw [q, h] at e; cases e)
theorem But.free {p : Addr} {H H' : Hp} {C dx : Addr} {fs : List (Str × V)} (k : But p H H') (h : H p = some (.ins C dx fs)) {l : Addr} (n : H' l = none) (hp : l ≠ p) : H l = none := by
  cases q : H l with
  | none => rfl
  | some o =>
    rw [k l o q hp] at n
    cases n
theorem But.same {p : Addr} {H0 H H' : Hp} (k : But p H H') (s : Same H0 H) (h : H0 p = none) : Same H0 H' := fun b o e => k b o (s b o e) (fun q => by rw [q, h] at e; cases e)
section
variable {K : PySem.W.Frag} {H H' : Hp} {p dx lb ls la : Addr} {F : Floor}
theorem FlIn.same (s : Same H H') (h : FlIn K H p dx lb ls la F) : FlIn K H' p dx lb ls la F := ⟨s _ _ h.o, h.b.same s, h.s.same s, h.a.same s⟩
theorem FlAt.same (s : Same H H') (h : FlAt K H p F) : FlAt K H' p F := by
  obtain ⟨dx, lb, ls, la, h⟩ := h
  exact ⟨dx, lb, ls, la, h.same s⟩
theorem LstAt.but {l : Addr} {xs : List (List V)} {C : Addr} {fs : List (Str × V)} (k : But p H H') (ho : H p = some (.ins C dx fs)) (h : LstAt H l xs) : LstAt H' l xs := by
  obtain ⟨vs, e, t⟩ := h
  exact ⟨vs, k l _ e (fun q => by rw [q, ho] at e; cases e), t.kt (k.kt ho)⟩
theorem SlsAt.but {l : Addr} {xs : List Slp} {C : Addr} {fs : List (Str × V)} (k : But p H H') (ho : H p = some (.ins C dx fs)) (h : SlsAt H l xs) : SlsAt H' l xs := by
  obtain ⟨vs, e, t⟩ := h
  exact ⟨vs, k l _ e (fun q => by rw [q, ho] at e; cases e), t.kt (k.kt ho)⟩
/-- the floor's object stored anew -/
theorem FlIn.set (h : FlIn K H p dx lb ls la F) {F' : Floor} {lb' ls' la' : Addr} (hb : LinAt H lb' F'.buys) (hs : LinAt H ls' F'.sells) (ha : SlsAt H la' F'.asleep) :
    FlIn K (upd H p (.ins (He.ga K "Floor") dx (ff (.str F'.phase.s) (.int F'.last) (.int F'.leap) (.ref lb') (.ref ls') (.ref la')))) p dx lb' ls' la' F' :=
  ⟨upd_same, hb.but But.upd h.o, hs.but But.upd h.o, ha.but But.upd h.o⟩
end
end BB
set_option Elab.async false
set_option linter.all false
set_option maxRecDepth 100000
set_option maxHeartbeats 4000000
/-! W6: phases' methods, comprehensions of the floor, is_met, told, the curve. -/
namespace BB
open PySem PySem.Spec PyProof.Rows L2
local macro_rules | `(tactic| walk_at "rd") => `(tactic| repeat (first | refine ⟨_, rfl, ?_⟩ | refine ⟨_, _, rfl, rfl, ?_⟩ | refine ⟨_, _, rfl, ?_⟩ | refine ⟨rfl, ?_⟩ | refine ⟨_, _, _, _, rfl, rfl, SqT.of (by assumption), rfl, ?_⟩ | refine ⟨Nat.le_of_ble_eq_true rfl, ?_⟩))
/-! ### comprehensions over a list: what they build, turn by turn -/
section
variable {α : Type} {K : PySem.W.Frag} {a : Addr} {xs : List V} {g : TG} {tt : TT} {te : TE} {vs : List Nat} {σ : L2.St} {H1 : Hp} {D : Addr} {Qd : Hp → Prop}
theorem lc_rel (Rel : Hp → List V → List α → Prop) (One : Hp → V → α → Prop) (hn : ∀ H, Rel H [] []) (hsn : ∀ H us ys v z, Rel H us ys → One H v z → Rel H (us ++ [v]) (ys ++ [z]))
    (hkt : ∀ H H' us ys, Kt H H' → Rel H us ys → Rel H' us ys) (hk1 : ∀ H H' v z, Kt H H' → One H v z → One H' v z) (hlen : ∀ H us ys, Rel H us ys → us.length = ys.length)
    (out : Nat → List α) (hD : H1 D = none) (hl : H1 a = some (.lst xs)) (h0 : out 0 = []) (hz : ∀ i, i < xs.length → (out i).length < 1000)
    (hs : ∀ i x H (Nx : Hp → Prop), xs[i]? = some x → Same H1 H → (∀ y H4 z, Same H H4 → One H4 y z → out (i + 1) = out i ++ [z] → ∃ acc, H4 D = some (.lst acc) ∧ acc.length < sizeLine ∧ Nx (upd H4 D (.lst (acc ++ [y])))) →
      (∀ H3, Same H H3 → out (i + 1) = out i → Nx H3) → g x (wipe σ vs) H fun σ2 H2 => wipe σ2 vs = wipe σ vs ∧ tt σ2 H2 fun b H3 => if b = true then te σ2 H3 fun y H4 => ∃ acc, H4 D = some (.lst acc) ∧ acc.length < sizeLine ∧ Nx (upd H4 D (.lst (acc ++ [y]))) else Nx H3)
    (hd : ∀ H us, Same H1 H → H D = some (.lst us) → Rel H us (out xs.length) → Qd H) :
    ∃ W : Nat → Nat → Hp → Prop, (∃ m, W 0 m (upd H1 D (.lst []))) ∧ ∀ i m H, W i m H →
      ((Itl K a).stop i H ∧ Qd H) ∨ ((Itl K a).go i H ∧ ∃ Nx : Hp → Prop, (∀ H', Nx H' → ∃ m', m' < m ∧ W (i + 1) m' H') ∧ ∀ x H', (Itl K a).yld i H x H' → g x (wipe σ vs) H' fun σ2 H2 => wipe σ2 vs = wipe σ vs ∧ tt σ2 H2 fun b H3 =>
        if b = true then te σ2 H3 fun y H4 => ∃ acc, H4 D = some (.lst acc) ∧ acc.length < sizeLine ∧ Nx (upd H4 D (.lst (acc ++ [y]))) else Nx H3) := by
  refine lc_list (xs := xs) (fun i H => ∃ acc, H D = some (.lst acc) ∧ Same H1 H ∧ Rel H acc (out i)) ⟨[], upd_same, same_upd hD, by rw [h0]; exact hn _⟩ (fun i H _ p => ?_) (fun i x H hx p => ?_) fun H p => ?_
  · obtain ⟨acc, h1, h2, h3⟩ := p
    exact SqL.of (h2 _ _ hl)
  · obtain ⟨acc, h1, h2, h3⟩ := p
    have hi : i < xs.length := (List.getElem?_eq_some_iff.mp hx).1
    refine hs i x H _ hx h2 (fun y H4 z s4 hy e => ⟨acc, s4 _ _ h1, ?_, acc ++ [y], upd_same, fun b o q => ?_, ?_⟩) fun H3 s3 e => ⟨acc, s3 _ _ h1, h2.trans s3, ?_⟩
    · have := hz i hi
      rw [← hlen _ _ _ h3] at this
      exact Nat.lt_of_lt_of_le this (by decide)
    · rw [upd_ne (ne_of_none q hD)]
      exact s4 _ _ (h2 _ _ q)
    · have k : Kt H4 (upd H4 D (.lst (acc ++ [y]))) := Kt.upd fun ys q => by
        rw [s4 _ _ h1] at q
        cases q
      rw [e]
      exact hsn _ _ _ _ _ (hkt _ _ _ _ ((Kt.same s4).trans k) h3) (hk1 _ _ _ _ k hy)
    · rw [e]
      exact hkt _ _ _ _ (Kt.same s3) h3
  · obtain ⟨acc, h1, h2, h3⟩ := p
    exact hd H acc h2 h1 h3
theorem lc_tups (out : Nat → List (List V)) (hD : H1 D = none) (hl : H1 a = some (.lst xs)) (h0 : out 0 = []) (hz : ∀ i, i < xs.length → (out i).length < 1000)
    (hs : ∀ i x H (Nx : Hp → Prop), xs[i]? = some x → Same H1 H → (∀ y H4 z, Same H H4 → TupAt H4 y z → out (i + 1) = out i ++ [z] → ∃ acc, H4 D = some (.lst acc) ∧ acc.length < sizeLine ∧ Nx (upd H4 D (.lst (acc ++ [y])))) →
      (∀ H3, Same H H3 → out (i + 1) = out i → Nx H3) → g x (wipe σ vs) H fun σ2 H2 => wipe σ2 vs = wipe σ vs ∧ tt σ2 H2 fun b H3 => if b = true then te σ2 H3 fun y H4 => ∃ acc, H4 D = some (.lst acc) ∧ acc.length < sizeLine ∧ Nx (upd H4 D (.lst (acc ++ [y]))) else Nx H3)
    (hd : ∀ H, Same H1 H → LstAt H D (out xs.length) → Qd H) :
    ∃ W : Nat → Nat → Hp → Prop, (∃ m, W 0 m (upd H1 D (.lst []))) ∧ ∀ i m H, W i m H →
      ((Itl K a).stop i H ∧ Qd H) ∨ ((Itl K a).go i H ∧ ∃ Nx : Hp → Prop, (∀ H', Nx H' → ∃ m', m' < m ∧ W (i + 1) m' H') ∧ ∀ x H', (Itl K a).yld i H x H' → g x (wipe σ vs) H' fun σ2 H2 => wipe σ2 vs = wipe σ vs ∧ tt σ2 H2 fun b H3 =>
        if b = true then te σ2 H3 fun y H4 => ∃ acc, H4 D = some (.lst acc) ∧ acc.length < sizeLine ∧ Nx (upd H4 D (.lst (acc ++ [y]))) else Nx H3) :=
  lc_rel Tups TupAt (fun _ => .nil) (fun _ _ _ _ _ h t => h.append (.one t)) (fun _ _ _ _ k h => h.kt k) (fun _ _ _ _ k h => h.kt k) (fun _ _ _ h => h.length) out hD hl h0 hz hs fun H us s e r => hd H s ⟨us, e, r⟩
theorem lc_slps (out : Nat → List Slp) (hD : H1 D = none) (hl : H1 a = some (.lst xs)) (h0 : out 0 = []) (hz : ∀ i, i < xs.length → (out i).length < 1000)
    (hs : ∀ i x H (Nx : Hp → Prop), xs[i]? = some x → Same H1 H → (∀ y H4 z, Same H H4 → SlpAt H4 y z → out (i + 1) = out i ++ [z] → ∃ acc, H4 D = some (.lst acc) ∧ acc.length < sizeLine ∧ Nx (upd H4 D (.lst (acc ++ [y])))) →
      (∀ H3, Same H H3 → out (i + 1) = out i → Nx H3) → g x (wipe σ vs) H fun σ2 H2 => wipe σ2 vs = wipe σ vs ∧ tt σ2 H2 fun b H3 => if b = true then te σ2 H3 fun y H4 => ∃ acc, H4 D = some (.lst acc) ∧ acc.length < sizeLine ∧ Nx (upd H4 D (.lst (acc ++ [y]))) else Nx H3)
    (hd : ∀ H, Same H1 H → SlsAt H D (out xs.length) → Qd H) :
    ∃ W : Nat → Nat → Hp → Prop, (∃ m, W 0 m (upd H1 D (.lst []))) ∧ ∀ i m H, W i m H →
      ((Itl K a).stop i H ∧ Qd H) ∨ ((Itl K a).go i H ∧ ∃ Nx : Hp → Prop, (∀ H', Nx H' → ∃ m', m' < m ∧ W (i + 1) m' H') ∧ ∀ x H', (Itl K a).yld i H x H' → g x (wipe σ vs) H' fun σ2 H2 => wipe σ2 vs = wipe σ vs ∧ tt σ2 H2 fun b H3 =>
        if b = true then te σ2 H3 fun y H4 => ∃ acc, H4 D = some (.lst acc) ∧ acc.length < sizeLine ∧ Nx (upd H4 D (.lst (acc ++ [y]))) else Nx H3) :=
  lc_rel Slps SlpAt (fun _ => .nil) (fun _ _ _ _ _ h t => h.append (.cons t .nil)) (fun _ _ _ _ k h => h.kt k) (fun _ _ _ _ k h => h.kt k) (fun _ _ _ h => h.length) out hD hl h0 hz hs fun H us s e r => hd H s ⟨us, e, r⟩
end
/-- a filter and a map, turn by turn -/
def outF {α β : Type} (p : α → Bool) (f : α → β) (l : List α) (i : Nat) : List β := ((l.take i).filter p).map f
section
variable {α β : Type} {p : α → Bool} {f : α → β} {l : List α} {i : Nat} {x : α}
theorem outF_zero : outF p f l 0 = [] := by simp [outF]
theorem outF_yes (h : l[i]? = some x) (hp : p x = true) : outF p f l (i + 1) = outF p f l i ++ [f x] := by
  simp [outF, List.take_succ, h, hp]
theorem outF_no (h : l[i]? = some x) (hp : p x = false) : outF p f l (i + 1) = outF p f l i := by
  simp [outF, List.take_succ, h, hp]
theorem outF_all {n : Nat} (h : n = l.length) : outF p f l n = (l.filter p).map f := by
  subst h
  simp [outF]
theorem outF_len (h : l.length < 1000) (i : Nat) : (outF p f l i).length < 1000 := by
  unfold outF
  rw [List.length_map]
  refine Nat.lt_of_le_of_lt (List.length_filter_le _ _) ?_
  rw [List.length_take]
  omega
end
section
variable {P : Program} {w : World} {K : PySem.W.Frag} {mg : Str → Option Value} {base : Heap}
theorem ok_named (T : Txt K mg) : Gd P w K mg base CX0 (1) "named" ["orders", "name"] (fun vs H Q E => ∃ (l : Addr) (n : Str) (os : List Ord), vs = [.ref l, .str n] ∧ LinAt H l os ∧ os.length < 1000 ∧ ∀ p H', Same H H' → H p = none → LinAt H' p (os.filter fun o => decide (o.name = n)) → Q (.ref p) H') := by
  refine gd0 T.d_named T.g_named sc_named (fun _ _ _ _ _ _ us hl => match us, hl with | [_, _], _ => rfl) (fun vs H Q E h => ?_) (fun cdv A outer s H vs Q E hr h => ?_)
  · obtain ⟨l, n, os, rfl, _⟩ := h
    rfl
  · obtain ⟨l, n, os, rfl, ⟨vs, hL, hT⟩, hz, q⟩ := h
    refine ⟨_, pss_one (ps_ret (pe_lc (own := [("order", 2)]) (g := gName 2) (by rfl) sc_named.nd (pi_list (pv 0)) (blkOk_by (own := [("order", 2)]) (by kernel_rfl)) (fun _ _ _ _ _ => pg_name (i := 2) sc_named.nd rfl (Or.inl rfl)) (fun _ _ _ _ _ => pts_one (pt_cmpR op_eq (pe_ix (r := rIxT K) ix_tup (pv 2) pe_int (fun _ _ => rfl)) (pv 1) (nomark _))) (fun _ _ _ _ _ => (pv 2)))), ?_⟩
    have hlen := Ords.len hT
    refine ⟨_, rfl, l, rfl, ⟨vs, SqL.of hL⟩, fun D hD => lc_tups (outF (fun o : Ord => decide (o.name = n)) Ord.v os) hD hL outF_zero (fun i _ => outF_len hz i) (fun i x H2 Nx hx s yes no => ?_) fun H2 s h => ?_⟩
    · obtain ⟨o, b, ho, rfl, hb⟩ := Ords.get hT hx
      have hb2 := s _ _ hb
      refine ⟨rfl, ?_⟩
      walk_at "rd"
      by_cases c : o.name = n
      · refine iteY ?_ ?_
        · rw [dec_str]; exact decide_eq_true c
        · walk_at "rd"
          exact yes _ _ _ (Same.refl _) ⟨b, rfl, hb2⟩ (outF_yes ho (decide_eq_true c))
      · refine iteN ?_ ?_
        · rw [dec_str]; exact decide_eq_false c
        · exact no _ (Same.refl _) (outF_no ho (decide_eq_false c))
    · refine q D H2 s hD ?_
      rw [outF_all hlen] at h
      exact h
theorem ok_Open_meets (T : Txt K mg) : Md P w K mg base CX0 (1) (He.ga K "Open") "meets" ["self"] (fun vs H Q E => ∃ (v : V), vs = [v] ∧ Q (.bl (decide (Ph.opn = .opn))) H) := by
  refine md0 T.d_Open_meets T.l_Open T.m_Open_meets sc_Open_meets (fun _ _ _ _ _ _ us hl => match us, hl with | [_], _ => rfl) (fun vs H Q E h => ?_) (fun cdv A outer s H vs Q E hr h => ?_)
  · obtain ⟨v, rfl, _⟩ := h
    rfl
  · obtain ⟨v, rfl, q⟩ := h
    refine ⟨_, pss_one (ps_ret pe_bl), ?_⟩
    exact q
theorem ok_Open_takes (T : Txt K mg) : Md P w K mg base CX0 (1) (He.ga K "Open") "takes" ["self", "word"] (fun vs H Q E => ∃ (v : V) (k : Kd), vs = [v, .str k.s] ∧ ∀ H', Same H H' → Q (.bl (takes .opn k)) H') := by
  refine md0 T.d_Open_takes T.l_Open T.m_Open_takes sc_Open_takes (fun _ _ _ _ _ _ us hl => match us, hl with | [_, _], _ => rfl) (fun vs H Q E h => ?_) (fun cdv A outer s H vs Q E hr h => ?_)
  · obtain ⟨v, k, rfl, _⟩ := h
    rfl
  · obtain ⟨v, k, rfl, q⟩ := h
    refine ⟨_, pss_one (ps_ret (pe_cmpR op_in_seq (pv 1) (pe_tup (pa_cons pe_str (pa_cons pe_str (pa_cons pe_str (pa_cons pe_str pa_nil))))) (by rfl))), ?_⟩
    walk_at "rd"
    intro p hp
    refine ⟨p, _, rfl, .inr (SqT.of upd_same), rfl, rfl, ?_⟩
    have e : inV (V.str k.s) ([.str "limit", .str "now", .str "whole", .str "quiet"]) = takes .opn k := by cases k <;> decide +kernel
    show Q (.bl (inV _ _)) _
    rw [e]
    exact q _ (same_upd hp)
theorem ok_Open_rests_asleep (T : Txt K mg) : Md P w K mg base CX0 (1) (He.ga K "Open") "rests_asleep" ["self"] (fun vs H Q E => ∃ (v : V), vs = [v] ∧ Q (.bl (decide (Ph.opn ≠ .halt))) H) := by
  refine md0 T.d_Open_rests_asleep T.l_Open T.m_Open_rests_asleep sc_Open_rests_asleep (fun _ _ _ _ _ _ us hl => match us, hl with | [_], _ => rfl) (fun vs H Q E h => ?_) (fun cdv A outer s H vs Q E hr h => ?_)
  · obtain ⟨v, rfl, _⟩ := h
    rfl
  · obtain ⟨v, rfl, q⟩ := h
    refine ⟨_, pss_one (ps_ret pe_bl), ?_⟩
    exact q
theorem ok_Open_leads (T : Txt K mg) : Md P w K mg base CX0 (1) (He.ga K "Open") "leads" ["self", "word"] (fun vs H Q E => ∃ (v : V) (k : Ph), vs = [v, .str k.s] ∧ ∀ H', Same H H' → Q (.bl (leads .opn k)) H') := by
  refine md0 T.d_Open_leads T.l_Open T.m_Open_leads sc_Open_leads (fun _ _ _ _ _ _ us hl => match us, hl with | [_, _], _ => rfl) (fun vs H Q E h => ?_) (fun cdv A outer s H vs Q E hr h => ?_)
  · obtain ⟨v, k, rfl, _⟩ := h
    rfl
  · obtain ⟨v, k, rfl, q⟩ := h
    refine ⟨_, pss_one (ps_ret (pe_cmpR op_in_seq (pv 1) (pe_tup (pa_cons pe_str (pa_cons pe_str pa_nil))) (by rfl))), ?_⟩
    walk_at "rd"
    intro p hp
    refine ⟨p, _, rfl, .inr (SqT.of upd_same), rfl, rfl, ?_⟩
    have e : inV (V.str k.s) ([.str "call", .str "halt"]) = leads .opn k := by cases k <;> decide +kernel
    show Q (.bl (inV _ _)) _
    rw [e]
    exact q _ (same_upd hp)
theorem ok_Call_meets (T : Txt K mg) : Md P w K mg base CX0 (1) (He.ga K "Call") "meets" ["self"] (fun vs H Q E => ∃ (v : V), vs = [v] ∧ Q (.bl (decide (Ph.call = .opn))) H) := by
  refine md0 T.d_Call_meets T.l_Call T.m_Call_meets sc_Phase_meets (fun _ _ _ _ _ _ us hl => match us, hl with | [_], _ => rfl) (fun vs H Q E h => ?_) (fun cdv A outer s H vs Q E hr h => ?_)
  · obtain ⟨v, rfl, _⟩ := h
    rfl
  · obtain ⟨v, rfl, q⟩ := h
    refine ⟨_, pss_one (ps_ret pe_bl), ?_⟩
    exact q
theorem ok_Call_takes (T : Txt K mg) : Md P w K mg base CX0 (1) (He.ga K "Call") "takes" ["self", "word"] (fun vs H Q E => ∃ (v : V) (k : Kd), vs = [v, .str k.s] ∧ ∀ H', Same H H' → Q (.bl (takes .call k)) H') := by
  refine md0 T.d_Call_takes T.l_Call T.m_Call_takes sc_Call_takes (fun _ _ _ _ _ _ us hl => match us, hl with | [_, _], _ => rfl) (fun vs H Q E h => ?_) (fun cdv A outer s H vs Q E hr h => ?_)
  · obtain ⟨v, k, rfl, _⟩ := h
    rfl
  · obtain ⟨v, k, rfl, q⟩ := h
    refine ⟨_, pss_one (ps_ret (pe_cmpR op_eq (pv 1) pe_str (nomark _))), ?_⟩
    walk_at "rd"
    show Q (.bl (decide (V.str k.s = V.str "limit"))) H
    rw [kd_lim]
    exact q _ (Same.refl _)
theorem ok_Call_rests_asleep (T : Txt K mg) : Md P w K mg base CX0 (1) (He.ga K "Call") "rests_asleep" ["self"] (fun vs H Q E => ∃ (v : V), vs = [v] ∧ Q (.bl (decide (Ph.call ≠ .halt))) H) := by
  refine md0 T.d_Call_rests_asleep T.l_Call T.m_Call_rests_asleep sc_Call_rests_asleep (fun _ _ _ _ _ _ us hl => match us, hl with | [_], _ => rfl) (fun vs H Q E h => ?_) (fun cdv A outer s H vs Q E hr h => ?_)
  · obtain ⟨v, rfl, _⟩ := h
    rfl
  · obtain ⟨v, rfl, q⟩ := h
    refine ⟨_, pss_one (ps_ret pe_bl), ?_⟩
    exact q
theorem ok_Call_leads (T : Txt K mg) : Md P w K mg base CX0 (1) (He.ga K "Call") "leads" ["self", "word"] (fun vs H Q E => ∃ (v : V) (k : Ph), vs = [v, .str k.s] ∧ ∀ H', Same H H' → Q (.bl (leads .call k)) H') := by
  refine md0 T.d_Call_leads T.l_Call T.m_Call_leads sc_Call_leads (fun _ _ _ _ _ _ us hl => match us, hl with | [_, _], _ => rfl) (fun vs H Q E h => ?_) (fun cdv A outer s H vs Q E hr h => ?_)
  · obtain ⟨v, k, rfl, _⟩ := h
    rfl
  · obtain ⟨v, k, rfl, q⟩ := h
    refine ⟨_, pss_one (ps_ret (pe_cmpR op_in_seq (pv 1) (pe_tup (pa_cons pe_str (pa_cons pe_str pa_nil))) (by rfl))), ?_⟩
    walk_at "rd"
    intro p hp
    refine ⟨p, _, rfl, .inr (SqT.of upd_same), rfl, rfl, ?_⟩
    have e : inV (V.str k.s) ([.str "open", .str "halt"]) = leads .call k := by cases k <;> decide +kernel
    show Q (.bl (inV _ _)) _
    rw [e]
    exact q _ (same_upd hp)
theorem ok_Halt_meets (T : Txt K mg) : Md P w K mg base CX0 (1) (He.ga K "Halt") "meets" ["self"] (fun vs H Q E => ∃ (v : V), vs = [v] ∧ Q (.bl (decide (Ph.halt = .opn))) H) := by
  refine md0 T.d_Halt_meets T.l_Halt T.m_Halt_meets sc_Phase_meets (fun _ _ _ _ _ _ us hl => match us, hl with | [_], _ => rfl) (fun vs H Q E h => ?_) (fun cdv A outer s H vs Q E hr h => ?_)
  · obtain ⟨v, rfl, _⟩ := h
    rfl
  · obtain ⟨v, rfl, q⟩ := h
    refine ⟨_, pss_one (ps_ret pe_bl), ?_⟩
    exact q
theorem ok_Halt_takes (T : Txt K mg) : Md P w K mg base CX0 (1) (He.ga K "Halt") "takes" ["self", "word"] (fun vs H Q E => ∃ (v : V) (k : Kd), vs = [v, .str k.s] ∧ ∀ H', Same H H' → Q (.bl (takes .halt k)) H') := by
  refine md0 T.d_Halt_takes T.l_Halt T.m_Halt_takes sc_Phase_takes (fun _ _ _ _ _ _ us hl => match us, hl with | [_, _], _ => rfl) (fun vs H Q E h => ?_) (fun cdv A outer s H vs Q E hr h => ?_)
  · obtain ⟨v, k, rfl, _⟩ := h
    rfl
  · obtain ⟨v, k, rfl, q⟩ := h
    refine ⟨_, pss_one (ps_ret pe_bl), ?_⟩
    exact q _ (Same.refl _)
theorem ok_Halt_rests_asleep (T : Txt K mg) : Md P w K mg base CX0 (1) (He.ga K "Halt") "rests_asleep" ["self"] (fun vs H Q E => ∃ (v : V), vs = [v] ∧ Q (.bl (decide (Ph.halt ≠ .halt))) H) := by
  refine md0 T.d_Halt_rests_asleep T.l_Halt T.m_Halt_rests_asleep sc_Phase_rests_asleep (fun _ _ _ _ _ _ us hl => match us, hl with | [_], _ => rfl) (fun vs H Q E h => ?_) (fun cdv A outer s H vs Q E hr h => ?_)
  · obtain ⟨v, rfl, _⟩ := h
    rfl
  · obtain ⟨v, rfl, q⟩ := h
    refine ⟨_, pss_one (ps_ret pe_bl), ?_⟩
    exact q
theorem ok_Halt_leads (T : Txt K mg) : Md P w K mg base CX0 (1) (He.ga K "Halt") "leads" ["self", "word"] (fun vs H Q E => ∃ (v : V) (k : Ph), vs = [v, .str k.s] ∧ ∀ H', Same H H' → Q (.bl (leads .halt k)) H') := by
  refine md0 T.d_Halt_leads T.l_Halt T.m_Halt_leads sc_Halt_leads (fun _ _ _ _ _ _ us hl => match us, hl with | [_, _], _ => rfl) (fun vs H Q E h => ?_) (fun cdv A outer s H vs Q E hr h => ?_)
  · obtain ⟨v, k, rfl, _⟩ := h
    rfl
  · obtain ⟨v, k, rfl, q⟩ := h
    refine ⟨_, pss_one (ps_ret (pe_cmpR op_eq (pv 1) pe_str (nomark _))), ?_⟩
    walk_at "rd"
    show Q (.bl (decide (V.str k.s = V.str "call"))) H
    rw [ph_cal]
    exact q _ (Same.refl _)
theorem ok_meets (T : Txt K mg) (p : Ph) : Md P w K mg base CX0 1 (He.ga K (pcls p)) "meets" ["self"] (fun vs H Q E => ∃ (v : V), vs = [v] ∧ Q (.bl (decide (p = .opn))) H) := by
  cases p
  · exact ok_Open_meets T
  · exact ok_Call_meets T
  · exact ok_Halt_meets T
theorem ok_takes (T : Txt K mg) (p : Ph) : Md P w K mg base CX0 1 (He.ga K (pcls p)) "takes" ["self", "word"] (fun vs H Q E => ∃ (v : V) (k : Kd), vs = [v, .str k.s] ∧ ∀ H', Same H H' → Q (.bl (takes p k)) H') := by
  cases p
  · exact ok_Open_takes T
  · exact ok_Call_takes T
  · exact ok_Halt_takes T
theorem ok_rests_asleep (T : Txt K mg) (p : Ph) : Md P w K mg base CX0 1 (He.ga K (pcls p)) "rests_asleep" ["self"] (fun vs H Q E => ∃ (v : V), vs = [v] ∧ Q (.bl (decide (p ≠ .halt))) H) := by
  cases p
  · exact ok_Open_rests_asleep T
  · exact ok_Call_rests_asleep T
  · exact ok_Halt_rests_asleep T
theorem ok_leads (T : Txt K mg) (p : Ph) : Md P w K mg base CX0 1 (He.ga K (pcls p)) "leads" ["self", "word"] (fun vs H Q E => ∃ (v : V) (k : Ph), vs = [v, .str k.s] ∧ ∀ H', Same H H' → Q (.bl (leads p k)) H') := by
  cases p
  · exact ok_Open_leads T
  · exact ok_Call_leads T
  · exact ok_Halt_leads T
theorem ok_unnamed (T : Txt K mg) : Gd P w K mg base CX0 (1) "unnamed" ["orders", "name"] (fun vs H Q E => ∃ (l : Addr) (n : Str) (os : List Ord), vs = [.ref l, .str n] ∧ LinAt H l os ∧ os.length < 1000 ∧ ∀ p H', Same H H' → H p = none → LinAt H' p (BB.unnamed n os) → Q (.ref p) H') := by
  refine gd0 T.d_unnamed T.g_unnamed sc_unnamed (fun _ _ _ _ _ _ us hl => match us, hl with | [_, _], _ => rfl) (fun vs H Q E h => ?_) (fun cdv A outer s H vs Q E hr h => ?_)
  · obtain ⟨l, n, os, rfl, _⟩ := h
    rfl
  · obtain ⟨l, n, os, rfl, ⟨vs, hL, hT⟩, hz, q⟩ := h
    refine ⟨_, pss_one (ps_ret (pe_lc (own := [("order", 2)]) (g := gName 2) (by rfl) sc_unnamed.nd (pi_list (pv 0)) (blkOk_by (own := [("order", 2)]) (by kernel_rfl)) (fun _ _ _ _ _ => pg_name (i := 2) sc_unnamed.nd rfl (Or.inl rfl)) (fun _ _ _ _ _ => pts_one (pt_cmpR op_ne (pe_ix (r := rIxT K) ix_tup (pv 2) pe_int (fun _ _ => rfl)) (pv 1) (nomark _))) (fun _ _ _ _ _ => (pv 2)))), ?_⟩
    have hlen := Ords.len hT
    refine ⟨_, rfl, l, rfl, ⟨vs, SqL.of hL⟩, fun D hD => lc_tups (outF (fun o : Ord => !decide (o.name = n)) Ord.v os) hD hL outF_zero (fun i _ => outF_len hz i) (fun i x H2 Nx hx s yes no => ?_) fun H2 s h => ?_⟩
    · obtain ⟨o, b, ho, rfl, hb⟩ := Ords.get hT hx
      have hb2 := s _ _ hb
      refine ⟨rfl, ?_⟩
      walk_at "rd"
      by_cases c : o.name = n
      · refine iteN ?_ ?_
        · simp [c]
        · exact no _ (Same.refl _) (outF_no ho (by rw [decide_eq_true c]; rfl))
      · refine iteY ?_ ?_
        · simp [c]
        · walk_at "rd"
          exact yes _ _ _ (Same.refl _) ⟨b, rfl, hb2⟩ (outF_yes ho (by rw [decide_eq_false c]; rfl))
    · refine q D H2 s hD ?_
      rw [outF_all hlen] at h
      exact h
theorem ok_exchanged (T : Txt K mg) : Gd P w K mg base CX0 (1) "exchanged" ["orders", "order"] (fun vs H Q E => ∃ (l a : Addr) (o : Ord) (os : List Ord), vs = [.ref l, .ref a] ∧ LinAt H l os ∧ H a = some (.tup o.v) ∧ os.length < 1000 ∧ ∀ p H', Same H H' → H p = none → LinAt H' p (BB.exchanged os o) → Q (.ref p) H') := by
  refine gd0 T.d_exchanged T.g_exchanged sc_exchanged (fun _ _ _ _ _ _ us hl => match us, hl with | [_, _], _ => rfl) (fun vs H Q E h => ?_) (fun cdv A outer s H vs Q E hr h => ?_)
  · obtain ⟨l, a, o, os, rfl, _⟩ := h
    rfl
  · obtain ⟨l, a, o, os, rfl, ⟨vs, hL, hT⟩, ha, hz, q⟩ := h
    refine ⟨_, pss_one (ps_ret (pe_lc (own := [("one", 2)]) (g := gName 2) (by rfl) sc_exchanged.nd (pi_list (pv 0)) (blkOk_by (own := [("one", 2)]) (by kernel_rfl)) (fun _ _ _ _ _ => pg_name (i := 2) sc_exchanged.nd rfl (Or.inl rfl)) (fun _ _ _ _ _ => pts_nil) (fun _ _ _ _ _ => (pe_ifExp (pt_cmpR op_eq (pe_ix (r := rIxT K) ix_tup (pv 2) pe_int (fun _ _ => rfl)) (pe_ix (r := rIxT K) ix_tup (pv 1) pe_int (fun _ _ => rfl)) (nomark _)) (pv 1) (pv 2))))), ?_⟩
    have hlen := Ords.len hT
    refine ⟨_, rfl, l, rfl, ⟨vs, SqL.of hL⟩, fun D hD => lc_tups (outF (fun _ => true) (fun x : Ord => (if x.name = o.name then o else x).v) os) hD hL outF_zero (fun i _ => outF_len hz i) (fun i x H2 Nx hx s yes no => ?_) fun H2 s h => ?_⟩
    · obtain ⟨y, b, ho, rfl, hb⟩ := Ords.get hT hx
      have hb2 := s _ _ hb
      have ha2 := s _ _ ha
      refine ⟨rfl, ?_⟩
      walk_at "rd"
      by_cases c : y.name = o.name
      · refine iteY ?_ ?_
        · rw [dec_str]; exact decide_eq_true c
        · walk_at "rd"
          exact yes _ _ _ (Same.refl _) ⟨a, rfl, ha2⟩ (by rw [outF_yes ho rfl, if_pos c])
      · refine iteN ?_ ?_
        · rw [dec_str]; exact decide_eq_false c
        · walk_at "rd"
          exact yes _ _ _ (Same.refl _) ⟨b, rfl, hb2⟩ (by rw [outF_yes ho rfl, if_neg c])
    · refine q D H2 s hD ?_
      rw [outF_all hlen, show os.filter (fun _ => true) = os from by simp] at h
      unfold LinAt BB.exchanged
      rw [List.map_map]
      exact h
theorem ok_is_met (T : Txt K mg) : Gd P w K mg base CX0 (1) "is_met" ["side", "trigger", "last"] (fun vs H Q E => ∃ (b : Bool) (t l : Int), vs = [.str (sd b), .int t, .int l] ∧ Q (.bl (isMet b t l)) H) := by
  refine gd0 T.d_is_met T.g_is_met sc_is_met (fun _ _ _ _ _ _ us hl => match us, hl with | [_, _, _], _ => rfl) (fun vs H Q E h => ?_) (fun cdv A outer s H vs Q E hr h => ?_)
  · obtain ⟨b, t, l, rfl, _⟩ := h
    rfl
  · obtain ⟨b, t, l, rfl, q⟩ := h
    refine ⟨_, pss_cons (ps_if (pt_cmpR op_eq (pv 0) pe_str (nomark _)) (pss_one (ps_ret (pe_cmpR op_ge (pv 2) (pv 1) (nomark _)))) pss_nil)
      (pss_one (ps_ret (pe_cmpR op_le (pv 2) (pv 1) (nomark _)))), ?_⟩
    walk_at "rd"
    refine iteB (sd_buy b) ?_
    cases b with
    | true =>
      refine iteY rfl ?_
      walk_at "rd"
      exact q
    | false =>
      refine iteN rfl ?_
      walk_at "rd"
      exact q
theorem ok_told (T : Txt K mg) : Gd P w K mg base CX0 (1) "told" ["order", "step"] (fun vs H Q E => ∃ (a b : Addr) (o : Ord) (s : Step), vs = [.ref a, .ref b] ∧ H a = some (.tup o.v) ∧ H b = some (.tup s.v) ∧ ∀ c H', Same H H' → H' c = some (.tup (BB.told o s).v) → Q (.ref c) H') := by
  refine gd0 T.d_told T.g_told sc_told (fun _ _ _ _ _ _ us hl => match us, hl with | [_, _], _ => rfl) (fun vs H Q E h => ?_) (fun cdv A outer s H vs Q E hr h => ?_)
  · obtain ⟨a, b, o, s, rfl, _⟩ := h
    rfl
  · obtain ⟨a, b, o, s, rfl, ha, hb, q⟩ := h
    refine ⟨_, pss_cons (ps_if (pt_cmpR op_ne (pe_ix ix_tup (pv 1) pe_int (fun _ _ => rfl)) pe_str (nomark _)) (pss_one (ps_ret (pv 1))) pss_nil)
      (pss_cons (ps_if (pt_cmpR op_eq (pe_ix ix_tup (pv 0) pe_int (fun _ _ => rfl)) pe_str (nomark _)) (pss_one (ps_ret (pe_tup (pa_cons pe_str (pa_cons (pe_ix ix_tup (pv 0) pe_int (fun _ _ => rfl)) (pa_cons (pe_ix ix_tup (pv 1) pe_int (fun _ _ => rfl)) (pa_cons (pe_ix ix_tup (pv 1) pe_int (fun _ _ => rfl)) (pa_cons (pe_ix ix_tup (pv 1) pe_int (fun _ _ => rfl)) pa_nil)))))))) pss_nil)
      (pss_one (ps_ret (pe_tup (pa_cons pe_str (pa_cons (pe_ix ix_tup (pv 1) pe_int (fun _ _ => rfl)) (pa_cons (pe_ix ix_tup (pv 0) pe_int (fun _ _ => rfl)) (pa_cons (pe_ix ix_tup (pv 1) pe_int (fun _ _ => rfl)) (pa_cons (pe_ix ix_tup (pv 1) pe_int (fun _ _ => rfl)) pa_nil))))))))), ?_⟩
    cases s with
    | shun n l =>
      have hb' : H b = some (.tup [.str "shun", .str n, .int l]) := hb
      walk_at "rd"
      exact q b H (Same.refl _) hb
    | gone n l =>
      have hb' : H b = some (.tup [.str "gone", .str n, .int l]) := hb
      walk_at "rd"
      exact q b H (Same.refl _) hb
    | trade n p m =>
      have hb' : H b = some (.tup [.str "trade", .str n, .int p, .int m]) := hb
      walk_at "rd"
      refine iteB (sd_buy o.buy) ?_
      cases hbu : o.buy with
      | true =>
        refine iteY rfl ?_
        walk_at "rd"
        refine fun c hc => q c _ (same_upd hc) ?_
        rw [upd_same]
        show _ = some (HO.tup (if o.buy = true then Fact.trade o.name n p m else Fact.trade n o.name p m).v)
        rw [if_pos hbu]
        rfl
      | false =>
        refine iteN rfl ?_
        walk_at "rd"
        refine fun c hc => q c _ (same_upd hc) ?_
        rw [upd_same]
        show _ = some (HO.tup (if o.buy = true then Fact.trade o.name n p m else Fact.trade n o.name p m).v)
        rw [if_neg (by rw [hbu]; exact Bool.false_ne_true)]
        rfl
theorem wanted_snoc (b : Bool) (p : Int) (o : Ord) : ∀ l : List Ord, BB.wanted b p (l ++ [o]) = BB.wanted b p l + if BB.allows b o.price p = true then o.left else 0
  | [] => by
    show _ + (0 : Int) = 0 + _
    omega
  | x :: t => by
    show (if BB.allows b x.price p = true then x.left else 0) + BB.wanted b p (t ++ [o]) = (if BB.allows b x.price p = true then x.left else 0) + BB.wanted b p t + _
    rw [wanted_snoc b p o t]
    omega
theorem take_get {α : Type} {l : List α} {i : Nat} {x : α} (h : l[i]? = some x) : l.take (i + 1) = l.take i ++ [x] := by
  rw [List.take_succ, h]
  rfl
theorem ok_wanted (T : Txt K mg) : Gd P w K mg base CX0 (3) "wanted" ["buys", "price"] (fun vs H Q E => ∃ (l : Addr) (p : Int) (os : List Ord), vs = [.ref l, .int p] ∧ LinAt H l os ∧ Q (.int (BB.wanted true p os)) H) := by
  have g_allows := ok_allows (P := P) (w := w) (base := base) T
  refine gd0 T.d_wanted T.g_wanted sc_wanted (fun _ _ _ _ _ _ us hl => match us, hl with | [_, _], _ => rfl) (fun vs H Q E h => ?_) (fun cdv A outer s H vs Q E hr h => ?_)
  · obtain ⟨l, p, os, rfl, _⟩ := h
    rfl
  · obtain ⟨l, p, os, rfl, ⟨vs, hL, hT⟩, q⟩ := h
    refine ⟨_, pss_cons (ps_set (i := 2) sc_wanted.nd rfl (Or.inl rfl) pe_int)
      (pss_cons (ps_for PassesOwn.never rfl (pi_list (pv 0)) (pg_name (i := 3) sc_wanted.nd rfl (Or.inl rfl))
        (pss_one (ps_if (pt_val (cg g_allows (hr.mono (by decide)) (pa_cons pe_str (pa_cons (pe_ix ix_tup (pv 3) pe_int (fun _ _ => rfl)) (pa_cons (pv 1) pa_nil))))) (pss_one (ps_set (i := 2) sc_wanted.nd rfl (Or.inl rfl) (pe_op op_add (pv 2) (pe_ix ix_tup (pv 3) pe_int (fun _ _ => rfl))))) pss_nil)))
      (pss_one (ps_ret (pv 2)))), ?_⟩
    have hlen := Ords.len hT
    walk_at "rd"
    refine ⟨⟨vs, SqL.of hL⟩, for_list (xs := vs) (fun i σ H' => H' = H ∧ ∃ v3, σ = [some (.ref l), some (.int p), some (.int (BB.wanted true p (os.take i))), v3]) ⟨rfl, _, rfl⟩ (fun i σ H' _ h => by obtain ⟨rfl, _⟩ := h; exact SqL.of hL) (fun i x σ H' hx h => ?_) fun σ H' h => ?_⟩
    · obtain ⟨rfl, v3, rfl⟩ := h
      obtain ⟨o, b, ho, rfl, hb⟩ := Ords.get hT hx
      walk_at "rd"
      refine ⟨true, o.price, p, rfl, ?_⟩
      walk_at "rd"
      cases c : BB.allows true o.price p with
      | true =>
        refine iteY rfl ?_
        walk_at "rd"
        rw [take_get ho, wanted_snoc, if_pos c]
        exact ⟨_, rfl⟩
      | false =>
        refine iteN rfl ⟨rfl, some (.ref b), ?_⟩
        rw [take_get ho, wanted_snoc, if_neg (by rw [c]; exact Bool.false_ne_true), Int.add_zero]
        rfl
    · obtain ⟨rfl, v3, rfl⟩ := h
      rw [hlen, List.take_length]
      exact ⟨_, rfl, q⟩
theorem ok_offered (T : Txt K mg) : Gd P w K mg base CX0 (3) "offered" ["sells", "price"] (fun vs H Q E => ∃ (l : Addr) (p : Int) (os : List Ord), vs = [.ref l, .int p] ∧ LinAt H l os ∧ Q (.int (BB.wanted false p os)) H) := by
  have g_allows := ok_allows (P := P) (w := w) (base := base) T
  refine gd0 T.d_offered T.g_offered sc_offered (fun _ _ _ _ _ _ us hl => match us, hl with | [_, _], _ => rfl) (fun vs H Q E h => ?_) (fun cdv A outer s H vs Q E hr h => ?_)
  · obtain ⟨l, p, os, rfl, _⟩ := h
    rfl
  · obtain ⟨l, p, os, rfl, ⟨vs, hL, hT⟩, q⟩ := h
    refine ⟨_, pss_cons (ps_set (i := 2) sc_offered.nd rfl (Or.inl rfl) pe_int)
      (pss_cons (ps_for PassesOwn.never rfl (pi_list (pv 0)) (pg_name (i := 3) sc_offered.nd rfl (Or.inl rfl))
        (pss_one (ps_if (pt_val (cg g_allows (hr.mono (by decide)) (pa_cons pe_str (pa_cons (pe_ix ix_tup (pv 3) pe_int (fun _ _ => rfl)) (pa_cons (pv 1) pa_nil))))) (pss_one (ps_set (i := 2) sc_offered.nd rfl (Or.inl rfl) (pe_op op_add (pv 2) (pe_ix ix_tup (pv 3) pe_int (fun _ _ => rfl))))) pss_nil)))
      (pss_one (ps_ret (pv 2)))), ?_⟩
    have hlen := Ords.len hT
    walk_at "rd"
    refine ⟨⟨vs, SqL.of hL⟩, for_list (xs := vs) (fun i σ H' => H' = H ∧ ∃ v3, σ = [some (.ref l), some (.int p), some (.int (BB.wanted false p (os.take i))), v3]) ⟨rfl, _, rfl⟩ (fun i σ H' _ h => by obtain ⟨rfl, _⟩ := h; exact SqL.of hL) (fun i x σ H' hx h => ?_) fun σ H' h => ?_⟩
    · obtain ⟨rfl, v3, rfl⟩ := h
      obtain ⟨o, b, ho, rfl, hb⟩ := Ords.get hT hx
      walk_at "rd"
      refine ⟨false, o.price, p, rfl, ?_⟩
      walk_at "rd"
      cases c : BB.allows false o.price p with
      | true =>
        refine iteY rfl ?_
        walk_at "rd"
        rw [take_get ho, wanted_snoc, if_pos c]
        exact ⟨_, rfl⟩
      | false =>
        refine iteN rfl ⟨rfl, some (.ref b), ?_⟩
        rw [take_get ho, wanted_snoc, if_neg (by rw [c]; exact Bool.false_ne_true), Int.add_zero]
        rfl
    · obtain ⟨rfl, v3, rfl⟩ := h
      rw [hlen, List.take_length]
      exact ⟨_, rfl, q⟩
theorem ok_volume (T : Txt K mg) : Gd P w K mg base CX0 (4) "volume" ["buys", "sells", "price"] (fun vs H Q E => ∃ (l m : Addr) (p : Int) (bs ss : List Ord), vs = [.ref l, .ref m, .int p] ∧ LinAt H l bs ∧ LinAt H m ss ∧ Q (.int (BB.volume bs ss p)) H) := by
  have g_wanted := ok_wanted (P := P) (w := w) (base := base) T
  have g_offered := ok_offered (P := P) (w := w) (base := base) T
  refine gd0 T.d_volume T.g_volume sc_volume (fun _ _ _ _ _ _ us hl => match us, hl with | [_, _, _], _ => rfl) (fun vs H Q E h => ?_) (fun cdv A outer s H vs Q E hr h => ?_)
  · obtain ⟨l, m, p, bs, ss, rfl, _⟩ := h
    rfl
  · obtain ⟨l, m, p, bs, ss, rfl, hL, hM, q⟩ := h
    refine ⟨_, pss_one (ps_ret (pe_callB (call_min2 rfl) (by rfl) T.b_min (by decide +kernel) (pa_cons (cg g_wanted (hr.mono (by decide)) (pa_cons (pv 0) (pa_cons (pv 2) pa_nil))) (pa_cons (cg g_offered (hr.mono (by decide)) (pa_cons (pv 1) (pa_cons (pv 2) pa_nil))) pa_nil)))), ?_⟩
    walk_at "rd"
    refine ⟨l, p, bs, rfl, hL, ?_⟩
    walk_at "rd"
    refine ⟨m, p, ss, rfl, hM, ?_⟩
    walk_at "rd"
    exact q
end
end BB
set_option Elab.async false
set_option linter.all false
set_option maxRecDepth 100000
set_option maxHeartbeats 4000000
/-! W7: entered; the floor's small methods. -/
namespace BB
open PySem PySem.Spec PyProof.Rows L2
local macro_rules | `(tactic| walk_at "rd") => `(tactic| repeat (first | refine ⟨_, rfl, ?_⟩ | refine ⟨_, _, rfl, rfl, ?_⟩ | refine ⟨_, _, rfl, ?_⟩ | refine ⟨rfl, ?_⟩ | refine ⟨_, _, _, _, rfl, rfl, SqT.of (by assumption), rfl, ?_⟩ | refine ⟨Nat.le_of_ble_eq_true rfl, ?_⟩))
/-- an __init__ -/
def Gi (P : Program) (w : World) (K : PySem.W.Frag) (mg : Str → Option Value) (base : Heap) (k : Nat) (C : Addr) (ps : List Str) (sp : Sp) : Prop := ∃ f fd, Mk K C f ∧ FnOk P w K mg base CX0 k f fd ps sp ∧ Binds K fd ps []
section
variable {P : Program} {w : World} {K : PySem.W.Frag} {mg : Str → Option Value} {base : Heap} {x qual : Str} {st : Stmt} {f C : Addr} {N ps : List Str} {k : Nat} {sp : Sp}
theorem gi0 (F : ∃ fd, FunD K x qual (defArgs st) (defBody st) (defScope st) [] [] f fd) (M : Mk K C f) (S : FnScope N ps (defScope st))
    (hb : ∀ (kV doc pm : Value) (an : Option Addr) (cdv ct : Value) (us : List Value), us.length = ps.length → bindArgs (PySem.W.fnOf x qual (defArgs st) (defBody st) (defScope st) .none kV doc pm an cdv ct) ⟨us, []⟩ = pure (ps.zip us))
    (len : ∀ vs H Q E, sp vs H Q E → vs.length = ps.length)
    (hbody : ∀ (cdv : Value) (A : Around) (outer : List Env) (s : Shared) (H : Hp) (vs : List V) (Q : VK) (E : XK), Room k (A.deeper (envOfC qual (defScope st) s.heap.objs.size f cdv)) → sp vs H Q E →
      ∃ t, PSs (cxOf CX0 P w K mg base N qual (defScope st) f cdv A outer s H E).nox (defBody st) t ∧ t { nx := fun _ H' => Q .non H', rt := Q } (start N vs) H) : Gi P w K mg base (k + 1) C ps sp := by
  obtain ⟨fd, F⟩ := F
  refine ⟨f, fd, M, F.ok S len fun cdv A outer s H vs Q E hr hsp => ?_, F.bindsN hb⟩
  obtain ⟨t, h, q⟩ := hbody cdv A outer s H vs Q E hr hsp
  exact ⟨t, h.nox, q⟩
end
theorem cMake {X : Cx} {k : Nat} {ps : List Str} {sp : Sp} {x : Str} {p pos : Pos} {e : Expr} {es : List Expr} {t : TA} {C : Addr} (G : Gi X.prog X.w X.K X.mg X.base k C ps sp) (hr : Room (k + 1) X.A) (hm : X.mg x = some (.ref C)) (ha : PA X (e :: es) t) (hg : Gl X x := by rfl) (hdb : (x == ("__debug__" : Str)) = false := by decide)
    (he : starEach (e :: es) X.env = (false, eval e X.env) :: starEach es X.env := by rfl) (hpl : (backTo pos (starEach es X.env)).any (·.1) = false := by rfl) :
    PE X (.Call (.Name x p) (e :: es) [] pos) (tMake C sp [] E0 t) := by
  obtain ⟨f, fd, M, F, b⟩ := G
  exact pe_make M F hr hg hm b .nil pass0 ha hdb he hpl
theorem vya {F : VK → Prop} {Q : VK} {v : V} {H : Hp} (h : ∀ Q' : VK, Q' v H → F Q') (q : Q v H) : F Q := h Q q
def RestAt (H : Hp) (v : V) : Option Ord → Prop
  | none => v = .non
  | some r => OrdAt H v r
theorem RestAt.kt {H H' : Hp} {v : V} {r : Option Ord} (k : Kt H H') (h : RestAt H v r) : RestAt H' v r := by
  cases r with
  | none => exact h
  | some r => exact TupAt.kt k h
section
variable {P : Program} {w : World} {K : PySem.W.Frag} {mg : Str → Option Value} {base : Heap}
theorem entered_lets {k : Kd} {o : Ord} {os : List Ord} {last leap : Int} (h : BB.lets k (crosses o os) (BB.could o os last leap) o.left = true) : BB.entered k o os last leap =
    if 0 < (BB.met o os last leap).left ∧ keeps k = true then ⟨(BB.met o os last leap).steps, (BB.met o os last leap).line, some (BB.fresh o (BB.met o os last leap).left), (BB.met o os last leap).halted⟩
    else if 0 < (BB.met o os last leap).left then ⟨(BB.met o os last leap).steps ++ [.gone o.name (BB.met o os last leap).left], (BB.met o os last leap).line, none, (BB.met o os last leap).halted⟩
    else ⟨(BB.met o os last leap).steps, (BB.met o os last leap).line, none, (BB.met o os last leap).halted⟩ := by
  unfold BB.entered
  rw [if_pos h]
theorem ok_entered (T : Txt K mg) : Gd P w K mg base CX0 (7) "entered" ["word", "order", "line", "last", "leap"] (fun vs H Q E => ∃ (k : Kd) (b : Bool) (l a : Addr) (o : Ord) (os : List Ord) (last leap : Int), vs = [.str k.s, .ref a, .ref l, .int last, .int leap] ∧ H a = some (.tup o.v) ∧ LinAt H l os ∧ LineOk b os ∧ 0 ≤ o.left ∧ (∀ n, cn n os ≤ 1) ∧ os.length ≤ 900 ∧ ∀ p ls ll rv H', Same H H' → H ls = none → H ll = none → H' p = some (.tup [.ref ls, .ref ll, rv, .bl (BB.entered k o os last leap).halted]) → LstAt H' ls ((BB.entered k o os last leap).steps.map Step.v) → LinAt H' ll (BB.entered k o os last leap).line → RestAt H' rv (BB.entered k o os last leap).rest → Q (.ref p) H') := by
  have g_kind_of := ok_kind_of (P := P) (w := w) (base := base) T
  have g_allows := ok_allows (P := P) (w := w) (base := base) T
  have g_could := ok_could (P := P) (w := w) (base := base) T
  have g_met := ok_met (P := P) (w := w) (base := base) T
  have g_fresh := ok_fresh (P := P) (w := w) (base := base) T
  have m_lets := fun k : Kd => ok_lets (P := P) (w := w) (base := base) T k
  have m_keeps := fun k : Kd => ok_keeps (P := P) (w := w) (base := base) T k
  refine gd0 T.d_entered T.g_entered sc_entered (fun _ _ _ _ _ _ us hl => match us, hl with | [_, _, _, _, _], _ => rfl) (fun vs H Q E h => ?_) (fun cdv A outer s H vs Q E hr h => ?_)
  · obtain ⟨k, b, l, a, o, os, last, leap, rfl, _⟩ := h
    rfl
  · obtain ⟨k, b, l, a, o, os, last, leap, rfl, ha, hL, hok, h0, hcn, hz, q⟩ := h
    refine ⟨_, pss_cons (ps_set (i := 5) sc_entered.nd rfl (Or.inl rfl) (cg g_kind_of (hr.mono (by decide)) (pa_cons (pv 0) pa_nil)))
      (pss_cons (ps_set (i := 6) sc_entered.nd rfl (Or.inl rfl) (pe_and (pe_cmpR op_gt (pe_callB call_len_seq (by rfl) T.b_len (by decide +kernel) (pa_cons (pv 2) pa_nil)) pe_int (nomark _)) (pe_one (cg g_allows (hr.mono (by decide)) (pa_cons (pe_ix ix_tup (pv 1) pe_int (fun _ _ => rfl)) (pa_cons (pe_ix ix_tup (pv 1) pe_int (fun _ _ => rfl)) (pa_cons (pe_ix ix_tup (pe_ix ix_list (pv 2) pe_int (fun _ _ => rfl)) pe_int (fun _ _ => rfl)) pa_nil)))))))
      (pss_cons (ps_if (pt_not (pt_val (cm (m_lets k) (hr.mono (by decide)) (pv 5) (pa_cons (pv 6) (pa_cons (cg g_could (hr.mono (by decide)) (pa_cons (pv 1) (pa_cons (pv 2) (pa_cons (pv 3) (pa_cons (pv 4) pa_nil))))) (pa_cons (pe_ix ix_tup (pv 1) pe_int (fun _ _ => rfl)) pa_nil)))))) (pss_one (ps_ret (pe_tup (pa_cons (pe_lst (pa_cons (pe_tup (pa_cons pe_str (pa_cons (pe_ix ix_tup (pv 1) pe_int (fun _ _ => rfl)) (pa_cons (pe_ix ix_tup (pv 1) pe_int (fun _ _ => rfl)) pa_nil)))) pa_nil)) (pa_cons (pe_callTy call_list_of (by rfl) T.b_list (by decide +kernel) (pa_cons (pv 2) pa_nil)) (pa_cons pe_non (pa_cons pe_bl pa_nil))))))) pss_nil)
      (pss_cons (ps_set (i := 7) sc_entered.nd rfl (Or.inl rfl) (cg g_met (hr.mono (by decide)) (pa_cons (pv 1) (pa_cons (pv 2) (pa_cons (pv 3) (pa_cons (pv 4) pa_nil))))))
      (pss_cons (ps_set (i := 8) sc_entered.nd rfl (Or.inl rfl) (pe_ix ix_tup (pv 7) pe_int (fun _ _ => rfl)))
      (pss_cons (ps_set (i := 9) sc_entered.nd rfl (Or.inl rfl) (pe_ix ix_tup (pv 7) pe_int (fun _ _ => rfl)))
      (pss_cons (ps_set (i := 10) sc_entered.nd rfl (Or.inl rfl) pe_non)
      (pss_cons (ps_if (PW.pt (pw_and (pt_cmpR op_gt (pv 9) pe_int (nomark _)) (pw_and1 (pt_val (cm0 (m_keeps k) (hr.mono (by decide)) (pv 5)))))) (pss_one (ps_set (i := 10) sc_entered.nd rfl (Or.inl rfl) (cg g_fresh (hr.mono (by decide)) (pa_cons (pv 1) (pa_cons (pv 9) pa_nil))))) (pss_one (ps_if (pt_cmpR op_gt (pv 9) pe_int (nomark _)) (pss_one (ps_expr (pe_bm PySem.F.plainAttrs_list PySem.F.slot_list_append PySem.F.type_list_append mt_append (pv 8) (pa_cons (pe_tup (pa_cons pe_str (pa_cons (pe_ix ix_tup (pv 1) pe_int (fun _ _ => rfl)) (pa_cons (pv 9) pa_nil)))) pa_nil)))) pss_nil)))
      (pss_one (ps_ret (pe_tup (pa_cons (pv 8) (pa_cons (pe_ix ix_tup (pv 7) pe_int (fun _ _ => rfl)) (pa_cons (pv 10) (pa_cons (pe_ix ix_tup (pv 7) pe_int (fun _ _ => rfl)) pa_nil)))))))))))))), ?_⟩
    obtain ⟨vs, hL1, hT⟩ := id hL
    have hlen := Ords.len hT
    walk_at "rd"
    refine fun x dx H1 s1 hx0 hx1 => ?_
    have ha1 := s1 _ _ ha
    dsimp only [gName]
    refine vya (F := tAndV _ _ _ _) (v := .bl (crosses o os)) (H := H1) (fun Q' q' => ?_) ?_
    · walk_at "rd"
      refine ⟨l, _, rfl, .inl (SqL.of (s1 _ _ hL1)), ?_⟩
      walk_at "rd"
      cases os with
      | nil => exact iteN (decide_eq_false (by rw [hlen]; simp)) q'
      | cons h t =>
        refine iteY (decide_eq_true (by rw [hlen]; simp only [List.length_cons]; omega)) ?_
        obtain ⟨hv, tv, rfl, ⟨hb, rfl, hhb⟩, htT⟩ := Tups.head hT
        have hb1 := s1 _ _ hhb
        walk_at "rd"
        refine ⟨l, _, _, _, rfl, rfl, SqL.of (s1 _ _ hL1), at0, ?_⟩
        walk_at "rd"
        refine ⟨o.buy, o.price, h.price, rfl, q'⟩
    walk_at "rd"
    refine ⟨x, _, _, rfl, hx1, rfl, ?_⟩
    walk_at "rd"
    refine ⟨b, l, a, o, os, last, leap, rfl, ha1, hL.same s1, hok, h0, hcn, hz, fun H2 s2 => ?_⟩
    have s12 := s1.trans s2
    have ha2 := s12 _ _ ha
    have hx2 := s2 _ _ hx1
    walk_at "rd"
    refine ⟨_, _, _, _, rfl, ?_⟩
    walk_at "rd"
    cases hlt : BB.lets k (crosses o os) (BB.could o os last leap) o.left with
    | false =>
      have e : BB.entered k o os last leap = ⟨[.gone o.name o.left], os, none, false⟩ := by
        unfold BB.entered
        rw [if_neg (by rw [hlt]; exact Bool.false_ne_true)]
      rw [e] at q
      refine iteY rfl ?_
      walk_at "rd"
      intro p1 hp1
      have u1 := same_upd (o := .tup [.str "gone", .str o.name, .int o.left]) hp1
      walk_at "rd"
      intro l1 hl1
      have u2 := same_upd (o := .lst [.ref p1]) hl1
      walk_at "rd"
      have u := (s12.trans u1).trans u2
      refine ⟨l, _, rfl, .inl (SqL.of (u _ _ hL1)), fun l2 hl2 => ?_⟩
      have u3 := same_upd (o := .lst vs) hl2
      walk_at "rd"
      intro p hp
      have u4 := same_upd (o := .tup [.ref l1, .ref l2, .non, .bl false]) hp
      have v4 := u3.trans u4
      exact q p l1 l2 .non _ ((u.trans u3).trans u4) ((s12.trans u1).free hl1) (u.free hl2) upd_same ⟨_, v4 _ _ upd_same, .one ⟨p1, rfl, (u2.trans v4) _ _ upd_same⟩⟩ ⟨_, u4 _ _ upd_same, Tups.kt (Kt.same (u.trans v4)) hT⟩ rfl
    | true =>
      refine iteN rfl ?_
      walk_at "rd"
      refine ⟨b, l, a, o, os, last, leap, rfl, ha2, hL.same s12, hok, h0, hcn, hz, fun p ls ll H3 s3 hp hls hll hne e1 e2 e3 => ?_⟩
      have hx3 := s3 _ _ hx2
      have ha3 := s3 _ _ ha2
      have s13 := s12.trans s3
      have me := met_end (o := o) (last := last) (leap := leap) hok h0
      have hbig : (BB.met o os last leap).steps.length < sizeLine := by
        have h1 := me.stp
        have h2 := potL_le hok.ok
        refine Nat.lt_of_lt_of_le (m := 20000) (by omega) (by decide)
      have he := entered_lets hlt
      rw [he] at q
      clear he me
      generalize hm : BB.met o os last leap = m at *
      walk_at "rd"
      by_cases hp0 : 0 < m.left
      · refine iteY (decide_eq_true hp0) ?_
        walk_at "rd"
        refine ⟨x, _, _, rfl, hx3, rfl, ?_⟩
        walk_at "rd"
        walk_at "rd"
        cases hk : keeps k with
        | true =>
          rw [if_pos ⟨hp0, hk⟩] at q
          refine iteY rfl ?_
          walk_at "rd"
          refine ⟨a, o, m.left, rfl, ha3, fun c hc => ?_⟩
          have u1 := same_upd (o := .tup (BB.fresh o m.left).v) hc
          have e1' := u1 _ _ e1
          walk_at "rd"
          intro p2 hp2
          have u2 := same_upd (o := .tup [.ref ls, .ref ll, .ref c, .bl m.halted]) hp2
          have u := u1.trans u2
          exact q p2 ls ll (.ref c) _ (s13.trans u) (s12.free hls) (s12.free hll) upd_same (e2.same u) (e3.same u) ⟨c, rfl, u2 _ _ upd_same⟩
        | false =>
          rw [if_neg (fun z => by rw [hk] at z; exact Bool.false_ne_true z.2), if_pos hp0] at q
          refine iteN rfl ?_
          walk_at "rd"
          refine iteY (decide_eq_true hp0) ?_
          obtain ⟨sv, hsv, hsT⟩ := id e2
          have hsl := Tups.length hsT
          rw [List.length_map] at hsl
          walk_at "rd"
          refine ⟨.inl ⟨rfl, _, SqL.of hsv⟩, ?_⟩
          walk_at "rd"
          intro g hg
          refine ⟨ls, _, _, rfl, rfl, (same_upd hg) _ _ hsv, by rw [hsl]; exact hbig, ?_⟩
          have pk := push_kt (o := .tup (Step.v (.gone o.name m.left))) (u := .lst (sv ++ [.ref g])) hsv hg
          have ps := push_same (o := .tup (Step.v (.gone o.name m.left))) (u := .lst (sv ++ [.ref g])) s3 hls hg
          have pm := LstAt.push hsv hsT hg (x := Step.v (.gone o.name m.left))
          have e1' := pk _ _ e1
          obtain ⟨lv, hlv, hlT⟩ := id e3
          have e3' : LinAt (upd (upd H3 g (.tup (Step.v (.gone o.name m.left)))) ls (.lst (sv ++ [.ref g]))) ll m.line := ⟨lv, push_ne hlv hne.symm hg, Tups.kt pk hlT⟩
          walk_at "rd"
          intro p2 hp2
          have u2 := same_upd (o := .tup [.ref ls, .ref ll, .non, .bl m.halted]) hp2
          refine q p2 ls ll .non _ ((s12.trans ps).trans u2) (s12.free hls) (s12.free hll) upd_same ?_ (e3'.same u2) rfl
          show LstAt _ ls ((m.steps ++ [Step.gone o.name m.left]).map Step.v)
          rw [List.map_append]
          exact pm.same u2
      · rw [if_neg (fun z => hp0 z.1), if_neg hp0] at q
        refine iteN (decide_eq_false hp0) (iteN rfl ?_)
        walk_at "rd"
        refine iteN (decide_eq_false hp0) ?_
        walk_at "rd"
        intro p2 hp2
        have u2 := same_upd (o := .tup [.ref ls, .ref ll, .non, .bl m.halted]) hp2
        exact q p2 ls ll .non _ (s13.trans u2) (s12.free hls) (s12.free hll) upd_same (e2.same u2) (e3.same u2) rfl
end
end BB
set_option Elab.async false
set_option linter.all false
set_option maxRecDepth 100000
set_option maxHeartbeats 4000000
/-! W8: the floor's small methods. -/
namespace BB
open PySem PySem.Spec PyProof.Rows L2
local macro_rules | `(tactic| walk_at "rd") => `(tactic| repeat (first | refine ⟨_, rfl, ?_⟩ | refine ⟨_, _, rfl, rfl, ?_⟩ | refine ⟨_, _, rfl, ?_⟩ | refine ⟨rfl, ?_⟩ | refine ⟨_, _, _, _, rfl, rfl, SqT.of (by assumption), rfl, ?_⟩ | refine ⟨Nat.le_of_ble_eq_true rfl, ?_⟩))
section
variable {P : Program} {w : World} {K : PySem.W.Frag} {mg : Str → Option Value} {base : Heap}
theorem ok_Floor_init (T : Txt K mg) : Gi P w K mg base (1) (He.ga K "Floor") ["self", "mark", "leap"] (fun vs H Q E => ∃ (p dx : Addr) (mark leap : Int), vs = [.ref p, .int mark, .int leap] ∧ H p = some (.ins (He.ga K "Floor") dx []) ∧ ∀ H', But p H H' → FlAt K H' p ⟨.call, mark, leap, [], [], []⟩ → Q .non H') := by
  refine gi0 T.d_Floor_init T.mk_Floor sc_Floor_init (fun _ _ _ _ _ _ us hl => match us, hl with | [_, _, _], _ => rfl) (fun vs H Q E h => ?_) (fun cdv A outer s H vs Q E hr h => ?_)
  · obtain ⟨p, dx, mark, leap, rfl, _⟩ := h
    rfl
  · obtain ⟨p, dx, mark, leap, rfl, hp, q⟩ := h
    refine ⟨_, pss_cons (ps_fld (pv 0) pe_str rfl)
      (pss_cons (ps_fld (pv 0) (pv 1) rfl)
      (pss_cons (ps_fld (pv 0) (pv 2) rfl)
      (pss_cons (ps_fld (pv 0) (pe_lst pa_nil) rfl)
      (pss_cons (ps_fld (pv 0) (pe_lst pa_nil) rfl)
      (pss_one (ps_fld (pv 0) (pe_lst pa_nil) rfl)))))), ?_⟩
    walk_at "rd"
    refine ⟨p, _, dx, _, rfl, hp, T.l_Floor, T.n_phase, Nat.le_of_ble_eq_true rfl, ?_⟩
    walk_at "rd"
    refine ⟨p, _, dx, _, rfl, upd_same, T.l_Floor, T.n_last, Nat.le_of_ble_eq_true rfl, ?_⟩
    walk_at "rd"
    refine ⟨p, _, dx, _, rfl, upd_same, T.l_Floor, T.n_leap, Nat.le_of_ble_eq_true rfl, ?_⟩
    walk_at "rd"
    intro lb hlb
    walk_at "rd"
    refine ⟨p, _, dx, _, rfl, (same_upd hlb) _ _ upd_same, T.l_Floor, T.n_buys, Nat.le_of_ble_eq_true rfl, ?_⟩
    walk_at "rd"
    intro ls hls
    walk_at "rd"
    refine ⟨p, _, dx, _, rfl, (same_upd hls) _ _ upd_same, T.l_Floor, T.n_sells, Nat.le_of_ble_eq_true rfl, ?_⟩
    walk_at "rd"
    intro la hla
    walk_at "rd"
    refine ⟨p, _, dx, _, rfl, (same_upd hla) _ _ upd_same, T.l_Floor, T.n_asleep, Nat.le_of_ble_eq_true rfl, ?_⟩
    rw [ff_new]
    have nb : lb ≠ p := fun e => by rw [e, upd_same] at hlb; cases hlb
    have ns : ls ≠ p := fun e => by rw [e, upd_same] at hls; cases hls
    have na : la ≠ p := fun e => by rw [e, upd_same] at hla; cases hla
    have b1 := (((((((But.upd (p := p) (H := H)).trans But.upd).trans But.upd).trans (But.of (same_upd (o := .lst []) hlb))).trans But.upd).trans (But.of (same_upd (o := .lst []) hls))).trans But.upd).trans (But.of (same_upd (o := .lst []) hla))
    have b2 := ((But.upd (p := p) (H := _)).trans (But.of (same_upd (o := .lst []) hls))).trans (But.upd.trans (But.of (same_upd (o := .lst []) hla)))
    have b3 := (But.upd (p := p) (H := _)).trans (But.of (same_upd (o := .lst []) hla))
    refine q _ (b1.trans But.upd) ⟨dx, lb, ls, la, upd_same, ⟨[], (b2.trans But.upd) lb _ upd_same nb, .nil⟩, ⟨[], (b3.trans But.upd) ls _ upd_same ns, .nil⟩, ⟨[], But.upd la _ upd_same na, .nil⟩⟩
theorem ok_Floor_line_of (T : Txt K mg) : Md P w K mg base CX0 (1) (He.ga K "Floor") "line_of" ["self", "side"] (fun vs H Q E => ∃ (p : Addr) (b : Bool) (F : Floor), vs = [.ref p, .str (sd b)] ∧ FlAt K H p F ∧ ∀ l, l ≠ p → LinAt H l (F.line b) → Q (.ref l) H) := by
  refine md0 T.d_Floor_line_of T.l_Floor T.m_Floor_line_of sc_Floor_line_of (fun _ _ _ _ _ _ us hl => match us, hl with | [_, _], _ => rfl) (fun vs H Q E h => ?_) (fun cdv A outer s H vs Q E hr h => ?_)
  · obtain ⟨p, b, F, rfl, _⟩ := h
    rfl
  · obtain ⟨p, b, F, rfl, ⟨dx, lb, ls, la, hF⟩, q⟩ := h
    refine ⟨_, pss_cons (ps_if (pt_cmpR op_eq (pv 1) pe_str (nomark _)) (pss_one (ps_ret (pe_fld (pv 0) rfl))) pss_nil)
      (pss_one (ps_ret (pe_fld (pv 0) rfl))), ?_⟩
    walk_at "rd"
    refine iteB (sd_buy b) ?_
    cases b with
    | true =>
      refine iteY rfl ?_
      walk_at "rd"
      refine ⟨p, _, dx, _, _, rfl, hF.o, T.l_Floor, T.n_buys, ff_buys _ _ _ _ _ _, ?_⟩
      exact q lb (hF.b.ne hF.o) hF.b
    | false =>
      refine iteN rfl ?_
      walk_at "rd"
      refine ⟨p, _, dx, _, _, rfl, hF.o, T.l_Floor, T.n_sells, ff_sells _ _ _ _ _ _, ?_⟩
      exact q ls (hF.s.ne hF.o) hF.s
theorem ok_Floor_set_line (T : Txt K mg) : Md P w K mg base CX0 (1) (He.ga K "Floor") "set_line" ["self", "side", "line"] (fun vs H Q E => ∃ (p l : Addr) (b : Bool) (F : Floor) (os : List Ord) (dx lb ls la : Addr), vs = [.ref p, .str (sd b), .ref l] ∧ FlIn K H p dx lb ls la F ∧ LinAt H l os ∧ ∀ H', But p H H' → FlIn K H' p dx (if b = true then l else lb) (if b = true then ls else l) la (F.setLine b os) → Q .non H') := by
  refine md0 T.d_Floor_set_line T.l_Floor T.m_Floor_set_line sc_Floor_set_line (fun _ _ _ _ _ _ us hl => match us, hl with | [_, _, _], _ => rfl) (fun vs H Q E h => ?_) (fun cdv A outer s H vs Q E hr h => ?_)
  · obtain ⟨p, l, b, F, os, dx, lb, ls, la, rfl, _⟩ := h
    rfl
  · obtain ⟨p, l, b, F, os, dx, lb, ls, la, rfl, hF, hl, q⟩ := h
    refine ⟨_, pss_one (ps_if (pt_cmpR op_eq (pv 1) pe_str (nomark _)) (pss_one (ps_fld (pv 0) (pv 2) rfl)) (pss_one (ps_fld (pv 0) (pv 2) rfl))), ?_⟩
    walk_at "rd"
    refine iteB (sd_buy b) ?_
    cases b with
    | true =>
      refine iteY rfl ?_
      walk_at "rd"
      refine ⟨p, _, dx, _, rfl, hF.o, T.l_Floor, T.n_buys, ff_len _ _ _ _ _ _, ?_⟩
      rw [fp_buys]
      exact q _ But.upd (hF.set (F' := F.setLine true os) hl hF.s hF.a)
    | false =>
      refine iteN rfl ?_
      walk_at "rd"
      refine ⟨p, _, dx, _, rfl, hF.o, T.l_Floor, T.n_sells, ff_len _ _ _ _ _ _, ?_⟩
      rw [fp_sells]
      exact q _ But.upd (hF.set (F' := F.setLine false os) hF.b hl hF.a)
theorem ok_Floor_known (T : Txt K mg) : Md P w K mg base CX0 (1) (He.ga K "Floor") "known" ["self"] (fun vs H Q E => ∃ (p : Addr) (F : Floor), vs = [.ref p] ∧ FlAt K H p F ∧ F.known.length ≤ 900 ∧ ∀ q H', Same H H' → H q = none → LinAt H' q F.known → Q (.ref q) H') := by
  refine md0 T.d_Floor_known T.l_Floor T.m_Floor_known sc_Floor_known (fun _ _ _ _ _ _ us hl => match us, hl with | [_], _ => rfl) (fun vs H Q E h => ?_) (fun cdv A outer s H vs Q E hr h => ?_)
  · obtain ⟨p, F, rfl, _⟩ := h
    rfl
  · obtain ⟨p, F, rfl, ⟨dx, lb, ls, la, hF⟩, hz, q⟩ := h
    refine ⟨_, pss_one (ps_ret (pe_op op_cat (pe_op op_cat (pe_fld (pv 0) rfl) (pe_fld (pv 0) rfl)) (pe_lc (own := [("sleeper", 1)]) (g := gName 1) (by rfl) sc_Floor_known.nd (pi_list (pe_fld (pv 0) rfl)) (blkOk_by (own := [("sleeper", 1)]) (by kernel_rfl)) (fun _ _ _ _ _ => pg_name (i := 1) sc_Floor_known.nd rfl (Or.inl rfl)) (fun _ _ _ _ _ => pts_nil) (fun _ _ _ _ _ => (pe_ix (r := rIxT K) ix_tup (pv 1) pe_int (fun _ _ => rfl)))))), ?_⟩
    obtain ⟨vb, hvb, hbT⟩ := id hF.b
    obtain ⟨vz, hvz, hsT⟩ := id hF.s
    obtain ⟨va, hva, haT⟩ := id hF.a
    have lb1 := Ords.len hbT
    have ls1 := Ords.len hsT
    have la1 := haT.length
    have hz' : F.buys.length + F.sells.length + F.asleep.length ≤ 900 := by
      unfold Floor.known at hz
      simp only [List.length_append, List.length_map] at hz
      omega
    walk_at "rd"
    refine ⟨p, _, dx, _, _, rfl, hF.o, T.l_Floor, T.n_buys, ff_buys _ _ _ _ _ _, ?_⟩
    walk_at "rd"
    refine ⟨p, _, dx, _, _, rfl, hF.o, T.l_Floor, T.n_sells, ff_sells _ _ _ _ _ _, ?_⟩
    refine ⟨lb, ls, vb, vz, rfl, rfl, hvb, hvz, line1000 (by omega), fun c hc => ?_⟩
    have s1 := same_upd (o := .lst (vb ++ vz)) hc
    walk_at "rd"
    refine ⟨p, _, dx, _, _, rfl, s1 _ _ hF.o, T.l_Floor, T.n_asleep, ff_asleep _ _ _ _ _ _, ?_⟩
    refine ⟨la, rfl, ⟨va, SqL.of (s1 _ _ hva)⟩, fun D hD => lc_tups (outF (fun _ => true) (fun z : Slp => z.ord.v) F.asleep) hD (s1 _ _ hva) outF_zero (fun i _ => outF_len (by omega) i) (fun i x H2 Nx hx s yes no => ?_) fun H2 s h => ?_⟩
    · obtain ⟨z, hz1, a1, b1, rfl, h1, h2⟩ := haT.get hx
      have h1' := s _ _ (s1 _ _ h1)
      refine ⟨rfl, ?_⟩
      walk_at "rd"
      exact yes _ _ _ (Same.refl _) ⟨b1, rfl, s _ _ (s1 _ _ h2)⟩ (outF_yes hz1 rfl)
    · obtain ⟨vd, hvd, hdT⟩ := id h
      have e0 : ((vb ++ vz).length + vd.length ≤ sizeLine) := by
        have z := Tups.length hdT
        have z2 : (outF (fun _ => true) (fun z : Slp => z.ord.v) F.asleep va.length).length < 1000 := outF_len (by omega) _
        refine Nat.le_trans (m := 2000) ?_ (by decide)
        rw [List.length_append]
        omega
      refine ⟨c, D, _, _, rfl, rfl, s _ _ upd_same, hvd, e0, fun r hr => ?_⟩
      have s3 := same_upd (o := .lst (vb ++ vz ++ vd)) hr
      refine q r _ ((s1.trans s).trans s3) ((s1.trans s).free hr) ⟨_, upd_same, ?_⟩
      rw [outF_all la1, show F.asleep.filter (fun _ => true) = F.asleep from by simp] at hdT
      unfold Floor.known
      rw [List.map_append, List.map_append, List.map_map]
      exact ((Tups.kt (Kt.same ((s1.trans s).trans s3)) hbT).append (Tups.kt (Kt.same ((s1.trans s).trans s3)) hsT)).append (Tups.kt (Kt.same s3) hdT)
theorem firstMet_none {last : Int} : ∀ {l : List Slp}, (∀ (j : Nat) z, l[j]? = some z → isMet z.ord.buy z.trig last = false) → firstMet last l = none
  | [], _ => rfl
  | z :: r, h => by
    unfold firstMet
    rw [if_neg (by rw [h 0 z rfl]; exact Bool.false_ne_true), firstMet_none (l := r) fun j y hy => h (j + 1) y (by simpa using hy)]
    rfl
theorem firstMet_some {last : Int} : ∀ {l : List Slp} {k : Nat} {x : Slp}, (∀ (j : Nat) z, j < k → l[j]? = some z → isMet z.ord.buy z.trig last = false) → l[k]? = some x → isMet x.ord.buy x.trig last = true → firstMet last l = some (k, x)
  | [], k, x, _, h, _ => by simp at h
  | z :: r, 0, x, _, h, hx => by
    have e := Option.some.inj (show some z = some x from h)
    subst e
    unfold firstMet
    rw [if_pos hx]
  | z :: r, k + 1, x, h0, h, hx => by
    unfold firstMet
    rw [if_neg (by rw [h0 0 z (Nat.zero_lt_succ _) rfl]; exact Bool.false_ne_true), firstMet_some (l := r) (k := k) (x := x) (fun j y hj hy => h0 (j + 1) y (Nat.succ_lt_succ hj) (by simpa using hy)) (by simpa using h) hx]
    rfl
def awake (F : Floor) : Int := match firstMet F.last F.asleep with
  | none => -1
  | some (k, _) => (k : Int)
theorem ok_Floor_first_awake (T : Txt K mg) : Md P w K mg base CX0 (2) (He.ga K "Floor") "first_awake" ["self"] (fun vs H Q E => ∃ (p : Addr) (F : Floor), vs = [.ref p] ∧ FlAt K H p F ∧ ∀ H', Same H H' → Q (.int (awake F)) H') := by
  have g_is_met := ok_is_met (P := P) (w := w) (base := base) T
  refine md0 T.d_Floor_first_awake T.l_Floor T.m_Floor_first_awake sc_Floor_first_awake (fun _ _ _ _ _ _ us hl => match us, hl with | [_], _ => rfl) (fun vs H Q E h => ?_) (fun cdv A outer s H vs Q E hr h => ?_)
  · obtain ⟨p, F, rfl, _⟩ := h
    rfl
  · obtain ⟨p, F, rfl, ⟨dx, lb, ls, la, hF⟩, q⟩ := h
    refine ⟨_, pss_cons (ps_for PassesOwn.never rfl (pi_enum (by rfl) T.b_enumerate (pa_cons (pe_fld (pv 0) rfl) pa_nil)) (pg_tup (by rfl) (pgs_cons (pg_name (i := 1) sc_Floor_first_awake.nd rfl (Or.inl rfl)) (pgs_cons (pg_name (i := 2) sc_Floor_first_awake.nd rfl (Or.inl rfl)) pgs_nil)))
        (pss_one (ps_if (pt_val (cg g_is_met (hr.mono (by decide)) (pa_cons (pe_ix ix_tup (pe_ix ix_tup (pv 2) pe_int (fun _ _ => rfl)) pe_int (fun _ _ => rfl)) (pa_cons (pe_ix ix_tup (pv 2) pe_int (fun _ _ => rfl)) (pa_cons (pe_fld (pv 0) rfl) pa_nil))))) (pss_one (ps_ret (pv 1))) pss_nil)))
      (pss_one (ps_ret (pe_un un_neg pe_int))), ?_⟩
    obtain ⟨va, hva, haT⟩ := id hF.a
    have la1 := haT.length
    walk_at "rd"
    refine ⟨p, _, dx, _, _, rfl, hF.o, T.l_Floor, T.n_asleep, ff_asleep _ _ _ _ _ _, ?_⟩
    walk_at "rd"
    refine ⟨la, va, rfl, SqL.of hva, for_it walk_enum (fun i σ H' => Same H H' ∧ (∃ v1 v2, σ = [some (.ref p), v1, v2]) ∧ ∀ (j : Nat) z, j < i → F.asleep[j]? = some z → isMet z.ord.buy z.trig F.last = false) ⟨Same.refl _, ⟨_, _, rfl⟩, fun j z h => absurd h (Nat.not_lt_zero _)⟩ (fun i σ H' _ h => SqL.of (h.1 _ _ hva)) (fun i x σ H1 H2 hi h y => ?_) fun σ H' h => ?_⟩
    · obtain ⟨s, ⟨v1, v2, rfl⟩, hn⟩ := h
      obtain ⟨t, x1, x2, rfl, ht, rfl, e1, e2⟩ := y
      cases Option.some.inj e1
      obtain ⟨z, hz1, a1, b1, rfl, h1, h2⟩ := haT.get e2
      have u := same_upd (o := .tup [.int (i : Nat), .ref a1]) ht
      have su := s.trans u
      have h1' := su _ _ h1
      have h2' := su _ _ h2
      refine ⟨t, _, rfl, SqT.of upd_same, rfl, ?_⟩
      walk_at "rd"
      refine ⟨p, _, dx, _, _, rfl, su _ _ hF.o, T.l_Floor, T.n_last, ff_last _ _ _ _ _ _, ?_⟩
      walk_at "rd"
      refine ⟨z.ord.buy, z.trig, F.last, rfl, ?_⟩
      walk_at "rd"
      cases hm : isMet z.ord.buy z.trig F.last with
      | true =>
        refine iteY rfl ?_
        walk_at "rd"
        have e : awake F = (i : Int) := by
          unfold awake
          rw [firstMet_some hn hz1 hm]
        rw [e] at q
        exact q _ su
      | false =>
        refine iteN rfl ⟨su, ⟨_, _, rfl⟩, fun j y hj hy => ?_⟩
        by_cases c : j = i
        · subst c
          rw [hz1] at hy
          cases Option.some.inj hy
          exact hm
        · exact hn j y (by omega) hy
    · obtain ⟨s, ⟨v1, v2, rfl⟩, hn⟩ := h
      walk_at "rd"
      have e : awake F = -1 := by
        unfold awake
        rw [firstMet_none fun j z hz => hn j z (by rw [la1]; exact (List.getElem?_eq_some_iff.mp hz).1) hz]
      rw [e] at q
      exact q _ s
end
end BB
set_option linter.all false
/-! M3: what the floor keeps: orders well made, lines in order, no name twice. -/
namespace BB
open PySem (Str)
structure FInv (F : Floor) : Prop where
  b : LineOk true F.buys
  s : LineOk false F.sells
  z : ∀ x ∈ F.asleep, Ok x.ord
  cnt : ∀ n, cn n F.known ≤ 1
theorem cn_known (n : Str) (F : Floor) : cn n F.known = cn n F.buys + cn n F.sells + cn n (F.asleep.map (·.ord)) := by
  unfold Floor.known
  rw [cn_append, cn_append]
theorem len_known (F : Floor) : F.known.length = F.buys.length + F.sells.length + F.asleep.length := by
  unfold Floor.known
  rw [List.length_append, List.length_append, List.length_map]
theorem FInv.line {F : Floor} (h : FInv F) (b : Bool) : LineOk b (F.line b) := by
  cases b
  · exact h.s
  · exact h.b
theorem cn_line (n : Str) (F : Floor) (b : Bool) : cn n (F.line b) ≤ cn n F.known := by
  rw [cn_known]
  cases b
  · show cn n F.sells ≤ _
    omega
  · show cn n F.buys ≤ _
    omega
theorem len_line (F : Floor) (b : Bool) : (F.line b).length ≤ F.known.length := by
  rw [len_known]
  cases b
  · show F.sells.length ≤ _
    omega
  · show F.buys.length ≤ _
    omega
theorem line_setLine (F : Floor) (b : Bool) (l : List Ord) : (F.setLine b l).line b = l := by cases b <;> rfl
theorem line_setLine_ne (F : Floor) (b : Bool) (l : List Ord) : (F.setLine b l).line (!b) = F.line (!b) := by cases b <;> rfl
theorem line_setLine_ne' (F : Floor) (b : Bool) (l : List Ord) : (F.setLine (!b) l).line b = F.line b := by cases b <;> rfl
theorem setLine_z (F : Floor) (b : Bool) (l : List Ord) : (F.setLine b l).asleep = F.asleep := by cases b <;> rfl
theorem setLine_phase (F : Floor) (b : Bool) (l : List Ord) : (F.setLine b l).phase = F.phase := by cases b <;> rfl
theorem setLine_last (F : Floor) (b : Bool) (l : List Ord) : (F.setLine b l).last = F.last := by cases b <;> rfl
theorem setLine_leap (F : Floor) (b : Bool) (l : List Ord) : (F.setLine b l).leap = F.leap := by cases b <;> rfl
theorem cn_both (n : Str) (F : Floor) (b : Bool) : cn n F.known = cn n (F.line b) + cn n (F.line (!b)) + cn n (F.asleep.map (·.ord)) := by
  rw [cn_known]
  cases b
  · show _ = cn n F.sells + cn n F.buys + _
    omega
  · rfl
theorem len_both (F : Floor) (b : Bool) : F.known.length = (F.line b).length + (F.line (!b)).length + F.asleep.length := by
  rw [len_known]
  cases b
  · show _ = F.sells.length + F.buys.length + _
    omega
  · rfl
theorem FInv.mk2 {F : Floor} (b : Bool) (h1 : LineOk b (F.line b)) (h2 : LineOk (!b) (F.line (!b))) (h3 : ∀ x ∈ F.asleep, Ok x.ord) (h4 : ∀ n, cn n F.known ≤ 1) : FInv F := by
  cases b
  · exact ⟨h2, h1, h3, h4⟩
  · exact ⟨h1, h2, h3, h4⟩
/-- what coming in does to the lines -/
structure Came (F : Floor) (o : Ord) (F' : Floor) : Prop where
  inv : FInv F'
  cnt : ∀ n, cn n F'.known ≤ cn n F.known + if o.name = n then 1 else 0
  len : F'.known.length ≤ F.known.length + 1
  z : F'.asleep = F.asleep
  lp : F'.leap = F.leap
structure EntEnd (k : Kd) (o : Ord) (os : List Ord) (e : Entd) : Prop where
  ok : LineOk (!o.buy) e.line
  cnt : ∀ n, cn n e.line ≤ cn n os
  len : e.line.length ≤ os.length
  stp : e.steps.length ≤ potL os + 2
  rest : ∀ r, e.rest = some r → Ok r ∧ r.name = o.name ∧ r.buy = o.buy ∧ r.price = o.price
theorem entered_end {k : Kd} {o : Ord} {os : List Ord} {last leap : Int} (ho : Ok o) (h : LineOk (!o.buy) os) : EntEnd k o os (entered k o os last leap) := by
  have h0 : 0 ≤ o.left := by
    have := ho.s1
    have := ho.sl
    omega
  have me := met_end (o := o) (last := last) (leap := leap) h h0
  have hs := me.stp
  unfold entered
  split
  · dsimp only
    split
    · rename_i hc
      refine ⟨me.ok, me.cnt, me.len, Nat.le_succ_of_le hs, fun r e => ?_⟩
      cases Option.some.inj e
      exact ⟨fresh_ok ho (by omega) me.le, rfl, rfl, rfl⟩
    · split
      · refine ⟨me.ok, me.cnt, me.len, ?_, fun r e => by cases e⟩
        rw [List.length_append]
        show _ + 1 ≤ _
        omega
      · exact ⟨me.ok, me.cnt, me.len, Nat.le_succ_of_le hs, fun r e => by cases e⟩
  · exact ⟨h, fun _ => Nat.le_refl _, Nat.le_refl _, Nat.le_add_left 1 (potL os + 1), fun r e => by cases e⟩
theorem came_in {F : Floor} {o : Ord} (hF : FInv F) (ho : Ok o) (hn : cn o.name F.known = 0) (l : List Ord) (e : Entd) (E : EntEnd .limit o (F.line (!o.buy)) e ∨ EntEnd .now o (F.line (!o.buy)) e ∨ EntEnd .whole o (F.line (!o.buy)) e ∨ EntEnd .quiet o (F.line (!o.buy)) e) : Came F o (F.behind o e) := by
  obtain ⟨q1, q2, q3, q4⟩ : LineOk (!o.buy) e.line ∧ (∀ n, cn n e.line ≤ cn n (F.line (!o.buy))) ∧ e.line.length ≤ (F.line (!o.buy)).length ∧ ∀ r, e.rest = some r → Ok r ∧ r.name = o.name ∧ r.buy = o.buy ∧ r.price = o.price := by
    rcases E with E | E | E | E <;> exact ⟨E.ok, E.cnt, E.len, E.rest⟩
  have key : ∀ (F2 : Floor), F2.line (!o.buy) = e.line → F2.asleep = F.asleep → F2.leap = F.leap → LineOk o.buy (F2.line o.buy) → (∀ n, cn n (F2.line o.buy) ≤ cn n (F.line o.buy) + if o.name = n then 1 else 0) → (F2.line o.buy).length ≤ (F.line o.buy).length + 1 → Came F o F2 := by
    intro F2 e1 e2 e3 e4 e5 e6
    have c : ∀ n, cn n F2.known ≤ cn n F.known + if o.name = n then 1 else 0 := fun n => by
      rw [cn_both n F2 o.buy, cn_both n F o.buy, e1, e2]
      have := q2 n
      have := e5 n
      omega
    refine ⟨FInv.mk2 o.buy e4 (by rw [e1]; exact q1) (by rw [e2]; exact hF.z) (fun n => ?_), c, ?_, e2, e3⟩
    · have h1 := c n
      by_cases z : o.name = n
      · rw [if_pos z] at h1
        rw [z] at hn
        omega
      · rw [if_neg z] at h1
        have := hF.cnt n
        omega
    · rw [len_both F2 o.buy, len_both F o.buy, e1, e2]
      omega
  have base : ∀ F2 : Floor, F2.line (!o.buy) = e.line → F2.line o.buy = F.line o.buy → F2.asleep = F.asleep → F2.leap = F.leap → Came F o F2 := fun F2 e1 e2 e3 e4 =>
    key F2 e1 e3 e4 (by rw [e2]; exact hF.line _) (fun n => by rw [e2]; omega) (by rw [e2]; omega)
  have hrest : ∀ (F2 : Floor) (r : Ord), e.rest = some r → F2.line (!o.buy) = e.line → F2.line o.buy = joined (F.line o.buy) r → F2.asleep = F.asleep → F2.leap = F.leap → Came F o F2 := fun F2 r er e1 e2 e3 e4 => by
    obtain ⟨r1, r2, r3, r4⟩ := q4 r er
    refine key F2 e1 e3 e4 (by rw [e2]; exact joined_ok (hF.line _) r1 r3) (fun n => ?_) (by rw [e2, joined_len]; exact Nat.le_refl _)
    rw [e2, cn_joined, r2]
    exact Nat.le_refl _
  unfold Floor.behind
  dsimp only
  cases er : e.rest with
  | none =>
    dsimp only
    split
    · refine base _ ?_ ?_ ?_ ?_ <;> cases hb : o.buy <;> rfl
    · refine base _ ?_ ?_ ?_ ?_ <;> cases hb : o.buy <;> rfl
  | some r =>
    dsimp only
    split
    · refine hrest _ r er ?_ ?_ ?_ ?_ <;> cases hb : o.buy <;> rfl
    · refine hrest _ r er ?_ ?_ ?_ ?_ <;> cases hb : o.buy <;> rfl
theorem comeIn_came {F : Floor} {o : Ord} {k : Kd} (hF : FInv F) (ho : Ok o) (hn : cn o.name F.known = 0) : Came F o (comeIn k o F).2 := by
  unfold comeIn
  split
  · refine came_in hF ho hn [] _ ?_
    cases k
    · exact .inl (entered_end ho (hF.line _))
    · exact .inr (.inl (entered_end ho (hF.line _)))
    · exact .inr (.inr (.inl (entered_end ho (hF.line _))))
    · exact .inr (.inr (.inr (entered_end ho (hF.line _))))
  · have c : ∀ n, cn n (F.setLine o.buy (joined (F.line o.buy) o)).known = cn n F.known + if o.name = n then 1 else 0 := fun n => by
      rw [cn_both n _ o.buy, cn_both n F o.buy, line_setLine, line_setLine_ne, setLine_z, cn_joined]
      omega
    refine ⟨FInv.mk2 o.buy ?_ ?_ (by rw [setLine_z]; exact hF.z) (fun n => ?_), fun n => Nat.le_of_eq (c n), ?_, setLine_z _ _ _, setLine_leap _ _ _⟩
    · rw [line_setLine]
      exact joined_ok (hF.line _) ho rfl
    · rw [line_setLine_ne]
      exact hF.line _
    · show cn n (F.setLine o.buy (joined (F.line o.buy) o)).known ≤ 1
      rw [c n]
      by_cases z : o.name = n
      · rw [if_pos z]
        rw [z] at hn
        omega
      · rw [if_neg z]
        have := hF.cnt n
        omega
    · show (F.setLine o.buy (joined (F.line o.buy) o)).known.length ≤ _
      rw [len_both _ o.buy, len_both F o.buy, line_setLine, line_setLine_ne, setLine_z, joined_len]
      omega
theorem comeIn_len {F : Floor} {o : Ord} {k : Kd} (hF : FInv F) (ho : Ok o) : (comeIn k o F).1.length ≤ 17 * F.known.length + 5 := by
  unfold comeIn
  split
  · have E := entered_end (k := k) (last := F.last) (leap := F.leap) ho (hF.line (!o.buy))
    have h1 := potL_le (hF.line (!o.buy)).ok
    have h2 := len_line F (!o.buy)
    have h3 := E.stp
    dsimp only
    rw [List.length_append, List.length_append, List.length_map]
    have r1 : (restOf (entered k o (F.line (!o.buy)) F.last F.leap)).length ≤ 1 := by
      unfold restOf
      split
      · exact Nat.le_refl _
      · exact Nat.zero_le _
    have r2 : (haltOf (entered k o (F.line (!o.buy)) F.last F.leap)).length ≤ 1 := by
      unfold haltOf
      split
      · exact Nat.le_refl _
      · exact Nat.zero_le _
    omega
  · show 1 ≤ _
    omega
/-- a sleeper taken out -/
theorem firstMet_mem {last : Int} : ∀ {l : List Slp} {k : Nat} {z : Slp}, firstMet last l = some (k, z) → l = l.take k ++ z :: l.drop (k + 1)
  | [], k, z, h => by cases h
  | x :: r, k, z, h => by
    unfold firstMet at h
    split at h
    · cases h
      rfl
    · cases q : firstMet last r with
      | none =>
        rw [q] at h
        cases h
      | some p =>
        rw [q] at h
        obtain ⟨k', z'⟩ := p
        have e := Option.some.inj h
        cases e
        have ih := firstMet_mem q
        show x :: r = x :: (r.take k' ++ z' :: r.drop (k' + 1))
        rw [← ih]
def Floor.wake (F : Floor) (k : Nat) : Floor := { F with asleep := F.asleep.take k ++ F.asleep.drop (k + 1) }
theorem wake_inv {F : Floor} {k : Nat} {z : Slp} (hF : FInv F) (h : firstMet F.last F.asleep = some (k, z)) :
    FInv (F.wake k) ∧ Ok z.ord ∧ cn z.ord.name (F.wake k).known = 0 ∧ (F.wake k).known.length + 1 = F.known.length ∧ ∀ n, cn n (F.wake k).known + (if z.ord.name = n then 1 else 0) = cn n F.known := by
  have e := firstMet_mem h
  have c : ∀ n, cn n (F.wake k).known + (if z.ord.name = n then 1 else 0) = cn n F.known := fun n => by
    rw [cn_known, cn_known]
    show cn n F.buys + cn n F.sells + cn n ((F.asleep.take k ++ F.asleep.drop (k + 1)).map (·.ord)) + _ = cn n F.buys + cn n F.sells + cn n (F.asleep.map (·.ord))
    have e2 : cn n (F.asleep.map (·.ord)) = cn n ((F.asleep.take k ++ F.asleep.drop (k + 1)).map (·.ord)) + (if z.ord.name = n then 1 else 0) := by
      conv => lhs; rw [e]
      rw [List.map_append, List.map_append, List.map_cons, cn_append, cn_append, cn_cons]
      omega
    omega
  refine ⟨⟨hF.b, hF.s, fun x hx => ?_, fun n => ?_⟩, ?_, ?_, ?_, c⟩
  · refine hF.z x ?_
    rw [e]
    rcases List.mem_append.mp hx with q | q
    · exact List.mem_append_left _ q
    · exact List.mem_append_right _ (List.mem_cons_of_mem _ q)
  · have := c n
    have := hF.cnt n
    omega
  · refine hF.z z ?_
    rw [e]
    exact List.mem_append_right _ List.mem_cons_self
  · have h1 := c z.ord.name
    have h2 := hF.cnt z.ord.name
    rw [if_pos rfl] at h1
    omega
  · rw [len_known, len_known]
    show F.buys.length + F.sells.length + (F.asleep.take k ++ F.asleep.drop (k + 1)).length + 1 = F.buys.length + F.sells.length + F.asleep.length
    have e2 : F.asleep.length = (F.asleep.take k ++ F.asleep.drop (k + 1)).length + 1 := by
      conv => lhs; rw [e]
      rw [List.length_append, List.length_append, List.length_cons]
      omega
    omega
theorem wokenF_succ (n : Nat) (F : Floor) : wokenF (n + 1) F = if F.phase = .opn then
      match firstMet F.last F.asleep with
      | none => ([], F)
      | some (k, s) => (.wake s.ord.name :: ((comeIn s.kd s.ord (F.wake k)).1 ++ (wokenF n (comeIn s.kd s.ord (F.wake k)).2).1), (wokenF n (comeIn s.kd s.ord (F.wake k)).2).2)
    else ([], F) := rfl
theorem lay_inv {F : Floor} {w : Kd} {o : Ord} {t : Int} (hF : FInv F) (ho : Ok o) (hn : cn o.name F.known = 0) : FInv { F with asleep := F.asleep ++ [⟨w, o, t⟩] } ∧ ({ F with asleep := F.asleep ++ [⟨w, o, t⟩] } : Floor).known.length = F.known.length + 1 := by
  have c : ∀ n, cn n ({ F with asleep := F.asleep ++ [⟨w, o, t⟩] } : Floor).known = cn n F.known + if o.name = n then 1 else 0 := fun n => by
    rw [cn_known, cn_known]
    show cn n F.buys + cn n F.sells + cn n ((F.asleep ++ ([⟨w, o, t⟩] : List Slp)).map (·.ord)) = _
    rw [List.map_append, cn_append]
    show _ + (_ + cn n [o]) = _
    rw [cn_cons, cn_nil]
    omega
  refine ⟨⟨hF.b, hF.s, fun x hx => ?_, fun n => ?_⟩, ?_⟩
  · rcases List.mem_append.mp hx with h | h
    · exact hF.z x h
    · cases List.mem_singleton.mp h
      exact ho
  · rw [c n]
    by_cases z : o.name = n
    · rw [if_pos z]
      rw [z] at hn
      omega
    · rw [if_neg z]
      have := hF.cnt n
      omega
  · rw [len_known, len_known]
    show F.buys.length + F.sells.length + (F.asleep ++ ([⟨w, o, t⟩] : List Slp)).length = _
    rw [List.length_append]
    show _ + (_ + 1) = _
    omega
end BB
set_option Elab.async false
set_option linter.all false
set_option maxRecDepth 100000
set_option maxHeartbeats 4000000
/-! W9: come_in. -/
namespace BB
open PySem PySem.Spec PyProof.Rows L2
local macro_rules | `(tactic| walk_at "rd") => `(tactic| repeat (first | refine ⟨_, rfl, ?_⟩ | refine ⟨_, _, rfl, rfl, ?_⟩ | refine ⟨_, _, rfl, ?_⟩ | refine ⟨rfl, ?_⟩ | refine ⟨_, _, _, _, rfl, rfl, SqT.of (by assumption), rfl, ?_⟩ | refine ⟨Nat.le_of_ble_eq_true rfl, ?_⟩))
theorem lastOf_snoc (last : Int) (s : Step) : ∀ l : List Step, lastOf last (l ++ [s]) = match s with
    | .trade _ p _ => p
    | _ => lastOf last l
  | [] => by cases s <;> rfl
  | x :: t => by
    cases x with
    | trade n p a =>
      show lastOf p (t ++ [s]) = _
      rw [lastOf_snoc p s t]
      cases s <;> rfl
    | shun n l =>
      show lastOf last (t ++ [s]) = _
      rw [lastOf_snoc last s t]
      cases s <;> rfl
    | gone n l =>
      show lastOf last (t ++ [s]) = _
      rw [lastOf_snoc last s t]
      cases s <;> rfl
/-- S.append(v), v there -/
theorem LstAt.snoc {H : Hp} {S : Addr} {vs x : List V} {xs : List (List V)} {v : V} (hS : H S = some (.lst vs)) (ht : Tups H vs xs) (hv : TupAt H v x) : LstAt (upd H S (.lst (vs ++ [v]))) S (xs ++ [x]) := by
  have k : Kt H (upd H S (.lst (vs ++ [v]))) := Kt.upd fun ys e => by
    rw [hS] at e
    cases e
  exact ⟨_, upd_same, (ht.kt k).append (.one (hv.kt k))⟩
theorem FlAt.nep {K : PySem.W.Frag} {H : Hp} {p l : Addr} {F : Floor} (h : FlAt K H p F) (n : H l = none) : l ≠ p := fun e => by
  obtain ⟨dx, lb, ls, la, h⟩ := h
  rw [e, h.o] at n
  cases n
/-- a list that is none of the floor's is changed -/
theorem FlIn.put {K : PySem.W.Frag} {H : Hp} {p dx lb ls la S : Addr} {F : Floor} {vs ws : List V} (h : FlIn K H p dx lb ls la F) (hS : H S = some (.lst vs)) (n1 : lb ≠ S) (n2 : ls ≠ S) (n3 : la ≠ S) : FlIn K (upd H S (.lst ws)) p dx lb ls la F := by
  have k : Kt H (upd H S (.lst ws)) := Kt.upd fun ys e => by rw [hS] at e; cases e
  obtain ⟨o, ⟨bv, b1, b2⟩, ⟨sv, s1, s2⟩, ⟨av, a1, a2⟩⟩ := h
  refine ⟨by rw [upd_ne (fun e => by rw [← e, o] at hS; cases hS)]; exact o, ⟨bv, by rw [upd_ne n1]; exact b1, b2.kt k⟩, ⟨sv, by rw [upd_ne n2]; exact s1, s2.kt k⟩, ⟨av, by rw [upd_ne n3]; exact a1, a2.kt k⟩⟩
theorem FlIn.free {K : PySem.W.Frag} {H : Hp} {p dx lb ls la S : Addr} {F : Floor} (h : FlIn K H p dx lb ls la F) (hS : H S = none) : lb ≠ S ∧ ls ≠ S ∧ la ≠ S := by
  obtain ⟨_, ⟨_, h1, _⟩, ⟨_, h2, _⟩, ⟨_, h3, _⟩⟩ := h
  refine ⟨fun e => ?_, fun e => ?_, fun e => ?_⟩
  · rw [e, hS] at h1; cases h1
  · rw [e, hS] at h2; cases h2
  · rw [e, hS] at h3; cases h3
/-- the list of old, or a new one -/
def Nw (H : Hp) (a b : Addr) : Prop := b = a ∨ H b = none
section
variable {P : Program} {w : World} {K : PySem.W.Frag} {mg : Str → Option Value} {base : Heap}
theorem ok_Floor_come_in (T : Txt K mg) : Md P w K mg base CX0 (8) (He.ga K "Floor") "come_in" ["self", "word", "order"] (fun vs H Q E => ∃ (p a : Addr) (k : Kd) (o : Ord) (F : Floor) (dx lb ls la : Addr), vs = [.ref p, .str k.s, .ref a] ∧ FlIn K H p dx lb ls la F ∧ H a = some (.tup o.v) ∧ FInv F ∧ Ok o ∧ cn o.name F.known = 0 ∧ F.known.length ≤ 200 ∧ ∀ l H' lb' ls', But p H H' → H l = none → lb' ≠ l → ls' ≠ l → la ≠ l → Nw H lb lb' → Nw H ls ls' → FlIn K H' p dx lb' ls' la (comeIn k o F).2 → LstAt H' l ((comeIn k o F).1.map Fact.v) → Q (.ref l) H') := by
  have g_phase_of := ok_phase_of (P := P) (w := w) (base := base) T
  have m_set_line := ok_Floor_set_line (P := P) (w := w) (base := base) T
  have g_joined := ok_joined (P := P) (w := w) (base := base) T
  have m_line_of := ok_Floor_line_of (P := P) (w := w) (base := base) T
  have g_other_side := ok_other_side (P := P) (w := w) (base := base) T
  have g_entered := ok_entered (P := P) (w := w) (base := base) T
  have g_told := ok_told (P := P) (w := w) (base := base) T
  have m_meets := fun p : Ph => ok_meets (P := P) (w := w) (base := base) T p
  refine md0 T.d_Floor_come_in T.l_Floor T.m_Floor_come_in sc_Floor_come_in (fun _ _ _ _ _ _ us hl => match us, hl with | [_, _, _], _ => rfl) (fun vs H Q E h => ?_) (fun cdv A outer s H vs Q E hr h => ?_)
  · obtain ⟨p, a, k, o, F, dx, lb, ls, la, rfl, _⟩ := h
    rfl
  · obtain ⟨p, a, k, o, F, dx, lb, ls, la, rfl, hF, ha, hI, hO, hcn, hz, q⟩ := h
    refine ⟨_, pss_cons (ps_set (i := 3) sc_Floor_come_in.nd rfl (Or.inl rfl) (pe_ix ix_tup (pv 2) pe_int (fun _ _ => rfl)))
      (pss_cons (ps_if (pt_not (pt_val (cm0 (m_meets F.phase) (hr.mono (by decide)) (cg g_phase_of (hr.mono (by decide)) (pa_cons (pe_fld (pv 0) rfl) pa_nil))))) (pss_cons (ps_expr (cm m_set_line (hr.mono (by decide)) (pv 0) (pa_cons (pv 3) (pa_cons (cg g_joined (hr.mono (by decide)) (pa_cons (cm m_line_of (hr.mono (by decide)) (pv 0) (pa_cons (pv 3) pa_nil)) (pa_cons (pv 2) pa_nil))) pa_nil))))
      (pss_one (ps_ret (pe_lst (pa_cons (pe_tup (pa_cons pe_str (pa_cons (pe_ix ix_tup (pv 2) pe_int (fun _ _ => rfl)) (pa_cons (pe_ix ix_tup (pv 2) pe_int (fun _ _ => rfl)) pa_nil)))) pa_nil))))) pss_nil)
      (pss_cons (ps_set (i := 4) sc_Floor_come_in.nd rfl (Or.inl rfl) (cg g_other_side (hr.mono (by decide)) (pa_cons (pv 3) pa_nil)))
      (pss_cons (ps_asg (cg g_entered (hr.mono (by decide)) (pa_cons (pv 1) (pa_cons (pv 2) (pa_cons (cm m_line_of (hr.mono (by decide)) (pv 0) (pa_cons (pv 4) pa_nil)) (pa_cons (pe_fld (pv 0) rfl) (pa_cons (pe_fld (pv 0) rfl) pa_nil)))))) (pg_tup (by rfl) (pgs_cons (pg_name (i := 5) sc_Floor_come_in.nd rfl (Or.inl rfl)) (pgs_cons (pg_name (i := 6) sc_Floor_come_in.nd rfl (Or.inl rfl)) (pgs_cons (pg_name (i := 7) sc_Floor_come_in.nd rfl (Or.inl rfl)) (pgs_cons (pg_name (i := 8) sc_Floor_come_in.nd rfl (Or.inl rfl)) pgs_nil))))))
      (pss_cons (ps_expr (cm m_set_line (hr.mono (by decide)) (pv 0) (pa_cons (pv 4) (pa_cons (pv 6) pa_nil))))
      (pss_cons (ps_set (i := 9) sc_Floor_come_in.nd rfl (Or.inl rfl) (pe_lst pa_nil))
      (pss_cons (ps_for PassesOwn.never rfl (pi_list (pv 5)) (pg_name (i := 10) sc_Floor_come_in.nd rfl (Or.inl rfl))
        (pss_cons (ps_expr (pe_bm PySem.F.plainAttrs_list PySem.F.slot_list_append PySem.F.type_list_append mt_append (pv 9) (pa_cons (cg g_told (hr.mono (by decide)) (pa_cons (pv 2) (pa_cons (pv 10) pa_nil))) pa_nil)))
      (pss_one (ps_if (pt_cmpR op_eq (pe_ix ix_tup (pv 10) pe_int (fun _ _ => rfl)) pe_str (nomark _)) (pss_one (ps_fld (pv 0) (pe_ix ix_tup (pv 10) pe_int (fun _ _ => rfl)) rfl)) pss_nil))))
      (pss_cons (ps_if (pt_cmpR op_notN (pv 7) pe_non (nomark _)) (pss_cons (ps_expr (cm m_set_line (hr.mono (by decide)) (pv 0) (pa_cons (pv 3) (pa_cons (cg g_joined (hr.mono (by decide)) (pa_cons (cm m_line_of (hr.mono (by decide)) (pv 0) (pa_cons (pv 3) pa_nil)) (pa_cons (pv 7) pa_nil))) pa_nil))))
      (pss_one (ps_expr (pe_bm PySem.F.plainAttrs_list PySem.F.slot_list_append PySem.F.type_list_append mt_append (pv 9) (pa_cons (pe_tup (pa_cons pe_str (pa_cons (pe_ix ix_tup (pv 7) pe_int (fun _ _ => rfl)) (pa_cons (pe_ix ix_tup (pv 7) pe_int (fun _ _ => rfl)) pa_nil)))) pa_nil))))) pss_nil)
      (pss_cons (ps_if (pt_val (pv 8)) (pss_cons (ps_fld (pv 0) pe_str rfl)
      (pss_one (ps_expr (pe_bm PySem.F.plainAttrs_list PySem.F.slot_list_append PySem.F.type_list_append mt_append (pv 9) (pa_cons (pe_tup (pa_cons pe_str (pa_cons pe_str pa_nil))) pa_nil))))) pss_nil)
      (pss_one (ps_ret (pv 9))))))))))), ?_⟩
    have hap : a ≠ p := fun e => by rw [e, hF.o] at ha; cases ha
    have hpn : ∀ l, H l = none → l ≠ p := fun l h e => by rw [e, hF.o] at h; cases h
    walk_at "rd"
    refine ⟨p, _, dx, _, _, rfl, hF.o, T.l_Floor, T.n_phase, ff_phase _ _ _ _ _ _, ?_⟩
    walk_at "rd"
    refine fun x1 dx1 H1 s1 hx0 hx1 => ?_
    walk_at "rd"
    refine ⟨x1, _, _, rfl, hx1, rfl, ?_⟩
    walk_at "rd"
    have hF1 := hF.same s1
    have ha1 := s1 _ _ ha
    by_cases hph : F.phase = .opn
    · refine iteN (by rw [decide_eq_true hph]; rfl) ?_
      have e : comeIn k o F = ((BB.entered k o (F.line (!o.buy)) F.last F.leap).steps.map (BB.told o) ++ restOf (BB.entered k o (F.line (!o.buy)) F.last F.leap) ++ haltOf (BB.entered k o (F.line (!o.buy)) F.last F.leap), F.behind o (BB.entered k o (F.line (!o.buy)) F.last F.leap)) := by
        unfold comeIn
        rw [if_pos hph]
      rw [e] at q
      have EE := entered_end (k := k) (last := F.last) (leap := F.leap) hO (hI.line (!o.buy))
      have h0 : 0 ≤ o.left := by
        have := hO.s1
        have := hO.sl
        omega
      walk_at "rd"
      refine ⟨p, _, _, rfl, hF1.o, by kernel_rfl, ?_⟩
      walk_at "rd"
      refine ⟨p, !o.buy, F, rfl, ⟨_, _, _, _, hF1⟩, fun l hl hlL => ?_⟩
      walk_at "rd"
      refine ⟨p, _, dx, _, _, rfl, hF1.o, T.l_Floor, T.n_last, ff_last _ _ _ _ _ _, ?_⟩
      walk_at "rd"
      refine ⟨p, _, dx, _, _, rfl, hF1.o, T.l_Floor, T.n_leap, ff_leap _ _ _ _ _ _, ?_⟩
      walk_at "rd"
      refine ⟨k, !o.buy, l, a, o, F.line (!o.buy), F.last, F.leap, rfl, ha1, hlL, hI.line _, h0, fun n => Nat.le_trans (cn_line n F _) (hI.cnt n), ?_, fun t ls2 ll2 rv H2 s2 n1 n2 e1 e2 e3 e4 => ?_⟩
      · have := len_line F (!o.buy)
        omega
      generalize hE : BB.entered k o (F.line (!o.buy)) F.last F.leap = E at *
      walk_at "rd"
      refine ⟨t, _, rfl, SqT.of e1, rfl, ?_⟩
      walk_at "rd"
      refine ⟨p, _, _, rfl, (s1.trans s2) _ _ hF.o, by kernel_rfl, ?_⟩
      walk_at "rd"
      refine ⟨p, ll2, !o.buy, F, E.line, _, _, _, _, rfl, hF1.same s2, e3, fun H3 b3 hI3 => ?_⟩
      have hF3 : FlAt K H3 p _ := ⟨_, _, _, _, hI3⟩
      obtain ⟨sv, hsv, hsT⟩ := id e2
      have hslen := Tups.length hsT
      rw [List.length_map] at hslen
      have hls2p : ls2 ≠ p := e2.ne ((s1.trans s2) _ _ hF.o)
      have k3 : Kt H2 H3 := b3.kt ((s1.trans s2) _ _ hF.o)
      have hsv3 := b3 _ _ hsv hls2p
      have ha3 := k3 _ _ (s2 _ _ ha1)
      walk_at "rd"
      intro S hS
      have u := same_upd (o := .lst []) hS
      have hSp := hF3.nep hS
      have bS := ((But.of (p := p) (s1.trans s2)).trans b3).trans (But.of u)
      have hSH : H S = none := ((But.of (p := p) (s1.trans s2)).trans b3).free hF.o hS hSp
      have hSl : S ≠ ls2 := fun z => by rw [← z, hS] at hsv3; cases hsv3
      have hbig : E.steps.length ≤ 20000 := by
        have h1 := potL_le (hI.line (!o.buy)).ok
        have h2 := len_line F (!o.buy)
        have h3 := EE.stp
        omega
      have u4 : ∀ (ht : Tups (upd H3 S (.lst [])) sv (E.steps.map Step.v)), True := fun _ => trivial
      have hsT3 := Tups.kt (k3.trans (Kt.same u)) hsT
      have e4' := RestAt.kt (k3.trans (Kt.same u)) e4
      have ha4 := u _ _ ha3
      walk_at "rd"
      have w3 : Nw H lb (if (!o.buy) = true then ll2 else lb) ∧ Nw H ls (if (!o.buy) = true then ls else ll2) := by
        cases o.buy
        · exact ⟨.inr (s1.free n2), .inl rfl⟩
        · exact ⟨.inl rfl, .inr (s1.free n2)⟩
      generalize (if (!o.buy) = true then ll2 else lb) = lb3 at hI3 w3
      generalize (if (!o.buy) = true then ls else ll2) = lz3 at hI3 w3
      obtain ⟨nb3, nz3, na3⟩ := hI3.free hS
      refine ⟨⟨sv, SqL.of (u _ _ hsv3)⟩, for_list (xs := sv) (fun i σ H' => ∃ v10, σ = [some (.ref p), some (.str k.s), some (.ref a), some (.str (sd o.buy)), some (.str (sd !o.buy)), some (.ref ls2), some (.ref ll2), some rv, some (.bl E.halted), some (.ref S), v10] ∧
        But p H H' ∧ Kt (upd H3 S (.lst [])) H' ∧ H' ls2 = some (.lst sv) ∧ FlIn K H' p dx lb3 lz3 la { F.setLine (!o.buy) E.line with last := lastOf F.last (E.steps.take i) } ∧ LstAt H' S ((E.steps.take i).map fun s => (BB.told o s).v))
        ⟨_, rfl, bS, Kt.refl _, u _ _ hsv3, ?_, ⟨[], upd_same, .nil⟩⟩ (fun i σ H' _ h => by obtain ⟨_, _, _, _, h, _⟩ := h; exact SqL.of h) (fun i x σ H' hx h => ?_) fun σ H' h => ?_⟩
      · have z := hI3.same u
        rw [show ({ F.setLine (!o.buy) E.line with last := lastOf F.last (E.steps.take 0) } : Floor) = F.setLine (!o.buy) E.line from by cases o.buy <;> rfl]
        exact z
      · obtain ⟨v10, rfl, hb, hk, hl, hf, hs⟩ := h
        obtain ⟨z, hz1, c, rfl, hc⟩ := hsT3.get hx
        rw [List.getElem?_map] at hz1
        obtain ⟨st, hst, rfl⟩ := Option.map_eq_some_iff.mp hz1
        obtain ⟨fv, hfv, hfT⟩ := id hs
        have hflen := Tups.length hfT
        rw [List.length_map, List.length_take] at hflen
        walk_at "rd"
        refine ⟨.inl ⟨rfl, _, SqL.of hfv⟩, ?_⟩
        walk_at "rd"
        refine ⟨a, c, o, st, rfl, hk _ _ ha4, hk _ _ hc, fun d H5 s5 hd => ?_⟩
        walk_at "rd"
        refine ⟨S, _, _, rfl, rfl, s5 _ _ hfv, Nat.lt_of_lt_of_le (m := 20001) (by omega) (by decide), ?_⟩
        have k6 : Kt H' (upd H5 S (.lst (fv ++ [.ref d]))) := (Kt.same s5).trans (Kt.upd fun ys e => by rw [s5 _ _ hfv] at e; cases e)
        have hb6 : But p H (upd H5 S (.lst (fv ++ [.ref d]))) := fun b ob e n => by
          rw [upd_ne (ne_of_none e hSH)]
          exact s5 _ _ (hb b ob e n)
        have hl6 : (upd H5 S (.lst (fv ++ [.ref d]))) ls2 = some (.lst sv) := by
          rw [upd_ne hSl.symm]
          exact s5 _ _ hl
        have hf6 := (hf.same s5).put (ws := fv ++ [.ref d]) (s5 _ _ hfv) nb3 nz3 na3
        have hs6 : LstAt (upd H5 S (.lst (fv ++ [.ref d]))) S ((E.steps.take (i + 1)).map fun s => (BB.told o s).v) := by
          rw [take_get hst, List.map_append]
          exact LstAt.snoc (s5 _ _ hfv) (hfT.kt (Kt.same s5)) ⟨d, rfl, hd⟩
        have hc6 := k6 _ _ (hk _ _ hc)
        have hlast := lastOf_snoc F.last st (E.steps.take i)
        rw [← take_get hst] at hlast
        cases st with
        | trade n pr am =>
          have hc' : (upd H5 S (.lst (fv ++ [.ref d]))) c = some (.tup [.str "trade", .str n, .int pr, .int am]) := hc6
          walk_at "rd"
          refine ⟨p, _, dx, _, rfl, hf6.o, T.l_Floor, T.n_last, ff_len _ _ _ _ _ _, ?_⟩
          rw [fp_last]
          refine ⟨_, rfl, hb6.trans But.upd, (hk.trans k6).trans (But.upd.kt hf6.o), But.upd _ _ hl6 hls2p, ?_, hs6.but But.upd hf6.o⟩
          rw [hlast]
          exact hf6.set (F' := { F.setLine (!o.buy) E.line with last := pr }) hf6.b hf6.s hf6.a
        | shun n am =>
          have hc' : (upd H5 S (.lst (fv ++ [.ref d]))) c = some (.tup [.str "shun", .str n, .int am]) := hc6
          walk_at "rd"
          refine ⟨hb6, hk.trans k6, hl6, ?_, hs6⟩
          rw [hlast]
          exact hf6
        | gone n am =>
          have hc' : (upd H5 S (.lst (fv ++ [.ref d]))) c = some (.tup [.str "gone", .str n, .int am]) := hc6
          walk_at "rd"
          refine ⟨hb6, hk.trans k6, hl6, ?_, hs6⟩
          rw [hlast]
          exact hf6
      · obtain ⟨v10, rfl, hb, hk, hl, hf, hs⟩ := h
        rw [hslen, List.take_length] at hf hs
        walk_at "rd"
        obtain ⟨fv, hfv, hfT⟩ := id hs
        have hflen := Tups.length hfT
        rw [List.length_map] at hflen
        have hrT := e4'.kt hk
        cases hr : E.rest with
        | none =>
          rw [hr] at hrT
          cases hrT
          refine iteN rfl ?_
          obtain ⟨F9, hF9⟩ : ∃ F9, F9 = ({ F.setLine (!o.buy) E.line with last := lastOf F.last E.steps } : Floor) := ⟨_, rfl⟩
          rw [← hF9] at hf
          have hB9 : (if E.halted = true then { F9 with phase := .call } else F9) = F.behind o E := by
            unfold Floor.behind
            rw [hr, hF9]
          obtain ⟨fs9, hfs9⟩ : ∃ fs9, fs9 = E.steps.map (BB.told o) := ⟨_, rfl⟩
          have hA9 : fs9 ++ haltOf E = E.steps.map (BB.told o) ++ restOf E ++ haltOf E := by
            unfold restOf
            rw [hr, hfs9, List.append_nil]
          have hST9 : Tups H' fv (fs9.map Fact.v) := by
            rw [hfs9, List.map_map]
            exact hfT
          have hFl9 := hf
          have hSv9 := hfv
          have hb9 := hb
          have nb9 := nb3
          have nz9 := nz3
          have hfl9 := hflen
          obtain ⟨H9, hH9⟩ : ∃ H9, H9 = H' := ⟨_, rfl⟩
          rw [← hH9] at hFl9 hSv9 hb9 hST9 ⊢
          obtain ⟨lb9, hlb9⟩ : ∃ x, x = lb3 := ⟨_, rfl⟩
          obtain ⟨lz9, hlz9⟩ : ∃ x, x = lz3 := ⟨_, rfl⟩
          have w9 := w3
          rw [← hlb9] at hFl9 nb9 w9
          rw [← hlz9] at hFl9 nz9 w9
          walk_at "rd"
          cases hh : E.halted with
          | true =>
            refine iteY rfl ?_
            walk_at "rd"
            refine ⟨p, _, dx, _, rfl, hFl9.o, T.l_Floor, T.n_phase, ff_len _ _ _ _ _ _, ?_⟩
            rw [fp_phase]
            have hSx := But.upd (p := p) (o := .ins (He.ga K "Floor") dx (ff (.str (Ph.call).s) (.int F9.last) (.int F9.leap) (.ref lb9) (.ref lz9) (.ref la))) S _ hSv9 hSp
            have kx := But.upd.kt (H' := upd H9 p (.ins (He.ga K "Floor") dx (ff (.str (Ph.call).s) (.int F9.last) (.int F9.leap) (.ref lb9) (.ref lz9) (.ref la)))) hFl9.o
            have hFx := hFl9.set (F' := { F9 with phase := .call }) hFl9.b hFl9.s hFl9.a
            walk_at "rd"
            refine ⟨.inl ⟨rfl, _, SqL.of hSx⟩, ?_⟩
            walk_at "rd"
            intro g9 hg9
            have ug := same_upd (o := .tup [.str "phase", .str "call"]) hg9
            refine ⟨S, _, _, rfl, rfl, ug _ _ hSx, Nat.lt_of_lt_of_le (m := 20003) (by rw [hfl9]; omega) (by decide), ?_⟩
            walk_at "rd"
            refine q S _ _ _ ?_ hSH nb9 nz9 na3 w9.1 w9.2 ?_ ?_
            · intro b ob e n
              rw [upd_ne (ne_of_none e hSH)]
              exact ug _ _ (But.upd _ _ (hb9 b ob e n) n)
            · rw [← hB9, if_pos hh]
              exact (hFx.same ug).put (ug _ _ hSx) nb9 nz9 na3
            · rw [← hA9]
              unfold haltOf
              rw [if_pos hh, List.map_append]
              exact LstAt.snoc (ug _ _ hSx) ((hST9.kt kx).kt (Kt.same ug)) ⟨g9, rfl, upd_same⟩
          | false =>
            refine iteN rfl ?_
            walk_at "rd"
            refine q S _ _ _ hb9 hSH nb9 nz9 na3 w9.1 w9.2 ?_ ?_
            · rw [← hB9, if_neg (by rw [hh]; exact Bool.false_ne_true)]
              exact hFl9
            · rw [← hA9]
              unfold haltOf
              rw [if_neg (by rw [hh]; exact Bool.false_ne_true), List.append_nil]
              exact ⟨_, hSv9, hST9⟩
        | some r =>
          rw [hr] at hrT
          obtain ⟨c, rfl, hc⟩ := hrT
          obtain ⟨r1, r2, r3, r4⟩ := EE.rest r hr
          refine iteY rfl ?_
          obtain ⟨Fm, hFm⟩ : ∃ Fm, Fm = ({ F.setLine (!o.buy) E.line with last := lastOf F.last E.steps } : Floor) := ⟨_, rfl⟩
          rw [← hFm] at hf
          have hml : Fm.line o.buy = F.line o.buy := by
            rw [hFm]
            cases o.buy <;> rfl
          walk_at "rd"
          refine ⟨p, _, _, rfl, hf.o, by kernel_rfl, ?_⟩
          walk_at "rd"
          refine ⟨p, _, _, rfl, hf.o, by kernel_rfl, ?_⟩
          walk_at "rd"
          refine ⟨p, o.buy, Fm, rfl, ⟨_, _, _, _, hf⟩, fun l7 hl7 hlL7 => ?_⟩
          walk_at "rd"
          refine ⟨l7, c, Fm.line o.buy, r, rfl, hlL7, hc, ?_, ?_, fun l2 H7 s7 hl2 hj => ?_⟩
          · rw [hml, r2]
            exact cn_mem (Nat.le_zero.mp (by rw [← hcn]; exact cn_line _ _ _))
          · rw [hml]
            have := len_line F o.buy
            omega
          walk_at "rd"
          refine ⟨p, l2, o.buy, Fm, _, _, _, _, _, rfl, hf.same s7, hj, fun H8 b8 hI8 => ?_⟩
          have nl2 : l2 ≠ S := fun z => by rw [z, hfv] at hl2; cases hl2
          have hS8 := b8 _ _ (s7 _ _ hfv) hSp
          have k8 : Kt H' H8 := (Kt.same s7).trans (b8.kt (hf.same s7).o)
          have hc8 := k8 _ _ hc
          have hb8 : But p H H8 := (hb.trans (But.of s7)).trans b8
          walk_at "rd"
          refine ⟨.inl ⟨rfl, _, SqL.of hS8⟩, ?_⟩
          walk_at "rd"
          intro g8 hg8
          have u8 := same_upd (o := .tup [.str "rest", .str r.name, .int r.left]) hg8
          refine ⟨S, _, _, rfl, rfl, u8 _ _ hS8, Nat.lt_of_lt_of_le (m := 20003) (by rw [hflen]; omega) (by decide), ?_⟩
          have n8 : (if o.buy = true then l2 else lb3) ≠ S ∧ (if o.buy = true then lz3 else l2) ≠ S := by
            cases o.buy
            · exact ⟨nb3, nl2⟩
            · exact ⟨nl2, nz3⟩
          have hFl9 := (hI8.same u8).put (ws := fv ++ [.ref g8]) (u8 _ _ hS8) n8.1 n8.2 na3
          have nb9 := n8.1
          have nz9 := n8.2
          have w9 : Nw H lb (if o.buy = true then l2 else lb3) ∧ Nw H ls (if o.buy = true then lz3 else l2) := by
            have z : H l2 = none := hb.free hF.o hl2 (fun z => by rw [z, hf.o] at hl2; cases hl2)
            cases o.buy
            · exact ⟨w3.1, .inr z⟩
            · exact ⟨.inr z, w3.2⟩
          generalize (if o.buy = true then l2 else lb3) = lb9 at hFl9 nb9 w9
          generalize (if o.buy = true then lz3 else l2) = lz9 at hFl9 nz9 w9
          obtain ⟨F9, hF9⟩ : ∃ F9, F9 = Fm.setLine o.buy (BB.joined (Fm.line o.buy) r) := ⟨_, rfl⟩
          rw [← hF9] at hFl9
          have hB9 : (if E.halted = true then { F9 with phase := .call } else F9) = F.behind o E := by
            unfold Floor.behind
            rw [hr, hF9, hFm]
          obtain ⟨fs9, hfs9⟩ : ∃ fs9, fs9 = E.steps.map (BB.told o) ++ [.rest r.name r.left] := ⟨_, rfl⟩
          have hA9 : fs9 ++ haltOf E = E.steps.map (BB.told o) ++ restOf E ++ haltOf E := by
            unfold restOf
            rw [hr, hfs9]
          have k9 : Kt H8 (upd (upd H8 g8 (.tup [.str "rest", .str r.name, .int r.left])) S (.lst (fv ++ [.ref g8]))) := push_kt hS8 hg8
          have hST9 : Tups (upd (upd H8 g8 (.tup [.str "rest", .str r.name, .int r.left])) S (.lst (fv ++ [.ref g8]))) (fv ++ [.ref g8]) (fs9.map Fact.v) := by
            rw [hfs9, List.map_append, List.map_map]
            refine ((hfT.kt (k8.trans k9))).append (.one ⟨g8, rfl, ?_⟩)
            rw [upd_ne (fun z => by rw [← z, hg8] at hS8; cases hS8)]
            exact upd_same
          have hSv9 : (upd (upd H8 g8 (.tup [.str "rest", .str r.name, .int r.left])) S (.lst (fv ++ [.ref g8]))) S = some (.lst (fv ++ [.ref g8])) := upd_same
          have hb9 : But p H (upd (upd H8 g8 (.tup [.str "rest", .str r.name, .int r.left])) S (.lst (fv ++ [.ref g8]))) := fun b ob e n => by
            rw [upd_ne (ne_of_none e hSH)]
            exact u8 _ _ (hb8 b ob e n)
          have hfl9 : (fv ++ [V.ref g8]).length = E.steps.length + 1 := by
            rw [List.length_append, hflen]
            rfl
          obtain ⟨H9, hH9⟩ : ∃ H9, H9 = (upd (upd H8 g8 (.tup [.str "rest", .str r.name, .int r.left])) S (.lst (fv ++ [.ref g8]))) := ⟨_, rfl⟩
          have goal9 := hH9
          rw [← hH9] at hFl9 hSv9 hb9 hST9
          walk_at "rd"
          rw [← hH9]
          cases hh : E.halted with
          | true =>
            refine iteY rfl ?_
            walk_at "rd"
            refine ⟨p, _, dx, _, rfl, hFl9.o, T.l_Floor, T.n_phase, ff_len _ _ _ _ _ _, ?_⟩
            rw [fp_phase]
            have hSx := But.upd (p := p) (o := .ins (He.ga K "Floor") dx (ff (.str (Ph.call).s) (.int F9.last) (.int F9.leap) (.ref lb9) (.ref lz9) (.ref la))) S _ hSv9 hSp
            have kx := But.upd.kt (H' := upd H9 p (.ins (He.ga K "Floor") dx (ff (.str (Ph.call).s) (.int F9.last) (.int F9.leap) (.ref lb9) (.ref lz9) (.ref la)))) hFl9.o
            have hFx := hFl9.set (F' := { F9 with phase := .call }) hFl9.b hFl9.s hFl9.a
            walk_at "rd"
            refine ⟨.inl ⟨rfl, _, SqL.of hSx⟩, ?_⟩
            walk_at "rd"
            intro g9 hg9
            have ug := same_upd (o := .tup [.str "phase", .str "call"]) hg9
            refine ⟨S, _, _, rfl, rfl, ug _ _ hSx, Nat.lt_of_lt_of_le (m := 20003) (by rw [hfl9]; omega) (by decide), ?_⟩
            walk_at "rd"
            refine q S _ _ _ ?_ hSH nb9 nz9 na3 w9.1 w9.2 ?_ ?_
            · intro b ob e n
              rw [upd_ne (ne_of_none e hSH)]
              exact ug _ _ (But.upd _ _ (hb9 b ob e n) n)
            · rw [← hB9, if_pos hh]
              exact (hFx.same ug).put (ug _ _ hSx) nb9 nz9 na3
            · rw [← hA9]
              unfold haltOf
              rw [if_pos hh, List.map_append]
              exact LstAt.snoc (ug _ _ hSx) ((hST9.kt kx).kt (Kt.same ug)) ⟨g9, rfl, upd_same⟩
          | false =>
            refine iteN rfl ?_
            walk_at "rd"
            refine q S _ _ _ hb9 hSH nb9 nz9 na3 w9.1 w9.2 ?_ ?_
            · rw [← hB9, if_neg (by rw [hh]; exact Bool.false_ne_true)]
              exact hFl9
            · rw [← hA9]
              unfold haltOf
              rw [if_neg (by rw [hh]; exact Bool.false_ne_true), List.append_nil]
              exact ⟨_, hSv9, hST9⟩
    · refine iteY (by rw [decide_eq_false hph]; rfl) ?_
      have e : comeIn k o F = ([.rest o.name o.left], F.setLine o.buy (BB.joined (F.line o.buy) o)) := by
        unfold comeIn
        rw [if_neg hph]
      rw [e] at q
      walk_at "rd"
      refine ⟨p, _, _, rfl, hF1.o, by kernel_rfl, ?_⟩
      walk_at "rd"
      refine ⟨p, _, _, rfl, hF1.o, by kernel_rfl, ?_⟩
      walk_at "rd"
      refine ⟨p, o.buy, F, rfl, ⟨_, _, _, _, hF1⟩, fun l hl hlL => ?_⟩
      walk_at "rd"
      refine ⟨l, a, F.line o.buy, o, rfl, hlL, ha1, ?_, ?_, fun l2 H2 s2 hl2 hj => ?_⟩
      · exact cn_mem (Nat.le_zero.mp (by rw [← hcn]; exact cn_line _ _ _))
      · have := len_line F o.buy
        omega
      walk_at "rd"
      refine ⟨p, l2, o.buy, F, _, _, _, _, _, rfl, hF1.same s2, hj, fun H3 b3 hI3 => ?_⟩
      have hF3 : FlAt K H3 p _ := ⟨_, _, _, _, hI3⟩
      have ha3 := b3 _ _ (s2 _ _ ha1) hap
      walk_at "rd"
      intro g hg
      have u1 := same_upd (o := .tup [.str "rest", .str o.name, .int o.left]) hg
      walk_at "rd"
      intro l4 hl4
      have u2 := same_upd (o := .lst [.ref g]) hl4
      have b := ((But.of (p := p) (s1.trans s2)).trans b3).trans (But.of (u1.trans u2))
      have z2 : H l2 = none := s1.free hl2
      have w3 : Nw H lb (if o.buy = true then l2 else lb) ∧ Nw H ls (if o.buy = true then ls else l2) := by
        cases o.buy
        · exact ⟨.inl rfl, .inr z2⟩
        · exact ⟨.inr z2, .inl rfl⟩
      obtain ⟨f1, f2, f3⟩ := (hI3.same u1).free hl4
      refine q l4 _ _ _ b ?_ f1 f2 f3 w3.1 w3.2 (hI3.same (u1.trans u2)) ⟨_, upd_same, .one ⟨g, rfl, u2 _ _ upd_same⟩⟩
      exact (((But.of (p := p) (s1.trans s2)).trans b3).trans (But.of u1)).free hF.o hl4 ((hF3.same u1).nep hl4)
end
end BB
set_option Elab.async false
set_option linter.all false
set_option maxRecDepth 100000
set_option maxHeartbeats 4000000
/-! W10: woken. -/
namespace BB
open PySem PySem.Spec PyProof.Rows L2
local macro_rules | `(tactic| walk_at "rd") => `(tactic| repeat (first | refine ⟨_, rfl, ?_⟩ | refine ⟨_, _, rfl, rfl, ?_⟩ | refine ⟨_, _, rfl, ?_⟩ | refine ⟨rfl, ?_⟩ | refine ⟨_, _, _, _, rfl, rfl, SqT.of (by assumption), rfl, ?_⟩ | refine ⟨Nat.le_of_ble_eq_true rfl, ?_⟩))
theorem pe_ex {X : Cx} {ι : Type} {e : Expr} {t : ι → TE} (h : ∀ i, PE X e (t i)) : PE X e (fun σ H Q => ∃ i, t i σ H Q) := ⟨fun pins s σ H Q I ⟨i, z⟩ => (h i).run pins s σ H Q I z⟩
theorem wokenF_off {n : Nat} {F : Floor} (h : F.phase ≠ .opn) : wokenF n F = ([], F) := by
  cases n with
  | zero => rfl
  | succ n => rw [wokenF_succ, if_neg h]
theorem wokenF_none {n : Nat} {F : Floor} (h : firstMet F.last F.asleep = none) : wokenF n F = ([], F) := by
  cases n with
  | zero => rfl
  | succ n =>
    rw [wokenF_succ, h]
    split <;> rfl
theorem awake_none {F : Floor} (h : firstMet F.last F.asleep = none) : awake F = -1 := by
  unfold awake
  rw [h]
theorem awake_some {F : Floor} {k : Nat} {z : Slp} (h : firstMet F.last F.asleep = some (k, z)) : awake F = (k : Int) := by
  unfold awake
  rw [h]
theorem firstMet_get {last : Int} : ∀ {l : List Slp} {k : Nat} {z : Slp}, firstMet last l = some (k, z) → l[k]? = some z
  | l, k, z, h => by
    have hk : k ≤ l.length := by
      have := congrArg List.length (firstMet_mem h)
      rw [List.length_append, List.length_take, List.length_cons, List.length_drop] at this
      omega
    rw [firstMet_mem h, List.getElem?_append_right (by rw [List.length_take]; omega), List.length_take, Nat.min_eq_left hk, Nat.sub_self]
    rfl
section
variable {P : Program} {w : World} {K : PySem.W.Frag} {mg : Str → Option Value} {base : Heap}
theorem ok_Floor_woken (T : Txt K mg) : Md P w K mg base CX0 (9) (He.ga K "Floor") "woken" ["self"] (fun vs H Q E => ∃ (p : Addr) (F : Floor), vs = [.ref p] ∧ FlAt K H p F ∧ FInv F ∧ F.known.length ≤ 100 ∧ ∀ l H', But p H H' → H l = none → FlAt K H' p (BB.woken F).2 → LstAt H' l ((BB.woken F).1.map Fact.v) → (BB.woken F).1.length ≤ 200000 → Q (.ref l) H') := by
  have g_phase_of := ok_phase_of (P := P) (w := w) (base := base) T
  have m_first_awake := ok_Floor_first_awake (P := P) (w := w) (base := base) T
  have m_come_in := ok_Floor_come_in (P := P) (w := w) (base := base) T
  have m_meets := fun p : Ph => ok_meets (P := P) (w := w) (base := base) T p
  refine md0 T.d_Floor_woken T.l_Floor T.m_Floor_woken sc_Floor_woken (fun _ _ _ _ _ _ us hl => match us, hl with | [_], _ => rfl) (fun vs H Q E h => ?_) (fun cdv A outer s H vs Q E hr h => ?_)
  · obtain ⟨p, F, rfl, _⟩ := h
    rfl
  · obtain ⟨p, F, rfl, hFl, hI, hz, q⟩ := h
    refine ⟨_, pss_cons (ps_set (i := 1) sc_Floor_woken.nd rfl (Or.inl rfl) (pe_lst pa_nil))
      (pss_cons (ps_while PassesOwn.never (pt_val (pe_ex fun ph : Ph => cm0 (m_meets ph) (hr.mono (by decide)) (cg g_phase_of (hr.mono (by decide)) (pa_cons (pe_fld (pv 0) rfl) pa_nil)))) (pss_cons (ps_set (i := 2) sc_Floor_woken.nd rfl (Or.inl rfl) (cm0 m_first_awake (hr.mono (by decide)) (pv 0)))
      (pss_cons (ps_if (pt_cmpR op_lt (pv 2) pe_int (nomark _)) (pss_one ps_break) pss_nil)
      (pss_cons (ps_set (i := 3) sc_Floor_woken.nd rfl (Or.inl rfl) (pe_ix ix_list (pe_fld (pv 0) rfl) (pv 2) (fun _ _ => rfl)))
      (pss_cons (ps_fld (pv 0) (pe_op op_cat (pe_slice sl_list (pe_fld (pv 0) rfl) po_none (po_some (pv 2))) (pe_slice sl_list (pe_fld (pv 0) rfl) (po_some (pe_op op_add (pv 2) pe_int)) po_none)) rfl)
      (pss_cons (ps_expr (pe_bm PySem.F.plainAttrs_list PySem.F.slot_list_append PySem.F.type_list_append mt_append (pv 1) (pa_cons (pe_tup (pa_cons pe_str (pa_cons (pe_ix ix_tup (pe_ix ix_tup (pv 3) pe_int (fun _ _ => rfl)) pe_int (fun _ _ => rfl)) pa_nil))) pa_nil)))
      (pss_one (ps_expr (pe_bm PySem.F.plainAttrs_list PySem.F.slot_list_extend PySem.F.type_list_extend mt_extend (pv 1) (pa_cons (cm m_come_in (hr.mono (by decide)) (pv 0) (pa_cons (pe_ix ix_tup (pv 3) pe_int (fun _ _ => rfl)) (pa_cons (pe_ix ix_tup (pv 3) pe_int (fun _ _ => rfl)) pa_nil))) pa_nil))))))))))
      (pss_one (ps_ret (pv 1)))), ?_⟩
    obtain ⟨dx, lb, ls, la, hF⟩ := id hFl
    walk_at "rd"
    intro S hS
    have u := same_upd (o := .lst []) hS
    obtain ⟨nb, nz, na⟩ := hF.free hS
    have hSp := (FlAt.nep ⟨_, _, _, _, hF⟩ hS)
    refine ⟨fun m σ H1 => ∃ (F1 : Floor) (pre : List Fact) (lb1 ls1 la1 : Addr) (v2 v3 : Option V), σ = [some (.ref p), some (.ref S), v2, v3] ∧ But p H H1 ∧ FlIn K H1 p dx lb1 ls1 la1 F1 ∧ lb1 ≠ S ∧ ls1 ≠ S ∧ la1 ≠ S ∧
        LstAt H1 S (pre.map Fact.v) ∧ FInv F1 ∧ F1.known.length ≤ 100 ∧ F1.asleep.length < m ∧ pre.length + F1.asleep.length * 2000 ≤ 200000 ∧ BB.woken F = (pre ++ (wokenF F1.asleep.length F1).1, (wokenF F1.asleep.length F1).2),
      ⟨_, F, [], lb, ls, la, none, none, rfl, But.of u, hF.same u, nb, nz, na, ⟨[], upd_same, .nil⟩, hI, hz, Nat.lt_succ_self _, ?_, rfl⟩, ?_⟩
    · have := len_known F
      show 0 + _ ≤ _
      omega
    rintro m σ H1 ⟨F1, pre, lb1, ls1, la1, v2, v3, rfl, hb, hF1, nb1, nz1, na1, hpre, hI1, hz1, hm, hlen, hw⟩
    obtain ⟨pv, hpv, hpT⟩ := id hpre
    have hpl := Tups.length hpT
    rw [List.length_map] at hpl
    refine ⟨F1.phase, ?_⟩
    walk_at "rd"
    refine ⟨p, _, dx, _, _, rfl, hF1.o, T.l_Floor, T.n_phase, ff_phase _ _ _ _ _ _, ?_⟩
    walk_at "rd"
    refine fun x1 dx1 H2 s2 hx0 hx1 => ?_
    refine ⟨x1, _, _, rfl, hx1, rfl, ?_⟩
    walk_at "rd"
    by_cases hph : F1.phase = .opn
    · refine iteY (decide_eq_true hph) ?_
      refine ⟨_, fun σ' H' z => z, ?_⟩
      walk_at "rd"
      refine ⟨p, _, _, rfl, (hF1.same s2).o, by kernel_rfl, ?_⟩
      walk_at "rd"
      refine ⟨p, F1, rfl, ⟨_, _, _, _, hF1.same s2⟩, fun H3 s3 => ?_⟩
      have s23 := s2.trans s3
      have hF3 := hF1.same s23
      walk_at "rd"
      cases hfm : firstMet F1.last F1.asleep with
      | none =>
        rw [awake_none hfm]
        rw [wokenF_none hfm, List.append_nil] at hw
        rw [hw] at q
        refine iteY rfl ?_
        walk_at "rd"
        exact q S _ (hb.trans (But.of s23)) hS ⟨_, _, _, _, hF3⟩ (hpre.same s23) (show pre.length ≤ _ by omega)
      | some kz =>
        obtain ⟨k, z⟩ := kz
        rw [awake_some hfm]
        refine iteN (decide_eq_false (by omega)) ?_
        obtain ⟨av, hav, haT⟩ := id hF3.a
        obtain ⟨v, hv, sa, sb, rfl, hsa, hsb⟩ := haT.at (firstMet_get hfm)
        walk_at "rd"
        refine ⟨p, _, dx, _, _, rfl, hF3.o, T.l_Floor, T.n_asleep, ff_asleep _ _ _ _ _ _, ?_⟩
        walk_at "rd"
        refine ⟨la1, _, _, _, rfl, rfl, SqL.of hav, atI_nat hv, ?_⟩
        walk_at "rd"
        refine ⟨p, _, dx, _, _, rfl, hF3.o, T.l_Floor, T.n_asleep, ff_asleep _ _ _ _ _ _, ?_⟩
        walk_at "rd"
        refine ⟨la1, av, rfl, SqL.of hav, fun c1 hc1 => ?_⟩
        have s4 := same_upd (o := .lst (cutV av none (some (k : Int)))) hc1
        walk_at "rd"
        refine ⟨p, _, dx, _, _, rfl, (hF3.same s4).o, T.l_Floor, T.n_asleep, ff_asleep _ _ _ _ _ _, ?_⟩
        walk_at "rd"
        refine ⟨la1, av, rfl, SqL.of (s4 _ _ hav), fun c2 hc2 => ?_⟩
        have s5 := same_upd (o := .lst (cutV av (some ((k : Int) + 1)) none)) hc2
        have e1 : cutV av none (some (k : Int)) = av.take k := cutV_take av k
        have e2 : cutV av (some ((k : Int) + 1)) none = av.drop (k + 1) := cutV_drop av (k + 1)
        have hal := haT.length
        have hz2 := len_known F1
        refine ⟨c1, c2, _, _, rfl, rfl, s5 _ _ upd_same, upd_same, line1000 ?_, fun c3 hc3 => ?_⟩
        · rw [e1, e2, List.length_take, List.length_drop]
          omega
        have s6 := same_upd (o := .lst (cutV av none (some (k : Int)) ++ cutV av (some ((k : Int) + 1)) none)) hc3
        have s46 := (s4.trans s5).trans s6
        have hF6 := hF3.same s46
        have hS6 := (s23.trans s46) _ _ hpv
        have hc3S : c3 ≠ S := fun z => by rw [z, ((s4.trans s5) _ _ (s23 _ _ hpv))] at hc3; cases hc3
        have ha6 : SlsAt (upd (upd (upd H3 c1 (.lst (cutV av none (some (k : Int))))) c2 (.lst (cutV av (some ((k : Int) + 1)) none))) c3 (.lst (cutV av none (some (k : Int)) ++ cutV av (some ((k : Int) + 1)) none))) c3 (F1.wake k).asleep :=
          ⟨_, upd_same, by rw [e1, e2]; exact (((haT.take k).append (haT.drop (k + 1)))).kt (Kt.same (by rw [e1, e2] at s46; exact s46))⟩
        have hb6 := hb.trans (But.of (s23.trans s46))
        have hsa6 := s46 _ _ hsa
        have hsb6 := s46 _ _ hsb
        have hpT6 := hpT.kt (Kt.same (s23.trans s46))
        generalize (upd (upd (upd H3 c1 (.lst (cutV av none (some (k : Int))))) c2 (.lst (cutV av (some ((k : Int) + 1)) none))) c3 (.lst (cutV av none (some (k : Int)) ++ cutV av (some ((k : Int) + 1)) none))) = H6 at *
        walk_at "rd"
        refine ⟨p, _, dx, _, rfl, hF6.o, T.l_Floor, T.n_asleep, ff_len _ _ _ _ _ _, ?_⟩
        rw [fp_asleep]
        have hF7 := hF6.set (F' := F1.wake k) (la' := c3) hF6.b hF6.s ha6
        have k7 : Kt H6 _ := But.upd.kt (H' := upd H6 p (.ins (He.ga K "Floor") dx (ff (.str F1.phase.s) (.int F1.last) (.int F1.leap) (.ref lb1) (.ref ls1) (.ref c3)))) hF6.o
        have b7 : But p H6 (upd H6 p (.ins (He.ga K "Floor") dx (ff (.str F1.phase.s) (.int F1.last) (.int F1.leap) (.ref lb1) (.ref ls1) (.ref c3)))) := But.upd
        have hF7' : FlIn K (upd H6 p (.ins (He.ga K "Floor") dx (ff (.str F1.phase.s) (.int F1.last) (.int F1.leap) (.ref lb1) (.ref ls1) (.ref c3)))) p dx lb1 ls1 c3 (F1.wake k) := hF7
        clear hF7
        generalize (upd H6 p (.ins (He.ga K "Floor") dx (ff (.str F1.phase.s) (.int F1.last) (.int F1.leap) (.ref lb1) (.ref ls1) (.ref c3)))) = H7 at *
        have hS7 := b7 _ _ hS6 hSp
        have hsa7 := k7 _ _ hsa6
        have hsb7 := k7 _ _ hsb6
        have hpT7 := hpT6.kt k7
        have hb7 := hb6.trans b7
        walk_at "rd"
        refine ⟨.inl ⟨rfl, _, SqL.of hS7⟩, ?_⟩
        walk_at "rd"
        intro g hg
        have ug := same_upd (o := .tup [.str "wake", .str z.ord.name]) hg
        refine ⟨S, _, _, rfl, rfl, ug _ _ hS7, Nat.lt_of_lt_of_le (m := 200001) (by rw [hpl]; omega) (by decide), ?_⟩
        have k8 : Kt H7 (upd (upd H7 g (.tup [.str "wake", .str z.ord.name])) S (.lst (pv ++ [.ref g]))) := push_kt hS7 hg
        have hF8 := (hF7'.same ug).put (ws := pv ++ [.ref g]) (ug _ _ hS7) nb1 nz1 hc3S
        have hpT8 : Tups (upd (upd H7 g (.tup [.str "wake", .str z.ord.name])) S (.lst (pv ++ [.ref g]))) (pv ++ [.ref g]) ((pre ++ [Fact.wake z.ord.name]).map Fact.v) := by
          rw [List.map_append]
          refine (hpT7.kt k8).append (.one ⟨g, rfl, ?_⟩)
          rw [upd_ne (fun z => by rw [← z, hg] at hS7; cases hS7)]
          exact upd_same
        have hS8 : (upd (upd H7 g (.tup [.str "wake", .str z.ord.name])) S (.lst (pv ++ [.ref g]))) S = some (.lst (pv ++ [.ref g])) := upd_same
        have hb8 : But p H (upd (upd H7 g (.tup [.str "wake", .str z.ord.name])) S (.lst (pv ++ [.ref g]))) := fun b ob e n => by
          rw [upd_ne (ne_of_none e hS)]
          exact ug _ _ (hb7 b ob e n)
        have hsa8 := k8 _ _ hsa7
        have hsb8 := k8 _ _ hsb7
        generalize (upd (upd H7 g (.tup [.str "wake", .str z.ord.name])) S (.lst (pv ++ [.ref g]))) = H8 at *
        walk_at "rd"
        refine ⟨.inl ⟨rfl, _, SqL.of hS8⟩, ?_⟩
        walk_at "rd"
        refine ⟨p, _, _, rfl, hF8.o, by kernel_rfl, ?_⟩
        obtain ⟨i1, i2, i3, i4, i5⟩ := wake_inv hI1 hfm
        have hcl := comeIn_len (k := z.kd) i1 i2
        have hcc := comeIn_came (k := z.kd) i1 i2 i3
        walk_at "rd"
        refine ⟨p, sb, z.kd, z.ord, F1.wake k, dx, lb1, ls1, c3, rfl, hF8, hsb8, i1, i2, i3, by omega, fun l H9 lb' ls' b9 hl n1 n2 n3 w1 w2 hF9 hL9 => ?_⟩
        obtain ⟨lv, hlv, hlT⟩ := id hL9
        have hll := Tups.length hlT
        rw [List.length_map] at hll
        have hS9 := b9 _ _ hS8 hSp
        have k9 := b9.kt hF8.o
        have hlen2 : pre.length + 1 + (comeIn z.kd z.ord (F1.wake k)).1.length + (F1.asleep.length - 1) * 2000 ≤ 200000 := by
          have : 1 ≤ F1.asleep.length := by
            have := (List.getElem?_eq_some_iff.mp (firstMet_get hfm)).1
            omega
          omega
        refine ⟨S, l, _, _, rfl, rfl, hS9, hlv, Nat.le_trans (m := 200001) (by rw [hll, List.length_append, hpl]; show pre.length + 1 + _ ≤ _; omega) (by decide), ?_⟩
        have nlS : ∀ x y, Nw H8 x y → x ≠ S → y ≠ S := fun x y h n => by
          rcases h with rfl | h
          · exact n
          · exact fun z => by rw [z, hS8] at h; cases h
        have hF10 := hF9.put (ws := pv ++ [.ref g] ++ lv) hS9 (nlS _ _ w1 nb1) (nlS _ _ w2 nz1) hc3S
        have k10 : Kt H9 (upd H9 S (.lst (pv ++ [.ref g] ++ lv))) := Kt.upd fun ys e => by rw [hS9] at e; cases e
        have hcl2 := hcc.z
        have hal2 : (F1.wake k).asleep.length + 1 = F1.asleep.length := by
          show (F1.asleep.take k ++ F1.asleep.drop (k + 1)).length + 1 = _
          have q1 := (List.getElem?_eq_some_iff.mp (firstMet_get hfm)).1
          rw [List.length_append, List.length_take, List.length_drop]
          omega
        refine ⟨m - 1, by omega, (comeIn z.kd z.ord (F1.wake k)).2, pre ++ [Fact.wake z.ord.name] ++ (comeIn z.kd z.ord (F1.wake k)).1, lb', ls', c3, _, _, rfl, fun b ob e n => ?_, hF10, nlS _ _ w1 nb1, nlS _ _ w2 nz1, hc3S, ⟨_, upd_same, ?_⟩, hcc.inv, ?_, ?_, ?_, ?_⟩
        · rw [upd_ne (ne_of_none e hS)]
          exact b9 _ _ (hb8 b ob e n) n
        · rw [List.map_append]
          exact (hpT8.kt (k9.trans k10)).append (hlT.kt k10)
        · have := hcc.len
          omega
        · rw [hcl2]
          omega
        · rw [hcl2, List.length_append, List.length_append]
          show pre.length + 1 + _ + _ ≤ _
          omega
        · rw [hw, hcl2, ← hal2, wokenF_succ, if_pos hph, hfm]
          dsimp only
          rw [List.append_assoc, List.append_assoc]
          rfl
    · refine iteN (decide_eq_false hph) ?_
      rw [wokenF_off hph, List.append_nil] at hw
      rw [hw] at q
      walk_at "rd"
      exact q S _ (hb.trans (But.of s2)) hS ⟨_, _, _, _, hF1.same s2⟩ (hpre.same s2) (show pre.length ≤ _ by omega)
end
end BB
set_option Elab.async false
set_option linter.all false
set_option maxRecDepth 100000
set_option maxHeartbeats 4000000
/-! W11: enter, lay, find, take_out, lessen, look. -/
namespace BB
open PySem PySem.Spec PyProof.Rows L2
local macro_rules | `(tactic| walk_at "rd") => `(tactic| repeat (first | refine ⟨_, rfl, ?_⟩ | refine ⟨_, _, rfl, rfl, ?_⟩ | refine ⟨_, _, rfl, ?_⟩ | refine ⟨rfl, ?_⟩ | refine ⟨_, _, _, _, rfl, rfl, SqT.of (by assumption), rfl, ?_⟩ | refine ⟨Nat.le_of_ble_eq_true rfl, ?_⟩))
/-- an error that «except BourseError» names -/
def Bx (K : PySem.W.Frag) (e : Value) : Prop := PySem.W.exmOne K e (.ref (He.ga K "BourseError")) = some true
theorem knows_len {F : Floor} {n : Str} : (0 < (F.known.filter fun o => decide (o.name = n)).length) ↔ knows F n = true := by
  unfold knows
  rw [List.length_pos_iff_exists_mem, List.any_eq_true]
  constructor
  · rintro ⟨x, hx⟩
    obtain ⟨h1, h2⟩ := List.mem_filter.mp hx
    exact ⟨x, h1, h2⟩
  · rintro ⟨x, h1, h2⟩
    exact ⟨x, List.mem_filter.mpr ⟨h1, h2⟩⟩
theorem knows_cn {F : Floor} {n : Str} (h : knows F n = false) : cn n F.known = 0 := by
  unfold knows at h
  refine cn_zero fun o ho e => ?_
  have := List.any_eq_false.mp h o ho
  exact this (decide_eq_true e)
section
variable {P : Program} {w : World} {K : PySem.W.Frag} {mg : Str → Option Value} {base : Heap}
theorem ok_Floor_enter (T : Txt K mg) : Md P w K mg base (L2.CX P w) (10) (He.ga K "Floor") "enter" ["self", "word", "order"] (fun vs H Q E => ∃ (p a : Addr) (k : Kd) (o : Ord) (F : Floor) (dx lb ls la : Addr), vs = [.ref p, .str k.s, .ref a] ∧ FlIn K H p dx lb ls la F ∧ H a = some (.tup o.v) ∧ FInv F ∧ Ok o ∧ F.known.length ≤ 90 ∧ (∀ fs F', BB.enter k o F = some (fs, F') → ∀ l H', But p H H' → H l = none → FlAt K H' p F' → LstAt H' l (fs.map Fact.v) → fs.length ≤ 300000 → Q (.ref l) H') ∧ (BB.enter k o F = none → ∀ e d H', Bx K e → Same H H' → E e d H')) := by
  have g_kind_of := ok_kind_of (P := P) (w := w) (base := base) T
  have g_phase_of := ok_phase_of (P := P) (w := w) (base := base) T
  have g_named := ok_named (P := P) (w := w) (base := base) T
  have m_known := ok_Floor_known (P := P) (w := w) (base := base) T
  have m_come_in := ok_Floor_come_in (P := P) (w := w) (base := base) T
  have m_woken := ok_Floor_woken (P := P) (w := w) (base := base) T
  have m_takes := fun p : Ph => ok_takes (P := P) (w := w) (base := base) T p
  refine mdX T.d_Floor_enter T.l_Floor T.m_Floor_enter sc_Floor_enter (fun _ _ _ _ _ _ us hl => match us, hl with | [_, _, _], _ => rfl) (fun vs H Q E h => ?_) (fun cdv A outer s H vs Q E hr h => ?_)
  · obtain ⟨p, a, k, o, F, dx, lb, ls, la, rfl, _⟩ := h
    rfl
  · obtain ⟨p, a, k, o, F, dx, lb, ls, la, rfl, hF, ha, hI, hO, hz, q1, q2⟩ := h
    refine ⟨_, pss_cons (ps_expr (cg g_kind_of (hr.mono (by decide)) (pa_cons (pv 1) pa_nil)))
      (pss_cons (ps_if (pt_not (pt_val (cm (m_takes F.phase) (hr.mono (by decide)) (cg g_phase_of (hr.mono (by decide)) (pa_cons (pe_fld (pv 0) rfl) pa_nil)) (pa_cons (pv 1) pa_nil)))) (pss_one (ps_raise rfl (takes_of rfl rfl rfl rfl) (pmk_own PySem.F.excBase_ValueError T.x_NotNow.1 T.g_NotNow T.x_NotNow.2.1 (raises_own T.x_NotNow.2.2.1 T.x_NotNow.2.2.2) (by exact rfl)))) pss_nil)
      (pss_cons (ps_if (pt_cmpR op_gt (pe_callB call_len_seq (by rfl) T.b_len (by decide +kernel) (pa_cons (cg g_named (hr.mono (by decide)) (pa_cons (cm0 m_known (hr.mono (by decide)) (pv 0)) (pa_cons (pe_ix ix_tup (pv 2) pe_int (fun _ _ => rfl)) pa_nil))) pa_nil)) pe_int (nomark _)) (pss_one (ps_raise rfl (takes_of rfl rfl rfl rfl) (pmk_own PySem.F.excBase_ValueError T.x_Twice.1 T.g_Twice T.x_Twice.2.1 (raises_own T.x_Twice.2.2.1 T.x_Twice.2.2.2) (by exact rfl)))) pss_nil)
      (pss_one (ps_ret (pe_op op_cat (cm m_come_in (hr.mono (by decide)) (pv 0) (pa_cons (pv 1) (pa_cons (pv 2) pa_nil))) (cm0 m_woken (hr.mono (by decide)) (pv 0))))))), ?_⟩
    have hap : a ≠ p := fun e => by rw [e, hF.o] at ha; cases ha
    walk_at "rd"
    refine fun x0 dx0 H1 s1 _ _ => ?_
    walk_at "rd"
    refine ⟨p, _, dx, _, _, rfl, (hF.same s1).o, T.l_Floor, T.n_phase, ff_phase _ _ _ _ _ _, ?_⟩
    walk_at "rd"
    refine fun x1 dx1 H2 s2 hx0 hx1 => ?_
    walk_at "rd"
    refine ⟨x1, _, _, rfl, hx1, rfl, ?_⟩
    walk_at "rd"
    intro H3 s3
    have s := (s1.trans s2).trans s3
    have hF3 := hF.same s
    have ha3 := s _ _ ha
    walk_at "rd"
    cases htk : takes F.phase k with
    | false =>
      refine iteY rfl ?_
      refine q2 ?_ _ _ _ T.e_NotNow s
      unfold BB.enter
      rw [if_neg (fun z => by rw [htk] at z; exact Bool.false_ne_true z.1)]
    | true =>
    refine iteN rfl ?_
    walk_at "rd"
    refine ⟨p, _, _, rfl, hF3.o, by kernel_rfl, ?_⟩
    walk_at "rd"
    refine ⟨p, F, rfl, ⟨_, _, _, _, hF3⟩, by omega, fun l1 H4 s4 hl1 hL1 => ?_⟩
    have ha4 := s4 _ _ ha3
    walk_at "rd"
    refine ⟨l1, o.name, F.known, rfl, hL1, by omega, fun l2 H5 s5 hl2 hL2 => ?_⟩
    obtain ⟨v2, hv2, ht2⟩ := id hL2
    have hlen2 := Ords.len ht2
    have s' := (s.trans s4).trans s5
    walk_at "rd"
    refine ⟨l2, _, rfl, .inl (SqL.of hv2), ?_⟩
    walk_at "rd"
    by_cases hkn : knows F o.name = true
    · refine iteY (decide_eq_true ?_) ?_
      · have := knows_len.mpr hkn
        rw [hlen2]
        omega
      refine q2 ?_ _ _ _ T.e_Twice s'
      unfold BB.enter
      rw [if_neg (fun z => by rw [hkn] at z; exact Bool.false_ne_true z.2.symm)]
    · refine iteN (decide_eq_false ?_) ?_
      · have : ¬ 0 < (F.known.filter fun x => decide (x.name = o.name)).length := fun z => hkn (knows_len.mp z)
        rw [hlen2]
        omega
      have hkn' : knows F o.name = false := by simpa using hkn
      have he : BB.enter k o F = some ((comeIn k o F).1 ++ (BB.woken (comeIn k o F).2).1, (BB.woken (comeIn k o F).2).2) := by
        unfold BB.enter
        rw [if_pos ⟨htk, hkn'⟩]
      have q := q1 _ _ he
      have hF5 := hF.same s'
      have hcn := knows_cn hkn'
      have hcc := comeIn_came (k := k) hI hO hcn
      have hcl := comeIn_len (k := k) hI hO
      walk_at "rd"
      refine ⟨p, _, _, rfl, hF5.o, by kernel_rfl, ?_⟩
      walk_at "rd"
      refine ⟨p, a, k, o, F, dx, lb, ls, la, rfl, hF5, s' _ _ ha, hI, hO, hcn, by omega, fun l H6 lb' ls' b6 hl n1 n2 n3 w1 w2 hF6 hL6 => ?_⟩
      walk_at "rd"
      refine ⟨p, _, _, rfl, hF6.o, by kernel_rfl, ?_⟩
      walk_at "rd"
      refine ⟨p, _, rfl, ⟨_, _, _, _, hF6⟩, hcc.inv, by have := hcc.len; omega, fun l7 H7 b7 hl7 hF7 hL7 hlen7 => ?_⟩
      obtain ⟨v6, hv6, ht6⟩ := hL6.but b7 hF6.o
      obtain ⟨v7, hv7, ht7⟩ := id hL7
      have e6 := Tups.length ht6
      have e7 := Tups.length ht7
      rw [List.length_map] at e6 e7
      refine ⟨l, l7, _, _, rfl, rfl, hv6, hv7, Nat.le_trans (m := 300000) (by omega) (by decide), fun g hg => ?_⟩
      have u := same_upd (o := .lst (v6 ++ v7)) hg
      refine q g _ (((But.of s').trans (b6.trans b7)).trans (But.of u)) ?_ (hF7.same u) ⟨_, upd_same, ?_⟩ ?_
      · exact ((But.of s').trans (b6.trans b7)).free hF.o hg (hF7.nep hg)
      · rw [List.map_append]
        exact (ht6.append ht7).kt (Kt.same u)
      · rw [List.length_append]
        omega
    
theorem kd_slp (k : Kd) : inV (V.str k.s) [.str "limit", .str "now"] = sleeps k := by cases k <;> decide +kernel
theorem ok_Floor_lay (T : Txt K mg) : Md P w K mg base (L2.CX P w) (10) (He.ga K "Floor") "lay" ["self", "word", "order", "trigger"] (fun vs H Q E => ∃ (p a : Addr) (k : Kd) (o : Ord) (t : Int) (F : Floor) (dx lb ls la : Addr), vs = [.ref p, .str k.s, .ref a, .int t] ∧ FlIn K H p dx lb ls la F ∧ H a = some (.tup o.v) ∧ FInv F ∧ Ok o ∧ F.known.length ≤ 90 ∧ (∀ fs F', BB.lay k o t F = some (fs, F') → ∀ l H', But p H H' → H l = none → FlAt K H' p F' → LstAt H' l (fs.map Fact.v) → fs.length ≤ 300000 → Q (.ref l) H') ∧ (BB.lay k o t F = none → ∀ e d H', Bx K e → Same H H' → E e d H')) := by
  have g_phase_of := ok_phase_of (P := P) (w := w) (base := base) T
  have g_named := ok_named (P := P) (w := w) (base := base) T
  have m_known := ok_Floor_known (P := P) (w := w) (base := base) T
  have m_woken := ok_Floor_woken (P := P) (w := w) (base := base) T
  have m_rests_asleep := fun p : Ph => ok_rests_asleep (P := P) (w := w) (base := base) T p
  refine mdX T.d_Floor_lay T.l_Floor T.m_Floor_lay sc_Floor_lay (fun _ _ _ _ _ _ us hl => match us, hl with | [_, _, _, _], _ => rfl) (fun vs H Q E h => ?_) (fun cdv A outer s H vs Q E hr h => ?_)
  · obtain ⟨p, a, k, o, t, F, dx, lb, ls, la, rfl, _⟩ := h
    rfl
  · obtain ⟨p, a, k, o, t, F, dx, lb, ls, la, rfl, hF, ha, hI, hO, hz, q1, q2⟩ := h
    refine ⟨_, pss_cons (ps_if (pt_cmpR op_notIn_seq (pv 1) (pe_tup (pa_cons pe_str (pa_cons pe_str pa_nil))) (by rfl)) (pss_one (ps_raise rfl (takes_of rfl rfl rfl rfl) (pmk_own PySem.F.excBase_ValueError T.x_BadKind.1 T.g_BadKind T.x_BadKind.2.1 (raises_own T.x_BadKind.2.2.1 T.x_BadKind.2.2.2) (by exact rfl)))) pss_nil)
      (pss_cons (ps_if (pt_not (pt_val (cm0 (m_rests_asleep F.phase) (hr.mono (by decide)) (cg g_phase_of (hr.mono (by decide)) (pa_cons (pe_fld (pv 0) rfl) pa_nil))))) (pss_one (ps_raise rfl (takes_of rfl rfl rfl rfl) (pmk_own PySem.F.excBase_ValueError T.x_NotNow.1 T.g_NotNow T.x_NotNow.2.1 (raises_own T.x_NotNow.2.2.1 T.x_NotNow.2.2.2) (by exact rfl)))) pss_nil)
      (pss_cons (ps_if (pt_cmpR op_gt (pe_callB call_len_seq (by rfl) T.b_len (by decide +kernel) (pa_cons (cg g_named (hr.mono (by decide)) (pa_cons (cm0 m_known (hr.mono (by decide)) (pv 0)) (pa_cons (pe_ix ix_tup (pv 2) pe_int (fun _ _ => rfl)) pa_nil))) pa_nil)) pe_int (nomark _)) (pss_one (ps_raise rfl (takes_of rfl rfl rfl rfl) (pmk_own PySem.F.excBase_ValueError T.x_Twice.1 T.g_Twice T.x_Twice.2.1 (raises_own T.x_Twice.2.2.1 T.x_Twice.2.2.2) (by exact rfl)))) pss_nil)
      (pss_cons (ps_fld (pv 0) (pe_op op_cat (pe_fld (pv 0) rfl) (pe_lst (pa_cons (pe_tup (pa_cons (pv 1) (pa_cons (pv 2) (pa_cons (pv 3) pa_nil)))) pa_nil))) rfl)
      (pss_one (ps_ret (pe_op op_cat (pe_lst (pa_cons (pe_tup (pa_cons pe_str (pa_cons (pe_ix ix_tup (pv 2) pe_int (fun _ _ => rfl)) (pa_cons (pv 3) pa_nil)))) pa_nil)) (cm0 m_woken (hr.mono (by decide)) (pv 0)))))))), ?_⟩
    have hap : a ≠ p := fun e => by rw [e, hF.o] at ha; cases ha
    walk_at "rd"
    intro t0 ht0
    have s0 := same_upd (o := .tup [.str "limit", .str "now"]) ht0
    refine ⟨t0, _, rfl, .inr (SqT.of upd_same), rfl, rfl, ?_⟩
    walk_at "rd"
    refine (iteB (c := (!inV (V.str k.s) [.str "limit", .str "now"])) (by rw [kd_slp]) ?_)
    cases hsl : sleeps k with
    | false =>
      refine iteY rfl ?_
      refine q2 ?_ _ _ _ T.e_BadKind s0
      unfold BB.lay
      rw [if_neg (fun z => by rw [hsl] at z; exact Bool.false_ne_true z.1)]
    | true =>
    refine iteN rfl ?_
    walk_at "rd"
    refine ⟨p, _, dx, _, _, rfl, (hF.same s0).o, T.l_Floor, T.n_phase, ff_phase _ _ _ _ _ _, ?_⟩
    walk_at "rd"
    refine fun x1 dx1 H2 s2 hx0 hx1 => ?_
    walk_at "rd"
    refine ⟨x1, _, _, rfl, hx1, rfl, ?_⟩
    walk_at "rd"
    have s := s0.trans s2
    have hF3 := hF.same s
    have ha3 := s _ _ ha
    by_cases hph : F.phase = .halt
    · refine iteY (by rw [decide_eq_false (fun z => z hph)]; rfl) ?_
      refine q2 ?_ _ _ _ T.e_NotNow s
      unfold BB.lay
      rw [if_neg (fun z => z.2.1 hph)]
    refine iteN (by rw [decide_eq_true hph]; rfl) ?_
    walk_at "rd"
    refine ⟨p, _, _, rfl, hF3.o, by kernel_rfl, ?_⟩
    walk_at "rd"
    refine ⟨p, F, rfl, ⟨_, _, _, _, hF3⟩, by omega, fun l1 H4 s4 hl1 hL1 => ?_⟩
    have ha4 := s4 _ _ ha3
    walk_at "rd"
    refine ⟨l1, o.name, F.known, rfl, hL1, by omega, fun l2 H5 s5 hl2 hL2 => ?_⟩
    obtain ⟨v2, hv2, ht2⟩ := id hL2
    have hlen2 := Ords.len ht2
    have s' := (s.trans s4).trans s5
    walk_at "rd"
    refine ⟨l2, _, rfl, .inl (SqL.of hv2), ?_⟩
    walk_at "rd"
    by_cases hkn : knows F o.name = true
    · refine iteY (decide_eq_true ?_) ?_
      · have := knows_len.mpr hkn
        rw [hlen2]
        omega
      refine q2 ?_ _ _ _ T.e_Twice s'
      unfold BB.lay
      rw [if_neg (fun z => by rw [hkn] at z; exact Bool.false_ne_true z.2.2.symm)]
    · refine iteN (decide_eq_false ?_) ?_
      · have : ¬ 0 < (F.known.filter fun x => decide (x.name = o.name)).length := fun z => hkn (knows_len.mp z)
        rw [hlen2]
        omega
      have hkn' : knows F o.name = false := by simpa using hkn
      obtain ⟨F2, hF2⟩ : ∃ F2, F2 = ({ F with asleep := F.asleep ++ [⟨k, o, t⟩] } : Floor) := ⟨_, rfl⟩
      have he : BB.lay k o t F = some (.sleep o.name t :: (BB.woken F2).1, (BB.woken F2).2) := by
        unfold BB.lay
        rw [if_pos ⟨hsl, hph, hkn'⟩, hF2]
      have q := q1 _ _ he
      have hF5 := hF.same s'
      have hcn := knows_cn hkn'
      have hin := lay_inv (w := k) (t := t) hI hO hcn
      rw [← hF2] at hin
      have ha5 := s' _ _ ha
      obtain ⟨va, hva, haT⟩ := id hF5.a
      have hal := haT.length
      have hkl := len_known F
      walk_at "rd"
      refine ⟨p, _, dx, _, _, rfl, hF5.o, T.l_Floor, T.n_asleep, ff_asleep _ _ _ _ _ _, ?_⟩
      walk_at "rd"
      intro t1 ht1
      have u1 := same_upd (o := .tup [.str k.s, .ref a, .int t]) ht1
      walk_at "rd"
      intro l3 hl3
      have u2 := same_upd (o := .lst [.ref t1]) hl3
      refine ⟨la, l3, _, _, rfl, rfl, (u1.trans u2) _ _ hva, upd_same, line1000 (by rw [hal]; show _ + 1 ≤ _; omega), fun l4 hl4 => ?_⟩
      have u3 := same_upd (o := .lst (va ++ [.ref t1])) hl4
      have u := (u1.trans u2).trans u3
      have hF6 := hF5.same u
      walk_at "rd"
      refine ⟨p, _, dx, _, rfl, hF6.o, T.l_Floor, T.n_asleep, ff_len _ _ _ _ _ _, ?_⟩
      rw [fp_asleep]
      have hF7 := hF6.set (F' := F2) (la' := l4) (by rw [hF2]; exact hF6.b) (by rw [hF2]; exact hF6.s) (by
        rw [hF2]
        refine ⟨_, upd_same, (haT.kt (Kt.same u)).append (.cons ⟨t1, a, rfl, ?_, ?_⟩ .nil)⟩
        · exact (u2.trans u3) _ _ upd_same
        · exact u _ _ ha5)
      have b7 := But.upd (p := p) (H := upd (upd (upd H5 t1 (.tup [.str k.s, .ref a, .int t])) l3 (.lst [.ref t1])) l4 (.lst (va ++ [.ref t1]))) (o := .ins (He.ga K "Floor") dx (ff (.str F.phase.s) (.int F.last) (.int F.leap) (.ref lb) (.ref ls) (.ref l4)))
      rw [show F2.phase = F.phase from by rw [hF2], show F2.last = F.last from by rw [hF2], show F2.leap = F.leap from by rw [hF2]] at hF7
      have e7 := hF7
      have ha7 := b7 _ _ (u _ _ ha5) hap
      have hb7 := (But.of (p := p) (s'.trans u)).trans b7
      generalize (upd (upd (upd (upd H5 t1 (.tup [.str k.s, .ref a, .int t])) l3 (.lst [.ref t1])) l4 (.lst (va ++ [.ref t1]))) p (.ins (He.ga K "Floor") dx (ff (.str F.phase.s) (.int F.last) (.int F.leap) (.ref lb) (.ref ls) (.ref l4)))) = H7 at *
      walk_at "rd"
      intro t2 ht2
      have v1 := same_upd (o := .tup [.str "sleep", .str o.name, .int t]) ht2
      walk_at "rd"
      intro l5 hl5
      have v2 := same_upd (o := .lst [.ref t2]) hl5
      have v := v1.trans v2
      have hF8 := e7.same v
      walk_at "rd"
      refine ⟨p, _, _, rfl, hF8.o, by kernel_rfl, ?_⟩
      walk_at "rd"
      refine ⟨p, F2, rfl, ⟨_, _, _, _, hF8⟩, hin.1, by rw [hin.2]; omega, fun l7 H9 b9 hl7 hF9 hL9 hlen9 => ?_⟩
      obtain ⟨v9, hv9, ht9⟩ := id hL9
      have e9 := Tups.length ht9
      rw [List.length_map] at e9
      have l5p : l5 ≠ p := fun e => by rw [e, (e7.same v1).o] at hl5; cases hl5
      have t2p : t2 ≠ p := fun e => by rw [e, e7.o] at ht2; cases ht2
      have h5 := b9 _ _ (upd_same (H := upd H7 t2 (.tup [.str "sleep", .str o.name, .int t])) (a := l5) (o := .lst [.ref t2])) l5p
      have h2 := b9 _ _ (v2 _ _ (upd_same (H := H7) (a := t2) (o := .tup [.str "sleep", .str o.name, .int t]))) t2p
      refine ⟨l5, l7, _, _, rfl, rfl, h5, hv9, Nat.le_trans (m := 300000) (by show 1 + _ ≤ _; omega) (by decide), fun g hg => ?_⟩
      have w := same_upd (o := .lst ([V.ref t2] ++ v9)) hg
      refine q g _ ((hb7.trans ((But.of v).trans b9)).trans (But.of w)) ?_ (hF9.same w) ⟨_, upd_same, .cons ⟨t2, rfl, w _ _ h2⟩ (ht9.kt (Kt.same w))⟩ ?_
      · exact (hb7.trans ((But.of v).trans b9)).free hF.o hg (hF9.nep hg)
      · show _ + 1 ≤ _
        omega
theorem find_head (n : Str) (F : Floor) : BB.find n F = (F.known.filter fun o => decide (o.name = n)).head? := by
  unfold BB.find
  rw [List.head?_filter]
theorem ok_Floor_find (T : Txt K mg) : Md P w K mg base (L2.CX P w) (3) (He.ga K "Floor") "find" ["self", "name"] (fun vs H Q E => ∃ (p : Addr) (n : Str) (F : Floor), vs = [.ref p, .str n] ∧ FlAt K H p F ∧ F.known.length ≤ 900 ∧ (∀ o, BB.find n F = some o → ∀ b H', Same H H' → H' b = some (.tup o.v) → Q (.ref b) H') ∧ (BB.find n F = none → ∀ e d H', Bx K e → Same H H' → E e d H')) := by
  have g_named := ok_named (P := P) (w := w) (base := base) T
  have m_known := ok_Floor_known (P := P) (w := w) (base := base) T
  refine mdX T.d_Floor_find T.l_Floor T.m_Floor_find sc_Floor_find (fun _ _ _ _ _ _ us hl => match us, hl with | [_, _], _ => rfl) (fun vs H Q E h => ?_) (fun cdv A outer s H vs Q E hr h => ?_)
  · obtain ⟨p, n, F, rfl, _⟩ := h
    rfl
  · obtain ⟨p, n, F, rfl, ⟨dx, lb, ls, la, hF⟩, hz, q1, q2⟩ := h
    refine ⟨_, pss_cons (ps_set (i := 2) sc_Floor_find.nd rfl (Or.inl rfl) (cg g_named (hr.mono (by decide)) (pa_cons (cm0 m_known (hr.mono (by decide)) (pv 0)) (pa_cons (pv 1) pa_nil))))
      (pss_cons (ps_if (pt_cmpR op_eq (pe_callB call_len_seq (by rfl) T.b_len (by decide +kernel) (pa_cons (pv 2) pa_nil)) pe_int (nomark _)) (pss_one (ps_raise rfl (takes_of rfl rfl rfl rfl) (pmk_own PySem.F.excBase_ValueError T.x_NoOrder.1 T.g_NoOrder T.x_NoOrder.2.1 (raises_own T.x_NoOrder.2.2.1 T.x_NoOrder.2.2.2) (by exact rfl)))) pss_nil)
      (pss_one (ps_ret (pe_ix ix_list (pv 2) pe_int (fun _ _ => rfl))))), ?_⟩
    rw [find_head] at q1 q2
    walk_at "rd"
    refine ⟨p, _, _, rfl, hF.o, by kernel_rfl, ?_⟩
    walk_at "rd"
    refine ⟨p, F, rfl, ⟨_, _, _, _, hF⟩, by omega, fun l1 H4 s4 hl1 hL1 => ?_⟩
    walk_at "rd"
    refine ⟨l1, n, F.known, rfl, hL1, by omega, fun l2 H5 s5 hl2 hL2 => ?_⟩
    obtain ⟨v2, hv2, ht2⟩ := id hL2
    have hlen2 := Ords.len ht2
    have s := s4.trans s5
    walk_at "rd"
    refine ⟨l2, _, rfl, .inl (SqL.of hv2), ?_⟩
    walk_at "rd"
    cases hfl : (F.known.filter fun o => decide (o.name = n)) with
    | nil =>
      rw [hfl] at q2 hlen2
      refine iteB dec_int (iteY (decide_eq_true (by rw [hlen2]; rfl)) ?_)
      exact q2 rfl _ _ _ T.e_NoOrder s
    | cons o os =>
      rw [hfl] at q1 hlen2 ht2
      refine iteB dec_int (iteN (decide_eq_false (by rw [hlen2]; simp only [List.length_cons]; omega)) ?_)
      obtain ⟨v, ws, rfl, ⟨b, rfl, hb⟩, _⟩ := Tups.head ht2
      walk_at "rd"
      refine ⟨l2, _, _, _, rfl, rfl, SqL.of hv2, at0, ?_⟩
      exact q1 o rfl b _ s hb
end
end BB
set_option Elab.async false
set_option linter.all false
set_option maxRecDepth 100000
set_option maxHeartbeats 4000000
/-! W12: take_out, lessen, look. -/
namespace BB
open PySem PySem.Spec PyProof.Rows L2
local macro_rules | `(tactic| walk_at "rd") => `(tactic| repeat (first | refine ⟨_, rfl, ?_⟩ | refine ⟨_, _, rfl, rfl, ?_⟩ | refine ⟨_, _, rfl, ?_⟩ | refine ⟨rfl, ?_⟩ | refine ⟨_, _, _, _, rfl, rfl, SqT.of (by assumption), rfl, ?_⟩ | refine ⟨Nat.le_of_ble_eq_true rfl, ?_⟩))
section
variable {K : PySem.W.Frag} {mg : Str → Option Value} {H : Hp} {p dx lb ls la l : Addr} {F : Floor} {R : Hp → Prop}
theorem put_buys (T : Txt K mg) (hF : FlIn K H p dx lb ls la F) {os : List Ord} (hL : LinAt H l os) (h : ∀ H', But p H H' → FlIn K H' p dx l ls la { F with buys := os } → R H') :
    ∃ a C dx fs, (V.ref p) = .ref a ∧ H a = some (.ins C dx fs) ∧ Cls K C ∧ NoAttr K C "buys" ∧ fs.length < 1000 ∧ R (upd H a (.ins C dx (putF "buys" (.ref l) fs))) :=
  ⟨p, _, dx, _, rfl, hF.o, T.l_Floor, T.n_buys, ff_len _ _ _ _ _ _, by rw [fp_buys]; exact h _ But.upd (hF.set (F' := { F with buys := os }) hL hF.s hF.a)⟩
theorem put_sells (T : Txt K mg) (hF : FlIn K H p dx lb ls la F) {os : List Ord} (hL : LinAt H l os) (h : ∀ H', But p H H' → FlIn K H' p dx lb l la { F with sells := os } → R H') :
    ∃ a C dx fs, (V.ref p) = .ref a ∧ H a = some (.ins C dx fs) ∧ Cls K C ∧ NoAttr K C "sells" ∧ fs.length < 1000 ∧ R (upd H a (.ins C dx (putF "sells" (.ref l) fs))) :=
  ⟨p, _, dx, _, rfl, hF.o, T.l_Floor, T.n_sells, ff_len _ _ _ _ _ _, by rw [fp_sells]; exact h _ But.upd (hF.set (F' := { F with sells := os }) hF.b hL hF.a)⟩
theorem put_asleep (T : Txt K mg) (hF : FlIn K H p dx lb ls la F) {zs : List Slp} (hL : SlsAt H l zs) (h : ∀ H', But p H H' → FlIn K H' p dx lb ls l { F with asleep := zs } → R H') :
    ∃ a C dx fs, (V.ref p) = .ref a ∧ H a = some (.ins C dx fs) ∧ Cls K C ∧ NoAttr K C "asleep" ∧ fs.length < 1000 ∧ R (upd H a (.ins C dx (putF "asleep" (.ref l) fs))) :=
  ⟨p, _, dx, _, rfl, hF.o, T.l_Floor, T.n_asleep, ff_len _ _ _ _ _ _, by rw [fp_asleep]; exact h _ But.upd (hF.set (F' := { F with asleep := zs }) hF.b hF.s hL)⟩
theorem put_last (T : Txt K mg) (hF : FlIn K H p dx lb ls la F) {i : Int} (h : ∀ H', But p H H' → FlIn K H' p dx lb ls la { F with last := i } → R H') :
    ∃ a C dx fs, (V.ref p) = .ref a ∧ H a = some (.ins C dx fs) ∧ Cls K C ∧ NoAttr K C "last" ∧ fs.length < 1000 ∧ R (upd H a (.ins C dx (putF "last" (.int i) fs))) :=
  ⟨p, _, dx, _, rfl, hF.o, T.l_Floor, T.n_last, ff_len _ _ _ _ _ _, by rw [fp_last]; exact h _ But.upd (hF.set (F' := { F with last := i }) hF.b hF.s hF.a)⟩
theorem put_phase (T : Txt K mg) (hF : FlIn K H p dx lb ls la F) {i : Ph} (h : ∀ H', But p H H' → FlIn K H' p dx lb ls la { F with phase := i } → R H') :
    ∃ a C dx fs, (V.ref p) = .ref a ∧ H a = some (.ins C dx fs) ∧ Cls K C ∧ NoAttr K C "phase" ∧ fs.length < 1000 ∧ R (upd H a (.ins C dx (putF "phase" (.str i.s) fs))) :=
  ⟨p, _, dx, _, rfl, hF.o, T.l_Floor, T.n_phase, ff_len _ _ _ _ _ _, by rw [fp_phase]; exact h _ But.upd (hF.set (F' := { F with phase := i }) hF.b hF.s hF.a)⟩
end
section
variable {P : Program} {w : World} {K : PySem.W.Frag} {mg : Str → Option Value} {base : Heap}
theorem ok_numX (T : Txt K mg) : Gd P w K mg base (L2.CX P w) (1) "checked_number" ["number", "low", "high"] (fun vs H Q E => ∃ (n lo hi : Int), vs = [.int n, .int lo, .int hi] ∧ (lo ≤ n → n ≤ hi → Q (.int n) H) ∧ (¬ (lo ≤ n ∧ n ≤ hi) → ∀ e d, Bx K e → E e d H)) := by
  refine gdX T.d_checked_number T.g_checked_number sc_checked_number (fun _ _ _ _ _ _ us hl => match us, hl with | [_, _, _], _ => rfl) (fun vs H Q E h => ?_) (fun cdv A outer s H vs Q E hr h => ?_)
  · obtain ⟨n, lo, hi, rfl, _⟩ := h
    rfl
  · obtain ⟨n, lo, hi, rfl, q1, q2⟩ := h
    refine ⟨_, pss_cons (ps_if (PW.pt (pw_or (pt_cmpR op_lt (pv 0) (pv 1) (nomark _)) (pw_or1 (pt_cmpR op_gt (pv 0) (pv 2) (nomark _))))) (pss_one (ps_raise rfl (takes_of rfl rfl rfl rfl) (pmk_own PySem.F.excBase_ValueError T.x_BadNumber.1 T.g_BadNumber T.x_BadNumber.2.1 (raises_own T.x_BadNumber.2.2.1 T.x_BadNumber.2.2.2) (by exact rfl)))) pss_nil)
      (pss_one (ps_ret (pv 0))), ?_⟩
    walk_at "rd"
    by_cases c1 : n < lo
    · refine iteY (decide_eq_true c1) ?_
      walk_at "rd"
      exact q2 (by omega) _ _ T.e_BadNumber
    refine iteN (decide_eq_false c1) ?_
    walk_at "rd"
    by_cases c2 : hi < n
    · refine iteY (decide_eq_true c2) ?_
      walk_at "rd"
      exact q2 (by omega) _ _ T.e_BadNumber
    refine iteN (decide_eq_false c2) ?_
    walk_at "rd"
    exact q1 (by omega) (by omega)
theorem ok_lessened (T : Txt K mg) : Gd P w K mg base (L2.CX P w) (2) "lessened" ["order", "left"] (fun vs H Q E => ∃ (a : Addr) (o : Ord) (l : Int), vs = [.ref a, .int l] ∧ H a = some (.tup o.v) ∧ (1 ≤ l → l ≤ o.left → ∀ p, H p = none → Q (.ref p) (upd H p (.tup (BB.lessened o l).v))) ∧ (¬ (1 ≤ l ∧ l ≤ o.left) → ∀ e d, Bx K e → E e d H)) := by
  have g_with_left := ok_with_left (P := P) (w := w) (base := base) T
  have g_checked_number := ok_numX (P := P) (w := w) (base := base) T
  refine gdX T.d_lessened T.g_lessened sc_lessened (fun _ _ _ _ _ _ us hl => match us, hl with | [_, _], _ => rfl) (fun vs H Q E h => ?_) (fun cdv A outer s H vs Q E hr h => ?_)
  · obtain ⟨a, o, l, rfl, _⟩ := h
    rfl
  · obtain ⟨a, o, l, rfl, ha, q1, q2⟩ := h
    refine ⟨_, pss_cons (ps_expr (cgX g_checked_number (hr.mono (by decide)) (passes_call (takes_of rfl rfl rfl rfl) (fun _ _ _ _ h => h)) (pa_cons (pv 1) (pa_cons pe_int (pa_cons (pe_ix ix_tup (pv 0) pe_int (fun _ _ => rfl)) pa_nil)))))
      (pss_one (ps_ret (cg g_with_left (hr.mono (by decide)) (pa_cons (pv 0) (pa_cons (pv 1) (pa_cons (pe_callB (call_min2 rfl) (by rfl) T.b_min (by decide +kernel) (pa_cons (pe_ix ix_tup (pv 0) pe_int (fun _ _ => rfl)) (pa_cons (pv 1) pa_nil))) pa_nil)))))), ?_⟩
    walk_at "rd"
    refine ⟨l, 1, o.left, rfl, fun h1 h2 => ?_, fun h => q2 h⟩
    walk_at "rd"
    exact ⟨a, o, l, _, rfl, ha, fun p hp => q1 h1 h2 p hp⟩
theorem ok_Floor_take_out (T : Txt K mg) : Md P w K mg base (L2.CX P w) (4) (He.ga K "Floor") "take_out" ["self", "name"] (fun vs H Q E => ∃ (p : Addr) (n : Str) (F : Floor) (dx lb ls la : Addr), vs = [.ref p, .str n] ∧ FlIn K H p dx lb ls la F ∧ F.known.length ≤ 90 ∧ (∀ fs F', BB.takeOut n F = some (fs, F') → ∀ l H', But p H H' → H l = none → FlAt K H' p F' → LstAt H' l (fs.map Fact.v) → Q (.ref l) H') ∧ (BB.takeOut n F = none → ∀ e d H', Bx K e → Same H H' → E e d H')) := by
  have m_find := ok_Floor_find (P := P) (w := w) (base := base) T
  have g_unnamed := ok_unnamed (P := P) (w := w) (base := base) T
  refine mdX T.d_Floor_take_out T.l_Floor T.m_Floor_take_out sc_Floor_take_out (fun _ _ _ _ _ _ us hl => match us, hl with | [_, _], _ => rfl) (fun vs H Q E h => ?_) (fun cdv A outer s H vs Q E hr h => ?_)
  · obtain ⟨p, n, F, dx, lb, ls, la, rfl, _⟩ := h
    rfl
  · obtain ⟨p, n, F, dx, lb, ls, la, rfl, hF, hz, q1, q2⟩ := h
    refine ⟨_, pss_cons (ps_set (i := 2) sc_Floor_take_out.nd rfl (Or.inl rfl) (cmX m_find (hr.mono (by decide)) (passes_call (takes_of rfl rfl rfl rfl) (fun _ _ _ _ h => h)) (pv 0) (pa_cons (pv 1) pa_nil)))
      (pss_cons (ps_fld (pv 0) (cg g_unnamed (hr.mono (by decide)) (pa_cons (pe_fld (pv 0) rfl) (pa_cons (pv 1) pa_nil))) rfl)
      (pss_cons (ps_fld (pv 0) (cg g_unnamed (hr.mono (by decide)) (pa_cons (pe_fld (pv 0) rfl) (pa_cons (pv 1) pa_nil))) rfl)
      (pss_cons (ps_fld (pv 0) (pe_lc (own := [("sleeper", 3)]) (g := gName 3) (by rfl) sc_Floor_take_out.nd (pi_list (pe_fld (pv 0) rfl)) (blkOk_by (own := [("sleeper", 3)]) (by kernel_rfl)) (fun _ _ _ _ _ => pg_name (i := 3) sc_Floor_take_out.nd rfl (Or.inl rfl)) (fun _ _ _ _ _ => pts_one (pt_cmpR op_ne (pe_ix (r := rIxT K) ix_tup (pe_ix (r := rIxT K) ix_tup (pv 3) pe_int (fun _ _ => rfl)) pe_int (fun _ _ => rfl)) (pv 1) (nomark _))) (fun _ _ _ _ _ => (pv 3))) rfl)
      (pss_one (ps_ret (pe_lst (pa_cons (pe_tup (pa_cons pe_str (pa_cons (pv 1) (pa_cons (pe_ix ix_tup (pv 2) pe_int (fun _ _ => rfl)) pa_nil)))) pa_nil))))))), ?_⟩
    have hkl := len_known F
    walk_at "rd"
    refine ⟨p, _, _, rfl, hF.o, by kernel_rfl, ?_⟩
    walk_at "rd"
    refine ⟨p, n, F, rfl, ⟨_, _, _, _, hF⟩, by omega, fun o ho b H1 s1 hb => ?_, fun hn e d H1 he s1 => q2 (by unfold BB.takeOut; rw [hn]) e d H1 he s1⟩
    have ht : BB.takeOut n F = some ([.out n o.left], { F with buys := BB.unnamed n F.buys, sells := BB.unnamed n F.sells, asleep := F.asleep.filter fun s => !decide (s.ord.name = n) }) := by
      unfold BB.takeOut
      rw [ho]
    have q := q1 _ _ ht
    have hF1 := hF.same s1
    walk_at "rd"
    refine ⟨p, _, dx, _, _, rfl, hF1.o, T.l_Floor, T.n_buys, ff_buys _ _ _ _ _ _, ?_⟩
    walk_at "rd"
    refine ⟨lb, n, F.buys, rfl, hF1.b, by omega, fun l1 H2 s2 hl1 hL1 => ?_⟩
    walk_at "rd"
    refine put_buys T (hF1.same s2) hL1 fun H3 b3 hF3 => ?_
    walk_at "rd"
    refine ⟨p, _, dx, _, _, rfl, hF3.o, T.l_Floor, T.n_sells, ff_sells _ _ _ _ _ _, ?_⟩
    walk_at "rd"
    refine ⟨ls, n, F.sells, rfl, hF3.s, by omega, fun l2 H4 s4 hl2 hL2 => ?_⟩
    walk_at "rd"
    refine put_sells T (hF3.same s4) hL2 fun H5 b5 hF5 => ?_
    obtain ⟨va, hva, haT⟩ := id hF5.a
    have hal := haT.length
    have hal' : va.length = F.asleep.length := hal
    walk_at "rd"
    refine ⟨p, _, dx, _, _, rfl, hF5.o, T.l_Floor, T.n_asleep, ff_asleep _ _ _ _ _ _, ?_⟩
    refine ⟨la, rfl, ⟨va, SqL.of hva⟩, fun D hD => lc_slps (outF (fun z : Slp => !decide (z.ord.name = n)) (fun z => z) F.asleep) hD hva outF_zero (fun i _ => outF_len (by omega) i) (fun i x H6 Nx hx s yes no => ?_) fun H6 s h => ?_⟩
    · obtain ⟨z, hz1, a1, b1, rfl, h1, h2⟩ := haT.get hx
      have h1' := s _ _ h1
      have h2' := s _ _ h2
      refine ⟨rfl, ?_⟩
      walk_at "rd"
      by_cases c : z.ord.name = n
      · refine iteN ?_ ?_
        · simp [c]
        · exact no _ (Same.refl _) (outF_no hz1 (by rw [decide_eq_true c]; rfl))
      · refine iteY ?_ ?_
        · simp [c]
        · walk_at "rd"
          exact yes _ _ _ (Same.refl _) ⟨a1, b1, rfl, h1', h2'⟩ (outF_yes hz1 (by rw [decide_eq_false c]; rfl))
    · rw [outF_all hal', List.map_id'] at h
      walk_at "rd"
      refine put_asleep T (hF5.same s) h fun H7 b7 hF7 => ?_
      have hB := (((((But.of (p := p) (s1.trans s2)).trans b3).trans (But.of s4)).trans b5).trans (But.of s)).trans b7
      have hb7 := ((((((But.of (p := p) s2).trans b3).trans (But.of s4)).trans b5).trans (But.of s)).trans b7) b _ hb (fun e => by rw [e, hF1.o] at hb; cases hb)
      walk_at "rd"
      intro t ht
      have u1 := same_upd (o := .tup [.str "out", .str n, .int o.left]) ht
      walk_at "rd"
      intro l hl
      have u2 := same_upd (o := .lst [.ref t]) hl
      have u := u1.trans u2
      refine q l _ (hB.trans (But.of u)) ((hB.trans (But.of u1)).free hF.o hl (FlAt.nep ⟨_, _, _, _, hF7.same u1⟩ hl)) ⟨_, _, _, _, hF7.same u⟩ ⟨_, upd_same, .one ⟨t, rfl, u2 _ _ upd_same⟩⟩
theorem ok_Floor_lessen (T : Txt K mg) : Md P w K mg base (L2.CX P w) (4) (He.ga K "Floor") "lessen" ["self", "name", "left"] (fun vs H Q E => ∃ (p : Addr) (n : Str) (v : Int) (F : Floor) (dx lb ls la : Addr), vs = [.ref p, .str n, .int v] ∧ FlIn K H p dx lb ls la F ∧ F.known.length ≤ 90 ∧ (∀ fs F', BB.lessen n v F = some (fs, F') → ∀ l H', But p H H' → H l = none → FlAt K H' p F' → LstAt H' l (fs.map Fact.v) → Q (.ref l) H') ∧ (BB.lessen n v F = none → ∀ e d H', Bx K e → Same H H' → E e d H')) := by
  have g_lessened := ok_lessened (P := P) (w := w) (base := base) T
  have m_find := ok_Floor_find (P := P) (w := w) (base := base) T
  have g_exchanged := ok_exchanged (P := P) (w := w) (base := base) T
  refine mdX T.d_Floor_lessen T.l_Floor T.m_Floor_lessen sc_Floor_lessen (fun _ _ _ _ _ _ us hl => match us, hl with | [_, _, _], _ => rfl) (fun vs H Q E h => ?_) (fun cdv A outer s H vs Q E hr h => ?_)
  · obtain ⟨p, n, v, F, dx, lb, ls, la, rfl, _⟩ := h
    rfl
  · obtain ⟨p, n, v, F, dx, lb, ls, la, rfl, hF, hz, q1, q2⟩ := h
    refine ⟨_, pss_cons (ps_set (i := 3) sc_Floor_lessen.nd rfl (Or.inr rfl) (cgX g_lessened (hr.mono (by decide)) (passes_call (takes_of rfl rfl rfl rfl) (fun _ _ _ _ h => h)) (pa_cons (cmX m_find (hr.mono (by decide)) (passes_call (takes_of rfl rfl rfl rfl) (fun _ _ _ _ h => h)) (pv 0) (pa_cons (pv 1) pa_nil)) (pa_cons (pv 2) pa_nil))))
      (pss_cons (ps_fld (pv 0) (cg g_exchanged (hr.mono (by decide)) (pa_cons (pe_fld (pv 0) rfl) (pa_cons (pv 3) pa_nil))) rfl)
      (pss_cons (ps_fld (pv 0) (cg g_exchanged (hr.mono (by decide)) (pa_cons (pe_fld (pv 0) rfl) (pa_cons (pv 3) pa_nil))) rfl)
      (pss_cons (ps_fld (pv 0) (pe_lc (own := [("sleeper", 4)]) (g := gName 4) (by rfl) sc_Floor_lessen.nd (pi_list (pe_fld (pv 0) rfl)) (blkOk_by (own := [("sleeper", 4)]) (by kernel_rfl)) (fun _ _ _ _ _ => pg_name (i := 4) sc_Floor_lessen.nd rfl (Or.inl rfl)) (fun _ _ _ _ _ => pts_nil) (fun _ _ _ _ _ => (pe_ifExp (pt_cmpR op_eq (pe_ix (r := rIxT K) ix_tup (pe_ix (r := rIxT K) ix_tup (pv 4) pe_int (fun _ _ => rfl)) pe_int (fun _ _ => rfl)) (pv 1) (nomark _)) (pe_tup (pa_cons (pe_ix (r := rIxT K) ix_tup (pv 4) pe_int (fun _ _ => rfl)) (pa_cons (pv 3) (pa_cons (pe_ix (r := rIxT K) ix_tup (pv 4) pe_int (fun _ _ => rfl)) pa_nil)))) (pv 4)))) rfl)
      (pss_one (ps_ret (pe_lst (pa_cons (pe_tup (pa_cons pe_str (pa_cons (pv 1) (pa_cons (pv 2) pa_nil)))) pa_nil))))))), ?_⟩
    have hkl := len_known F
    walk_at "rd"
    refine ⟨p, _, _, rfl, hF.o, by kernel_rfl, ?_⟩
    walk_at "rd"
    refine ⟨p, n, F, rfl, ⟨_, _, _, _, hF⟩, by omega, fun o ho b H1 s1 hb => ?_, fun hn e d H1 he s1 => q2 (by unfold BB.lessen; rw [hn]) e d H1 he s1⟩
    walk_at "rd"
    refine ⟨b, o, v, rfl, hb, fun g1 g2 c hc => ?_, fun h e d he => q2 (by unfold BB.lessen; rw [ho]; exact if_neg h) e d H1 he s1⟩
    have ht : BB.lessen n v F = some ([.less n v], { F with buys := BB.exchanged F.buys (BB.lessened o v), sells := BB.exchanged F.sells (BB.lessened o v), asleep := F.asleep.map fun s => if s.ord.name = n then { s with ord := BB.lessened o v } else s }) := by
      unfold BB.lessen
      rw [ho]
      exact if_pos ⟨g1, g2⟩
    have q := q1 _ _ ht
    have sc := same_upd (o := .tup (BB.lessened o v).v) hc
    have hc1 : (upd H1 c (.tup (BB.lessened o v).v)) c = some (.tup (BB.lessened o v).v) := upd_same
    have hF1 := hF.same (s1.trans sc)
    have hcp : c ≠ p := fun e => by rw [e, (hF.same s1).o] at hc; cases hc
    have hB1 := But.of (p := p) (s1.trans sc)
    generalize (upd H1 c (.tup (BB.lessened o v).v)) = Hc at *
    walk_at "rd"
    refine ⟨p, _, dx, _, _, rfl, hF1.o, T.l_Floor, T.n_buys, ff_buys _ _ _ _ _ _, ?_⟩
    walk_at "rd"
    refine ⟨lb, c, BB.lessened o v, F.buys, rfl, hF1.b, hc1, by omega, fun l1 H2 s2 hl1 hL1 => ?_⟩
    walk_at "rd"
    refine put_buys T (hF1.same s2) hL1 fun H3 b3 hF3 => ?_
    have hc3 := b3 _ _ (s2 _ _ hc1) hcp
    walk_at "rd"
    refine ⟨p, _, dx, _, _, rfl, hF3.o, T.l_Floor, T.n_sells, ff_sells _ _ _ _ _ _, ?_⟩
    walk_at "rd"
    refine ⟨ls, c, BB.lessened o v, F.sells, rfl, hF3.s, hc3, by omega, fun l2 H4 s4 hl2 hL2 => ?_⟩
    walk_at "rd"
    refine put_sells T (hF3.same s4) hL2 fun H5 b5 hF5 => ?_
    have hc5 := b5 _ _ (s4 _ _ hc3) hcp
    obtain ⟨va, hva, haT⟩ := id hF5.a
    have hal := haT.length
    have hal' : va.length = F.asleep.length := hal
    walk_at "rd"
    refine ⟨p, _, dx, _, _, rfl, hF5.o, T.l_Floor, T.n_asleep, ff_asleep _ _ _ _ _ _, ?_⟩
    refine ⟨la, rfl, ⟨va, SqL.of hva⟩, fun D hD => lc_slps (outF (fun _ => true) (fun s : Slp => if s.ord.name = n then { s with ord := BB.lessened o v } else s) F.asleep) hD hva outF_zero (fun i _ => outF_len (by omega) i) (fun i x H6 Nx hx s yes no => ?_) fun H6 s h => ?_⟩
    · obtain ⟨z, hz1, a1, b1, rfl, h1, h2⟩ := haT.get hx
      have h1' := s _ _ h1
      have h2' := s _ _ h2
      have hc6 := s _ _ hc5
      refine ⟨rfl, ?_⟩
      walk_at "rd"
      by_cases e : z.ord.name = n
      · refine iteY ?_ ?_
        · simp [e]
        · walk_at "rd"
          intro t ht
          have w := same_upd (o := .tup [.str z.kd.s, .ref c, .int z.trig]) ht
          exact yes (.ref t) _ ⟨z.kd, BB.lessened o v, z.trig⟩ w ⟨t, c, rfl, upd_same, w _ _ hc6⟩ (by rw [outF_yes hz1 rfl, if_pos e])
      · refine iteN ?_ ?_
        · simp [e]
        · walk_at "rd"
          exact yes _ _ _ (Same.refl _) ⟨a1, b1, rfl, h1', h2'⟩ (by rw [outF_yes hz1 rfl, if_neg e])
    · rw [outF_all hal', show F.asleep.filter (fun _ => true) = F.asleep from by simp] at h
      walk_at "rd"
      refine put_asleep T (hF5.same s) h fun H7 b7 hF7 => ?_
      have hB := (((((hB1.trans (But.of s2)).trans b3).trans (But.of s4)).trans b5).trans (But.of s)).trans b7
      walk_at "rd"
      intro t ht
      have u1 := same_upd (o := .tup [.str "less", .str n, .int v]) ht
      walk_at "rd"
      intro l hl
      have u2 := same_upd (o := .lst [.ref t]) hl
      have u := u1.trans u2
      refine q l _ (hB.trans (But.of u)) ((hB.trans (But.of u1)).free hF.o hl (FlAt.nep ⟨_, _, _, _, hF7.same u1⟩ hl)) ⟨_, _, _, _, hF7.same u⟩ ⟨_, upd_same, .one ⟨t, rfl, u2 _ _ upd_same⟩⟩
theorem ok_Floor_look (T : Txt K mg) : Md P w K mg base CX0 (1) (He.ga K "Floor") "look" ["self"] (fun vs H Q E => ∃ (p : Addr) (F : Floor), vs = [.ref p] ∧ FlAt K H p F ∧ ∀ t l1 l2 l3 H', Same H H' → H' t = some (.tup [.str F.phase.s, .int F.last, .ref l1, .ref l2, .ref l3]) → LinAt H' l1 F.buys → LinAt H' l2 F.sells → SlsAt H' l3 F.asleep → Q (.ref t) H') := by
  refine md0 T.d_Floor_look T.l_Floor T.m_Floor_look sc_Floor_look (fun _ _ _ _ _ _ us hl => match us, hl with | [_], _ => rfl) (fun vs H Q E h => ?_) (fun cdv A outer s H vs Q E hr h => ?_)
  · obtain ⟨p, F, rfl, _⟩ := h
    rfl
  · obtain ⟨p, F, rfl, ⟨dx, lb, ls, la, hF⟩, q⟩ := h
    refine ⟨_, pss_one (ps_ret (pe_tup (pa_cons (pe_fld (pv 0) rfl) (pa_cons (pe_fld (pv 0) rfl) (pa_cons (pe_callTy call_list_of (by rfl) T.b_list (by decide +kernel) (pa_cons (pe_fld (pv 0) rfl) pa_nil)) (pa_cons (pe_callTy call_list_of (by rfl) T.b_list (by decide +kernel) (pa_cons (pe_fld (pv 0) rfl) pa_nil)) (pa_cons (pe_callTy call_list_of (by rfl) T.b_list (by decide +kernel) (pa_cons (pe_fld (pv 0) rfl) pa_nil)) pa_nil))))))), ?_⟩
    obtain ⟨vb, hvb, hbT⟩ := id hF.b
    obtain ⟨vz, hvz, hsT⟩ := id hF.s
    obtain ⟨va, hva, haT⟩ := id hF.a
    walk_at "rd"
    refine ⟨p, _, dx, _, _, rfl, hF.o, T.l_Floor, T.n_phase, ff_phase _ _ _ _ _ _, ?_⟩
    walk_at "rd"
    refine ⟨p, _, dx, _, _, rfl, hF.o, T.l_Floor, T.n_last, ff_last _ _ _ _ _ _, ?_⟩
    walk_at "rd"
    refine ⟨p, _, dx, _, _, rfl, hF.o, T.l_Floor, T.n_buys, ff_buys _ _ _ _ _ _, ?_⟩
    walk_at "rd"
    refine ⟨lb, _, rfl, .inl (SqL.of hvb), fun l1 h1 => ?_⟩
    have s1 := same_upd (o := .lst vb) h1
    walk_at "rd"
    refine ⟨p, _, dx, _, _, rfl, s1 _ _ hF.o, T.l_Floor, T.n_sells, ff_sells _ _ _ _ _ _, ?_⟩
    walk_at "rd"
    refine ⟨ls, _, rfl, .inl (SqL.of (s1 _ _ hvz)), fun l2 h2 => ?_⟩
    have s2 := same_upd (o := .lst vz) h2
    walk_at "rd"
    refine ⟨p, _, dx, _, _, rfl, (s1.trans s2) _ _ hF.o, T.l_Floor, T.n_asleep, ff_asleep _ _ _ _ _ _, ?_⟩
    walk_at "rd"
    refine ⟨la, _, rfl, .inl (SqL.of ((s1.trans s2) _ _ hva)), fun l3 h3 => ?_⟩
    have s3 := same_upd (o := .lst va) h3
    walk_at "rd"
    intro t ht
    have s4 := same_upd (o := .tup [.str F.phase.s, .int F.last, .ref l1, .ref l2, .ref l3]) ht
    have s := ((s1.trans s2).trans s3).trans s4
    exact q t l1 l2 l3 _ s upd_same ⟨_, ((s2.trans s3).trans s4) _ _ upd_same, hbT.kt (Kt.same s)⟩ ⟨_, (s3.trans s4) _ _ upd_same, hsT.kt (Kt.same s)⟩ ⟨_, s4 _ _ upd_same, haT.kt (Kt.same s)⟩
end
end BB
set_option Elab.async false
set_option linter.all false
set_option maxRecDepth 100000
set_option maxHeartbeats 4000000
/-! C4: sorted(xs, key=limit_of): some order of the same items. -/
namespace BB
open PySem PySem.Spec PyProof.Rows L2
/-- what is told of stands -/
theorem obj_there {P : Program} {w : World} {H : Hp} {h : Heap} {a : Addr} {u : HO} (x : ObjOk P w H h a u) : ∃ ob, h.get? a = some ob := by
  rcases u with xs | xs | kvs | kvs | ⟨S, n⟩ | ⟨C, dx, fs⟩ | y | fs | ⟨f, y⟩ | ⟨lo, hi⟩ | ⟨ob, u⟩ | ps | φ
  · obtain ⟨-, its, n, -, q⟩ := x
    exact ⟨_, q⟩
  · obtain ⟨-, its, -, ob, q, -⟩ := x
    exact ⟨_, q⟩
  · obtain ⟨-, -, vs, -, ob, es, ep, q, -⟩ := x
    exact ⟨_, q⟩
  · obtain ⟨-, -, vs, -, ob, es, ep, q, -⟩ := x
    exact ⟨_, q⟩
  · obtain ⟨ob, es, ep, vs, q, -⟩ := x
    exact ⟨_, q⟩
  · obtain ⟨-, -, -, q, -⟩ := x
    exact ⟨_, q⟩
  · exact x
  · obtain ⟨m, ⟨ob, es, ep, q, -⟩, -⟩ := x
    exact ⟨_, q⟩
  · exact ⟨_, x⟩
  · obtain ⟨t, u, v, q⟩ := x
    exact ⟨_, q⟩
  · exact ⟨_, x.1⟩
  · exact ⟨_, x⟩
  · exact x.2.1
/-- limit_of read by itself: all that stood stands -/
theorem limit_run {P : Program} {w : World} {A : Around} {s : Shared} {K : PySem.W.Frag} {f t : Addr} {its : Array Value} {k : Int} {u : Tok} (X : K.In s.heap) (hlim : s.heap.NoLimit) (F : ∃ fd, FunD K "limit_of" "limit_of" (defArgs s_limit_of) (defBody s_limit_of) (defScope s_limit_of) [] [] f fd)
    (hroom : A.depth < recursionLimit) (ht : IsTup s.heap t its) (h3 : its[3]? = some (.int k u)) (hz : its.size = 7) :
    wpAny (model P w) A (call (.ref f) [.ref t]) (fun r s' => ∃ h' tk, s' = { s with heap := h', toks := tk } ∧ r = .int k u ∧ ∀ b o, s.heap.get? b = some o → h'.get? b = some o) (fun _ _ => False) s := by
  obtain ⟨fd, F⟩ := F
  obtain ⟨oc, od, dV, kV, doc, pm, an, cdv, ct, osl, rfl, lk, hcd, hD, _⟩ := F.ex
  have B := F.bindsN (ps := ["order"]) (fun _ _ _ _ _ _ us hl => match us, hl with | [_], _ => rfl) s [.ref t] X rfl
  refine wpAny_call (Att.call_fn X hlim lk hcd hroom B rfl (fun s1 x => ?_) rfl rfl rfl)
  obtain ⟨⟨⟨h1, tk1, rfl⟩, ns, kp, fr⟩, _, _, _⟩ := x
  have ht1 : IsTup h1 t its := by
    obtain ⟨o, e, r⟩ := ht
    exact ⟨o, kp _ _ e, r⟩
  refine wpAny_execs_cons (wpAny_Return_some (Subscript_ (wpAny_Name (wpAny_loadName_local (m := _) (v := .ref t) rfl rfl ns rfl ?_) (by decide))))
  refine wpAny_Constant_int ?_
  refine subscriptTail_builtinR (x := .int k u) ht1.typeIs slot_tuple_getitem.lookup (getItem_tuple (j := 3) ht1 (by decide) (by decide) (by rw [hz]; rfl) h3 ?_) rfl
  exact ⟨rfl, h1, _, rfl, rfl, kp⟩
theorem Tups.refs {H : Hp} : ∀ {vs : List V} {xs : List (List V)}, Tups H vs xs → ∃ bs : List Addr, vs = bs.map V.ref
  | _, _, .nil => ⟨[], rfl⟩
  | _, _, .cons ⟨a, e, _⟩ t => by
    obtain ⟨bs, q⟩ := t.refs
    exact ⟨a :: bs, by rw [e, q]; rfl⟩
theorem refs_of : ∀ {ts : List Addr} {us : List Value}, Vals (ts.map V.ref) us → us = ts.map Value.ref
  | [], _, h => by
    cases h
    rfl
  | t :: ts, _, h => by
    cases h with
    | cons a b =>
      have z := refs_of b
      cases a
      rw [z]
      rfl
theorem of_refs : ∀ ts : List Addr, Vals (ts.map V.ref) (ts.map Value.ref)
  | [] => .nil
  | _ :: ts => .cons rfl (of_refs ts)
def rSortL (f : Addr) : List V → List V → Hp → VK → Prop := fun vs zs H Q => ∃ (a : Addr) (os : List Ord) (ys : List V), vs = [.ref a] ∧ zs = [.ref f] ∧ H a = some (.lst ys) ∧ Ords H ys os ∧ ys.length < 64 ∧
  ∀ ys' p, ys'.Perm ys → H p = none → Q (.ref p) (upd H p (.lst ys'))
theorem cr_sortL {X : Cx} (T : Txt X.K X.mg) (hr : Room 1 X.A) : CallRK X (.builtin "sorted") [Str.ofString "key"] (rSortL (He.ga X.K "limit_of")) := by
  intro pins s σ H vs zs us ws Q I r rz h
  obtain ⟨a, os, ys, rfl, rfl, ha, hT, h64, q⟩ := h
  obtain rfl := Vals.ref1 r
  obtain ⟨w1, rfl, e1⟩ := vals1 rz
  obtain rfl : w1 = Value.ref _ := e1
  obtain ⟨its, rv, hl, hz⟩ := I.list (SqL.of (K := X.K) ha)
  obtain ⟨m, F⟩ := I.fr
  obtain ⟨bs, rfl⟩ := Tups.refs hT
  obtain rfl := refs_of rv
  have hlen := Ords.len hT
  rw [List.length_map] at hlen h64
  have L0 := I.free
  have nb : ∀ b o, H b = some o → X.base.get? b = none ∧ b ≠ X.env.locals := fun b o e => by
    refine ⟨?_, fun z => by rw [z, L0] at e; cases e⟩
    cases c : X.base.get? b with
    | none => rfl
    | some ob =>
      rw [(I.bs b ob c).2] at e
      cases e
  refine ksk_sorted (kz := os.map (·.price)) (vs := bs.map Value.ref) (news := allNews X.base s.heap X.env.locals) F news_all (by simpa using hl.isList) (by rw [List.length_map, List.length_map]; omega) (by rw [List.length_map]; exact h64) (ksk_s1 _ _) (fun _ => ksk_l1 _ _) (fun x => ksk_t1 _ x) (fun i v k hv hk h tk own F' N' => ?_) fun D h' tk out c F' N' hlt ko => ?_
  · rw [List.getElem?_map] at hv hk
    obtain ⟨b, hb, rfl⟩ := Option.map_eq_some_iff.mp hv
    obtain ⟨o, ho, rfl⟩ := Option.map_eq_some_iff.mp hk
    obtain ⟨o', b', ho', e', hb'⟩ := Ords.get hT (i := i) (v := V.ref b) (by rw [List.getElem?_map, hb]; rfl)
    cases e'
    rw [ho] at ho'
    cases Option.some.inj ho'
    obtain ⟨its, rt, pt, hz7⟩ := I.tuple (SqT.of (K := X.K) hb')
    obtain ⟨n1, n2⟩ := nb _ _ hb'
    have pt' : IsTup h b its.toArray := by
      obtain ⟨ob, e, r⟩ := pt
      exact ⟨ob, (N' (b, ob) (List.mem_append_left _ (mem_allNews n2 n1 e))).1, r⟩
    obtain ⟨u3, hu3, ru3⟩ := rt.get (i := 3) (x := .int o.price) rfl
    obtain ⟨t3, rfl⟩ := ru3
    have hl7 := rt.length
    refine wpAny_mono (limit_run (I.ok.mod.kin.keeps F'.keep) (I.ok.mod.nolimit.keeps F'.keep) T.d_limit_of (by have := hr.dp; show X.A.depth < _; omega) pt' (by simpa using hu3) (by rw [List.size_toArray, ← hl7]; rfl)) (fun r s' hq => ?_) fun _ _ x => x
    obtain ⟨h2, tk2, rfl, rfl, kp⟩ := hq
    obtain ⟨ob, es, ep, e, r⟩ := F'.ns
    exact ⟨h2, tk2, t3, rfl, rfl, ⟨⟨ob, es, ep, kp _ _ e, r⟩, fun b o e => kp _ _ (F'.keep _ _ e), F'.above⟩, fun p hp => ⟨kp _ _ (N' p hp).1, (N' p hp).2⟩⟩
  · have hD := N' _ (List.mem_cons_self ..)
    have keep : ∀ b o, b ≠ X.env.locals → s.heap.get? b = some o → h'.get? b = some o := fun b o n e => by
      cases c : X.base.get? b with
      | some ob =>
        have z := (I.bs b ob c).1
        rw [e] at z
        cases Option.some.inj z
        exact F'.keep _ _ c
      | none => exact (N' (b, o) (List.mem_cons_of_mem _ (mem_allNews n c e))).1
    have hDn : s.heap.get? D = none := by
      cases c : s.heap.get? D with
      | none => rfl
      | some o => exact absurd (hlt (D, o) (mem_allNews hD.2.1 hD.2.2 c)) (Nat.lt_irrefl _)
    have hHD : H D = none := by
      cases c : H D with
      | none => rfl
      | some u =>
        obtain ⟨ob, e⟩ := obj_there (I.hok D u c)
        rw [hDn] at e
        cases e
    obtain ⟨ps, hp, ho, _⟩ := ko
    have hperm : out.toList.Perm (bs.map Value.ref) := by
      rw [ho]
      have := hp.map Prod.snd
      rw [List.map_snd_zip (by rw [List.length_map, List.length_map]; omega)] at this
      exact this
    obtain ⟨bs', hbs, ebs⟩ := perm_lift Value.ref hperm bs rfl
    have hlen' := hbs.length_eq
    have up : ∀ b u, H b = some u → upd H D (.lst (bs'.map V.ref)) b = some u := fun b u e => by
      rw [upd_ne (fun z => by rw [z, hHD] at e; cases e)]
      exact e
    refine ⟨.ref D, upd H D (.lst (bs'.map V.ref)), ?_, rfl, q _ D (hbs.map V.ref) hHD⟩
    refine I.step (g' := s.gens) (d' := s.drawn) (ch := []) (fun b hb => absurd hb (by simp)) (fun b ob n _ _ e _ => keep b ob n e) (fun b ob n _ _ e _ => ⟨ob.slots, keep b ob n e⟩)
      (fun b ob _ e n => by rw [upd_ne (fun z => by rw [z, hDn] at e; cases e)]; exact n) (fun b ob _ e => ?_) (fun b _ e => up b _ e) (fun b _ _ e => up b _ e) (fun b ps e => ⟨#[], by rw [up b _ e]; simp⟩) (fun m' hm => ?_) (fun b u e => ?_) I.bare
    · by_cases n : b = X.env.locals
      · obtain ⟨ob', _, _, e', _⟩ := F'.ns
        exact ⟨ob', by rw [n]; exact e'⟩
      · exact ⟨ob, keep b ob n e⟩
    · obtain ⟨o1, es1, ep1, e1, d1, k1, f1⟩ := hm
      obtain ⟨o2, es2, ep2, e2, d2, k2, f2⟩ := F.ns
      rw [e1] at e2
      cases Option.some.inj e2
      rw [d1] at d2
      cases d2
      have : m = m' := funext fun x => by rw [← f1 x, ← f2 x]
      rw [← this]
      exact F'.ns
    · by_cases hb : b = D
      · rw [hb, upd_same] at e
        cases e
        rw [hb]
        refine ⟨by rw [List.length_map]; exact Nat.le_trans (m := 64) (by omega) (by decide), bs'.map Value.ref, c, of_refs bs', ?_⟩
        rw [ebs, Array.toArray_toList]
        exact hD.1
      · rw [upd_ne hb] at e
        refine (I.hok b u e).stay (fun c v hc q => keep c v ?_ q) (fun c q => up c _ q) fun c _ q => up c _ q
        rcases hc with z | z
        · rw [z]
          exact (nb _ _ e).2
        · exact (nb _ _ z).2
end BB
set_option Elab.async false
set_option linter.all false
set_option maxRecDepth 100000
set_option maxHeartbeats 4000000
/-! C5: min(xs, default=d) of ints. -/
namespace BB
open PySem PySem.Spec PyProof.Rows L2
theorem alike_ints (ns : List Int) : PySem.W.AlikeAll (ns.map PyData.int) := by
  refine ⟨fun x hx y hy => ?_, fun x hx e => ?_⟩
  · obtain ⟨i, _, rfl⟩ := List.mem_map.mp hx
    obtain ⟨j, _, rfl⟩ := List.mem_map.mp hy
    rfl
  · obtain ⟨i, _, rfl⟩ := List.mem_map.mp hx
    cases e
def rMinD (K : PySem.W.Frag) : List V → List V → Hp → VK → Prop := fun vs zs H Q => ∃ (a : Addr) (ns : List Int) (d : Int), vs = [.ref a] ∧ zs = [.int d] ∧ SqL K H a (ns.map V.int) ∧ ∀ i, (i = d ∨ i ∈ ns) → Q (.int i) H
theorem depth_ints (ns : List Int) : PyData.depthAll (ns.map PyData.int) ≤ 1 := by
  induction ns with
  | nil => simp [PyData.depthAll]
  | cons n ns ih =>
    show max (PyData.depth (.int n)) (PyData.depthAll (ns.map PyData.int)) ≤ 1
    have : PyData.depth (.int n) ≤ 1 := by simp [PyData.depth]
    omega
theorem cr_minD {X : Cx} (hh : X.A.handled = none) (hu : X.A.units + 64 < cLine) : CallRK X (.builtin "min") [Str.ofString "default"] (rMinD X.K) := by
  intro pins s σ H vs zs us ws Q I r rz h
  obtain ⟨a, ns, d, rfl, rfl, hs, q⟩ := h
  obtain rfl := Vals.ref1 r
  obtain ⟨w1, rfl, e1⟩ := vals1 rz
  obtain ⟨t, rfl⟩ : ∃ t, w1 = Value.int d t := e1
  obtain ⟨its, rv, hl, hz⟩ := I.list hs
  have hi := rv.ints
  have hr := hi.reads s.heap
  have hdp := depth_ints ns
  refine PySem.W.min_list_default (xs := ns.map PyData.int) (as := []) hh hl.isList (by simpa using hr) (alike_ints ns) (by omega) (fun e h' tk k => ?_) fun y ys i v h' tk bs e hv hrv k => ?_
  · exact ⟨.int d, H, I.kept k, ⟨t, rfl⟩, q d (.inl rfl)⟩
  · have hv' : its[i]? = some v := by simpa using hv
    have hlen := rv.length
    have hi2 : i < ns.length := by
      have := (List.getElem?_eq_some_iff.mp hv').1
      rw [List.length_map] at hlen
      omega
    obtain ⟨u, hu2, ru⟩ := rv.get (i := i) (x := .int ns[i]) (by rw [List.getElem?_map, List.getElem?_eq_getElem hi2]; rfl)
    obtain ⟨t2, rfl⟩ := ru
    rw [hv'] at hu2
    cases Option.some.inj hu2
    exact ⟨.int ns[i], H, I.kept k, ⟨t2, rfl⟩, q _ (.inr (List.getElem_mem hi2))⟩
end BB
set_option Elab.async false
set_option linter.all false
set_option maxRecDepth 100000
set_option maxHeartbeats 4000000
/-! W13: limits, rank_at, call_price, poured, parts_of. -/
namespace BB
open PySem PySem.Spec PyProof.Rows L2
local macro_rules | `(tactic| walk_at "rd") => `(tactic| repeat (first | refine ⟨_, rfl, ?_⟩ | refine ⟨_, _, rfl, rfl, ?_⟩ | refine ⟨_, _, rfl, ?_⟩ | refine ⟨rfl, ?_⟩ | refine ⟨_, _, _, _, rfl, rfl, SqT.of (by assumption), rfl, ?_⟩ | refine ⟨Nat.le_of_ble_eq_true rfl, ?_⟩))
theorem Tups.mem {H : Hp} {vs : List V} {xs : List (List V)} {v : V} (h : Tups H vs xs) (m : v ∈ vs) : ∃ x, x ∈ xs ∧ TupAt H v x := by
  obtain ⟨i, hi⟩ := List.mem_iff_getElem?.mp m
  obtain ⟨x, e, t⟩ := h.get hi
  exact ⟨x, List.mem_of_getElem? e, t⟩
theorem ints_fl (ns : List Int) : (ns.map V.int).all fl = true := by
  induction ns with
  | nil => rfl
  | cons n ns ih => exact ih
section
variable {P : Program} {w : World} {K : PySem.W.Frag} {mg : Str → Option Value} {base : Heap}
theorem ok_limits (T : Txt K mg) : Gd P w K mg base CX0 (3) "limits" ["buys", "sells"] (fun vs H Q E => ∃ (l m : Addr) (bs ss : List Ord), vs = [.ref l, .ref m] ∧ LinAt H l bs ∧ LinAt H m ss ∧ bs.length + ss.length < 64 ∧ ∀ p (ps : List Int) H', Same H H' → H p = none → H' p = some (.lst (ps.map V.int)) → ps.length ≤ 64 → Q (.ref p) H') := by
  refine gd0 T.d_limits T.g_limits sc_limits (fun _ _ _ _ _ _ us hl => match us, hl with | [_, _], _ => rfl) (fun vs H Q E h => ?_) (fun cdv A outer s H vs Q E hr h => ?_)
  · obtain ⟨l, m, bs, ss, rfl, _⟩ := h
    rfl
  · obtain ⟨l, m, bs, ss, rfl, hL, hM, hz, q⟩ := h
    refine ⟨_, pss_cons (ps_set (i := 2) sc_limits.nd rfl (Or.inl rfl) (pe_lst pa_nil))
      (pss_cons (ps_for PassesOwn.never rfl (pi_list (pe_callBK (cr_sortL T (hr.mono (by decide))) (by rfl) T.b_sorted (by decide +kernel) (pa_cons (pe_op op_cat (pv 0) (pv 1)) pa_nil) (pk_cons (pe_glob (v := V.ref (He.ga K "limit_of")) (by rfl) T.g_limit_of rfl) pk_nil))) (pg_name (i := 3) sc_limits.nd rfl (Or.inl rfl))
        (pss_one (ps_if (PW.pt (pw_or (pt_cmpR (op_eqD hr.units) (pv 2) (pe_lst pa_nil) (nomark _)) (pw_or1 (pt_cmpR op_ne (pe_ix ix_list (pv 2) (pe_un un_neg pe_int) (fun _ _ => rfl)) (pe_ix ix_tup (pv 3) pe_int (fun _ _ => rfl)) (nomark _))))) (pss_one (ps_expr (pe_bm PySem.F.plainAttrs_list PySem.F.slot_list_append PySem.F.type_list_append mt_append (pv 2) (pa_cons (pe_ix ix_tup (pv 3) pe_int (fun _ _ => rfl)) pa_nil)))) pss_nil)))
      (pss_one (ps_ret (pv 2)))), ?_⟩
    obtain ⟨vb, hvb, hbT⟩ := id hL
    obtain ⟨vz, hvz, hsT⟩ := id hM
    have lb1 := Ords.len hbT
    have ls1 := Ords.len hsT
    walk_at "rd"
    intro p0 hp0
    have s0 := same_upd (o := .lst []) hp0
    walk_at "rd"
    refine ⟨l, m, vb, vz, rfl, rfl, s0 _ _ hvb, s0 _ _ hvz, line1000 (by omega), fun c hc => ?_⟩
    have s1 := same_upd (o := .lst (vb ++ vz)) hc
    have hT : Ords (upd (upd H p0 (.lst [])) c (.lst (vb ++ vz))) (vb ++ vz) (bs ++ ss) := by
      unfold Ords
      rw [List.map_append]
      exact (hbT.append hsT).kt (Kt.same (s0.trans s1))
    walk_at "rd"
    refine ⟨c, bs ++ ss, _, rfl, rfl, upd_same, hT, by rw [List.length_append]; omega, fun ys' p1 hperm hp1 => ?_⟩
    have s2 := same_upd (o := .lst ys') hp1
    have s012 := (s0.trans s1).trans s2
    have n01 : p1 ≠ p0 := fun e => by rw [e, s1 _ _ upd_same] at hp1; cases hp1
    have hylen := hperm.length_eq
    rw [List.length_append] at hylen
    walk_at "rd"
    refine ⟨⟨ys', SqL.of upd_same⟩, for_list (xs := ys') (fun i σ H' => ∃ (ps : List Int) (v3 : Option V), σ = [some (.ref l), some (.ref m), some (.ref p0), v3] ∧ Same H H' ∧ Kt (upd (upd (upd H p0 (.lst [])) c (.lst (vb ++ vz))) p1 (.lst ys')) H' ∧ H' p1 = some (.lst ys') ∧ H' p0 = some (.lst (ps.map V.int)) ∧ ps.length ≤ i)
      ⟨[], none, rfl, s012, Kt.refl _, upd_same, (s1.trans s2) _ _ upd_same, Nat.le_refl _⟩ (fun i σ H' _ h => by obtain ⟨_, _, _, _, _, h, _⟩ := h; exact SqL.of h) (fun i x σ H' hx h => ?_) fun σ H' h => ?_⟩
    · obtain ⟨ps, v3, rfl, sH, hk, h1, hp, hl⟩ := h
      obtain ⟨xv, hxm, b, rfl, hb⟩ := hT.mem (hperm.mem_iff.mp (List.mem_of_getElem? hx))
      obtain ⟨o, ho, rfl⟩ := List.mem_map.mp hxm
      have hb' := hk _ _ (s2 _ _ hb)
      have hi := (List.getElem?_eq_some_iff.mp hx).1
      have more : ∀ (H2 : Hp), Same H' H2 → Same H (upd H2 p0 (.lst (ps.map V.int ++ [.int o.price]))) ∧ Kt (upd (upd (upd H p0 (.lst [])) c (.lst (vb ++ vz))) p1 (.lst ys')) (upd H2 p0 (.lst (ps.map V.int ++ [.int o.price]))) ∧ (upd H2 p0 (.lst (ps.map V.int ++ [.int o.price]))) p1 = some (.lst ys') := fun H2 s => by
        refine ⟨fun b ob e => ?_, (hk.trans (Kt.same s)).trans (Kt.upd fun ys e => by rw [s _ _ hp] at e; cases e), ?_⟩
        · rw [upd_ne (ne_of_none e hp0)]
          exact s _ _ (sH _ _ e)
        · rw [upd_ne n01]
          exact s _ _ h1
      walk_at "rd"
      intro e he
      have u := same_upd (o := .lst []) he
      refine eq_fnil (u _ _ hp) upd_same (ints_fl ps) ?_
      walk_at "rd"
      have hbu := u _ _ hb'
      rcases List.eq_nil_or_concat ps with rfl | ⟨qs, z, eps⟩
      · refine iteY rfl ?_
        walk_at "rd"
        refine ⟨.inl ⟨rfl, _, SqL.of (u _ _ hp)⟩, ?_⟩
        walk_at "rd"
        refine ⟨p0, _, _, rfl, rfl, u _ _ hp, Nat.lt_of_lt_of_le (m := 100) (by show 0 < 100; omega) (by decide), ?_⟩
        obtain ⟨m1, m2, m3⟩ := more _ u
        exact ⟨[o.price], _, rfl, m1, m2, m3, upd_same, by show 1 ≤ _; omega⟩
      · rw [List.concat_eq_append] at eps
        subst eps
        have hl' : qs.length + 1 ≤ i := by simpa using hl
        refine iteN (by simp) ?_
        walk_at "rd"
        refine ⟨p0, _, _, .int z, rfl, rfl, SqL.of (u _ _ hp), by rw [List.map_append]; exact atI_last _ _, ?_⟩
        walk_at "rd"
        by_cases cz : z = o.price
        · refine iteN (by simp [cz]) ⟨_, _, rfl, sH.trans u, hk.trans (Kt.same u), u _ _ h1, u _ _ hp, by omega⟩
        · refine iteY (by simp [cz]) ?_
          walk_at "rd"
          refine ⟨.inl ⟨rfl, _, SqL.of (u _ _ hp)⟩, ?_⟩
          walk_at "rd"
          refine ⟨p0, _, _, rfl, rfl, u _ _ hp, Nat.lt_of_lt_of_le (m := 100) (by simp only [List.length_map, List.length_append, List.length_singleton]; omega) (by decide), ?_⟩
          obtain ⟨m1, m2, m3⟩ := more _ u
          refine ⟨qs ++ [z] ++ [o.price], _, rfl, m1, m2, m3, ?_, by rw [List.length_append]; show _ + 1 ≤ _; omega⟩
          rw [upd_same, List.map_append (l₁ := qs ++ [z])]
          rfl
    · obtain ⟨ps, v3, rfl, sH, hk, h1, hp, hl⟩ := h
      walk_at "rd"
      exact q p0 ps _ sH hp0 hp (by omega)
theorem ok_rank_at (T : Txt K mg) : Gd P w K mg base CX0 (4) "rank_at" ["buys", "sells", "near", "price"] (fun vs H Q E => ∃ (l m : Addr) (bs ss : List Ord) (near price : Int), vs = [.ref l, .ref m, .int near, .int price] ∧ LinAt H l bs ∧ LinAt H m ss ∧ ∀ p z1 z2 H', Same H H' → H' p = some (.tup [.int (BB.volume bs ss price), .int z1, .int z2, .int (-price)]) → Q (.ref p) H') := by
  have g_wanted := ok_wanted (P := P) (w := w) (base := base) T
  have g_offered := ok_offered (P := P) (w := w) (base := base) T
  refine gd0 T.d_rank_at T.g_rank_at sc_rank_at (fun _ _ _ _ _ _ us hl => match us, hl with | [_, _, _, _], _ => rfl) (fun vs H Q E h => ?_) (fun cdv A outer s H vs Q E hr h => ?_)
  · obtain ⟨l, m, bs, ss, near, price, rfl, _⟩ := h
    rfl
  · obtain ⟨l, m, bs, ss, near, price, rfl, hL, hM, q⟩ := h
    refine ⟨_, pss_cons (ps_set (i := 4) sc_rank_at.nd rfl (Or.inl rfl) (cg g_wanted (hr.mono (by decide)) (pa_cons (pv 0) (pa_cons (pv 3) pa_nil))))
      (pss_cons (ps_set (i := 5) sc_rank_at.nd rfl (Or.inl rfl) (cg g_offered (hr.mono (by decide)) (pa_cons (pv 1) (pa_cons (pv 3) pa_nil))))
      (pss_one (ps_ret (pe_tup (pa_cons (pe_callB (call_min2 rfl) (by rfl) T.b_min (by decide +kernel) (pa_cons (pv 4) (pa_cons (pv 5) pa_nil))) (pa_cons (pe_un un_neg (pe_callB call_abs (by rfl) T.b_abs (by decide +kernel) (pa_cons (pe_op op_sub (pv 4) (pv 5)) pa_nil))) (pa_cons (pe_un un_neg (pe_callB call_abs (by rfl) T.b_abs (by decide +kernel) (pa_cons (pe_op op_sub (pv 3) (pv 2)) pa_nil))) (pa_cons (pe_un un_neg (pv 3)) pa_nil)))))))), ?_⟩
    walk_at "rd"
    refine ⟨l, price, bs, rfl, hL, ?_⟩
    walk_at "rd"
    refine ⟨m, price, ss, rfl, hM, ?_⟩
    walk_at "rd"
    intro p hp
    exact q p _ _ _ (same_upd hp) upd_same
theorem ok_call_price (T : Txt K mg) : Gd P w K mg base CX0 (5) "call_price" ["buys", "sells", "near"] (fun vs H Q E => ∃ (l m : Addr) (bs ss : List Ord) (near : Int), vs = [.ref l, .ref m, .int near] ∧ LinAt H l bs ∧ LinAt H m ss ∧ bs.length + ss.length < 64 ∧ (∀ H', Same H H' → Q .non H') ∧ ∀ p H', Same H H' → 0 < BB.volume bs ss p → Q (.int p) H') := by
  have g_limits := ok_limits (P := P) (w := w) (base := base) T
  have g_rank_at := ok_rank_at (P := P) (w := w) (base := base) T
  refine gd0 T.d_call_price T.g_call_price sc_call_price (fun _ _ _ _ _ _ us hl => match us, hl with | [_, _, _], _ => rfl) (fun vs H Q E h => ?_) (fun cdv A outer s H vs Q E hr h => ?_)
  · obtain ⟨l, m, bs, ss, near, rfl, _⟩ := h
    rfl
  · obtain ⟨l, m, bs, ss, near, rfl, hL, hM, hz, q1, q2⟩ := h
    refine ⟨_, pss_cons (ps_set (i := 3) sc_call_price.nd rfl (Or.inl rfl) pe_non)
      (pss_cons (ps_for PassesOwn.never rfl (pi_list (cg g_limits (hr.mono (by decide)) (pa_cons (pv 0) (pa_cons (pv 1) pa_nil)))) (pg_name (i := 4) sc_call_price.nd rfl (Or.inl rfl))
        (pss_cons (ps_set (i := 5) sc_call_price.nd rfl (Or.inl rfl) (cg g_rank_at (hr.mono (by decide)) (pa_cons (pv 0) (pa_cons (pv 1) (pa_cons (pv 2) (pa_cons (pv 4) pa_nil))))))
      (pss_one (ps_if (PW.pt (pw_and (pt_cmpR op_gt (pe_ix ix_tup (pv 5) pe_int (fun _ _ => rfl)) pe_int (nomark _)) (pw_and1 (PW.pt (pw_or (pt_cmpR op_isN (pv 3) pe_non (nomark _)) (pw_or1 (pt_cmpR (op_gtT hr.units0) (pv 5) (pv 3) (nomark _)))))))) (pss_one (ps_set (i := 3) sc_call_price.nd rfl (Or.inl rfl) (pv 5))) pss_nil))))
      (pss_cons (ps_if (pt_cmpR op_isN (pv 3) pe_non (nomark _)) (pss_one (ps_ret pe_non)) pss_nil)
      (pss_one (ps_ret (pe_un un_neg (pe_ix ix_tup (pv 3) pe_int (fun _ _ => rfl))))))), ?_⟩
    walk_at "rd"
    refine ⟨l, m, bs, ss, rfl, hL, hM, hz, fun p ps H1 s1 hp0 hp hl => ?_⟩
    walk_at "rd"
    refine ⟨⟨_, SqL.of hp⟩, for_list (xs := ps.map V.int) (fun i σ H' => ∃ (v3 : V) (v4 v5 : Option V), σ = [some (.ref l), some (.ref m), some (.int near), some v3, v4, v5] ∧ Same H1 H' ∧ (v3 = .non ∨ ∃ (b : Addr) (pr z1 z2 : Int), v3 = .ref b ∧ 0 < BB.volume bs ss pr ∧ H' b = some (.tup [.int (BB.volume bs ss pr), .int z1, .int z2, .int (-pr)])))
      ⟨_, _, _, rfl, Same.refl _, .inl rfl⟩ (fun i σ H' _ h => by obtain ⟨_, _, _, _, h, _⟩ := h; exact SqL.of (h _ _ hp)) (fun i x σ H' hx h => ?_) fun σ H' h => ?_⟩
    · obtain ⟨v3, v4, v5, rfl, sH, hv⟩ := h
      rw [List.getElem?_map] at hx
      obtain ⟨pr, hpr, rfl⟩ := Option.map_eq_some_iff.mp hx
      walk_at "rd"
      refine ⟨l, m, bs, ss, near, pr, rfl, hL.same (s1.trans sH), hM.same (s1.trans sH), fun b z1 z2 H2 s2 hb => ?_⟩
      walk_at "rd"
      by_cases c : 0 < BB.volume bs ss pr
      · refine iteY (decide_eq_true c) ?_
        rcases hv with rfl | ⟨b', pr', y1, y2, rfl, c', hb'⟩
        · walk_at "rd"
          exact ⟨_, _, _, rfl, sH.trans s2, .inr ⟨b, pr, z1, z2, rfl, c, hb⟩⟩
        · have hb2 := s2 _ _ hb'
          walk_at "rd"
          refine ⟨b, b', [BB.volume bs ss pr, z1, z2, -pr], [BB.volume bs ss pr', y1, y2, -pr'], rfl, rfl, SqT.of hb, SqT.of hb2, fun k => ?_⟩
          walk_at "rd"
          cases k with
          | true =>
            refine iteY rfl ?_
            walk_at "rd"
            exact ⟨_, _, _, rfl, sH.trans s2, .inr ⟨b, pr, z1, z2, rfl, c, hb⟩⟩
          | false => exact iteN rfl ⟨_, _, _, rfl, sH.trans s2, .inr ⟨b', pr', y1, y2, rfl, c', hb2⟩⟩
      · refine iteN (decide_eq_false c) ⟨_, _, _, rfl, sH.trans s2, ?_⟩
        rcases hv with rfl | ⟨b', pr', y1, y2, rfl, c', hb'⟩
        · exact .inl rfl
        · exact .inr ⟨b', pr', y1, y2, rfl, c', s2 _ _ hb'⟩
    · obtain ⟨v3, v4, v5, rfl, sH, hv⟩ := h
      rcases hv with rfl | ⟨b', pr', y1, y2, rfl, c', hb'⟩
      · walk_at "rd"
        exact q1 _ (s1.trans sH)
      · walk_at "rd"
        have e : - -pr' = pr' := by omega
        show Q (.int (- -pr')) H'
        rw [e]
        exact q2 _ _ (s1.trans sH) c'
theorem poured_cons (a z : Int) (r : List Int) : BB.poured a (z :: r) = min2 z a :: BB.poured (a - min2 z a) r := rfl
theorem poured_snoc (z : Int) : ∀ (l : List Int) (a : Int), BB.poured a (l ++ [z]) = BB.poured a l ++ [min2 z (a - (BB.poured a l).sum)]
  | [], a => by
    show [min2 z a] = [min2 z (a - 0)]
    rw [Int.sub_zero]
  | x :: t, a => by
    show min2 x a :: BB.poured (a - min2 x a) (t ++ [z]) = min2 x a :: (BB.poured (a - min2 x a) t ++ [min2 z (a - (min2 x a :: BB.poured (a - min2 x a) t).sum)])
    rw [poured_snoc z t, List.sum_cons, Int.sub_sub]
theorem poured_len : ∀ (l : List Int) (a : Int), (BB.poured a l).length = l.length
  | [], _ => rfl
  | x :: t, a => by
    show (BB.poured (a - min2 x a) t).length + 1 = t.length + 1
    rw [poured_len t]
theorem ok_poured (T : Txt K mg) : Gd P w K mg base CX0 (1) "poured" ["amount", "sizes"] (fun vs H Q E => ∃ (a : Int) (l : Addr) (ns : List Int), vs = [.int a, .ref l] ∧ 0 ≤ a ∧ (∀ n ∈ ns, 0 ≤ n) ∧ H l = some (.lst (ns.map V.int)) ∧ ns.length < 1000 ∧ ∀ t l2 r H', Same H H' → H l2 = none → H' t = some (.tup [.ref l2, .int r]) → H' l2 = some (.lst ((BB.poured a ns).map V.int)) → Q (.ref t) H') := by
  refine gd0 T.d_poured T.g_poured sc_poured (fun _ _ _ _ _ _ us hl => match us, hl with | [_, _], _ => rfl) (fun vs H Q E h => ?_) (fun cdv A outer s H vs Q E hr h => ?_)
  · obtain ⟨a, l, ns, rfl, _⟩ := h
    rfl
  · obtain ⟨a, l, ns, rfl, ha, hn, hl, hz, q⟩ := h
    refine ⟨_, pss_cons (ps_if (PW.pt (pw_or (pt_cmpR op_lt (pv 0) pe_int (nomark _)) (pw_or1 (pt_cmpR op_lt (pe_callBK (cr_minD hr.hd hr.units) (by rfl) T.b_min (by decide +kernel) (pa_cons (pv 1) pa_nil) (pk_cons pe_int pk_nil)) pe_int (nomark _))))) (pss_one ps_never) pss_nil)
      (pss_cons (ps_set (i := 2) sc_poured.nd rfl (Or.inl rfl) (pe_lst pa_nil))
      (pss_cons (ps_for PassesOwn.never rfl (pi_list (pv 1)) (pg_name (i := 3) sc_poured.nd rfl (Or.inl rfl))
        (pss_cons (ps_set (i := 4) sc_poured.nd rfl (Or.inl rfl) (pe_callB (call_min2 rfl) (by rfl) T.b_min (by decide +kernel) (pa_cons (pv 3) (pa_cons (pv 0) pa_nil))))
      (pss_cons (ps_expr (pe_bm PySem.F.plainAttrs_list PySem.F.slot_list_append PySem.F.type_list_append mt_append (pv 2) (pa_cons (pv 4) pa_nil)))
      (pss_one (ps_set (i := 0) sc_poured.nd rfl (Or.inl rfl) (pe_op op_sub (pv 0) (pv 4)))))))
      (pss_one (ps_ret (pe_tup (pa_cons (pv 2) (pa_cons (pv 0) pa_nil))))))), ?_⟩
    walk_at "rd"
    refine iteN (decide_eq_false (by omega)) ?_
    walk_at "rd"
    refine ⟨l, ns, 0, rfl, rfl, SqL.of hl, fun i hi => ?_⟩
    walk_at "rd"
    have hi0 : 0 ≤ i := by
      rcases hi with rfl | hi
      · exact Int.le_refl _
      · exact hn i hi
    refine iteN (decide_eq_false (by omega)) ?_
    walk_at "rd"
    intro S hS
    have u := same_upd (o := .lst []) hS
    have hSl : S ≠ l := fun e => by rw [e, hl] at hS; cases hS
    walk_at "rd"
    refine ⟨⟨_, SqL.of (u _ _ hl)⟩, for_list (xs := ns.map V.int) (fun i σ H' => ∃ (v3 v4 : Option V), σ = [some (.int (a - (BB.poured a (ns.take i)).sum)), some (.ref l), some (.ref S), v3, v4] ∧ Same H H' ∧ H' S = some (.lst ((BB.poured a (ns.take i)).map V.int)))
      ⟨none, none, ?_, u, upd_same⟩ (fun i σ H' _ h => by obtain ⟨_, _, _, h, _⟩ := h; exact SqL.of (h _ _ hl)) (fun i x σ H' hx h => ?_) fun σ H' h => ?_⟩
    · show _ = [some (V.int (a - 0)), _, _, _, _]
      rw [Int.sub_zero]
      rfl
    · obtain ⟨v3, v4, rfl, sH, hp⟩ := h
      rw [List.getElem?_map] at hx
      obtain ⟨z, hz1, rfl⟩ := Option.map_eq_some_iff.mp hx
      have hi := (List.getElem?_eq_some_iff.mp hz1).1
      walk_at "rd"
      refine ⟨.inl ⟨rfl, _, SqL.of hp⟩, ?_⟩
      walk_at "rd"
      refine ⟨S, _, _, rfl, rfl, hp, Nat.lt_of_lt_of_le (m := 1000) (by rw [List.length_map, poured_len, List.length_take]; omega) (by decide), ?_⟩
      have e1 : BB.poured a (ns.take (i + 1)) = BB.poured a (ns.take i) ++ [min2 z (a - (BB.poured a (ns.take i)).sum)] := by
        rw [take_get hz1, poured_snoc]
      walk_at "rd"
      refine ⟨some (.int z), some (.int (min2 z (a - (BB.poured a (ns.take i)).sum))), ?_, ?_, ?_⟩
      · rw [e1, List.sum_append, List.sum_singleton, ← Int.sub_sub]
        rfl
      · exact fun b ob e => by
          rw [upd_ne (ne_of_none e hS)]
          exact sH _ _ e
      · rw [upd_same, e1, List.map_append]
        rfl
    · obtain ⟨v3, v4, rfl, sH, hp⟩ := h
      rw [List.length_map, List.take_length] at hp
      walk_at "rd"
      intro t ht
      have w := same_upd (o := .tup [.ref S, .int (a - (BB.poured a (ns.take (ns.map V.int).length)).sum)]) ht
      exact q t S _ _ (sH.trans w) hS upd_same (w _ _ hp)
end
end BB
set_option linter.all false
/-! M4: the call: what is poured, who meets whom. -/
namespace BB
open PySem (Str)
/-- who meets whom: the buyers' names with what each gets, the sellers' with what each gives -/
inductive Deals : List (Str × Int) → List (Str × Int) → List (Str × Str × Int) → Prop where
  | nil (S : List (Str × Int)) : Deals [] S []
  | next {b : Str} {g : Int} {B S : List (Str × Int)} {t : List (Str × Str × Int)} : ¬ 0 < g → Deals B S t → Deals ((b, g) :: B) S t
  | deal {b s : Str} {g h : Int} {B S : List (Str × Int)} {t : List (Str × Str × Int)} : 0 < g → 0 < h →
      Deals ((b, g - min2 g h) :: B) (if h - min2 g h = 0 then S else (s, h - min2 g h) :: S) t → Deals ((b, g) :: B) ((s, h) :: S) ((b, s, min2 g h) :: t)
/-- behind a nought all are noughts -/
def PZ : List Int → Prop
  | [] => True
  | h :: t => (h = 0 → ∀ x ∈ t, x = 0) ∧ PZ t
theorem sum_zero : ∀ {l : List Int}, (∀ x ∈ l, x = 0) → l.sum = 0
  | [], _ => rfl
  | x :: t, h => by
    rw [List.sum_cons, h x List.mem_cons_self, sum_zero fun y hy => h y (List.mem_cons_of_mem _ hy)]
    rfl
theorem sum_nn : ∀ {l : List Int}, (∀ x ∈ l, 0 ≤ x) → 0 ≤ l.sum
  | [], _ => Int.le_refl _
  | x :: t, h => by
    rw [List.sum_cons]
    have := h x List.mem_cons_self
    have := sum_nn fun y hy => h y (List.mem_cons_of_mem _ hy)
    omega
theorem PZ.pos {h : Int} {t : List Int} (p : PZ (h :: t)) (hn : 0 ≤ h) (hs : 0 < (h :: t).sum) : 0 < h := by
  by_cases z : h = 0
  · rw [List.sum_cons, z, sum_zero (p.1 z)] at hs
    omega
  · omega
theorem min2_nn {x y : Int} (h1 : 0 ≤ x) (h2 : 0 ≤ y) : 0 ≤ min2 x y := by unfold min2; split <;> omega
theorem poured_nn : ∀ {l : List Int} {v : Int}, (∀ x ∈ l, 0 ≤ x) → 0 ≤ v → ∀ x ∈ poured v l, 0 ≤ x
  | [], _, _, _ => by simp [poured]
  | z :: r, v, h, hv => by
    have h0 := h z List.mem_cons_self
    intro x hx
    rcases List.mem_cons.mp (show x ∈ min2 z v :: poured (v - min2 z v) r from hx) with rfl | hx
    · exact min2_nn h0 hv
    · refine poured_nn (fun y hy => h y (List.mem_cons_of_mem _ hy)) ?_ x hx
      have := min2_le2 z v
      omega
theorem poured_zero : ∀ {l : List Int}, (∀ x ∈ l, 0 ≤ x) → ∀ x ∈ poured 0 l, x = 0
  | [], _ => by simp [poured]
  | z :: r, h => by
    have h0 := h z List.mem_cons_self
    have e : min2 z 0 = 0 := by unfold min2; split <;> omega
    intro x hx
    have hx' : x ∈ min2 z 0 :: poured (0 - min2 z 0) r := hx
    rw [e, Int.sub_zero] at hx'
    rcases List.mem_cons.mp hx' with rfl | hx
    · rfl
    · exact poured_zero (fun y hy => h y (List.mem_cons_of_mem _ hy)) x hx
theorem poured_sum : ∀ {l : List Int} {v : Int}, (∀ x ∈ l, 0 ≤ x) → 0 ≤ v → v ≤ l.sum → (poured v l).sum = v
  | [], v, _, hv, hs => by
    have : v = 0 := by
      have : v ≤ 0 := hs
      omega
    rw [this]
    rfl
  | z :: r, v, h, hv, hs => by
    have h0 := h z List.mem_cons_self
    have hr := sum_nn fun y hy => h y (List.mem_cons_of_mem _ hy)
    rw [List.sum_cons] at hs
    show (min2 z v :: poured (v - min2 z v) r).sum = v
    have h2 := min2_le2 z v
    rw [List.sum_cons, poured_sum (fun y hy => h y (List.mem_cons_of_mem _ hy)) (by omega) (by rcases min2_or z v with e | e <;> omega)]
    omega
theorem poured_pz : ∀ {l : List Int} {v : Int}, (∀ x ∈ l, 0 < x) → 0 ≤ v → PZ (poured v l)
  | [], _, _, _ => trivial
  | z :: r, v, h, hv => by
    have h0 := h z List.mem_cons_self
    have h2 := min2_le2 z v
    refine ⟨fun e => ?_, poured_pz (fun y hy => h y (List.mem_cons_of_mem _ hy)) (by omega)⟩
    have e1 : v - min2 z v = 0 := by rcases min2_or z v with q | q <;> omega
    rw [e1]
    exact poured_zero fun y hy => by
      have := h y (List.mem_cons_of_mem _ hy)
      omega
theorem wanted_le (b : Bool) (p : Int) : ∀ {l : List Ord}, (∀ o ∈ l, Ok o) → wanted b p l ≤ (l.map (·.left)).sum
  | [], _ => Int.le_refl _
  | o :: r, h => by
    have h1 := h o List.mem_cons_self
    have := h1.s1
    have := h1.sl
    have := wanted_le b p (l := r) fun x hx => h x (List.mem_cons_of_mem _ hx)
    show (if allows b o.price p = true then o.left else 0) + wanted b p r ≤ (o.left :: r.map (·.left)).sum
    rw [List.sum_cons]
    split <;> omega
theorem left_pos {l : List Ord} (h : ∀ o ∈ l, Ok o) : ∀ x ∈ l.map (·.left), 0 < x := fun x hx => by
  obtain ⟨o, ho, rfl⟩ := List.mem_map.mp hx
  have h1 := h o ho
  have := h1.s1
  have := h1.sl
  omega
theorem deals_zero {B S : List (Str × Int)} {t : List (Str × Str × Int)} (d : Deals B S t) : (∀ x ∈ B, ¬ 0 < x.2) → t = [] := by
  induction d with
  | nil => exact fun _ => rfl
  | next _ _ ih => exact fun h => ih fun x hx => h x (List.mem_cons_of_mem _ hx)
  | deal hg _ _ _ => exact fun h => absurd hg (h _ List.mem_cons_self)
/-- what the walk of the pairs keeps: what is left to get, to give -/
structure PInv (G Hs : List Int) : Prop where
  g : ∀ x ∈ G, 0 ≤ x
  h : ∀ x ∈ Hs, 0 ≤ x
  le : G.sum ≤ Hs.sum
  pz : PZ Hs
theorem PInv.go {g : Int} {G Hs : List Int} (p : PInv (g :: G) Hs) (hg : 0 < g) : ∃ h t, Hs = h :: t ∧ 0 < h ∧ PInv ((g - min2 g h) :: G) (if h - min2 g h = 0 then t else (h - min2 g h) :: t) ∧ (g - min2 g h).toNat < g.toNat := by
  have hG := sum_nn fun y hy => p.g y (List.mem_cons_of_mem _ hy)
  have hle := p.le
  rw [List.sum_cons] at hle
  cases Hs with
  | nil =>
    have : ([] : List Int).sum = 0 := rfl
    omega
  | cons h t =>
    have hh := p.pz.pos (p.h h List.mem_cons_self) (by omega)
    have m1 := min2_le1 g h
    have m2 := min2_le2 g h
    have m0 : 0 < min2 g h := by rcases min2_or g h with e | e <;> omega
    rw [List.sum_cons] at hle
    refine ⟨h, t, rfl, hh, ⟨fun x hx => ?_, fun x hx => ?_, ?_, ?_⟩, by omega⟩
    · rcases List.mem_cons.mp hx with rfl | hx
      · omega
      · exact p.g x (List.mem_cons_of_mem _ hx)
    · split at hx
      · exact p.h x (List.mem_cons_of_mem _ hx)
      · rcases List.mem_cons.mp hx with rfl | hx
        · omega
        · exact p.h x (List.mem_cons_of_mem _ hx)
    · rw [List.sum_cons]
      split
      · omega
      · rw [List.sum_cons]
        omega
    · split
      · exact p.pz.2
      · exact ⟨fun e => absurd e (by omega), p.pz.2⟩
theorem PInv.next {g : Int} {G Hs : List Int} (p : PInv (g :: G) Hs) : PInv G Hs := by
  have := p.g g List.mem_cons_self
  have hle := p.le
  rw [List.sum_cons] at hle
  exact ⟨fun x hx => p.g x (List.mem_cons_of_mem _ hx), p.h, by omega, p.pz⟩
theorem pinv_start {bs ss : List Ord} {v : Int} (hb : ∀ o ∈ bs, Ok o) (hs : ∀ o ∈ ss, Ok o) (h0 : 0 ≤ v) (h1 : v ≤ (bs.map (·.left)).sum) (h2 : v ≤ (ss.map (·.left)).sum) : PInv (partsOf bs v) (partsOf ss v) := by
  have nb : ∀ x ∈ bs.map (·.left), 0 ≤ x := fun x hx => Int.le_of_lt (left_pos hb x hx)
  have ns : ∀ x ∈ ss.map (·.left), 0 ≤ x := fun x hx => Int.le_of_lt (left_pos hs x hx)
  refine ⟨poured_nn nb h0, poured_nn ns h0, ?_, poured_pz (left_pos hs) h0⟩
  show (poured v (bs.map (·.left))).sum ≤ (poured v (ss.map (·.left))).sum
  rw [poured_sum nb h0 h1, poured_sum ns h0 h2]
  exact Int.le_refl _
end BB
set_option Elab.async false
set_option linter.all false
set_option maxRecDepth 100000
set_option maxHeartbeats 4000000
/-! W14: parts_of, line_behind, paired. -/
namespace BB
open PySem PySem.Spec PyProof.Rows L2
local macro_rules | `(tactic| walk_at "rd") => `(tactic| repeat (first | refine ⟨_, rfl, ?_⟩ | refine ⟨_, _, rfl, rfl, ?_⟩ | refine ⟨_, _, rfl, ?_⟩ | refine ⟨rfl, ?_⟩ | refine ⟨_, _, _, _, rfl, rfl, SqT.of (by assumption), rfl, ?_⟩ | refine ⟨Nat.le_of_ble_eq_true rfl, ?_⟩))
section
variable {K : PySem.W.Frag} {a : Addr} {xs : List V} {g : TG} {tt : TT} {te : TE} {vs : List Nat} {σ : L2.St} {H1 : Hp} {D : Addr} {Qd : Hp → Prop}
theorem lc_ints (out : Nat → List Int) (hD : H1 D = none) (hl : H1 a = some (.lst xs)) (h0 : out 0 = []) (hz : ∀ i, i < xs.length → (out i).length < 1000)
    (hs : ∀ i x H (Nx : Hp → Prop), xs[i]? = some x → Same H1 H → (∀ y H4 z, Same H H4 → y = V.int z → out (i + 1) = out i ++ [z] → ∃ acc, H4 D = some (.lst acc) ∧ acc.length < sizeLine ∧ Nx (upd H4 D (.lst (acc ++ [y])))) →
      (∀ H3, Same H H3 → out (i + 1) = out i → Nx H3) → g x (wipe σ vs) H fun σ2 H2 => wipe σ2 vs = wipe σ vs ∧ tt σ2 H2 fun b H3 => if b = true then te σ2 H3 fun y H4 => ∃ acc, H4 D = some (.lst acc) ∧ acc.length < sizeLine ∧ Nx (upd H4 D (.lst (acc ++ [y]))) else Nx H3)
    (hd : ∀ H, Same H1 H → H D = some (.lst ((out xs.length).map V.int)) → Qd H) :
    ∃ W : Nat → Nat → Hp → Prop, (∃ m, W 0 m (upd H1 D (.lst []))) ∧ ∀ i m H, W i m H →
      ((Itl K a).stop i H ∧ Qd H) ∨ ((Itl K a).go i H ∧ ∃ Nx : Hp → Prop, (∀ H', Nx H' → ∃ m', m' < m ∧ W (i + 1) m' H') ∧ ∀ x H', (Itl K a).yld i H x H' → g x (wipe σ vs) H' fun σ2 H2 => wipe σ2 vs = wipe σ vs ∧ tt σ2 H2 fun b H3 =>
        if b = true then te σ2 H3 fun y H4 => ∃ acc, H4 D = some (.lst acc) ∧ acc.length < sizeLine ∧ Nx (upd H4 D (.lst (acc ++ [y]))) else Nx H3) :=
  lc_rel (fun _ us (ys : List Int) => us = ys.map V.int) (fun _ v z => v = V.int z) (fun _ => rfl) (fun _ us ys v z h t => by rw [h, t, List.map_append]; rfl) (fun _ _ _ _ k h => h) (fun _ _ _ _ k h => h) (fun _ us ys h => by rw [h, List.length_map]) out hD hl h0 hz hs
    fun H us s e r => hd H s (by rw [e, r])
end
theorem behindOf_snoc {o : Ord} {p : Int} : ∀ {os : List Ord} {ps : List Int}, os.length = ps.length → behindOf (os ++ [o]) (ps ++ [p]) = behindOf os ps ++ (if p = 0 then [o] else if p < o.left then [BB.fresh o (o.left - p)] else [])
  | [], [], _ => by
    show (if p = 0 then o :: behindOf [] [] else if p < o.left then BB.fresh o (o.left - p) :: behindOf [] [] else behindOf [] []) = [] ++ _
    split
    · rfl
    · split <;> rfl
  | x :: os, q :: ps, h => by
    have ih := behindOf_snoc (o := o) (p := p) (os := os) (ps := ps) (Nat.succ.inj h)
    show (if q = 0 then x :: behindOf (os ++ [o]) (ps ++ [p]) else if q < x.left then BB.fresh x (x.left - q) :: behindOf (os ++ [o]) (ps ++ [p]) else behindOf (os ++ [o]) (ps ++ [p])) =
      (if q = 0 then x :: behindOf os ps else if q < x.left then BB.fresh x (x.left - q) :: behindOf os ps else behindOf os ps) ++ _
    rw [ih]
    split
    · rfl
    · split <;> rfl
theorem behindOf_len : ∀ (os : List Ord) (ps : List Int), (behindOf os ps).length ≤ os.length
  | [], _ => Nat.le_refl _
  | x :: os, [] => Nat.zero_le _
  | x :: os, q :: ps => by
    have ih := behindOf_len os ps
    show (if q = 0 then x :: behindOf os ps else if q < x.left then BB.fresh x (x.left - q) :: behindOf os ps else behindOf os ps).length ≤ os.length + 1
    split
    · show _ + 1 ≤ _
      omega
    · split
      · show _ + 1 ≤ _
        omega
      · omega
section
variable {P : Program} {w : World} {K : PySem.W.Frag} {mg : Str → Option Value} {base : Heap}
theorem ok_parts_of (T : Txt K mg) : Gd P w K mg base CX0 (2) "parts_of" ["line", "amount"] (fun vs H Q E => ∃ (l : Addr) (v : Int) (os : List Ord), vs = [.ref l, .int v] ∧ LinAt H l os ∧ (∀ o ∈ os, Ok o) ∧ 0 ≤ v ∧ os.length < 1000 ∧ ∀ p H', Same H H' → H p = none → H' p = some (.lst ((partsOf os v).map V.int)) → Q (.ref p) H') := by
  have g_poured := ok_poured (P := P) (w := w) (base := base) T
  refine gd0 T.d_parts_of T.g_parts_of sc_parts_of (fun _ _ _ _ _ _ us hl => match us, hl with | [_, _], _ => rfl) (fun vs H Q E h => ?_) (fun cdv A outer s H vs Q E hr h => ?_)
  · obtain ⟨l, v, os, rfl, _⟩ := h
    rfl
  · obtain ⟨l, v, os, rfl, ⟨vs, hL, hT⟩, hok, h0, hz, q⟩ := h
    refine ⟨_, pss_one (ps_ret (pe_ix ix_tup (cg g_poured (hr.mono (by decide)) (pa_cons (pv 1) (pa_cons (pe_lc (own := [("order", 2)]) (g := gName 2) (by rfl) sc_parts_of.nd (pi_list (pv 0)) (blkOk_by (own := [("order", 2)]) (by kernel_rfl)) (fun _ _ _ _ _ => pg_name (i := 2) sc_parts_of.nd rfl (Or.inl rfl)) (fun _ _ _ _ _ => pts_nil) (fun _ _ _ _ _ => (pe_ix (r := rIxT K) ix_tup (pv 2) pe_int (fun _ _ => rfl)))) pa_nil))) pe_int (fun _ _ => rfl))), ?_⟩
    have hlen := Ords.len hT
    walk_at "rd"
    refine ⟨⟨vs, SqL.of hL⟩, fun D hD => lc_ints (outF (fun _ => true) (fun o : Ord => o.left) os) hD hL outF_zero (fun i _ => outF_len hz i) (fun i x H2 Nx hx s yes no => ?_) fun H2 s h => ?_⟩
    · obtain ⟨o, b, ho, rfl, hb⟩ := Ords.get hT hx
      have hb2 := s _ _ hb
      refine ⟨rfl, ?_⟩
      walk_at "rd"
      exact yes _ _ _ (Same.refl _) rfl (outF_yes ho rfl)
    · rw [outF_all hlen, show os.filter (fun _ => true) = os from by simp] at h
      walk_at "rd"
      refine ⟨v, D, os.map (·.left), rfl, h0, fun n hn => Int.le_of_lt (left_pos hok n hn), h, by rw [List.length_map]; exact hz, fun t l2 r H3 s3 hl2 ht hl => ?_⟩
      walk_at "rd"
      exact q l2 _ (s.trans s3) (s.free hl2) hl
theorem ok_line_behind (T : Txt K mg) : Gd P w K mg base CX0 (3) "line_behind" ["line", "amount"] (fun vs H Q E => ∃ (l : Addr) (v : Int) (os : List Ord), vs = [.ref l, .int v] ∧ LinAt H l os ∧ (∀ o ∈ os, Ok o) ∧ 0 ≤ v ∧ os.length < 1000 ∧ ∀ p H', Same H H' → H p = none → LinAt H' p (BB.lineBehind os v) → Q (.ref p) H') := by
  have g_parts_of := ok_parts_of (P := P) (w := w) (base := base) T
  have g_fresh := ok_fresh (P := P) (w := w) (base := base) T
  refine gd0 T.d_line_behind T.g_line_behind sc_line_behind (fun _ _ _ _ _ _ us hl => match us, hl with | [_, _], _ => rfl) (fun vs H Q E h => ?_) (fun cdv A outer s H vs Q E hr h => ?_)
  · obtain ⟨l, v, os, rfl, _⟩ := h
    rfl
  · obtain ⟨l, v, os, rfl, hLin, hok, h0, hz, q⟩ := h
    refine ⟨_, pss_cons (ps_set (i := 2) sc_line_behind.nd rfl (Or.inl rfl) (pe_lst pa_nil))
      (pss_cons (ps_for PassesOwn.never rfl (pi_zip (by rfl) T.b_zip (pa_cons (pv 0) (pa_cons (cg g_parts_of (hr.mono (by decide)) (pa_cons (pv 0) (pa_cons (pv 1) pa_nil))) pa_nil))) (pg_tup (by rfl) (pgs_cons (pg_name (i := 3) sc_line_behind.nd rfl (Or.inl rfl)) (pgs_cons (pg_name (i := 4) sc_line_behind.nd rfl (Or.inl rfl)) pgs_nil)))
        (pss_one (ps_if (pt_cmpR op_eq (pv 4) pe_int (nomark _)) (pss_one (ps_expr (pe_bm PySem.F.plainAttrs_list PySem.F.slot_list_append PySem.F.type_list_append mt_append (pv 2) (pa_cons (pv 3) pa_nil)))) (pss_one (ps_if (pt_cmpR op_lt (pv 4) (pe_ix ix_tup (pv 3) pe_int (fun _ _ => rfl)) (nomark _)) (pss_one (ps_expr (pe_bm PySem.F.plainAttrs_list PySem.F.slot_list_append PySem.F.type_list_append mt_append (pv 2) (pa_cons (cg g_fresh (hr.mono (by decide)) (pa_cons (pv 3) (pa_cons (pe_op op_sub (pe_ix ix_tup (pv 3) pe_int (fun _ _ => rfl)) (pv 4)) pa_nil))) pa_nil)))) pss_nil)))))
      (pss_one (ps_ret (pv 2)))), ?_⟩
    obtain ⟨vs, hL, hT⟩ := id hLin
    have hlen := Ords.len hT
    walk_at "rd"
    intro S hS
    have u := same_upd (o := .lst []) hS
    walk_at "rd"
    refine ⟨l, v, os, rfl, hLin.same u, hok, h0, hz, fun pp H1 s1 hpp hp => ?_⟩
    have hplen : (partsOf os v).length = os.length := by
      unfold partsOf
      rw [poured_len, List.length_map]
    have nS : pp ≠ S := fun e => by rw [e, upd_same] at hpp; cases hpp
    walk_at "rd"
    refine ⟨l, pp, vs, (partsOf os v).map V.int, rfl, SqL.of ((u.trans s1) _ _ hL), SqL.of hp, for_it (walk_zip (xs := vs) (ys := (partsOf os v).map V.int) (n := vs.length) (by rw [List.length_map, hplen, hlen, Nat.min_self])) (fun i σ H' => ∃ (v3 v4 : Option V), σ = [some (.ref l), some (.int v), some (.ref S), v3, v4] ∧ Same H H' ∧ Kt H1 H' ∧ H' pp = some (.lst ((partsOf os v).map V.int)) ∧ LinAt H' S (behindOf (os.take i) ((partsOf os v).take i)))
      ⟨none, none, rfl, u.trans s1, Kt.refl _, hp, ⟨[], s1 _ _ upd_same, .nil⟩⟩ (fun i σ H' _ h => by obtain ⟨_, _, _, h1, _, h2, _⟩ := h; exact ⟨SqL.of (h1 _ _ hL), SqL.of h2⟩) (fun i x σ H2 H3 hi h y => ?_) fun σ H' h => ?_⟩
    · obtain ⟨v3, v4, rfl, sH, hk, hp2, hS2⟩ := h
      obtain ⟨t, x1, x2, rfl, ht, rfl, e1, e2⟩ := y
      obtain ⟨o, b, ho, rfl, hb⟩ := Ords.get hT e1
      have e2 : ((partsOf os v).map V.int)[i]? = some x2 := e2
      rw [List.getElem?_map] at e2
      obtain ⟨pt, hpt, rfl⟩ := Option.map_eq_some_iff.mp e2
      have w := same_upd (o := .tup [.ref b, .int pt]) ht
      have hb2 := w _ _ (sH _ _ hb)
      obtain ⟨sv, hsv, hsT⟩ := id hS2
      have hsl := Ords.len hsT
      have hbl := behindOf_len (os.take i) ((partsOf os v).take i)
      rw [List.length_take] at hbl
      have e3 : behindOf (os.take (i + 1)) ((partsOf os v).take (i + 1)) = behindOf (os.take i) ((partsOf os v).take i) ++ (if pt = 0 then [o] else if pt < o.left then [BB.fresh o (o.left - pt)] else []) := by
        rw [take_get ho, take_get hpt]
        exact behindOf_snoc (by rw [List.length_take, List.length_take, hplen])
      have hSw := w _ _ hsv
      have lt1 : sv.length < sizeLine := Nat.lt_of_lt_of_le (m := 1000) (by omega) (by decide)
      have keep : ∀ (H4 : Hp) (x : Addr) (z : Ord), Same (upd H2 t (.tup [.ref b, .int pt])) H4 → H4 x = some (.tup z.v) → behindOf (os.take (i + 1)) ((partsOf os v).take (i + 1)) = behindOf (os.take i) ((partsOf os v).take i) ++ [z] →
          Same H (upd H4 S (.lst (sv ++ [.ref x]))) ∧ Kt H1 (upd H4 S (.lst (sv ++ [.ref x]))) ∧ (upd H4 S (.lst (sv ++ [.ref x]))) pp = some (.lst ((partsOf os v).map V.int)) ∧ LinAt (upd H4 S (.lst (sv ++ [.ref x]))) S (behindOf (os.take (i + 1)) ((partsOf os v).take (i + 1))) := fun H4 x z s4 hx ez => by
        have hS4 := s4 _ _ hSw
        refine ⟨fun c ob e => ?_, ((hk.trans (Kt.same w)).trans (Kt.same s4)).trans (Kt.upd fun ys e => by rw [hS4] at e; cases e), ?_, ?_⟩
        · rw [upd_ne (ne_of_none e hS)]
          exact s4 _ _ (w _ _ (sH _ _ e))
        · rw [upd_ne nS]
          exact s4 _ _ (w _ _ hp2)
        · rw [ez]
          unfold LinAt
          rw [List.map_append]
          exact LstAt.snoc hS4 (hsT.kt (Kt.same (w.trans s4))) ⟨x, rfl, hx⟩
      refine ⟨t, _, rfl, SqT.of upd_same, rfl, ?_⟩
      walk_at "rd"
      by_cases c0 : pt = 0
      · rw [if_pos c0] at e3
        refine iteY (by simp [c0]) ?_
        walk_at "rd"
        refine ⟨.inl ⟨rfl, _, SqL.of hSw⟩, ?_⟩
        walk_at "rd"
        refine ⟨S, _, _, rfl, rfl, hSw, lt1, ?_⟩
        exact ⟨_, _, rfl, keep _ _ _ (Same.refl _) hb2 e3⟩
      · rw [if_neg c0] at e3
        refine iteN (by simp [c0]) ?_
        walk_at "rd"
        by_cases c1 : pt < o.left
        · rw [if_pos c1] at e3
          refine iteY (decide_eq_true c1) ?_
          walk_at "rd"
          refine ⟨.inl ⟨rfl, _, SqL.of hSw⟩, ?_⟩
          walk_at "rd"
          refine ⟨b, o, o.left - pt, rfl, hb2, fun c hc => ?_⟩
          have w2 := same_upd (o := .tup (BB.fresh o (o.left - pt)).v) hc
          walk_at "rd"
          refine ⟨S, _, _, rfl, rfl, w2 _ _ hSw, lt1, ?_⟩
          exact ⟨_, _, rfl, keep _ _ _ w2 upd_same e3⟩
        · rw [if_neg c1, List.append_nil] at e3
          refine iteN (decide_eq_false c1) ⟨_, _, rfl, sH.trans w, hk.trans (Kt.same w), w _ _ hp2, ?_⟩
          rw [e3]
          exact hS2.same w
    · obtain ⟨v3, v4, rfl, sH, hk, hp2, hS2⟩ := h
      rw [hlen, List.take_length, ← hplen, List.take_length] at hS2
      walk_at "rd"
      exact q S _ sH hS hS2
end
end BB
set_option Elab.async false
set_option linter.all false
set_option maxRecDepth 100000
set_option maxHeartbeats 4000000
/-! W15: paired. -/
namespace BB
open PySem PySem.Spec PyProof.Rows L2
local macro_rules | `(tactic| walk_at "rd") => `(tactic| repeat (first | refine ⟨_, rfl, ?_⟩ | refine ⟨_, _, rfl, rfl, ?_⟩ | refine ⟨_, _, rfl, ?_⟩ | refine ⟨rfl, ?_⟩ | refine ⟨_, _, _, _, rfl, rfl, SqT.of (by assumption), rfl, ?_⟩ | refine ⟨Nat.le_of_ble_eq_true rfl, ?_⟩))
def dealV (t : Str × Str × Int) : List V := [.str t.1, .str t.2.1, .int t.2.2]
theorem drop_at {α : Type} {l : List α} {k : Nat} {x : α} (h : l[k]? = some x) : l.drop k = x :: l.drop (k + 1) := by
  obtain ⟨hk, rfl⟩ := List.getElem?_eq_some_iff.mp h
  exact List.drop_eq_getElem_cons hk
theorem map_set (l : List Int) (x v : Int) (r : List Int) : ((l ++ x :: r).map V.int).set l.length (.int v) = (l ++ v :: r).map V.int := by
  induction l with
  | nil => rfl
  | cons y l ih => exact congrArg (V.int y :: ·) ih
theorem ixN_k {n j : Nat} (hj : j < n) : ixN n (j : Int) = some j := by
  simp only [ixN, Int.natCast_nonneg, Int.ofNat_lt, hj, if_true, Int.toNat_natCast]
theorem map_at (l : List Int) (x : Int) (r : List Int) : ((l ++ x :: r).map V.int)[l.length]? = some (.int x) := by simp
/-- the pairs as they stand: at buyer k, at seat; pre done -/
structure PSt (H H' : Hp) (lg lv S : Addr) (bs ss : List Ord) (B0 S0 : List (Str × Int)) (k seat : Nat) (pre : List (Str × Str × Int)) (G Hs : List Int) : Prop where
  same : Same H H'
  g : ∃ g0 : List Int, g0.length = k ∧ (g0 ++ G).length = bs.length ∧ H' lg = some (.lst ((g0 ++ G).map V.int))
  h : ∃ h0 : List Int, h0.length = seat ∧ (h0 ++ Hs).length = ss.length ∧ H' lv = some (.lst ((h0 ++ Hs).map V.int))
  inv : PInv G Hs
  tr : LstAt H' S (pre.map dealV)
  d : ∀ t, Deals (((bs.map (·.name)).drop k).zip G) (((ss.map (·.name)).drop seat).zip Hs) t → Deals B0 S0 (pre ++ t)
section
variable {P : Program} {w : World} {K : PySem.W.Frag} {mg : Str → Option Value} {base : Heap}
theorem ok_paired (T : Txt K mg) : Gd P w K mg base CX0 (3) "paired" ["buys", "sells", "amount"] (fun vs H Q E => ∃ (l m : Addr) (bs ss : List Ord) (v : Int), vs = [.ref l, .ref m, .int v] ∧ LinAt H l bs ∧ LinAt H m ss ∧ (∀ o ∈ bs, Ok o) ∧ (∀ o ∈ ss, Ok o) ∧ 0 ≤ v ∧ v ≤ (bs.map (·.left)).sum ∧ v ≤ (ss.map (·.left)).sum ∧ bs.length ≤ 100 ∧ ss.length ≤ 100 ∧ ∀ p t H', Same H H' → H p = none → Deals (withNames bs (partsOf bs v)) (withNames ss (partsOf ss v)) t → t.length ≤ 300 → LstAt H' p (t.map dealV) → Q (.ref p) H') := by
  have g_parts_of := ok_parts_of (P := P) (w := w) (base := base) T
  refine gd0 T.d_paired T.g_paired sc_paired (fun _ _ _ _ _ _ us hl => match us, hl with | [_, _, _], _ => rfl) (fun vs H Q E h => ?_) (fun cdv A outer s H vs Q E hr h => ?_)
  · obtain ⟨l, m, bs, ss, v, rfl, _⟩ := h
    rfl
  · obtain ⟨l, m, bs, ss, v, rfl, hLb, hLs, hob, hos, h0, h1, h2, zb, zs, q⟩ := h
    refine ⟨_, pss_cons (ps_set (i := 3) sc_paired.nd rfl (Or.inl rfl) (cg g_parts_of (hr.mono (by decide)) (pa_cons (pv 0) (pa_cons (pv 2) pa_nil))))
      (pss_cons (ps_set (i := 4) sc_paired.nd rfl (Or.inl rfl) (cg g_parts_of (hr.mono (by decide)) (pa_cons (pv 1) (pa_cons (pv 2) pa_nil))))
      (pss_cons (ps_set (i := 5) sc_paired.nd rfl (Or.inl rfl) (pe_lst pa_nil))
      (pss_cons (ps_set (i := 6) sc_paired.nd rfl (Or.inl rfl) pe_int)
      (pss_cons (ps_for PassesOwn.never rfl (pi_range1 (by rfl) T.b_range (pa_cons (pe_callB call_len_seq (by rfl) T.b_len (by decide +kernel) (pa_cons (pv 0) pa_nil)) pa_nil)) (pg_name (i := 7) sc_paired.nd rfl (Or.inl rfl))
        (pss_one (ps_while PassesOwn.never (pt_cmpR op_gt (pe_ix ix_list (pv 3) (pv 7) (fun _ _ => rfl)) pe_int (nomark _)) (pss_cons (ps_set (i := 8) sc_paired.nd rfl (Or.inl rfl) (pe_callB (call_min2 rfl) (by rfl) T.b_min (by decide +kernel) (pa_cons (pe_ix ix_list (pv 3) (pv 7) (fun _ _ => rfl)) (pa_cons (pe_ix ix_list (pv 4) (pv 6) (fun _ _ => rfl)) pa_nil))))
      (pss_cons (ps_expr (pe_bm PySem.F.plainAttrs_list PySem.F.slot_list_append PySem.F.type_list_append mt_append (pv 5) (pa_cons (pe_tup (pa_cons (pe_ix ix_tup (pe_ix ix_list (pv 0) (pv 7) (fun _ _ => rfl)) pe_int (fun _ _ => rfl)) (pa_cons (pe_ix ix_tup (pe_ix ix_list (pv 1) (pv 6) (fun _ _ => rfl)) pe_int (fun _ _ => rfl)) (pa_cons (pv 8) pa_nil)))) pa_nil)))
      (pss_cons (ps_asg (pe_op op_sub (pe_ix ix_list (pv 3) (pv 7) (fun _ _ => rfl)) (pv 8)) (pg_sub (pv 3) (pv 7) set_list))
      (pss_cons (ps_asg (pe_op op_sub (pe_ix ix_list (pv 4) (pv 6) (fun _ _ => rfl)) (pv 8)) (pg_sub (pv 4) (pv 6) set_list))
      (pss_one (ps_if (pt_cmpR op_eq (pe_ix ix_list (pv 4) (pv 6) (fun _ _ => rfl)) pe_int (nomark _)) (pss_one (ps_set (i := 6) sc_paired.nd rfl (Or.inl rfl) (pe_op op_add (pv 6) pe_int))) pss_nil)))))))))
      (pss_one (ps_ret (pv 5))))))), ?_⟩
    obtain ⟨vb, hvb, hbT⟩ := id hLb
    obtain ⟨vz, hvz, hsT⟩ := id hLs
    have lb1 := Ords.len hbT
    have ls1 := Ords.len hsT
    walk_at "rd"
    refine ⟨l, v, bs, rfl, hLb, hob, h0, by omega, fun lg H1 s1 hg0 hlg => ?_⟩
    walk_at "rd"
    refine ⟨m, v, ss, rfl, hLs.same s1, hos, h0, by omega, fun lv H2 s2 hv0 hlv => ?_⟩
    have hpi := pinv_start hob hos h0 h1 h2
    have elg : (partsOf bs v).length = bs.length := by
      unfold partsOf
      rw [poured_len, List.length_map]
    have elv : (partsOf ss v).length = ss.length := by
      unfold partsOf
      rw [poured_len, List.length_map]
    have nlv : lg ≠ lv := fun e => by rw [e, hv0] at hlg; cases hlg
    have hlg2 := s2 _ _ hlg
    walk_at "rd"
    intro S hS
    have u := same_upd (o := .lst []) hS
    have s12 := s1.trans s2
    have hSH : H S = none := s12.free hS
    have hSg : S ≠ lg := fun e => by rw [e, hlg2] at hS; cases hS
    have hSv : S ≠ lv := fun e => by rw [e, hlv] at hS; cases hS
    have hvH : H lv = none := s1.free hv0
    walk_at "rd"
    refine ⟨l, _, rfl, .inl (SqL.of ((s12.trans u) _ _ hvb)), ?_⟩
    walk_at "rd"
    obtain ⟨B0, hB0⟩ : ∃ B0, B0 = withNames bs (partsOf bs v) := ⟨_, rfl⟩
    obtain ⟨S0, hS0⟩ : ∃ S0, S0 = withNames ss (partsOf ss v) := ⟨_, rfl⟩
    have hn : ((vb.length : Nat) : Int).toNat = bs.length := by omega
    refine ⟨by omega, by omega, for_range (lo := 0) (n := ((vb.length : Nat) : Int).toNat) (fun i σ H' => ∃ (seat : Nat) (pre : List (Str × Str × Int)) (G Hs : List Int) (v7 v8 : Option V), σ = [some (.ref l), some (.ref m), some (.int v), some (.ref lg), some (.ref lv), some (.ref S), some (.int seat), v7, v8] ∧
        PSt H H' lg lv S bs ss B0 S0 i seat pre G Hs ∧ pre.length ≤ i + seat)
      ⟨0, [], partsOf bs v, partsOf ss v, none, none, rfl, ⟨s12.trans u, ⟨[], rfl, elg, u _ _ hlg2⟩, ⟨[], rfl, elv, u _ _ hlv⟩, hpi, ⟨[], upd_same, .nil⟩, fun t d => by rw [hB0, hS0]; exact d⟩, Nat.zero_le _⟩ (fun i σ H' hi h => ?_) fun σ H' h => ?_⟩
    · obtain ⟨seat, pre, G, Hs, v7, v8, rfl, hP, hpl⟩ := h
      rw [hn] at hi
      walk_at "rd"
      obtain ⟨g0, hg0l, hgl, _⟩ := id hP.g
      have hG : ∃ g G', G = g :: G' := by
        cases G with
        | nil =>
          rw [List.append_nil] at hgl
          omega
        | cons g G' => exact ⟨g, G', rfl⟩
      obtain ⟨g, G', rfl⟩ := hG
      refine ⟨fun μ σ H2 => ∃ (g : Int) (Hs : List Int) (seat : Nat) (pre : List (Str × Str × Int)) (v8 : Option V), σ = [some (.ref l), some (.ref m), some (.int v), some (.ref lg), some (.ref lv), some (.ref S), some (.int seat), some (.int (0 + (i : Nat))), v8] ∧
          PSt H H2 lg lv S bs ss B0 S0 i seat pre (g :: G') Hs ∧ pre.length ≤ i + 1 + seat ∧ (0 < g → pre.length ≤ i + seat) ∧ g.toNat < μ,
        ⟨_, g, Hs, seat, pre, v8, rfl, hP, by omega, fun _ => hpl, Nat.lt_succ_self _⟩, ?_⟩
      rintro μ σ H2 ⟨g, Hs, seat, pre, v8, rfl, hP, hp1, hp2, hμ⟩
      obtain ⟨g0, hg0l, hgl, hg⟩ := id hP.g
      obtain ⟨h0', hh0l, hhl, hh⟩ := id hP.h
      obtain ⟨sv, hsv, hsT2⟩ := id hP.tr
      have hsl := Tups.length hsT2
      rw [List.length_map] at hsl
      have atk : ∀ x : Int, atI ((g0 ++ x :: G').map V.int) (0 + (i : Nat)) = some (.int x) := fun x => by
        rw [Int.zero_add, ← hg0l]
        exact atI_nat (map_at g0 x G')
      walk_at "rd"
      refine ⟨lg, _, _, _, rfl, rfl, SqL.of hg, atk g, ?_⟩
      walk_at "rd"
      by_cases c : 0 < g
      · obtain ⟨h, t, rfl, hhp, hinv, hdec⟩ := hP.inv.go c
        have ats : ∀ x : Int, atI ((h0' ++ x :: t).map V.int) (seat : Int) = some (.int x) := fun x => by
          rw [← hh0l]
          exact atI_nat (map_at h0' x t)
        have hseat : seat < ss.length := by
          rw [← hhl, List.length_append, List.length_cons]
          omega
        obtain ⟨ob, hob1⟩ : ∃ ob, bs[i]? = some ob := ⟨bs[i], List.getElem?_eq_getElem hi⟩
        obtain ⟨os, hos1⟩ : ∃ os, ss[seat]? = some os := ⟨ss[seat], List.getElem?_eq_getElem hseat⟩
        obtain ⟨bb, hbb, hbb2⟩ := Ords.at hbT hob1
        obtain ⟨sb, hsb, hsb2⟩ := Ords.at hsT hos1
        have hbb3 := hP.same _ _ hbb2
        have hsb3 := hP.same _ _ hsb2
        refine iteY (decide_eq_true c) ⟨_, fun σ' H' z => z, ?_⟩
        walk_at "rd"
        refine ⟨lg, _, _, _, rfl, rfl, SqL.of hg, atk g, ?_⟩
        walk_at "rd"
        refine ⟨lv, _, _, _, rfl, rfl, SqL.of hh, ats h, ?_⟩
        walk_at "rd"
        refine ⟨.inl ⟨rfl, _, SqL.of hsv⟩, ?_⟩
        walk_at "rd"
        refine ⟨l, _, _, _, rfl, rfl, SqL.of (hP.same _ _ hvb), by rw [Int.zero_add]; exact atI_nat hbb, ?_⟩
        walk_at "rd"
        refine ⟨m, _, _, _, rfl, rfl, SqL.of (hP.same _ _ hvz), atI_nat hsb, ?_⟩
        walk_at "rd"
        intro p hp
        have hx : (dealV (ob.name, os.name, min2 g h)) = [.str ob.name, .str os.name, .int (if h < g then h else g)] := rfl
        have up := same_upd (o := .tup [.str ob.name, .str os.name, .int (if h < g then h else g)]) hp
        refine ⟨S, _, _, rfl, rfl, up _ _ hsv, Nat.lt_of_lt_of_le (m := 300) (by omega) (by decide), ?_⟩
        have hg3 := push_ne (o := .tup [.str ob.name, .str os.name, .int (if h < g then h else g)]) (u := .lst (sv ++ [.ref p])) hg hSg.symm hp
        have hh3 := push_ne (o := .tup [.str ob.name, .str os.name, .int (if h < g then h else g)]) (u := .lst (sv ++ [.ref p])) hh hSv.symm hp
        have tr3 := LstAt.push hsv hsT2 hp (x := [.str ob.name, .str os.name, .int (if h < g then h else g)])
        have same3 := push_same (o := .tup [.str ob.name, .str os.name, .int (if h < g then h else g)]) (u := .lst (sv ++ [.ref p])) hP.same hSH hp
        rw [← hx] at hg3 hh3 tr3 same3
        have hcong : (upd (upd H2 p (.tup [.str ob.name, .str os.name, .int (if h < g then h else g)])) S (.lst (sv ++ [.ref p]))) = (upd (upd H2 p (.tup (dealV (ob.name, os.name, min2 g h)))) S (.lst (sv ++ [.ref p]))) := rfl
        rw [hcong]
        generalize (upd (upd H2 p (.tup (dealV (ob.name, os.name, min2 g h)))) S (.lst (sv ++ [.ref p]))) = H3 at *
        walk_at "rd"
        refine ⟨lg, _, _, _, rfl, rfl, SqL.of hg3, atk g, ?_⟩
        walk_at "rd"
        refine ⟨lg, _, _, i, rfl, rfl, hg3, by rw [Int.zero_add]; exact ixN_k (by rw [List.length_map, hgl]; exact hi), ?_⟩
        have hset : ((g0 ++ g :: G').map V.int).set i (.int (g - (if h < g then h else g))) = (g0 ++ (g - min2 g h) :: G').map V.int := by
          rw [← hg0l]
          exact map_set _ _ _ _
        have hset2 : ((h0' ++ h :: t).map V.int).set seat (.int (h - (if h < g then h else g))) = (h0' ++ (h - min2 g h) :: t).map V.int := by
          rw [← hh0l]
          exact map_set _ _ _ _
        rw [hset]
        have same4 : Same H (upd H3 lg (.lst ((g0 ++ (g - min2 g h) :: G').map V.int))) := fun b ob e => by
          rw [upd_ne (ne_of_none e hg0)]
          exact same3 _ _ e
        have hg4 : (upd H3 lg (.lst ((g0 ++ (g - min2 g h) :: G').map V.int))) lg = some (.lst ((g0 ++ (g - min2 g h) :: G').map V.int)) := upd_same
        have hh4 : (upd H3 lg (.lst ((g0 ++ (g - min2 g h) :: G').map V.int))) lv = some (.lst ((h0' ++ h :: t).map V.int)) := by
          rw [upd_ne nlv.symm]
          exact hh3
        have tr4 : LstAt (upd H3 lg (.lst ((g0 ++ (g - min2 g h) :: G').map V.int))) S (pre.map dealV ++ [dealV (ob.name, os.name, min2 g h)]) := by
          obtain ⟨x1, x2, x3⟩ := tr3
          exact ⟨x1, by rw [upd_ne hSg]; exact x2, x3.kt (Kt.upd fun ys e => by rw [hg3] at e; cases e)⟩
        generalize (upd H3 lg (.lst ((g0 ++ (g - min2 g h) :: G').map V.int))) = H4 at *
        walk_at "rd"
        refine ⟨lv, _, _, _, rfl, rfl, SqL.of hh4, ats h, ?_⟩
        walk_at "rd"
        refine ⟨lv, _, _, seat, rfl, rfl, hh4, ixN_k (by rw [List.length_map, hhl]; exact hseat), ?_⟩
        rw [hset2]
        have same5 : Same H (upd H4 lv (.lst ((h0' ++ (h - min2 g h) :: t).map V.int))) := fun b ob e => by
          rw [upd_ne (ne_of_none e hvH)]
          exact same4 _ _ e
        have hh5 : (upd H4 lv (.lst ((h0' ++ (h - min2 g h) :: t).map V.int))) lv = some (.lst ((h0' ++ (h - min2 g h) :: t).map V.int)) := upd_same
        have hg5 : (upd H4 lv (.lst ((h0' ++ (h - min2 g h) :: t).map V.int))) lg = some (.lst ((g0 ++ (g - min2 g h) :: G').map V.int)) := by
          rw [upd_ne nlv]
          exact hg4
        have tr5 : LstAt (upd H4 lv (.lst ((h0' ++ (h - min2 g h) :: t).map V.int))) S ((pre ++ [(ob.name, os.name, min2 g h)]).map dealV) := by
          obtain ⟨x1, x2, x3⟩ := tr4
          rw [show (pre ++ [(ob.name, os.name, min2 g h)]).map dealV = pre.map dealV ++ [dealV (ob.name, os.name, min2 g h)] from by rw [List.map_append]; rfl]
          exact ⟨x1, by rw [upd_ne hSv]; exact x2, x3.kt (Kt.upd fun ys e => by rw [hh4] at e; cases e)⟩
        generalize (upd H4 lv (.lst ((h0' ++ (h - min2 g h) :: t).map V.int))) = H5 at *
        walk_at "rd"
        refine ⟨lv, _, _, _, rfl, rfl, SqL.of hh5, ats (h - min2 g h), ?_⟩
        walk_at "rd"
        have hpl2 := hp2 c
        have hd : ∀ t', Deals (((bs.map (·.name)).drop i).zip ((g - min2 g h) :: G')) (if h - min2 g h = 0 then ((ss.map (·.name)).drop (seat + 1)).zip t else (os.name, h - min2 g h) :: ((ss.map (·.name)).drop (seat + 1)).zip t) t' → Deals B0 S0 (pre ++ [(ob.name, os.name, min2 g h)] ++ t') := fun t' d => by
          rw [List.append_assoc]
          refine hP.d _ ?_
          rw [drop_at (l := bs.map (·.name)) (k := i) (x := ob.name) (by rw [List.getElem?_map, hob1]; rfl)] at d
          rw [drop_at (l := bs.map (·.name)) (k := i) (x := ob.name) (by rw [List.getElem?_map, hob1]; rfl), drop_at (l := ss.map (·.name)) (k := seat) (x := os.name) (by rw [List.getElem?_map, hos1]; rfl)]
          exact .deal c hhp d
        have hgs : ∃ g0_1 : List Int, g0_1.length = i ∧ (g0_1 ++ (g - min2 g h) :: G').length = bs.length ∧ H5 lg = some (.lst ((g0_1 ++ (g - min2 g h) :: G').map V.int)) := ⟨g0, hg0l, by rw [← hgl, List.length_append, List.length_append]; rfl, hg5⟩
        by_cases cz : h - min2 g h = 0
        · rw [if_pos cz] at hinv hd
          refine iteY (by simp [cz]) ?_
          walk_at "rd"
          refine ⟨g.toNat, hμ, g - min2 g h, t, seat + 1, pre ++ [(ob.name, os.name, min2 g h)], _, rfl, ⟨same5, hgs, ⟨h0' ++ [h - min2 g h], ?_, ?_, ?_⟩, hinv, tr5, hd⟩, ?_, ?_, hdec⟩
          · rw [List.length_append, hh0l]
            rfl
          · simp only [← hhl, List.length_append, List.length_cons, List.length_nil]
            omega
          · rw [List.append_assoc]
            exact hh5
          · rw [List.length_append]
            show _ + 1 ≤ _
            omega
          · intro _
            rw [List.length_append]
            show _ + 1 ≤ _
            omega
        · rw [if_neg cz] at hinv hd
          refine iteN (by simp [cz]) ?_
          refine ⟨g.toNat, hμ, g - min2 g h, (h - min2 g h) :: t, seat, pre ++ [(ob.name, os.name, min2 g h)], _, rfl, ⟨same5, hgs, ⟨h0', hh0l, ?_, hh5⟩, hinv, tr5, fun t' d => ?_⟩, ?_, fun z => ?_, hdec⟩
          · rw [← hhl, List.length_append, List.length_append]
            rfl
          · refine hd t' ?_
            rw [drop_at (l := ss.map (·.name)) (k := seat) (x := os.name) (by rw [List.getElem?_map, hos1]; rfl)] at d
            exact d
          · rw [List.length_append]
            show _ + 1 ≤ _
            omega
          · exfalso
            rcases min2_or g h with e | e <;> omega
      · refine iteN (decide_eq_false c) ⟨seat, pre, G', Hs, _, _, rfl, ⟨hP.same, ⟨g0 ++ [g], ?_, ?_, ?_⟩, hP.h, hP.inv.next, hP.tr, fun t d => hP.d t ?_⟩, by omega⟩
        · rw [List.length_append, hg0l]
          rfl
        · rw [List.append_assoc]
          exact hgl
        · rw [List.append_assoc]
          exact hg
        · obtain ⟨ob, hob1⟩ : ∃ ob, bs[i]? = some ob := ⟨bs[i], List.getElem?_eq_getElem hi⟩
          rw [drop_at (x := ob.name) (by rw [List.getElem?_map, hob1]; rfl)]
          exact .next c d
    · obtain ⟨seat, pre, G, Hs, v7, v8, rfl, hP, hpl⟩ := h
      rw [hn] at hP hpl
      walk_at "rd"
      obtain ⟨g0, hg0l, hgl, _⟩ := id hP.g
      obtain ⟨h0', hh0l, hhl, _⟩ := id hP.h
      have hG : G = [] := by
        cases G with
        | nil => rfl
        | cons g G' =>
          rw [List.length_append, List.length_cons] at hgl
          omega
      subst hG
      rw [List.length_append] at hhl
      refine q S pre _ hP.same hSH ?_ (by omega) hP.tr
      have := hP.d [] (by
        rw [List.zip_nil_right]
        exact .nil _)
      rw [List.append_nil] at this
      rw [← hB0, ← hS0]
      exact this
end
end BB
set_option linter.all false
/-! M5: the call as a relation; lines behind a call. -/
namespace BB
open PySem (Str)
def CalledR (F : Floor) (fs : List Fact) (F' : Floor) : Prop :=
  (fs = [] ∧ F' = F) ∨ ∃ (p : Int) (t : List (Str × Str × Int)), 0 < volume F.buys F.sells p ∧
    Deals (withNames F.buys (partsOf F.buys (volume F.buys F.sells p))) (withNames F.sells (partsOf F.sells (volume F.buys F.sells p))) t ∧
    fs = t.map (fun x => .trade x.1 x.2.1 p x.2.2) ∧
    F' = { F with buys := lineBehind F.buys (volume F.buys F.sells p), sells := lineBehind F.sells (volume F.buys F.sells p), last := p }
def TurnR (w : Ph) (F : Floor) (fs : List Fact) (F' : Floor) : Prop :=
  leads F.phase w = true ∧ ∃ (cs : List Fact) (Fc : Floor), ((w = .opn ∧ CalledR F cs Fc) ∨ (w ≠ .opn ∧ cs = [] ∧ Fc = F)) ∧
    fs = cs ++ [.phase w] ++ (woken { Fc with phase := w }).1 ∧ F' = (woken { Fc with phase := w }).2
theorem volume_le (bs ss : List Ord) (p : Int) (hb : ∀ o ∈ bs, Ok o) (hs : ∀ o ∈ ss, Ok o) : volume bs ss p ≤ (bs.map (·.left)).sum ∧ volume bs ss p ≤ (ss.map (·.left)).sum := by
  have h1 := wanted_le true p hb
  have h2 := wanted_le false p hs
  have m1 := min2_le1 (wanted true p bs) (wanted false p ss)
  have m2 := min2_le2 (wanted true p bs) (wanted false p ss)
  unfold volume
  omega
structure Beh (b : Bool) (os out : List Ord) : Prop where
  ok : LineOk b out
  cnt : ∀ n, cn n out ≤ cn n os
  len : out.length ≤ os.length
  pr : ∀ x ∈ out, ∃ y ∈ os, x.price = y.price
theorem behind_ok {b : Bool} : ∀ {os : List Ord} {ps : List Int}, LineOk b os → (∀ p ∈ ps, 0 ≤ p) → Beh b os (behindOf os ps)
  | [], ps, _, _ => by
    have e : behindOf [] ps = [] := by cases ps <;> rfl
    rw [e]
    exact ⟨LineOk.nil b, fun _ => Nat.le_refl _, Nat.le_refl _, by simp⟩
  | o :: os, [], h, _ => ⟨LineOk.nil b, fun _ => Nat.zero_le _, Nat.zero_le _, fun x hx => by cases hx⟩
  | o :: os, p :: ps, h, hp => by
    have ih := behind_ok (os := os) (ps := ps) h.tail fun q hq => hp q (List.mem_cons_of_mem _ hq)
    have h0 := hp p List.mem_cons_self
    have one : ∀ x : Ord, Ok x → x.buy = o.buy → x.price = o.price → x.name = o.name → Beh b (o :: os) (x :: behindOf os ps) := fun x hx e1 e2 e3 => by
      refine ⟨⟨fun y hy => ?_, fun y hy => ?_, fun y hy => ?_, ih.ok.srt⟩, fun n => ?_, Nat.succ_le_succ ih.len, fun y hy => ?_⟩
      · rcases List.mem_cons.mp hy with rfl | hy
        · exact hx
        · exact ih.ok.ok y hy
      · rcases List.mem_cons.mp hy with rfl | hy
        · rw [e1]
          exact h.side o List.mem_cons_self
        · exact ih.ok.side y hy
      · obtain ⟨z, hz, e⟩ := ih.pr y hy
        rw [e2, e]
        exact h.srt.1 z hz
      · rw [cn_cons, cn_cons, e3]
        have := ih.cnt n
        omega
      · rcases List.mem_cons.mp hy with rfl | hy
        · exact ⟨o, List.mem_cons_self, e2⟩
        · obtain ⟨z, hz, e⟩ := ih.pr y hy
          exact ⟨z, List.mem_cons_of_mem _ hz, e⟩
    show Beh b (o :: os) (if p = 0 then o :: behindOf os ps else if p < o.left then fresh o (o.left - p) :: behindOf os ps else behindOf os ps)
    split
    · exact one o h.head rfl rfl rfl
    · split
      · exact one _ (fresh_ok h.head (by omega) (by omega)) rfl rfl rfl
      · refine ⟨ih.ok, fun n => ?_, Nat.le_succ_of_le ih.len, fun y hy => ?_⟩
        · rw [cn_cons]
          have := ih.cnt n
          omega
        · obtain ⟨z, hz, e⟩ := ih.pr y hy
          exact ⟨z, List.mem_cons_of_mem _ hz, e⟩
theorem lineBehind_ok {b : Bool} {os : List Ord} {v : Int} (h : LineOk b os) (hv : 0 ≤ v) : Beh b os (lineBehind os v) :=
  behind_ok h (poured_nn (fun x hx => Int.le_of_lt (left_pos h.ok x hx)) hv)
theorem calledR_inv {F Fc : Floor} {cs : List Fact} (hF : FInv F) (h : CalledR F cs Fc) : FInv Fc ∧ (∀ n, cn n Fc.known ≤ cn n F.known) ∧ Fc.known.length ≤ F.known.length ∧ Fc.asleep = F.asleep ∧ Fc.leap = F.leap := by
  rcases h with ⟨_, rfl⟩ | ⟨p, t, hv, d, _, rfl⟩
  · exact ⟨hF, fun _ => Nat.le_refl _, Nat.le_refl _, rfl, rfl⟩
  · have h1 := lineBehind_ok (v := volume F.buys F.sells p) hF.b (by omega)
    have h2 := lineBehind_ok (v := volume F.buys F.sells p) hF.s (by omega)
    have c : ∀ n, cn n ({ F with buys := lineBehind F.buys (volume F.buys F.sells p), sells := lineBehind F.sells (volume F.buys F.sells p), last := p } : Floor).known ≤ cn n F.known := fun n => by
      rw [cn_known, cn_known]
      have := h1.cnt n
      have := h2.cnt n
      show cn n (lineBehind F.buys (volume F.buys F.sells p)) + cn n (lineBehind F.sells (volume F.buys F.sells p)) + cn n (F.asleep.map (·.ord)) ≤ _
      omega
    refine ⟨⟨h1.ok, h2.ok, hF.z, fun n => Nat.le_trans (c n) (hF.cnt n)⟩, c, ?_, rfl, rfl⟩
    rw [len_known, len_known]
    have := h1.len
    have := h2.len
    show (lineBehind F.buys (volume F.buys F.sells p)).length + (lineBehind F.sells (volume F.buys F.sells p)).length + F.asleep.length ≤ _
    omega
theorem phase_inv {F : Floor} (hF : FInv F) (w : Ph) : FInv { F with phase := w } := ⟨hF.b, hF.s, hF.z, hF.cnt⟩
end BB
set_option Elab.async false
set_option linter.all false
set_option maxRecDepth 100000
set_option maxHeartbeats 4000000
/-! W16: called, turn. -/
namespace BB
open PySem PySem.Spec PyProof.Rows L2
local macro_rules | `(tactic| walk_at "rd") => `(tactic| repeat (first | refine ⟨_, rfl, ?_⟩ | refine ⟨_, _, rfl, rfl, ?_⟩ | refine ⟨_, _, rfl, ?_⟩ | refine ⟨rfl, ?_⟩ | refine ⟨_, _, _, _, rfl, rfl, SqT.of (by assumption), rfl, ?_⟩ | refine ⟨Nat.le_of_ble_eq_true rfl, ?_⟩))
/-- a statement by a word on what it leaves -/
theorem vyS {t rest : TS} {D : Ends} {σ : L2.St} {H : Hp} {R : L2.St → Hp → Prop} (h : ∀ nx : L2.St → Hp → Prop, (∀ σ' H', R σ' H' → nx σ' H') → t { D with nx := nx } σ H) (q : ∀ σ' H', R σ' H' → rest D σ' H') : tSeq t rest D σ H := h _ q
section
variable {P : Program} {w : World} {K : PySem.W.Frag} {mg : Str → Option Value} {base : Heap}
theorem ok_called (T : Txt K mg) : Gd P w K mg base CX0 (6) "called" ["buys", "sells", "near"] (fun vs H Q E => ∃ (l m : Addr) (bs ss : List Ord) (near : Int), vs = [.ref l, .ref m, .int near] ∧ LinAt H l bs ∧ LinAt H m ss ∧ (∀ o ∈ bs, Ok o) ∧ (∀ o ∈ ss, Ok o) ∧ bs.length + ss.length < 64 ∧ (∀ t l1 l2 l3 H', Same H H' → H l1 = none → H l2 = none → H l3 = none → H' t = some (.tup [.non, .ref l1, .ref l2, .ref l3]) → LstAt H' l1 [] → LinAt H' l2 bs → LinAt H' l3 ss → Q (.ref t) H') ∧ ∀ p ts t l1 l2 l3 H', Same H H' → H l1 = none → H l2 = none → H l3 = none → H' t = some (.tup [.int p, .ref l1, .ref l2, .ref l3]) → 0 < BB.volume bs ss p →  Deals (withNames bs (partsOf bs (BB.volume bs ss p))) (withNames ss (partsOf ss (BB.volume bs ss p))) ts → ts.length ≤ 300 → LstAt H' l1 (ts.map dealV) → LinAt H' l2 (lineBehind bs (BB.volume bs ss p)) → LinAt H' l3 (lineBehind ss (BB.volume bs ss p)) → Q (.ref t) H') := by
  have g_call_price := ok_call_price (P := P) (w := w) (base := base) T
  have g_volume := ok_volume (P := P) (w := w) (base := base) T
  have g_paired := ok_paired (P := P) (w := w) (base := base) T
  have g_line_behind := ok_line_behind (P := P) (w := w) (base := base) T
  refine gd0 T.d_called T.g_called sc_called (fun _ _ _ _ _ _ us hl => match us, hl with | [_, _, _], _ => rfl) (fun vs H Q E h => ?_) (fun cdv A outer s H vs Q E hr h => ?_)
  · obtain ⟨l, m, bs, ss, near, rfl, _⟩ := h
    rfl
  · obtain ⟨l, m, bs, ss, near, rfl, hL, hM, hob, hos, hz, q1, q2⟩ := h
    refine ⟨_, pss_cons (ps_set (i := 3) sc_called.nd rfl (Or.inl rfl) (cg g_call_price (hr.mono (by decide)) (pa_cons (pv 0) (pa_cons (pv 1) (pa_cons (pv 2) pa_nil)))))
      (pss_cons (ps_if (pt_cmpR op_isN (pv 3) pe_non (nomark _)) (pss_one (ps_ret (pe_tup (pa_cons pe_non (pa_cons (pe_lst pa_nil) (pa_cons (pe_callTy call_list_of (by rfl) T.b_list (by decide +kernel) (pa_cons (pv 0) pa_nil)) (pa_cons (pe_callTy call_list_of (by rfl) T.b_list (by decide +kernel) (pa_cons (pv 1) pa_nil)) pa_nil))))))) pss_nil)
      (pss_cons (ps_set (i := 4) sc_called.nd rfl (Or.inl rfl) (cg g_volume (hr.mono (by decide)) (pa_cons (pv 0) (pa_cons (pv 1) (pa_cons (pv 3) pa_nil)))))
      (pss_one (ps_ret (pe_tup (pa_cons (pv 3) (pa_cons (cg g_paired (hr.mono (by decide)) (pa_cons (pv 0) (pa_cons (pv 1) (pa_cons (pv 4) pa_nil)))) (pa_cons (cg g_line_behind (hr.mono (by decide)) (pa_cons (pv 0) (pa_cons (pv 4) pa_nil))) (pa_cons (cg g_line_behind (hr.mono (by decide)) (pa_cons (pv 1) (pa_cons (pv 4) pa_nil))) pa_nil))))))))), ?_⟩
    walk_at "rd"
    refine ⟨l, m, bs, ss, near, rfl, hL, hM, hz, fun H1 s1 => ?_, fun p H1 s1 hv => ?_⟩
    · walk_at "rd"
      obtain ⟨vb, hvb, hbT⟩ := id hL
      obtain ⟨vz, hvz, hsT⟩ := id hM
      intro l1 hl1
      have u1 := same_upd (o := .lst []) hl1
      walk_at "rd"
      refine ⟨l, _, rfl, .inl (SqL.of ((s1.trans u1) _ _ hvb)), fun l2 hl2 => ?_⟩
      have u2 := same_upd (o := .lst vb) hl2
      walk_at "rd"
      refine ⟨m, _, rfl, .inl (SqL.of (((s1.trans u1).trans u2) _ _ hvz)), fun l3 hl3 => ?_⟩
      have u3 := same_upd (o := .lst vz) hl3
      walk_at "rd"
      intro t ht
      have u4 := same_upd (o := .tup [.non, .ref l1, .ref l2, .ref l3]) ht
      have s := (((s1.trans u1).trans u2).trans u3).trans u4
      exact q1 t l1 l2 l3 _ s (s1.free hl1) ((s1.trans u1).free hl2) (((s1.trans u1).trans u2).free hl3) upd_same ⟨[], ((u2.trans u3).trans u4) _ _ upd_same, .nil⟩ ⟨_, (u3.trans u4) _ _ upd_same, hbT.kt (Kt.same s)⟩ ⟨_, u4 _ _ upd_same, hsT.kt (Kt.same s)⟩
    · walk_at "rd"
      obtain ⟨le1, le2⟩ := volume_le bs ss p hob hos
      refine ⟨l, m, p, bs, ss, rfl, hL.same s1, hM.same s1, ?_⟩
      walk_at "rd"
      refine ⟨l, m, bs, ss, BB.volume bs ss p, rfl, hL.same s1, hM.same s1, hob, hos, by omega, le1, le2, by omega, by omega, fun l1 ts H2 s2 hl1 hd hlen ht => ?_⟩
      have s12 := s1.trans s2
      walk_at "rd"
      refine ⟨l, BB.volume bs ss p, bs, rfl, hL.same s12, hob, by omega, by omega, fun l2 H3 s3 hl2 hL2 => ?_⟩
      have s13 := s12.trans s3
      walk_at "rd"
      refine ⟨m, BB.volume bs ss p, ss, rfl, hM.same s13, hos, by omega, by omega, fun l3 H4 s4 hl3 hL3 => ?_⟩
      walk_at "rd"
      intro t htt
      have u := same_upd (o := .tup [.int p, .ref l1, .ref l2, .ref l3]) htt
      exact q2 p ts t l1 l2 l3 _ ((s13.trans s4).trans u) (s1.free hl1) (s12.free hl2) (s13.free hl3) upd_same hv hd hlen (ht.same ((s3.trans s4).trans u)) (hL2.same (s4.trans u)) (hL3.same u)
theorem ok_Floor_turn (T : Txt K mg) : Md P w K mg base (L2.CX P w) (10) (He.ga K "Floor") "turn" ["self", "word"] (fun vs H Q E => ∃ (p : Addr) (k : Ph) (F : Floor) (dx lb ls la : Addr), vs = [.ref p, .str k.s] ∧ FlIn K H p dx lb ls la F ∧ FInv F ∧ F.known.length ≤ 60 ∧ (∀ fs F', TurnR k F fs F' → ∀ l H', But p H H' → H l = none → FlAt K H' p F' → LstAt H' l (fs.map Fact.v) → fs.length ≤ 300000 → Q (.ref l) H') ∧ (leads F.phase k = false → ∀ e d H', Bx K e → Same H H' → E e d H')) := by
  have g_phase_of := ok_phase_of (P := P) (w := w) (base := base) T
  have g_called := ok_called (P := P) (w := w) (base := base) T
  have m_woken := ok_Floor_woken (P := P) (w := w) (base := base) T
  have m_leads := fun p : Ph => ok_leads (P := P) (w := w) (base := base) T p
  refine mdX T.d_Floor_turn T.l_Floor T.m_Floor_turn sc_Floor_turn (fun _ _ _ _ _ _ us hl => match us, hl with | [_, _], _ => rfl) (fun vs H Q E h => ?_) (fun cdv A outer s H vs Q E hr h => ?_)
  · obtain ⟨p, k, F, dx, lb, ls, la, rfl, _⟩ := h
    rfl
  · obtain ⟨p, k, F, dx, lb, ls, la, rfl, hF, hI, hz, q1, q2⟩ := h
    refine ⟨_, pss_cons (ps_expr (cg g_phase_of (hr.mono (by decide)) (pa_cons (pv 1) pa_nil)))
      (pss_cons (ps_if (pt_not (pt_val (cm (m_leads F.phase) (hr.mono (by decide)) (cg g_phase_of (hr.mono (by decide)) (pa_cons (pe_fld (pv 0) rfl) pa_nil)) (pa_cons (pv 1) pa_nil)))) (pss_one (ps_raise rfl (takes_of rfl rfl rfl rfl) (pmk_own PySem.F.excBase_ValueError T.x_NotNow.1 T.g_NotNow T.x_NotNow.2.1 (raises_own T.x_NotNow.2.2.1 T.x_NotNow.2.2.2) (by exact rfl)))) pss_nil)
      (pss_cons (ps_set (i := 2) sc_Floor_turn.nd rfl (Or.inl rfl) (pe_lst pa_nil))
      (pss_cons (ps_if (pt_cmpR op_eq (pv 1) pe_str (nomark _)) (pss_cons (ps_asg (cg g_called (hr.mono (by decide)) (pa_cons (pe_fld (pv 0) rfl) (pa_cons (pe_fld (pv 0) rfl) (pa_cons (pe_fld (pv 0) rfl) pa_nil)))) (pg_tup (by rfl) (pgs_cons (pg_name (i := 3) sc_Floor_turn.nd rfl (Or.inl rfl)) (pgs_cons (pg_name (i := 4) sc_Floor_turn.nd rfl (Or.inl rfl)) (pgs_cons (pg_name (i := 5) sc_Floor_turn.nd rfl (Or.inl rfl)) (pgs_cons (pg_name (i := 6) sc_Floor_turn.nd rfl (Or.inl rfl)) pgs_nil))))))
      (pss_cons (ps_fld (pv 0) (pv 5) rfl)
      (pss_cons (ps_fld (pv 0) (pv 6) rfl)
      (pss_cons (ps_for (passes_of rfl) rfl (pi_list (pv 4)) (pg_name (i := 7) sc_Floor_turn.nd rfl (Or.inl rfl))
        (pss_one (ps_expr (pe_bm PySem.F.plainAttrs_list PySem.F.slot_list_append PySem.F.type_list_append mt_append (pv 2) (pa_cons (pe_tup (pa_cons pe_str (pa_cons (pe_ix ix_tup (pv 7) pe_int (fun _ _ => rfl)) (pa_cons (pe_ix ix_tup (pv 7) pe_int (fun _ _ => rfl)) (pa_cons (pv 3) (pa_cons (pe_ix ix_tup (pv 7) pe_int (fun _ _ => rfl)) pa_nil)))))) pa_nil)))))
      (pss_one (ps_if (pt_cmpR op_notN (pv 3) pe_non (nomark _)) (pss_one (ps_fld (pv 0) (pv 3) rfl)) pss_nil)))))) pss_nil)
      (pss_cons (ps_fld (pv 0) (pv 1) rfl)
      (pss_cons (ps_expr (pe_bm PySem.F.plainAttrs_list PySem.F.slot_list_append PySem.F.type_list_append mt_append (pv 2) (pa_cons (pe_tup (pa_cons pe_str (pa_cons (pv 1) pa_nil))) pa_nil)))
      (pss_one (ps_ret (pe_op op_cat (pv 2) (cm0 m_woken (hr.mono (by decide)) (pv 0)))))))))), ?_⟩
    have hkl := len_known F
    walk_at "rd"
    refine fun x0 dx0 H1 s1 _ _ => ?_
    walk_at "rd"
    refine ⟨p, _, dx, _, _, rfl, (hF.same s1).o, T.l_Floor, T.n_phase, ff_phase _ _ _ _ _ _, ?_⟩
    walk_at "rd"
    refine fun x1 dx1 H2 s2 hx0 hx1 => ?_
    walk_at "rd"
    refine ⟨x1, _, _, rfl, hx1, rfl, ?_⟩
    walk_at "rd"
    intro H3 s3
    have s := (s1.trans s2).trans s3
    have hF3 := hF.same s
    walk_at "rd"
    cases hld : leads F.phase k with
    | false =>
      refine iteY rfl ?_
      exact q2 hld _ _ _ T.e_NotNow s
    | true =>
    refine iteN rfl ?_
    walk_at "rd"
    intro S hS
    have u := same_upd (o := .lst []) hS
    have hSH : H S = none := s.free hS
    have hSp : S ≠ p := FlAt.nep ⟨_, _, _, _, hF3⟩ hS
    obtain ⟨nb, nz, na⟩ := hF3.free hS
    have hFu := hF3.same u
    dsimp only [gName]
    refine vyS (R := fun σ' H' => ∃ (cs : List Fact) (Fc : Floor) (lb' ls' : Addr) (v3 v4 v5 v6 v7 : Option V), σ' = [some (.ref p), some (.str k.s), some (.ref S), v3, v4, v5, v6, v7] ∧ But p H H' ∧ ((k = .opn ∧ CalledR F cs Fc) ∨ (k ≠ .opn ∧ cs = [] ∧ Fc = F)) ∧ FlIn K H' p dx lb' ls' la Fc ∧ lb' ≠ S ∧ ls' ≠ S ∧ LstAt H' S (cs.map Fact.v) ∧ cs.length ≤ 300) (fun nx q' => ?_) (fun σ' H' r => ?_)
    · walk_at "rd"
      refine iteB (ph_opn k) ?_
      by_cases ck : k = .opn
      · refine iteY (decide_eq_true ck) ?_
        walk_at "rd"
        refine ⟨p, _, dx, _, _, rfl, hFu.o, T.l_Floor, T.n_buys, ff_buys _ _ _ _ _ _, ?_⟩
        walk_at "rd"
        refine ⟨p, _, dx, _, _, rfl, hFu.o, T.l_Floor, T.n_sells, ff_sells _ _ _ _ _ _, ?_⟩
        walk_at "rd"
        refine ⟨p, _, dx, _, _, rfl, hFu.o, T.l_Floor, T.n_last, ff_last _ _ _ _ _ _, ?_⟩
        walk_at "rd"
        have hb4 : ∀ {H4 H5 H6 : Hp}, Same (upd H3 S (.lst [])) H4 → But p H4 H5 → But p H5 H6 → But p H H6 := fun s4 b5 b6 => ((But.of ((s.trans u).trans s4)).trans b5).trans b6
        refine ⟨lb, ls, F.buys, F.sells, F.last, rfl, hFu.b, hFu.s, hI.b.ok, hI.s.ok, by omega, fun t l1 l2 l3 H4 s4 n1 n2 n3 ht hl1 hl2 hl3 => ?_, fun pr ts t l1 l2 l3 H4 s4 n1 n2 n3 ht hv hd hlen hl1 hl2 hl3 => ?_⟩
        · refine ⟨t, _, rfl, SqT.of ht, rfl, ?_⟩
          have hF4 := hFu.same s4
          have hS4 := s4 _ _ (upd_same (H := H3) (a := S) (o := .lst []))
          walk_at "rd"
          refine put_buys T hF4 hl2 fun H5 b5 hF5 => ?_
          walk_at "rd"
          refine put_sells T hF5 (hl3.but b5 hF4.o) fun H6 b6 hF6 => ?_
          obtain ⟨tv, htv, htT⟩ := (hl1.but b5 hF4.o).but b6 hF5.o
          cases Tups.nil_of htT
          have nl2 : l2 ≠ S := fun e => by rw [e, upd_same] at n2; cases n2
          have nl3 : l3 ≠ S := fun e => by rw [e, upd_same] at n3; cases n3
          walk_at "rd"
          refine ⟨⟨_, SqL.of htv⟩, for_list (xs := []) (fun i σ H' => σ = [some (.ref p), some (.str k.s), some (.ref S), some .non, some (.ref l1), some (.ref l2), some (.ref l3), none] ∧ H' = H6) ⟨rfl, rfl⟩ (fun i σ H' _ h => by obtain ⟨_, rfl⟩ := h; exact SqL.of htv) (fun i x σ H' hx h => by simp at hx) fun σ H' h => ?_⟩
          obtain ⟨rfl, rfl⟩ := h
          walk_at "rd"
          exact q' _ _ ⟨[], F, l2, l3, _, _, _, _, _, rfl, hb4 s4 b5 b6, .inl ⟨ck, .inl ⟨rfl, rfl⟩⟩, hF6, nl2, nl3, ⟨[], b6 _ _ (b5 _ _ hS4 hSp) hSp, .nil⟩, Nat.zero_le _⟩
        · refine ⟨t, _, rfl, SqT.of ht, rfl, ?_⟩
          have hF4 := hFu.same s4
          have hS4 := s4 _ _ (upd_same (H := H3) (a := S) (o := .lst []))
          walk_at "rd"
          refine put_buys T hF4 hl2 fun H5 b5 hF5 => ?_
          walk_at "rd"
          refine put_sells T hF5 (hl3.but b5 hF4.o) fun H6 b6 hF6 => ?_
          obtain ⟨tv, htv, htT⟩ := (hl1.but b5 hF4.o).but b6 hF5.o
          have htl := Tups.length htT
          rw [List.length_map] at htl
          have nl1 : l1 ≠ S := fun e => by rw [e, upd_same] at n1; cases n1
          have nl2 : l2 ≠ S := fun e => by rw [e, upd_same] at n2; cases n2
          have nl3 : l3 ≠ S := fun e => by rw [e, upd_same] at n3; cases n3
          walk_at "rd"
          refine ⟨⟨_, SqL.of htv⟩, for_list (xs := tv) (fun i σ H' => ∃ v7, σ = [some (.ref p), some (.str k.s), some (.ref S), some (.int pr), some (.ref l1), some (.ref l2), some (.ref l3), v7] ∧ But p H H' ∧ Kt H6 H' ∧ H' l1 = some (.lst tv) ∧ FlIn K H' p dx l2 l3 la { F with buys := lineBehind F.buys (BB.volume F.buys F.sells pr), sells := lineBehind F.sells (BB.volume F.buys F.sells pr) } ∧ LstAt H' S ((ts.take i).map fun x => (Fact.trade x.1 x.2.1 pr x.2.2).v))
            ⟨_, rfl, hb4 s4 b5 b6, Kt.refl _, htv, hF6, ⟨[], b6 _ _ (b5 _ _ hS4 hSp) hSp, .nil⟩⟩ (fun i σ H' _ h => by obtain ⟨_, _, _, _, h, _⟩ := h; exact SqL.of h) (fun i x σ H' hx h => ?_) fun σ H' h => ?_⟩
          · obtain ⟨v7, rfl, hb, hk, h1, hf, hs⟩ := h
            obtain ⟨xv, hxv, c, rfl, hc⟩ := htT.get hx
            rw [List.getElem?_map] at hxv
            obtain ⟨tr, htr, rfl⟩ := Option.map_eq_some_iff.mp hxv
            have hc' : H' c = some (.tup [.str tr.1, .str tr.2.1, .int tr.2.2]) := hk _ _ hc
            obtain ⟨fv, hfv, hfT⟩ := id hs
            have hfl := Tups.length hfT
            rw [List.length_map, List.length_take] at hfl
            walk_at "rd"
            refine ⟨.inl ⟨rfl, _, SqL.of hfv⟩, ?_⟩
            walk_at "rd"
            intro g hg
            have ug := same_upd (o := .tup [.str "trade", .str tr.1, .str tr.2.1, .int pr, .int tr.2.2]) hg
            refine ⟨S, _, _, rfl, rfl, ug _ _ hfv, Nat.lt_of_lt_of_le (m := 301) (by omega) (by decide), ?_⟩
            refine ⟨_, rfl, fun b ob e n => ?_, hk.trans (push_kt hfv hg), push_ne h1 nl1 hg, (hf.same ug).put (ug _ _ hfv) nl2 nl3 na, ?_⟩
            · rw [upd_ne (ne_of_none e hSH)]
              exact ug _ _ (hb b ob e n)
            · rw [take_get htr, List.map_append]
              exact LstAt.push hfv hfT hg (x := (Fact.trade tr.1 tr.2.1 pr tr.2.2).v)
          · obtain ⟨v7, rfl, hb, hk, h1, hf, hs⟩ := h
            rw [htl, List.take_length] at hs
            walk_at "rd"
            have hS' : ∃ sv, H' S = some (.lst sv) ∧ Tups H' sv (ts.map fun x => (Fact.trade x.1 x.2.1 pr x.2.2).v) := hs
            refine put_last T hf fun H8 b8 hF8 => ?_
            refine q' _ _ ⟨ts.map (fun x => .trade x.1 x.2.1 pr x.2.2), _, l2, l3, _, _, _, _, _, rfl, hb.trans b8, .inl ⟨ck, .inr ⟨pr, ts, hv, hd, rfl, rfl⟩⟩, hF8, nl2, nl3, ?_, by rw [List.length_map]; omega⟩
            rw [List.map_map]
            exact hs.but b8 hf.o
      · refine iteN (decide_eq_false ck) ?_
        exact q' _ _ ⟨[], F, lb, ls, none, none, none, none, none, rfl, But.of (s.trans u), .inr ⟨ck, rfl, rfl⟩, hFu, nb, nz, ⟨[], upd_same, .nil⟩, Nat.zero_le _⟩
    · obtain ⟨cs, Fc, lb', ls', v3, v4, v5, v6, v7, rfl, hb, hR, hFc, nb', nz', hcs, hlen⟩ := r
      obtain ⟨cv, hcv, hcT⟩ := id hcs
      have hcl := Tups.length hcT
      rw [List.length_map] at hcl
      walk_at "rd"
      refine put_phase T hFc fun H4 b4 hF4 => ?_
      have hcv4 := b4 _ _ hcv hSp
      have k4 := b4.kt hFc.o
      walk_at "rd"
      refine ⟨.inl ⟨rfl, _, SqL.of hcv4⟩, ?_⟩
      walk_at "rd"
      intro g hg
      have ug := same_upd (o := .tup [.str "phase", .str k.s]) hg
      refine ⟨S, _, _, rfl, rfl, ug _ _ hcv4, Nat.lt_of_lt_of_le (m := 301) (by omega) (by decide), ?_⟩
      have k5 := push_kt (o := .tup [.str "phase", .str k.s]) (u := .lst (cv ++ [.ref g])) hcv4 hg
      have tr5 := LstAt.push hcv4 (hcT.kt k4) hg (x := [.str "phase", .str k.s])
      have hF5 := (hF4.same ug).put (ws := cv ++ [.ref g]) (ug _ _ hcv4) nb' nz' na
      have hb5 : But p H (upd (upd H4 g (.tup [.str "phase", .str k.s])) S (.lst (cv ++ [.ref g]))) := fun b ob e n => by
        rw [upd_ne (ne_of_none e hSH)]
        exact ug _ _ (b4 b ob (hb b ob e n) n)
      generalize (upd (upd H4 g (.tup [.str "phase", .str k.s])) S (.lst (cv ++ [.ref g]))) = H5 at *
      walk_at "rd"
      refine ⟨p, _, _, rfl, hF5.o, by kernel_rfl, ?_⟩
      have hinv : FInv Fc ∧ Fc.known.length ≤ F.known.length := by
        rcases hR with ⟨_, hR⟩ | ⟨_, _, rfl⟩
        · have z := calledR_inv hI hR
          exact ⟨z.1, z.2.2.1⟩
        · exact ⟨hI, Nat.le_refl _⟩
      have hkl2 := len_known Fc
      have hkl3 := len_known ({ Fc with phase := k } : Floor)
      have hkl4 : ({ Fc with phase := k } : Floor).known.length = Fc.known.length := by rw [hkl2, hkl3]
      walk_at "rd"
      refine ⟨p, _, rfl, ⟨_, _, _, _, hF5⟩, phase_inv hinv.1 k, by omega, fun l7 H7 b7 hl7 hF7 hL7 hlen7 => ?_⟩
      obtain ⟨w5, hw5, hwT⟩ := tr5
      obtain ⟨w7, hw7, hwT7⟩ := id hL7
      have hw5' := b7 _ _ hw5 hSp
      have e5 := Tups.length hwT
      have e7 := Tups.length hwT7
      rw [List.length_append, List.length_map] at e5
      rw [List.length_map] at e7
      have e5' : w5.length = cs.length + 1 := e5
      refine ⟨S, l7, _, _, rfl, rfl, hw5', hw7, Nat.le_trans (m := 300000) (by omega) (by decide), fun c hc => ?_⟩
      have uc := same_upd (o := .lst (w5 ++ w7)) hc
      refine q1 _ _ ⟨hld, cs, Fc, hR, rfl, rfl⟩ c _ ((hb5.trans b7).trans (But.of uc)) ((hb5.trans b7).free hF.o hc (hF7.nep hc)) (hF7.same uc) ⟨_, upd_same, ?_⟩ ?_
      · rw [List.map_append, List.map_append]
        exact ((hwT.kt (b7.kt hF5.o)).append hwT7).kt (Kt.same uc)
      · rw [List.length_append, List.length_append]
        show _ + 1 + _ ≤ _
        omega
end
end BB
set_option Elab.async false
set_option linter.all false
set_option maxRecDepth 100000
set_option maxHeartbeats 4000000
/-! L1: the law's small defs. -/
namespace BB
open PySem PySem.Spec PyProof.Rows L2
local macro_rules | `(tactic| walk_at "rd") => `(tactic| repeat (first | refine ⟨_, rfl, ?_⟩ | refine ⟨_, _, rfl, rfl, ?_⟩ | refine ⟨_, _, rfl, ?_⟩ | refine ⟨rfl, ?_⟩ | refine ⟨_, _, _, _, rfl, rfl, SqT.of (by assumption), rfl, ?_⟩ | refine ⟨Nat.le_of_ble_eq_true rfl, ?_⟩))
theorem allows_buy (p q : Int) : BB.allows true p q = decide (q ≤ p) := by
  unfold BB.allows ahead
  by_cases c : q ≤ p
  · rw [decide_eq_true c, if_pos rfl, decide_eq_false (by omega)]
    rfl
  · rw [decide_eq_false c, if_pos rfl, decide_eq_true (by omega)]
    rfl
theorem allows_sell (p q : Int) : BB.allows false p q = decide (p ≤ q) := by
  unfold BB.allows ahead
  by_cases c : p ≤ q
  · rw [decide_eq_true c, if_neg Bool.false_ne_true, decide_eq_false (by omega)]
    rfl
  · rw [decide_eq_false c, if_neg Bool.false_ne_true, decide_eq_true (by omega)]
    rfl
theorem cut4 (o : Ord) : cutV o.v none (some 4) = [.str o.name, .str o.who, .str (sd o.buy), .int o.price] := (cutV_take o.v 4).trans rfl
/-- order[:4] -/
theorem sl4 {K : PySem.W.Frag} {H : Hp} {a : Addr} {o : Ord} {Q : VK} (ha : H a = some (.tup o.v)) (q : ∀ p, H p = none → Q (.ref p) (upd H p (.tup [.str o.name, .str o.who, .str (sd o.buy), .int o.price]))) : rSlA K (.ref a) none (some 4) H Q :=
  ⟨a, _, rfl, SqT.of ha, fun z => absurd (show HT.sIx 7 7 (some 4) = 7 from z.2) (by decide), fun _ p hp => by rw [cut4]; exact q p hp⟩
theorem cat_tup {K : PySem.W.Frag} {H : Hp} {a b : Addr} {xs ys : List V} {Q : VK} (ha : H a = some (.tup xs)) (hb : H b = some (.tup ys)) (q : ∀ p, H p = none → Q (.ref p) (upd H p (.tup (xs ++ ys))))
    (hx : xs ≠ [] := by simp) (hy : ys ≠ [] := by simp) (hz : xs.length + ys.length ≤ sizeLine := by exact Nat.le_of_ble_eq_true rfl) : rCatA K (.ref a) (.ref b) H Q :=
  ⟨a, b, xs, ys, rfl, rfl, SqT.of ha, SqT.of hb, hz, fun z => absurd z hx, fun _ z => absurd z hy, fun _ _ => q⟩
section
variable {P : Program} {w : World} {K : PySem.W.Frag} {mg : Str → Option Value} {base : Heap}
theorem ok_law_cell_at (T : Txt K mg) : Gd P w K mg base CX0 (1) "_law_cell_at" ["script", "k"] (fun vs H Q E => ∃ (a : Addr) (ns : List Int) (k : Int), vs = [.ref a, .int k] ∧ 0 ≤ k ∧ SqL K H a (ns.map V.int) ∧ ∀ n, Q (.int n) H) := by
  refine gd0 T.d_law_cell_at T.g_law_cell_at sc_law_cell_at (fun _ _ _ _ _ _ us hl => match us, hl with | [_, _], _ => rfl) (fun vs H Q E h => ?_) (fun cdv A outer s H vs Q E hr h => ?_)
  · obtain ⟨a, ns, k, rfl, _⟩ := h
    rfl
  · obtain ⟨a, ns, k, rfl, h0, ha, q⟩ := h
    refine ⟨_, pss_cons (ps_if (pt_cmpR op_lt (pv 1) (pe_callB call_len_seq (by rfl) T.b_len (by decide +kernel) (pa_cons (pv 0) pa_nil)) (nomark _)) (pss_one (ps_ret (pe_ix ix_list (pv 0) (pv 1) (fun _ _ => rfl)))) pss_nil)
      (pss_one (ps_ret pe_int)), ?_⟩
    walk_at "rd"
    refine ⟨a, _, rfl, .inl ha, ?_⟩
    walk_at "rd"
    rw [List.length_map]
    by_cases c : k < ns.length
    · refine iteY (decide_eq_true c) ?_
      walk_at "rd"
      obtain ⟨j, rfl⟩ : ∃ j : Nat, k = j := ⟨k.toNat, by omega⟩
      refine ⟨a, _, _, .int ns[j], rfl, rfl, ha, atI_nat (by rw [List.getElem?_map, List.getElem?_eq_getElem (by omega)]; rfl), ?_⟩
      exact q _
    · refine iteN (decide_eq_false c) ?_
      walk_at "rd"
      exact q 0
theorem ok_law_anew (T : Txt K mg) : Gd P w K mg base CX0 (1) "_law_anew" ["order", "left"] (fun vs H Q E => ∃ (a : Addr) (o : Ord) (l : Int), vs = [.ref a, .int l] ∧ H a = some (.tup o.v) ∧ 0 ≤ o.peak ∧ ∀ p H', Same H H' → H p = none → H' p = some (.tup (BB.fresh o l).v) → Q (.ref p) H') := by
  refine gd0 T.d_law_anew T.g_law_anew sc_law_anew (fun _ _ _ _ _ _ us hl => match us, hl with | [_, _], _ => rfl) (fun vs H Q E h => ?_) (fun cdv A outer s H vs Q E hr h => ?_)
  · obtain ⟨a, o, l, rfl, _⟩ := h
    rfl
  · obtain ⟨a, o, l, rfl, ha, hp, q⟩ := h
    refine ⟨_, pss_cons (ps_set (i := 2) sc_law_anew.nd rfl (Or.inl rfl) (pv 1))
      (pss_cons (ps_if (pt_cmpR op_gt (pe_ix ix_tup (pv 0) pe_int (fun _ _ => rfl)) pe_int (nomark _)) (pss_one (ps_set (i := 2) sc_law_anew.nd rfl (Or.inl rfl) (pe_callB (call_min2 rfl) (by rfl) T.b_min (by decide +kernel) (pa_cons (pv 1) (pa_cons (pe_ix ix_tup (pv 0) pe_int (fun _ _ => rfl)) pa_nil))))) pss_nil)
      (pss_one (ps_ret (pe_op op_catA (pe_slice sl_tupA (pv 0) po_none (po_some pe_int)) (pe_tup (pa_cons (pv 1) (pa_cons (pv 2) (pa_cons (pe_ix ix_tup (pv 0) pe_int (fun _ _ => rfl)) pa_nil)))))))), ?_⟩
    walk_at "rd"
    have fin : ∀ z : Int, z = inView l o.peak → ∀ p1, H p1 = none → ∀ p2, (upd H p1 (.tup [.str o.name, .str o.who, .str (sd o.buy), .int o.price])) p2 = none → ∀ p,
        (upd (upd H p1 (.tup [.str o.name, .str o.who, .str (sd o.buy), .int o.price])) p2 (.tup [.int l, .int z, .int o.peak])) p = none → Q (.ref p) (upd (upd (upd H p1 (.tup [.str o.name, .str o.who, .str (sd o.buy), .int o.price])) p2 (.tup [.int l, .int z, .int o.peak])) p (.tup ([.str o.name, .str o.who, .str (sd o.buy), .int o.price] ++ [.int l, .int z, .int o.peak]))) := fun z hz p1 h1 p2 h2 p h3 => by
      have u1 := same_upd (o := .tup [.str o.name, .str o.who, .str (sd o.buy), .int o.price]) h1
      have u2 := same_upd (o := .tup [.int l, .int z, .int o.peak]) h2
      have u3 := same_upd (o := .tup ([.str o.name, .str o.who, .str (sd o.buy), .int o.price] ++ [.int l, .int z, .int o.peak])) h3
      refine q p _ ((u1.trans u2).trans u3) ((u1.trans u2).free h3) ?_
      rw [upd_same, hz]
      rfl
    by_cases c : 0 < o.peak
    · refine iteY (decide_eq_true c) ?_
      walk_at "rd"
      refine sl4 ha fun p1 h1 => ?_
      have u1 := same_upd (o := .tup [.str o.name, .str o.who, .str (sd o.buy), .int o.price]) h1
      have ha1 := u1 _ _ ha
      walk_at "rd"
      intro p2 h2
      refine cat_tup ((same_upd h2) _ _ upd_same) upd_same fun p h3 => ?_
      refine fin _ ?_ p1 h1 p2 h2 p h3
      unfold inView
      rw [if_neg (show ¬ o.peak = 0 by omega)]
      split <;> split <;> omega
    · refine iteN (decide_eq_false c) ?_
      walk_at "rd"
      refine sl4 ha fun p1 h1 => ?_
      have u1 := same_upd (o := .tup [.str o.name, .str o.who, .str (sd o.buy), .int o.price]) h1
      have ha1 := u1 _ _ ha
      walk_at "rd"
      intro p2 h2
      refine cat_tup ((same_upd h2) _ _ upd_same) upd_same fun p h3 => ?_
      refine fin _ ?_ p1 h1 p2 h2 p h3
      unfold inView
      rw [if_pos (show o.peak = 0 by omega)]
theorem ok_law_allowed (T : Txt K mg) : Gd P w K mg base CX0 (1) "_law_allowed" ["order", "price"] (fun vs H Q E => ∃ (a : Addr) (o : Ord) (p : Int), vs = [.ref a, .int p] ∧ H a = some (.tup o.v) ∧ Q (.bl (BB.allows o.buy o.price p)) H) := by
  refine gd0 T.d_law_allowed T.g_law_allowed sc_law_allowed (fun _ _ _ _ _ _ us hl => match us, hl with | [_, _], _ => rfl) (fun vs H Q E h => ?_) (fun cdv A outer s H vs Q E hr h => ?_)
  · obtain ⟨a, o, p, rfl, _⟩ := h
    rfl
  · obtain ⟨a, o, p, rfl, ha, q⟩ := h
    refine ⟨_, pss_cons (ps_if (pt_cmpR op_eq (pe_ix ix_tup (pv 0) pe_int (fun _ _ => rfl)) pe_str (nomark _)) (pss_one (ps_ret (pe_cmpR op_le (pv 1) (pe_ix ix_tup (pv 0) pe_int (fun _ _ => rfl)) (nomark _)))) pss_nil)
      (pss_one (ps_ret (pe_cmpR op_ge (pv 1) (pe_ix ix_tup (pv 0) pe_int (fun _ _ => rfl)) (nomark _)))), ?_⟩
    walk_at "rd"
    refine iteB (sd_buy o.buy) ?_
    cases hb : o.buy with
    | true =>
      rw [hb, allows_buy] at q
      refine iteY rfl ?_
      walk_at "rd"
      exact q
    | false =>
      rw [hb, allows_sell] at q
      refine iteN rfl ?_
      walk_at "rd"
      exact q
theorem ok_law_lessened (T : Txt K mg) : Gd P w K mg base CX0 (1) "_law_lessened" ["order", "fact"] (fun vs H Q E => ∃ (a f : Addr) (o : Ord) (wd n : Str) (l : Int), vs = [.ref a, .ref f] ∧ H a = some (.tup o.v) ∧ H f = some (.tup [.str wd, .str n, .int l]) ∧ ∀ p H', Same H H' → H' p = some (.tup (if o.name = n then BB.lessened o l else o).v) → Q (.ref p) H') := by
  refine gd0 T.d_law_lessened T.g_law_lessened sc_law_lessened (fun _ _ _ _ _ _ us hl => match us, hl with | [_, _], _ => rfl) (fun vs H Q E h => ?_) (fun cdv A outer s H vs Q E hr h => ?_)
  · obtain ⟨a, f, o, wd, n, l, rfl, _⟩ := h
    rfl
  · obtain ⟨a, f, o, wd, n, l, rfl, ha, hf, q⟩ := h
    refine ⟨_, pss_cons (ps_if (pt_cmpR op_ne (pe_ix ix_tup (pv 0) pe_int (fun _ _ => rfl)) (pe_ix ix_tup (pv 1) pe_int (fun _ _ => rfl)) (nomark _)) (pss_one (ps_ret (pv 0))) pss_nil)
      (pss_one (ps_ret (pe_op op_catA (pe_slice sl_tupA (pv 0) po_none (po_some pe_int)) (pe_tup (pa_cons (pe_ix ix_tup (pv 1) pe_int (fun _ _ => rfl)) (pa_cons (pe_callB (call_min2 rfl) (by rfl) T.b_min (by decide +kernel) (pa_cons (pe_ix ix_tup (pv 0) pe_int (fun _ _ => rfl)) (pa_cons (pe_ix ix_tup (pv 1) pe_int (fun _ _ => rfl)) pa_nil))) (pa_cons (pe_ix ix_tup (pv 0) pe_int (fun _ _ => rfl)) pa_nil))))))), ?_⟩
    have hf' := hf
    walk_at "rd"
    by_cases c : o.name = n
    · rw [if_pos c] at q
      refine iteN (by simp [c]) ?_
      walk_at "rd"
      refine sl4 ha fun p1 h1 => ?_
      have u1 := same_upd (o := .tup [.str o.name, .str o.who, .str (sd o.buy), .int o.price]) h1
      have ha1 := u1 _ _ ha
      have hf1 := u1 _ _ hf'
      walk_at "rd"
      intro p2 h2
      refine cat_tup ((same_upd h2) _ _ upd_same) upd_same fun p h3 => ?_
      refine q p _ ((u1.trans (same_upd h2)).trans (same_upd h3)) ?_
      rw [upd_same]
      have e : (if l < o.shown then l else o.shown) = min2 o.shown l := rfl
      rw [e]
      rfl
    · rw [if_neg c] at q
      refine iteY (by simp [c]) ?_
      walk_at "rd"
      exact q a H (Same.refl _) ha
theorem ok_law_joined (T : Txt K mg) : Gd P w K mg base CX0 (2) "_law_joined" ["line", "order"] (fun vs H Q E => ∃ (l a : Addr) (os : List Ord) (o : Ord), vs = [.ref l, .ref a] ∧ LinAt H l os ∧ H a = some (.tup o.v) ∧ os.length ≤ 900 ∧ ∀ p H', Same H H' → H p = none → LinAt H' p (BB.joined os o) → Q (.ref p) H') := by
  refine gd0 T.d_law_joined T.g_law_joined sc_law_joined (fun _ _ _ _ _ _ us hl => match us, hl with | [_, _], _ => rfl) (fun vs H Q E h => ?_) (fun cdv A outer s H vs Q E hr h => ?_)
  · obtain ⟨l, a, os, o, rfl, _⟩ := h
    rfl
  · obtain ⟨l, a, os, o, rfl, ⟨vs, hL, hT⟩, ha, hz, q⟩ := h
    refine ⟨_, pss_cons (ps_set (i := 2) sc_law_joined.nd rfl (Or.inl rfl) pe_int)
      (pss_cons (ps_while PassesOwn.never (pt_cmpR op_lt (pv 2) (pe_callB call_len_seq (by rfl) T.b_len (by decide +kernel) (pa_cons (pv 0) pa_nil)) (nomark _)) (pss_cons (ps_if (PW.pt (pw_and (pt_cmpR op_eq (pe_ix ix_tup (pv 1) pe_int (fun _ _ => rfl)) pe_str (nomark _)) (pw_and1 (pt_cmpR op_gt (pe_ix ix_tup (pv 1) pe_int (fun _ _ => rfl)) (pe_ix ix_tup (pe_ix ix_list (pv 0) (pv 2) (fun _ _ => rfl)) pe_int (fun _ _ => rfl)) (nomark _))))) (pss_one ps_break) pss_nil)
      (pss_cons (ps_if (PW.pt (pw_and (pt_cmpR op_eq (pe_ix ix_tup (pv 1) pe_int (fun _ _ => rfl)) pe_str (nomark _)) (pw_and1 (pt_cmpR op_lt (pe_ix ix_tup (pv 1) pe_int (fun _ _ => rfl)) (pe_ix ix_tup (pe_ix ix_list (pv 0) (pv 2) (fun _ _ => rfl)) pe_int (fun _ _ => rfl)) (nomark _))))) (pss_one ps_break) pss_nil)
      (pss_one (ps_set (i := 2) sc_law_joined.nd rfl (Or.inl rfl) (pe_op op_add (pv 2) pe_int))))))
      (pss_one (ps_ret (pe_op op_cat (pe_op op_cat (pe_slice sl_list (pv 0) po_none (po_some (pv 2))) (pe_lst (pa_cons (pv 1) pa_nil))) (pe_slice sl_list (pv 0) (po_some (pv 2)) po_none))))), ?_⟩
    have hlen := Ords.len hT
    walk_at "rd"
    refine ⟨fun m σ H1 => ∃ k : Nat, σ = [some (.ref l), some (.ref a), some (.int k)] ∧ H1 = H ∧ k ≤ os.length ∧ os.length - k < m ∧ ∀ (j : Nat) x, j < k → os[j]? = some x → ahead o.buy o.price x.price = false,
      ⟨_, 0, rfl, rfl, Nat.zero_le _, Nat.lt_succ_self _, fun j x h => absurd h (Nat.not_lt_zero _)⟩, ?_⟩
    rintro m σ H1 ⟨k, rfl, rfl, hk, hm, hj⟩
    have fin : (∀ x, os[k]? = some x → BB.ahead o.buy o.price x.price = true) → tRet (tOp rCat (tOp rCat (tSl (rSlL K) (tVar 0) tNoPart (tPart (tVar 2))) (tLst (tCons (tVar 1) tNil))) (tSl (rSlL K) (tVar 0) (tPart (tVar 2)) tNoPart))
        { nx := fun _ H' => Q .non H', rt := Q } [some (.ref l), some (.ref a), some (.int k)] H1 := fun hat => by
      refine ⟨_, rfl, _, rfl, _, rfl, _, _, rfl, SqL.of hL, fun p1 h1 => ?_⟩
      have s1 := same_upd (o := .lst (cutV vs none (some ↑k))) h1
      refine ⟨_, rfl, Nat.le_of_ble_eq_true rfl, fun p2 h2 => ?_⟩
      have s2 := same_upd (o := .lst [V.ref a]) h2
      refine ⟨p1, p2, _, _, rfl, rfl, s2 _ _ upd_same, upd_same, line1000 (by rw [cutV_take, List.length_take]; show _ + 1 ≤ 1000; omega), fun p3 h3 => ?_⟩
      have s3 := same_upd (o := .lst (cutV vs none (some ↑k) ++ [V.ref a])) h3
      have s123 := (s1.trans s2).trans s3
      refine ⟨_, rfl, _, rfl, _, rfl, _, _, rfl, SqL.of (s123 _ _ hL), fun p4 h4 => ?_⟩
      have s4 := same_upd (o := .lst (cutV vs (some ↑k) none)) h4
      refine ⟨p3, p4, _, _, rfl, rfl, s4 _ _ upd_same, upd_same, line1000 (by rw [cutV_take, cutV_drop, List.length_append, List.length_take, List.length_drop]; show _ + 1 + _ ≤ 1000; omega), fun p5 h5 => ?_⟩
      have s5 := same_upd (o := .lst (cutV vs none (some ↑k) ++ [V.ref a] ++ cutV vs (some ↑k) none)) h5
      have s := (s123.trans s4).trans s5
      refine q p5 _ s (((s123.trans s4).free h5)) ?_
      rw [joined_at hk hj hat]
      exact LinAt.spliced (l := l) (by rw [upd_same, cutV_take, cutV_drop]) (Tups.kt (Kt.same s) hT) ⟨a, rfl, s _ _ ha⟩
    walk_at "rd"
    refine ⟨l, _, rfl, .inl (SqL.of hL), ?_⟩
    walk_at "rd"
    by_cases hlt : k < os.length
    · refine iteY (decide_eq_true (by omega)) ⟨_, fun σ' H' z => z, ?_⟩
      obtain ⟨x, hx⟩ : ∃ x, os[k]? = some x := ⟨os[k], List.getElem?_eq_getElem hlt⟩
      obtain ⟨b, hb, hbx⟩ := Ords.at hT hx
      walk_at "rd"
      refine iteB (sd_buy o.buy) ?_
      have go : BB.ahead o.buy o.price x.price = false → ∃ m', m' < m ∧ ∃ k' : Nat, [some (V.ref l), some (V.ref a), some (V.int ((k : Int) + 1))] = [some (.ref l), some (.ref a), some (.int k')] ∧ H1 = H1 ∧ k' ≤ os.length ∧ os.length - k' < m' ∧ ∀ (j : Nat) x, j < k' → os[j]? = some x → ahead o.buy o.price x.price = false := fun hA => by
        refine ⟨m - 1, by omega, k + 1, rfl, rfl, hlt, by omega, fun j y hj' hy => ?_⟩
        by_cases e : j = k
        · subst e
          rw [hx] at hy
          cases hy
          exact hA
        · exact hj j y (by omega) hy
      cases hb2 : o.buy with
      | true =>
        refine iteY rfl ?_
        walk_at "rd"
        refine ⟨l, _, _, _, rfl, rfl, SqL.of hL, atI_nat hb, ?_⟩
        walk_at "rd"
        by_cases c : x.price < o.price
        · refine iteY (decide_eq_true c) ?_
          exact fin fun y hy => by
            rw [hx] at hy
            cases hy
            unfold ahead
            rw [hb2, if_pos rfl]
            exact decide_eq_true c
        · refine iteN (decide_eq_false c) ?_
          walk_at "rd"
          refine iteN (by first | (rw [sd_sell, hb2]; rfl) | (rw [sd_sell]; rfl)) (iteN rfl ?_)
          walk_at "rd"
          have z := go (by unfold ahead; rw [hb2, if_pos rfl]; exact decide_eq_false c)
          rw [hb2] at z
          exact z
      | false =>
        refine iteN rfl ?_
        walk_at "rd"
        refine iteY (by first | (rw [sd_sell, hb2]; rfl) | (rw [sd_sell]; rfl)) ?_
        walk_at "rd"
        refine ⟨l, _, _, _, rfl, rfl, SqL.of hL, atI_nat hb, ?_⟩
        walk_at "rd"
        by_cases c : o.price < x.price
        · refine iteY (decide_eq_true c) ?_
          exact fin fun y hy => by
            rw [hx] at hy
            cases hy
            unfold ahead
            rw [hb2, if_neg Bool.false_ne_true]
            exact decide_eq_true c
        · refine iteN (decide_eq_false c) ?_
          walk_at "rd"
          have z := go (by unfold ahead; rw [hb2, if_neg Bool.false_ne_true]; exact decide_eq_false c)
          rw [hb2] at z
          exact z
    · refine iteN (decide_eq_false (by omega)) ?_
      have : k = os.length := by omega
      exact fin fun y hy => by rw [this, List.getElem?_eq_none (Nat.le_refl _)] at hy; cases hy
end
end BB
set_option Elab.async false
set_option linter.all false
set_option maxRecDepth 100000
set_option maxHeartbeats 4000000
/-! LB: the law's whole, alike. -/
namespace BB
open PySem PySem.Spec PyProof.Rows L2
local macro_rules | `(tactic| walk_at "rd") => `(tactic| repeat (first | refine ⟨_, rfl, ?_⟩ | refine ⟨_, _, rfl, rfl, ?_⟩ | refine ⟨_, _, rfl, ?_⟩ | refine ⟨rfl, ?_⟩ | refine ⟨_, _, _, _, rfl, rfl, SqT.of (by assumption), rfl, ?_⟩ | refine ⟨Nat.le_of_ble_eq_true rfl, ?_⟩))
/-- alike: numbers, texts; lists and tuples of such, n deep -/
def Al0 (x y : V) : Prop := (∃ i, x = .int i ∧ y = .int i) ∨ ∃ z, x = .str z ∧ y = .str z
def AlN : Nat → Hp → V → V → Prop
  | 0, _, x, y => Al0 x y
  | n + 1, H, x, y => Al0 x y ∨ ∃ a b xs ys, x = .ref a ∧ y = .ref b ∧ ((H a = some (.lst xs) ∧ H b = some (.lst ys)) ∨ (H a = some (.tup xs) ∧ H b = some (.tup ys))) ∧ xs.length = ys.length ∧ xs.length ≤ 1000 ∧
    ∀ (i : Nat) u v, xs[i]? = some u → ys[i]? = some v → AlN n H u v
theorem AlN.succ {n : Nat} {H : Hp} {x y : V} (h : AlN (n + 1) H x y) : Al0 x y ∨ ∃ a b xs ys, x = .ref a ∧ y = .ref b ∧ ((H a = some (.lst xs) ∧ H b = some (.lst ys)) ∨ (H a = some (.tup xs) ∧ H b = some (.tup ys))) ∧ xs.length = ys.length ∧ xs.length ≤ 1000 ∧
    ∀ (i : Nat) u v, xs[i]? = some u → ys[i]? = some v → AlN n H u v := h
theorem AlN.mk {n : Nat} {H : Hp} {a b : Addr} {xs ys : List V} (h : (H a = some (.lst xs) ∧ H b = some (.lst ys)) ∨ (H a = some (.tup xs) ∧ H b = some (.tup ys))) (l : xs.length = ys.length) (z : xs.length ≤ 1000) (r : ∀ (i : Nat) u v, xs[i]? = some u → ys[i]? = some v → AlN n H u v) : AlN (n + 1) H (.ref a) (.ref b) :=
  Or.inr ⟨a, b, xs, ys, rfl, rfl, h, l, z, r⟩
theorem AlN.flat {n : Nat} {H : Hp} {x y : V} (h : Al0 x y) : AlN n H x y := by
  cases n with
  | zero => exact h
  | succ n => exact Or.inl h
theorem AlN.same {H H' : Hp} (s : Same H H') {n : Nat} : ∀ {x y : V}, AlN n H x y → AlN n H' x y := by
  induction n with
  | zero => exact fun h => h
  | succ n ih =>
    intro x y h
    rcases h.succ with h | ⟨a, b, xs, ys, rfl, rfl, h, l, z, r⟩
    · exact .flat (n := n + 1) h
    · exact .mk (h.elim (fun q => .inl ⟨s _ _ q.1, s _ _ q.2⟩) (fun q => .inr ⟨s _ _ q.1, s _ _ q.2⟩)) l z fun i u v h1 h2 => ih (r i u v h1 h2)
section
variable {P : Program} {w : World} {K : PySem.W.Frag} {mg : Str → Option Value} {base : Heap}
theorem ok_law_whole (T : Txt K mg) : Gd P w K mg base CX0 (1) "_law_whole" ["found"] (fun vs H Q E => ∃ (n : Int), vs = [.int n] ∧ Q (.bl true) H) := by
  refine gd0 T.d_law_whole T.g_law_whole sc_law_whole (fun _ _ _ _ _ _ us hl => match us, hl with | [_], _ => rfl) (fun vs H Q E h => ?_) (fun cdv A outer s H vs Q E hr h => ?_)
  · obtain ⟨n, rfl, _⟩ := h
    rfl
  · obtain ⟨n, rfl, q⟩ := h
    refine ⟨_, pss_one (ps_ret (pe_and (pe_callB call_isi (by rfl) T.b_isinstance (by decide +kernel) (pa_cons (pv 0) (pa_cons (pe_bltn (v := .ty "int") (by rfl) T.b_int (by decide +kernel) rfl) pa_nil))) (pe_one (pe_not (pe_callB call_isi (by rfl) T.b_isinstance (by decide +kernel) (pa_cons (pv 0) (pa_cons (pe_bltn (v := .ty "bool") (by rfl) T.b_bool (by decide +kernel) rfl) pa_nil))))))), ?_⟩
    walk_at "rd"
    refine ⟨_, .ty "int", .type "int", .type "int", true, rfl, .ty "int", (.base (.int n)), kit_ty (by kernel_rfl), ?_⟩
    walk_at "rd"
    refine ⟨_, .ty "bool", .type "int", .type "bool", false, rfl, .ty "bool", (.base (.int n)), kit_ty (by kernel_rfl), ?_⟩
    walk_at "rd"
    exact q
theorem ok_alikeS (T : Txt K mg) {n k : Nat} (g_law_alike : Gd P w K mg base CX0 (k + 1) "_law_alike" ["found", "due"] (fun vs H Q E => ∃ (x y : V), vs = [x, y] ∧ AlN n H x y ∧ ∀ H', Same H H' → Q (.bl true) H')) : Gd P w K mg base CX0 (k+2) "_law_alike" ["found", "due"] (fun vs H Q E => ∃ (x y : V), vs = [x, y] ∧ AlN (n + 1) H x y ∧ ∀ H', Same H H' → Q (.bl true) H') := by
  have g_law_whole := ok_law_whole (P := P) (w := w) (base := base) T
  refine gd0 T.d_law_alike T.g_law_alike sc_law_alike (fun _ _ _ _ _ _ us hl => match us, hl with | [_, _], _ => rfl) (fun vs H Q E h => ?_) (fun cdv A outer s H vs Q E hr h => ?_)
  · obtain ⟨x, y, rfl, _⟩ := h
    rfl
  · obtain ⟨x, y, rfl, hal, q⟩ := h
    refine ⟨_, pss_cons (ps_if (pt_cmpR op_isN (pv 1) pe_non (nomark _)) (pss_one (ps_ret (pe_cmpR op_isN (pv 0) pe_non (nomark _)))) pss_nil)
      (pss_cons (ps_if (pt_val (pe_callB call_isi (by rfl) T.b_isinstance (by decide +kernel) (pa_cons (pv 1) (pa_cons (pe_bltn (v := .ty "str") (by rfl) T.b_str (by decide +kernel) rfl) pa_nil)))) (pss_one (ps_ret (pe_and (pe_callB call_isi (by rfl) T.b_isinstance (by decide +kernel) (pa_cons (pv 0) (pa_cons (pe_bltn (v := .ty "str") (by rfl) T.b_str (by decide +kernel) rfl) pa_nil))) (pe_one (pe_cmpR op_eq (pv 0) (pv 1) (nomark _)))))) pss_nil)
      (pss_cons (ps_if (pt_val (pe_callB call_isi (by rfl) T.b_isinstance (by decide +kernel) (pa_cons (pv 1) (pa_cons (pe_bltn (v := .ty "int") (by rfl) T.b_int (by decide +kernel) rfl) pa_nil)))) (pss_one (ps_ret (pe_and (cg g_law_whole (hr.mono (by omega)) (pa_cons (pv 0) pa_nil)) (pe_one (pe_cmpR op_eq (pv 0) (pv 1) (nomark _)))))) pss_nil)
      (pss_cons (ps_if (pt_val (pe_callB call_isi (by rfl) T.b_isinstance (by decide +kernel) (pa_cons (pv 1) (pa_cons (pe_bltn (v := .ty "list") (by rfl) T.b_list (by decide +kernel) rfl) pa_nil)))) (pss_one (ps_if (PW.pt (pw_or (pt_not (pt_val (pe_callB call_isi (by rfl) T.b_isinstance (by decide +kernel) (pa_cons (pv 0) (pa_cons (pe_bltn (v := .ty "list") (by rfl) T.b_list (by decide +kernel) rfl) pa_nil))))) (pw_or1 (pt_cmpR op_ne (pe_callB call_len_seq (by rfl) T.b_len (by decide +kernel) (pa_cons (pv 0) pa_nil)) (pe_callB call_len_seq (by rfl) T.b_len (by decide +kernel) (pa_cons (pv 1) pa_nil)) (nomark _))))) (pss_one (ps_ret pe_bl)) pss_nil)) (pss_one (ps_if (PW.pt (pw_or (pt_not (pt_val (pe_callB call_isi (by rfl) T.b_isinstance (by decide +kernel) (pa_cons (pv 0) (pa_cons (pe_bltn (v := .ty "tuple") (by rfl) T.b_tuple (by decide +kernel) rfl) pa_nil))))) (pw_or1 (pt_cmpR op_ne (pe_callB call_len_seq (by rfl) T.b_len (by decide +kernel) (pa_cons (pv 0) pa_nil)) (pe_callB call_len_seq (by rfl) T.b_len (by decide +kernel) (pa_cons (pv 1) pa_nil)) (nomark _))))) (pss_one (ps_ret pe_bl)) pss_nil)))
      (pss_cons (ps_for PassesOwn.never rfl (pi_range1 (by rfl) T.b_range (pa_cons (pe_callB call_len_seq (by rfl) T.b_len (by decide +kernel) (pa_cons (pv 1) pa_nil)) pa_nil)) (pg_name (i := 2) sc_law_alike.nd rfl (Or.inl rfl))
        (pss_one (ps_if (pt_not (pt_val (cg g_law_alike (hr.mono (by omega)) (pa_cons (pe_ix (ix_list.or ix_tup) (pv 0) (pv 2) (fun _ _ => rfl)) (pa_cons (pe_ix (ix_list.or ix_tup) (pv 1) (pv 2) (fun _ _ => rfl)) pa_nil))))) (pss_one (ps_ret pe_bl)) pss_nil)))
      (pss_one (ps_ret pe_bl)))))), ?_⟩
    rcases hal.succ with hal | ⟨a, b, xs, ys, rfl, rfl, hab, hl, hz, hr2⟩
    · rcases hal with ⟨i, rfl, rfl⟩ | ⟨z, rfl, rfl⟩
      · walk_at "rd"
        refine ⟨_, .ty "str", .type "int", .type "str", false, rfl, .ty "str", (.base (.int i)), kit_ty (by kernel_rfl), ?_⟩
        walk_at "rd"
        refine ⟨_, .ty "int", .type "int", .type "int", true, rfl, .ty "int", (.base (.int i)), kit_ty (by kernel_rfl), ?_⟩
        walk_at "rd"
        show Q (.bl (decide (V.int i = V.int i))) H
        rw [decide_eq_true rfl]
        exact q H (Same.refl _)
      · walk_at "rd"
        refine ⟨_, .ty "str", .type "str", .type "str", true, rfl, .ty "str", (.base (.str z)), kit_ty (by kernel_rfl), ?_⟩
        walk_at "rd"
        refine ⟨_, .ty "str", .type "str", .type "str", true, rfl, .ty "str", (.base (.str z)), kit_ty (by kernel_rfl), ?_⟩
        walk_at "rd"
        show Q (.bl (decide (V.str z = V.str z))) H
        rw [decide_eq_true rfl]
        exact q H (Same.refl _)
    · rcases hab with ⟨ha, hb⟩ | ⟨ha, hb⟩
      · have ty1 : TyX K H (.ref a) (.type "list") := .base (.lst ha)
        have ty2 : TyX K H (.ref b) (.type "list") := .base (.lst hb)
        walk_at "rd"
        refine ⟨_, .ty "str", .type "list", .type "str", false, rfl, .ty "str", ty2, kit_ty (by kernel_rfl), ?_⟩
        walk_at "rd"
        refine ⟨_, .ty "int", .type "list", .type "int", false, rfl, .ty "int", ty2, kit_ty (by kernel_rfl), ?_⟩
        walk_at "rd"
        refine ⟨_, .ty "list", .type "list", .type "list", true, rfl, .ty "list", ty2, kit_ty (by kernel_rfl), ?_⟩
        walk_at "rd"
        refine ⟨_, .ty "list", .type "list", .type "list", true, rfl, .ty "list", ty1, kit_ty (by kernel_rfl), ?_⟩
        walk_at "rd"
        refine ⟨a, _, rfl, .inl (SqL.of ha), ?_⟩
        walk_at "rd"
        refine ⟨b, _, rfl, .inl (SqL.of hb), ?_⟩
        walk_at "rd"
        refine iteN (by simp [hl]) ?_
        walk_at "rd"
        refine ⟨b, _, rfl, .inl (SqL.of hb), ?_⟩
        walk_at "rd"
        refine ⟨by omega, by omega, for_range (lo := 0) (n := ((ys.length : Nat) : Int).toNat) (fun i σ H' => ∃ v2, σ = [some (.ref a), some (.ref b), v2] ∧ Same H H') ⟨none, rfl, Same.refl _⟩ (fun i σ H' hi h => ?_) fun σ H' h => ?_⟩
        · obtain ⟨v2, rfl, s⟩ := h
          have hi2 : i < ys.length := by omega
          have hi1 : i < xs.length := by omega
          have e1 : xs[i]? = some xs[i] := List.getElem?_eq_getElem hi1
          have e2 : ys[i]? = some ys[i] := List.getElem?_eq_getElem hi2
          walk_at "rd"
          refine .inl ⟨a, _, _, _, rfl, rfl, SqL.of (s _ _ ha), by rw [Int.zero_add]; exact atI_nat e1, ?_⟩
          walk_at "rd"
          refine .inl ⟨b, _, _, _, rfl, rfl, SqL.of (s _ _ hb), by rw [Int.zero_add]; exact atI_nat e2, ?_⟩
          walk_at "rd"
          refine ⟨(hr2 i _ _ e1 e2).same s, fun H2 s2 => ?_⟩
          walk_at "rd"
          exact s.trans s2
        · obtain ⟨v2, rfl, s⟩ := h
          walk_at "rd"
          exact q _ s
      · have ty1 : TyX K H (.ref a) (.type "tuple") := .base (.tup ha)
        have ty2 : TyX K H (.ref b) (.type "tuple") := .base (.tup hb)
        walk_at "rd"
        refine ⟨_, .ty "str", .type "tuple", .type "str", false, rfl, .ty "str", ty2, kit_ty (by kernel_rfl), ?_⟩
        walk_at "rd"
        refine ⟨_, .ty "int", .type "tuple", .type "int", false, rfl, .ty "int", ty2, kit_ty (by kernel_rfl), ?_⟩
        walk_at "rd"
        refine ⟨_, .ty "list", .type "tuple", .type "list", false, rfl, .ty "list", ty2, kit_ty (by kernel_rfl), ?_⟩
        walk_at "rd"
        refine ⟨_, .ty "tuple", .type "tuple", .type "tuple", true, rfl, .ty "tuple", ty1, kit_ty (by kernel_rfl), ?_⟩
        walk_at "rd"
        refine ⟨a, _, rfl, .inr (SqT.of ha), ?_⟩
        walk_at "rd"
        refine ⟨b, _, rfl, .inr (SqT.of hb), ?_⟩
        walk_at "rd"
        refine iteN (by simp [hl]) ?_
        walk_at "rd"
        refine ⟨b, _, rfl, .inr (SqT.of hb), ?_⟩
        walk_at "rd"
        refine ⟨by omega, by omega, for_range (lo := 0) (n := ((ys.length : Nat) : Int).toNat) (fun i σ H' => ∃ v2, σ = [some (.ref a), some (.ref b), v2] ∧ Same H H') ⟨none, rfl, Same.refl _⟩ (fun i σ H' hi h => ?_) fun σ H' h => ?_⟩
        · obtain ⟨v2, rfl, s⟩ := h
          have hi2 : i < ys.length := by omega
          have hi1 : i < xs.length := by omega
          have e1 : xs[i]? = some xs[i] := List.getElem?_eq_getElem hi1
          have e2 : ys[i]? = some ys[i] := List.getElem?_eq_getElem hi2
          walk_at "rd"
          refine .inr ⟨a, _, _, _, rfl, rfl, SqT.of (s _ _ ha), by rw [Int.zero_add]; exact atI_nat e1, ?_⟩
          walk_at "rd"
          refine .inr ⟨b, _, _, _, rfl, rfl, SqT.of (s _ _ hb), by rw [Int.zero_add]; exact atI_nat e2, ?_⟩
          walk_at "rd"
          refine ⟨(hr2 i _ _ e1 e2).same s, fun H2 s2 => ?_⟩
          walk_at "rd"
          exact s.trans s2
        · obtain ⟨v2, rfl, s⟩ := h
          walk_at "rd"
          exact q _ s
theorem ok_alike0 (T : Txt K mg) : Gd P w K mg base CX0 (2) "_law_alike" ["found", "due"] (fun vs H Q E => ∃ (x y : V), vs = [x, y] ∧ AlN 0 H x y ∧ ∀ H', Same H H' → Q (.bl true) H') := by
  have g_law_whole := ok_law_whole (P := P) (w := w) (base := base) T
  refine gd0 T.d_law_alike T.g_law_alike sc_law_alike (fun _ _ _ _ _ _ us hl => match us, hl with | [_, _], _ => rfl) (fun vs H Q E h => ?_) (fun cdv A outer s H vs Q E hr h => ?_)
  · obtain ⟨x, y, rfl, _⟩ := h
    rfl
  · obtain ⟨x, y, rfl, hal, q⟩ := h
    refine ⟨_, pss_cons (ps_if (pt_cmpR op_isN (pv 1) pe_non (nomark _)) (pss_one (ps_ret (pe_cmpR op_isN (pv 0) pe_non (nomark _)))) pss_nil)
      (pss_cons (ps_if (pt_val (pe_callB call_isi (by rfl) T.b_isinstance (by decide +kernel) (pa_cons (pv 1) (pa_cons (pe_bltn (v := .ty "str") (by rfl) T.b_str (by decide +kernel) rfl) pa_nil)))) (pss_one (ps_ret (pe_and (pe_callB call_isi (by rfl) T.b_isinstance (by decide +kernel) (pa_cons (pv 0) (pa_cons (pe_bltn (v := .ty "str") (by rfl) T.b_str (by decide +kernel) rfl) pa_nil))) (pe_one (pe_cmpR op_eq (pv 0) (pv 1) (nomark _)))))) pss_nil)
      (pss_cons (ps_if (pt_val (pe_callB call_isi (by rfl) T.b_isinstance (by decide +kernel) (pa_cons (pv 1) (pa_cons (pe_bltn (v := .ty "int") (by rfl) T.b_int (by decide +kernel) rfl) pa_nil)))) (pss_one (ps_ret (pe_and (cg g_law_whole (hr.mono (by decide)) (pa_cons (pv 0) pa_nil)) (pe_one (pe_cmpR op_eq (pv 0) (pv 1) (nomark _)))))) pss_nil)
      (pss_cons (ps_if (pt_val (pe_callB call_isi (by rfl) T.b_isinstance (by decide +kernel) (pa_cons (pv 1) (pa_cons (pe_bltn (v := .ty "list") (by rfl) T.b_list (by decide +kernel) rfl) pa_nil)))) (pss_one (ps_if (PW.pt (pw_or (pt_not (pt_val (pe_callB call_isi (by rfl) T.b_isinstance (by decide +kernel) (pa_cons (pv 0) (pa_cons (pe_bltn (v := .ty "list") (by rfl) T.b_list (by decide +kernel) rfl) pa_nil))))) (pw_or1 (pt_cmpR op_ne (pe_callB call_len_seq (by rfl) T.b_len (by decide +kernel) (pa_cons (pv 0) pa_nil)) (pe_callB call_len_seq (by rfl) T.b_len (by decide +kernel) (pa_cons (pv 1) pa_nil)) (nomark _))))) (pss_one (ps_ret pe_bl)) pss_nil)) (pss_one (ps_if (PW.pt (pw_or (pt_not (pt_val (pe_callB call_isi (by rfl) T.b_isinstance (by decide +kernel) (pa_cons (pv 0) (pa_cons (pe_bltn (v := .ty "tuple") (by rfl) T.b_tuple (by decide +kernel) rfl) pa_nil))))) (pw_or1 (pt_cmpR op_ne (pe_callB call_len_seq (by rfl) T.b_len (by decide +kernel) (pa_cons (pv 0) pa_nil)) (pe_callB call_len_seq (by rfl) T.b_len (by decide +kernel) (pa_cons (pv 1) pa_nil)) (nomark _))))) (pss_one (ps_ret pe_bl)) pss_nil)))
      (pss_cons ps_never
      (pss_one (ps_ret pe_bl)))))), ?_⟩
    have hal : Al0 x y := hal
    rcases hal with ⟨i, rfl, rfl⟩ | ⟨z, rfl, rfl⟩
    · walk_at "rd"
      refine ⟨_, .ty "str", .type "int", .type "str", false, rfl, .ty "str", .base (.int i), kit_ty (by kernel_rfl), ?_⟩
      walk_at "rd"
      refine ⟨_, .ty "int", .type "int", .type "int", true, rfl, .ty "int", .base (.int i), kit_ty (by kernel_rfl), ?_⟩
      walk_at "rd"
      show Q (.bl (decide (V.int i = V.int i))) H
      rw [decide_eq_true rfl]
      exact q H (Same.refl _)
    · walk_at "rd"
      refine ⟨_, .ty "str", .type "str", .type "str", true, rfl, .ty "str", .base (.str z), kit_ty (by kernel_rfl), ?_⟩
      walk_at "rd"
      refine ⟨_, .ty "str", .type "str", .type "str", true, rfl, .ty "str", .base (.str z), kit_ty (by kernel_rfl), ?_⟩
      walk_at "rd"
      show Q (.bl (decide (V.str z = V.str z))) H
      rw [decide_eq_true rfl]
      exact q H (Same.refl _)
theorem ok_law_alike (T : Txt K mg) : ∀ n : Nat, Gd P w K mg base CX0 (n + 1 + 1) "_law_alike" ["found", "due"] (fun vs H Q E => ∃ (x y : V), vs = [x, y] ∧ AlN n H x y ∧ ∀ H', Same H H' → Q (.bl true) H')
  | 0 => ok_alike0 T
  | n + 1 => ok_alikeS T (n := n) (k := n + 1) (ok_law_alike T n)
end
end BB
set_option Elab.async false
set_option linter.all false
set_option maxRecDepth 100000
set_option maxHeartbeats 4000000
/-! LC: the law's names, deeds, floor. -/
namespace BB
open PySem PySem.Spec PyProof.Rows L2
local macro_rules | `(tactic| walk_at "rd") => `(tactic| repeat (first | refine ⟨_, rfl, ?_⟩ | refine ⟨_, _, rfl, rfl, ?_⟩ | refine ⟨_, _, rfl, ?_⟩ | refine ⟨rfl, ?_⟩ | refine ⟨_, _, _, _, rfl, rfl, SqT.of (by assumption), rfl, ?_⟩ | refine ⟨Nat.le_of_ble_eq_true rfl, ?_⟩))
abbrev signs36 : Str := Str.ofString "abcdefghijklmnopqrstuvwxyz0123456789"
theorem sign_at (k : Nat) (h : k < 36) : ∃ c, atI signs36.cps.toList (k : Int) = some c ∧ (isLet c = true ∨ isFig c = true) ∧ (k < 26 → isLet c = true) := by
  have key : ∀ k : Fin 36, (match signs36.cps.toList[k.val]? with | some c => (isLet c || isFig c) && (decide (26 ≤ k.val) || isLet c) | none => false) = true := by decide +kernel
  have q := key ⟨k, h⟩
  cases e : signs36.cps.toList[k]? with
  | none =>
    simp only [e] at q
    cases q
  | some c =>
    simp only [e, Bool.and_eq_true, Bool.or_eq_true, decide_eq_true_eq] at q
    exact ⟨c, atI_nat e, q.1, fun h => q.2.elim (fun z => by omega) id⟩
theorem sign_mod (n d : Int) (h0 : 0 < d) (h1 : d ≤ 36) : ∃ c, atI signs36.cps.toList (n % d) = some c ∧ (isLet c = true ∨ isFig c = true) ∧ (d ≤ 26 → isLet c = true) := by
  have a := Int.emod_nonneg n (show d ≠ 0 by omega)
  have b := Int.emod_lt_of_pos n h0
  obtain ⟨c, h2, h3, h4⟩ := sign_at (n % d).toNat (by omega)
  rw [Int.toNat_of_nonneg a] at h2
  exact ⟨c, h2, h3, fun h => h4 (by omega)⟩
theorem name_more {x : Str} {c : Nat} (h : NameOk x) (hc : isLet c = true ∨ isFig c = true) (hz : x.cps.size + 1 ≤ 12) : NameOk (x ++ ⟨#[c]⟩) := by
  have e : (x ++ (⟨#[c]⟩ : Str)).cps = x.cps ++ #[c] := rfl
  refine ⟨?_, ?_, fun d hd => ?_⟩
  · rw [e, Array.size_append]
    exact hz
  · obtain ⟨a, r, h1, h2⟩ := h.hd
    exact ⟨a, r ++ [c], by rw [e, Array.toList_append, h1]; rfl, h2⟩
  · rw [e, Array.toList_append] at hd
    rcases List.mem_append.mp hd with hd | hd
    · exact h.all d hd
    · cases List.mem_singleton.mp hd
      exact hc
theorem name_one {c : Nat} (h : isLet c = true) : NameOk ⟨#[c]⟩ := ⟨by show 1 ≤ 12; omega, ⟨c, [], rfl, h⟩, fun d hd => by
  cases List.mem_singleton.mp hd
  exact .inl h⟩
/-- .. two statements -/
theorem vyS2 {t0 t rest : TS} {D : Ends} {σ : L2.St} {H : Hp} {R : L2.St → Hp → Prop} (h : ∀ nx : L2.St → Hp → Prop, (∀ σ' H', R σ' H' → nx σ' H') → t0 { D with nx := fun σ H => t { D with nx := nx } σ H } σ H) (q : ∀ σ' H', R σ' H' → rest D σ' H') : tSeq t0 (tSeq t rest) D σ H := h _ q
section
variable {P : Program} {w : World} {K : PySem.W.Frag} {mg : Str → Option Value} {base : Heap}
theorem ok_law_name (T : Txt K mg) : Gd P w K mg base CX0 (1) "_law_name" ["number"] (fun vs H Q E => ∃ (n : Int), vs = [.int n] ∧ ∀ x, NameOk x → Q (.str x) H) := by
  refine gd0 T.d_law_name T.g_law_name sc_law_name (fun _ _ _ _ _ _ us hl => match us, hl with | [_], _ => rfl) (fun vs H Q E h => ?_) (fun cdv A outer s H vs Q E hr h => ?_)
  · obtain ⟨n, rfl, _⟩ := h
    rfl
  · obtain ⟨n, rfl, q⟩ := h
    refine ⟨_, pss_cons (ps_set (i := 1) sc_law_name.nd rfl (Or.inl rfl) pe_str)
      (pss_cons (ps_set (i := 2) sc_law_name.nd rfl (Or.inl rfl) (pe_ix ix_str (pv 1) (pe_op op_mod (pv 0) pe_int) (fun _ _ => rfl)))
      (pss_cons (ps_set (i := 0) sc_law_name.nd rfl (Or.inl rfl) (pe_op op_mod (pe_op op_fdiv (pv 0) pe_int) (pe_op op_pow pe_int pe_int)))
      (pss_cons (ps_while PassesOwn.never (pt_cmpR op_gt (pv 0) pe_int (nomark _)) (pss_cons (ps_set (i := 2) sc_law_name.nd rfl (Or.inl rfl) (pe_op op_add_str (pv 2) (pe_ix ix_str (pv 1) (pe_op op_mod (pv 0) pe_int) (fun _ _ => rfl))))
      (pss_one (ps_set (i := 0) sc_law_name.nd rfl (Or.inl rfl) (pe_op op_fdiv (pv 0) pe_int)))))
      (pss_one (ps_ret (pv 2)))))), ?_⟩
    walk_at "rd"
    obtain ⟨c, hc, _, h1⟩ := sign_mod n 26 (by decide) (by decide)
    refine ⟨(show (0 : Int) < 26 by decide), ?_⟩
    refine ⟨_, _, c, rfl, rfl, Nat.le_of_ble_eq_true rfl, hc, ?_⟩
    walk_at "rd"
    refine ⟨⟨by decide, by decide⟩, ?_⟩
    walk_at "rd"
    refine ⟨⟨by decide, by decide, by decide⟩, ?_⟩
    walk_at "rd"
    refine ⟨(show (0 : Int) < 10 ^ Int.toNat 16 by decide), ?_⟩
    have hN : ∃ N : Int, N = n / 26 % 10 ^ (16 : Int).toNat ∧ 0 ≤ N ∧ N < 36 ^ 11 := by
      refine ⟨_, rfl, Int.emod_nonneg _ (by decide), ?_⟩
      have := Int.emod_lt_of_pos (n / 26) (show (0 : Int) < 10 ^ (16 : Int).toNat by decide)
      have h2 : (10 : Int) ^ (16 : Int).toNat ≤ 36 ^ 11 := by decide
      omega
    obtain ⟨N, eN, n0, n1⟩ := hN
    dsimp only
    rw [← eN]
    refine ⟨fun m σ H1 => ∃ (k : Nat) (i : Int) (x : Str), σ = [some (.int i), some (.str signs36), some (.str x)] ∧ H1 = H ∧ NameOk x ∧ x.cps.size + k ≤ 12 ∧ 0 ≤ i ∧ i < 36 ^ k ∧ i.toNat < m,
      ⟨_, 11, N, ⟨#[c]⟩, rfl, rfl, name_one (h1 (by decide)), by show 1 + 11 ≤ 12; omega, n0, n1, Nat.lt_succ_self _⟩, ?_⟩
    rintro m σ H1 ⟨k, i, x, rfl, rfl, hx, hk, i0, i1, hm⟩
    walk_at "rd"
    by_cases hi : 0 < i
    · refine iteY (decide_eq_true hi) ⟨_, fun σ' H' z => z, ?_⟩
      obtain ⟨k, rfl⟩ : ∃ k', k = k' + 1 := by
        cases k with
        | zero =>
          have : i < 1 := i1
          omega
        | succ k => exact ⟨k, rfl⟩
      obtain ⟨c, hc, h2, _⟩ := sign_mod i 36 (by decide) (by decide)
      walk_at "rd"
      refine ⟨(show (0 : Int) < 36 by decide), ?_⟩
      refine ⟨_, _, c, rfl, rfl, Nat.le_of_ble_eq_true rfl, hc, ?_⟩
      refine ⟨_, _, rfl, rfl, Nat.le_trans (m := 24) (by show x.cps.size + 1 ≤ 24; omega) (by decide), ?_⟩
      walk_at "rd"
      refine ⟨⟨by decide, by decide⟩, ?_⟩
      refine ⟨m - 1, by omega, k, i / 36, _, rfl, rfl, name_more hx h2 (by omega), ?_, ?_, ?_, ?_⟩
      · show (x.cps ++ #[c]).size + k ≤ 12
        rw [Array.size_append]
        show x.cps.size + 1 + k ≤ 12
        omega
      · exact Int.ediv_nonneg i0 (by decide)
      · have e : (36 : Int) ^ (k + 1) = 36 ^ k * 36 := Int.pow_succ 36 k
        rw [e] at i1
        exact Int.ediv_lt_of_lt_mul (by decide) i1
      · omega
    · refine iteN (decide_eq_false hi) ?_
      walk_at "rd"
      exact q x hx
theorem name_sOk {x : Str} (h : NameOk x) : sOk x = true := by
  unfold sOk
  rw [Array.all_eq_true']
  intro c hc
  rcases h.all c (Array.mem_toList_iff.mpr hc) with z | z
  · have := (show 97 ≤ c ∧ c ≤ 122 from of_decide_eq_true z)
    exact decide_eq_true (by omega)
  · have := (show 48 ≤ c ∧ c ≤ 57 from of_decide_eq_true z)
    exact decide_eq_true (by omega)
theorem sq_same {K : PySem.W.Frag} {H H' : Hp} {a : Addr} {xs : List V} (s : Same H H') (h : SqL K H a xs) : SqL K H' a xs := by
  rcases h with (h | ⟨o, h⟩) | h
  · exact .inl (.inl (s _ _ h))
  · exact .inl (.inr ⟨o, s _ _ h⟩)
  · exact .inr h
theorem names_fl {nm : List Str} (h : ∀ x ∈ nm, NameOk x) : (nm.map V.str).all fl = true := by
  rw [List.all_eq_true]
  intro v hv
  obtain ⟨x, hx, rfl⟩ := List.mem_map.mp hv
  exact name_sOk (h x hx)
theorem pick {nm : List Str} (h : nm ≠ []) (i : Int) : (0 : Int) < ((nm.map V.str).length : Nat) ∧ ∃ x, x ∈ nm ∧ atI (nm.map V.str) (i % ((nm.map V.str).length : Nat)) = some (.str x) := by
  rw [List.length_map]
  have hp : (0 : Int) < (nm.length : Nat) := by
    cases nm with
    | nil => exact absurd rfl h
    | cons x t => simp only [List.length_cons]; omega
  have g1 := Int.emod_nonneg i (show ((nm.length : Nat) : Int) ≠ 0 by omega)
  have g2 := Int.emod_lt_of_pos i hp
  refine ⟨hp, ?_⟩
  obtain ⟨j, hj⟩ : ∃ j : Nat, (j : Int) = i % (nm.length : Nat) := ⟨_, Int.toNat_of_nonneg g1⟩
  have hj2 : j < nm.length := by omega
  refine ⟨nm[j], List.getElem_mem hj2, ?_⟩
  rw [← hj]
  exact atI_nat (by rw [List.getElem?_map, List.getElem?_eq_getElem hj2]; rfl)
theorem five (i : Int) (h0 : 0 ≤ i) (h1 : i < 5) : ∃ k : Kd, atI [V.str "limit", .str "now", .str "limit", .str "whole", .str "quiet"] i = some (.str k.s) := by
  have : i = 0 ∨ i = 1 ∨ i = 2 ∨ i = 3 ∨ i = 4 := by omega
  rcases this with rfl | rfl | rfl | rfl | rfl
  · exact ⟨.limit, rfl⟩
  · exact ⟨.now, rfl⟩
  · exact ⟨.limit, rfl⟩
  · exact ⟨.whole, rfl⟩
  · exact ⟨.quiet, rfl⟩
theorem two_at (i : Int) (h0 : 0 ≤ i) (h1 : i < 2) : ∃ b : Bool, atI [V.str "buy", .str "sell"] i = some (.str (sd b)) := by
  have : i = 0 ∨ i = 1 := by omega
  rcases this with rfl | rfl
  · exact ⟨true, rfl⟩
  · exact ⟨false, rfl⟩
theorem three_at (i : Int) (h0 : 0 ≤ i) (h1 : i < 3) : ∃ b : Ph, atI [V.str "open", .str "call", .str "halt"] i = some (.str b.s) := by
  have : i = 0 ∨ i = 1 ∨ i = 2 := by omega
  rcases this with rfl | rfl | rfl
  · exact ⟨.opn, rfl⟩
  · exact ⟨.call, rfl⟩
  · exact ⟨.halt, rfl⟩
theorem ceil_ok (a d : Int) (ha : 1 ≤ a) (hd : 1 ≤ d) (hd2 : d ≤ 16) : 1 ≤ 0 - (0 - a) / d ∧ 0 - (0 - a) / d ≤ a ∧ a ≤ 16 * (0 - (0 - a) / d) := by
  have e := Int.mul_ediv_add_emod (0 - a) d
  have m0 := Int.emod_nonneg (0 - a) (show d ≠ 0 by omega)
  have m1 := Int.emod_lt_of_pos (0 - a) (show 0 < d by omega)
  generalize (0 - a) / d = q at *
  generalize (0 - a) % d = r at *
  have hq : q ≤ -1 := by
    by_cases c : q ≤ -1
    · exact c
    · exfalso
      have : 0 ≤ d * q := Int.mul_nonneg (by omega) (by omega)
      omega
  have h1 : -d * q ≤ 16 * -q := by
    have : 0 ≤ (16 - d) * -q := Int.mul_nonneg (by omega) (by omega)
    have e2 : (16 - d) * -q = 16 * -q - d * -q := Int.sub_mul 16 d (-q)
    have e3 : -d * q = d * -q := by rw [Int.neg_mul, Int.mul_neg]
    omega
  have h2 : (d - 1) * (-q - 1) ≥ 0 := Int.mul_nonneg (by omega) (by omega)
  have e4 : (d - 1) * (-q - 1) = d * (-q - 1) - 1 * (-q - 1) := Int.sub_mul d 1 (-q - 1)
  have e5 : d * (-q - 1) = d * -q - d * 1 := Int.mul_sub d (-q) 1
  have e6 : d * -q = -(d * q) := Int.mul_neg d q
  have e7 : -d * q = -(d * q) := Int.neg_mul d q
  refine ⟨by omega, by omega, by omega⟩
theorem ok_law_deed (T : Txt K mg) : Gd P w K mg base CX0 (4) "_law_deed" ["script", "at", "spread", "many", "names"] (fun vs H Q E => ∃ (a ln : Addr) (ns : List Int) (pos spr mn : Int) (nm : List Str), vs = [.ref a, .int pos, .int spr, .int mn, .ref ln] ∧ SqL K H a (ns.map V.int) ∧ 0 ≤ pos ∧ pos ≤ 1000 ∧ 1 ≤ spr ∧ spr ≤ 1000000000 ∧ 1 ≤ mn ∧ mn ≤ 1000000000 ∧ H ln = some (.lst (nm.map V.str)) ∧ (∀ x ∈ nm, NameOk x) ∧ nm.length ≤ 1000 ∧ ∀ (d b : Addr) (c tr : Int) (k : Kd) (u : Ph) (n who y : Str) (bu : Bool) (price amount peak : Int) H', Same H H' → H' d = some (.tup [.int c, .str k.s, .ref b, .int tr, .str u.s, .str y]) → H' b = some (.tup (newOrd n who bu price amount peak).v) → MadeOk n who price amount peak → NameOk y → 0 ≤ c → c < 8 → Q (.ref d) H') := by
  have g_law_cell_at := ok_law_cell_at (P := P) (w := w) (base := base) T
  have g_law_name := ok_law_name (P := P) (w := w) (base := base) T
  have g_made := ok_made (P := P) (w := w) (base := base) T
  refine gd0 T.d_law_deed T.g_law_deed sc_law_deed (fun _ _ _ _ _ _ us hl => match us, hl with | [_, _, _, _, _], _ => rfl) (fun vs H Q E h => ?_) (fun cdv A outer s H vs Q E hr h => ?_)
  · obtain ⟨a, ln, ns, pos, spr, mn, nm, rfl, _⟩ := h
    rfl
  · obtain ⟨a, ln, ns, pos, spr, mn, nm, rfl, ha, p0, p1, s0, s1, m0, m1, hln, hnm, hnl, q⟩ := h
    refine ⟨_, pss_cons (ps_set (i := 5) sc_law_deed.nd rfl (Or.inl rfl) (pe_op op_mod (cg g_law_cell_at (hr.mono (by decide)) (pa_cons (pv 0) (pa_cons (pv 1) pa_nil))) (pe_op op_pow pe_int pe_int)))
      (pss_cons (ps_set (i := 6) sc_law_deed.nd rfl (Or.inl rfl) (pe_op op_mod (cg g_law_cell_at (hr.mono (by decide)) (pa_cons (pv 0) (pa_cons (pe_op op_add (pv 1) pe_int) pa_nil))) (pe_op op_pow pe_int pe_int)))
      (pss_cons (ps_set (i := 7) sc_law_deed.nd rfl (Or.inl rfl) (pe_op op_mod (cg g_law_cell_at (hr.mono (by decide)) (pa_cons (pv 0) (pa_cons (pe_op op_add (pv 1) pe_int) pa_nil))) (pe_op op_pow pe_int pe_int)))
      (pss_cons (ps_set (i := 8) sc_law_deed.nd rfl (Or.inl rfl) (pe_ix ix_list (pe_lst (pa_cons pe_str (pa_cons pe_str (pa_cons pe_str (pa_cons pe_str (pa_cons pe_str pa_nil)))))) (pe_op op_mod (pe_op op_fdiv (pv 5) pe_int) pe_int) (fun _ _ => rfl)))
      (pss_cons (ps_set (i := 9) sc_law_deed.nd rfl (Or.inl rfl) (pe_ix ix_list (pe_lst (pa_cons pe_str (pa_cons pe_str pa_nil))) (pe_op op_mod (pe_op op_add (pe_op op_fdiv (pv 5) pe_int) (pv 6)) pe_int) (fun _ _ => rfl)))
      (pss_cons (ps_set (i := 10) sc_law_deed.nd rfl (Or.inl rfl) (cg g_law_name (hr.mono (by decide)) (pa_cons (pe_op op_add (pe_op op_mod (pe_op op_fdiv (cg g_law_cell_at (hr.mono (by decide)) (pa_cons (pv 0) (pa_cons pe_int pa_nil))) pe_int) (pe_op op_pow pe_int pe_int)) (pe_op op_mul pe_int (pe_op op_mod (pe_op op_fdiv (pv 5) pe_int) pe_int))) pa_nil)))
      (pss_cons (ps_set (i := 11) sc_law_deed.nd rfl (Or.inl rfl) (pe_op op_add pe_int (pe_op op_mod (pe_op op_fdiv (pv 6) (pv 2)) (pv 3))))
      (pss_cons (ps_set (i := 12) sc_law_deed.nd rfl (Or.inl rfl) pe_int)
      (pss_cons (ps_if (pt_cmpR op_eq (pe_op op_mod (pv 7) pe_int) pe_int (nomark _)) (pss_one (ps_set (i := 12) sc_law_deed.nd rfl (Or.inl rfl) (pe_op op_sub pe_int (pe_op op_fdiv (pe_op op_sub pe_int (pv 11)) (pe_op op_add pe_int (pe_op op_mod (pe_op op_fdiv (pv 7) pe_int) pe_int)))))) pss_nil)
      (pss_cons (ps_set (i := 13) sc_law_deed.nd rfl (Or.inl rfl) (cg g_law_name (hr.mono (by decide)) (pa_cons (pe_op op_add (pe_op op_fdiv (pv 7) pe_int) (pe_op op_mul pe_int (pv 1))) pa_nil)))
      (pss_cons (ps_if (PW.pt (pw_and (pt_cmpR (op_neD hr.units) (pv 4) (pe_lst pa_nil) (nomark _)) (pw_and1 (pt_cmpR op_eq (pe_op op_mod (pe_op op_fdiv (pv 7) pe_int) pe_int) pe_int (nomark _))))) (pss_one (ps_set (i := 13) sc_law_deed.nd rfl (Or.inl rfl) (pe_ix ix_list (pv 4) (pe_op op_mod (pe_op op_fdiv (pv 7) pe_int) (pe_callB call_len_seq (by rfl) T.b_len (by decide +kernel) (pa_cons (pv 4) pa_nil))) (fun _ _ => rfl)))) pss_nil)
      (pss_cons (ps_set (i := 14) sc_law_deed.nd rfl (Or.inl rfl) (cg g_made (hr.mono (by decide)) (pa_cons (pv 13) (pa_cons (pv 10) (pa_cons (pv 9) (pa_cons (pe_op op_add pe_int (pe_op op_mod (pv 6) (pv 2))) (pa_cons (pv 11) (pa_cons (pv 12) pa_nil))))))))
      (pss_cons (ps_set (i := 15) sc_law_deed.nd rfl (Or.inl rfl) (pv 13))
      (pss_cons (ps_if (PW.pt (pw_and (pt_cmpR (op_neD hr.units) (pv 4) (pe_lst pa_nil) (nomark _)) (pw_and1 (pt_cmpR op_lt (pe_op op_mod (pv 7) pe_int) pe_int (nomark _))))) (pss_one (ps_set (i := 15) sc_law_deed.nd rfl (Or.inl rfl) (pe_ix ix_list (pv 4) (pe_op op_mod (pe_op op_fdiv (pv 7) pe_int) (pe_callB call_len_seq (by rfl) T.b_len (by decide +kernel) (pa_cons (pv 4) pa_nil))) (fun _ _ => rfl)))) pss_nil)
      (pss_cons (ps_set (i := 16) sc_law_deed.nd rfl (Or.inl rfl) (pe_ix ix_list (pe_lst (pa_cons pe_str (pa_cons pe_str (pa_cons pe_str pa_nil)))) (pe_op op_mod (pv 7) pe_int) (fun _ _ => rfl)))
      (pss_one (ps_ret (pe_tup (pa_cons (pe_op op_mod (pv 5) pe_int) (pa_cons (pv 8) (pa_cons (pv 14) (pa_cons (pe_op op_add pe_int (pe_op op_mod (pv 7) (pv 2))) (pa_cons (pv 16) (pa_cons (pv 15) pa_nil))))))))))))))))))))))), ?_⟩
    walk_at "rd"
    refine ⟨a, ns, pos, rfl, p0, ha, fun n1 => ?_⟩
    walk_at "rd"
    refine ⟨⟨by decide, by decide, by decide⟩, ?_⟩
    walk_at "rd"
    refine ⟨(show (0 : Int) < 10 ^ Int.toNat 30 by decide), ?_⟩
    obtain ⟨A, eA, A0⟩ : ∃ A, A = n1 % 10 ^ Int.toNat 30 ∧ 0 ≤ A := ⟨_, rfl, Int.emod_nonneg _ (by decide)⟩
    dsimp only
    rw [← eA]
    walk_at "rd"
    refine ⟨a, ns, pos + 1, rfl, by omega, ha, fun n2 => ?_⟩
    walk_at "rd"
    refine ⟨⟨by decide, by decide, by decide⟩, ?_⟩
    walk_at "rd"
    refine ⟨(show (0 : Int) < 10 ^ Int.toNat 30 by decide), ?_⟩
    obtain ⟨B, eB, B0⟩ : ∃ A, A = n2 % 10 ^ Int.toNat 30 ∧ 0 ≤ A := ⟨_, rfl, Int.emod_nonneg _ (by decide)⟩
    dsimp only
    rw [← eB]
    walk_at "rd"
    refine ⟨a, ns, pos + 2, rfl, by omega, ha, fun n3 => ?_⟩
    walk_at "rd"
    refine ⟨⟨by decide, by decide, by decide⟩, ?_⟩
    walk_at "rd"
    refine ⟨(show (0 : Int) < 10 ^ Int.toNat 30 by decide), ?_⟩
    obtain ⟨C, eC, C0⟩ : ∃ A, A = n3 % 10 ^ Int.toNat 30 ∧ 0 ≤ A := ⟨_, rfl, Int.emod_nonneg _ (by decide)⟩
    dsimp only
    rw [← eC]
    clear eA eB eC
    walk_at "rd"
    intro l1 hl1
    have u1 := same_upd (o := .lst [.str "limit", .str "now", .str "limit", .str "whole", .str "quiet"]) hl1
    walk_at "rd"
    refine ⟨⟨by decide, by decide⟩, ?_⟩
    walk_at "rd"
    refine ⟨(show (0 : Int) < 5 by decide), ?_⟩
    obtain ⟨kd, hkd⟩ := five (A / 8 % 5) (Int.emod_nonneg _ (by decide)) (Int.emod_lt_of_pos _ (by decide))
    refine ⟨l1, _, _, _, rfl, rfl, SqL.of upd_same, hkd, ?_⟩
    walk_at "rd"
    intro l2 hl2
    have u2 := same_upd (o := .lst [.str "buy", .str "sell"]) hl2
    walk_at "rd"
    refine ⟨⟨by decide, by decide⟩, ?_⟩
    walk_at "rd"
    refine ⟨(show (0 : Int) < 2 by decide), ?_⟩
    obtain ⟨bu, hbu⟩ := two_at ((A / 40 + B) % 2) (Int.emod_nonneg _ (by decide)) (Int.emod_lt_of_pos _ (by decide))
    refine ⟨l2, _, _, _, rfl, rfl, SqL.of upd_same, hbu, ?_⟩
    have s12 := u1.trans u2
    generalize (upd (upd H l1 (.lst [.str "limit", .str "now", .str "limit", .str "whole", .str "quiet"])) l2 (.lst [.str "buy", .str "sell"])) = H2 at *
    walk_at "rd"
    refine ⟨a, ns, 0, rfl, Int.le_refl _, sq_same s12 ha, fun n4 => ?_⟩
    walk_at "rd"
    refine ⟨⟨by decide, by decide⟩, ?_⟩
    walk_at "rd"
    refine ⟨⟨by decide, by decide, by decide⟩, ?_⟩
    walk_at "rd"
    refine ⟨(show (0 : Int) < 10 ^ Int.toNat 6 by decide), ?_⟩
    walk_at "rd"
    refine ⟨⟨by decide, by decide⟩, ?_⟩
    walk_at "rd"
    refine ⟨(show (0 : Int) < 3 by decide), ?_⟩
    walk_at "rd"
    refine ⟨.inl ⟨by decide, by decide⟩, ?_⟩
    walk_at "rd"
    refine fun who hwho => ?_
    walk_at "rd"
    refine ⟨⟨by omega, by omega⟩, ?_⟩
    walk_at "rd"
    refine ⟨(show 0 < mn by omega), ?_⟩
    obtain ⟨am, eam, am1, am2⟩ : ∃ am, am = 1 + B / spr % mn ∧ 1 ≤ am ∧ am ≤ 1000000000 := by
      have g1 := Int.emod_nonneg (B / spr) (show mn ≠ 0 by omega)
      have g2 := Int.emod_lt_of_pos (B / spr) (show 0 < mn by omega)
      exact ⟨_, rfl, by omega, by omega⟩
    refine ⟨_, _, rfl, rfl, ?_⟩
    dsimp only [gName]
    rw [← eam]
    clear eam
    refine vyS2 (R := fun σ' H' => ∃ pk : Int, σ' = [some (.ref a), some (.int pos), some (.int spr), some (.int mn), some (.ref ln), some (.int A), some (.int B), some (.int C), some (.str kd.s), some (.str (sd bu)), some (.str who), some (.int am), some (.int pk), none, none, none, none] ∧ H' = H2 ∧ (pk = 0 ∨ (1 ≤ pk ∧ pk ≤ am ∧ am ≤ 16 * pk))) (fun nx q' => ?_) (fun σ' H' r => ?_)
    · walk_at "rd"
      refine ⟨(show (0 : Int) < 4 by decide), ?_⟩
      walk_at "rd"
      by_cases c4 : C % 4 = 1
      · refine iteY (decide_eq_true (congrArg V.int c4)) ?_
        walk_at "rd"
        refine ⟨⟨by decide, by decide⟩, ?_⟩
        walk_at "rd"
        refine ⟨(show (0 : Int) < 16 by decide), ?_⟩
        have g1 := Int.emod_nonneg (C / 4) (show (16 : Int) ≠ 0 by decide)
        have g2 := Int.emod_lt_of_pos (C / 4) (show (0 : Int) < 16 by decide)
        walk_at "rd"
        refine ⟨⟨show 0 < 1 + C / 4 % 16 by omega, show 1 + C / 4 % 16 < 1073741824 by omega⟩, ?_⟩
        walk_at "rd"
        exact q' _ _ ⟨_, rfl, rfl, .inr (ceil_ok am (1 + C / 4 % 16) am1 (by omega) (by omega))⟩
      · refine iteN (dec_int.trans (beq_eq_false_iff_ne.mpr c4)) ?_
        exact q' _ _ ⟨0, rfl, rfl, .inl rfl⟩
    obtain ⟨pk, rfl, rfl, hpk⟩ := r
    refine vyS2 (R := fun σ' H' => ∃ own : Str, σ' = [some (.ref a), some (.int pos), some (.int spr), some (.int mn), some (.ref ln), some (.int A), some (.int B), some (.int C), some (.str kd.s), some (.str (sd bu)), some (.str who), some (.int am), some (.int pk), some (.str own), none, none, none] ∧ Same H H' ∧ NameOk own) (fun nx q' => ?_) (fun σ' H' r => ?_)
    · walk_at "rd"
      refine ⟨⟨by decide, by decide⟩, ?_⟩
      walk_at "rd"
      refine ⟨.inl ⟨by decide, by decide⟩, ?_⟩
      walk_at "rd"
      refine fun own hown => ?_
      walk_at "rd"
      intro e he
      have u := same_upd (o := .lst []) he
      refine ne_fnil (u _ _ (s12 _ _ hln)) upd_same (names_fl hnm) ?_
      walk_at "rd"
      by_cases cn : nm = []
      · refine iteN (by simp [cn]) ?_
        refine iteN rfl ?_
        exact q' _ _ ⟨own, rfl, s12.trans u, hown⟩
      · refine iteY (by simp [cn]) ?_
        walk_at "rd"
        refine ⟨⟨by decide, by decide⟩, ?_⟩
        walk_at "rd"
        refine ⟨(show (0 : Int) < 9 by decide), ?_⟩
        walk_at "rd"
        by_cases c9 : C / 4 % 9 = 5
        · refine iteY (decide_eq_true (congrArg V.int c9)) ?_
          walk_at "rd"
          refine ⟨⟨by decide, by decide⟩, ?_⟩
          walk_at "rd"
          refine ⟨ln, _, rfl, .inl (SqL.of (u _ _ (s12 _ _ hln))), ?_⟩
          obtain ⟨hp, x, hx, hat⟩ := pick cn (C / 36)
          walk_at "rd"
          refine ⟨hp, ?_⟩
          refine ⟨ln, _, _, _, rfl, rfl, SqL.of (u _ _ (s12 _ _ hln)), hat, ?_⟩
          exact q' _ _ ⟨x, rfl, s12.trans u, hnm x hx⟩
        · refine iteN (dec_int.trans (beq_eq_false_iff_ne.mpr c9)) ?_
          exact q' _ _ ⟨own, rfl, s12.trans u, hown⟩
    obtain ⟨own, rfl, sH, hown⟩ := r
    walk_at "rd"
    refine ⟨(show 0 < spr by omega), ?_⟩
    have g1 := Int.emod_nonneg B (show spr ≠ 0 by omega)
    have g2 := Int.emod_lt_of_pos B (show 0 < spr by omega)
    have hM : MadeOk own who (1 + B % spr) am pk := ⟨hown, hwho, by omega, by omega, am1, am2, hpk⟩
    walk_at "rd"
    refine ⟨own, who, bu, 1 + B % spr, am, pk, rfl, hM, fun po hpo => ?_⟩
    have uo := same_upd (o := .tup (newOrd own who bu (1 + B % spr) am pk).v) hpo
    have sH2 := sH.trans uo
    have ho : (upd H' po (.tup (newOrd own who bu (1 + B % spr) am pk).v)) po = some (.tup (newOrd own who bu (1 + B % spr) am pk).v) := upd_same
    dsimp only [gName]
    refine vyS2 (R := fun σ' H2' => ∃ y : Str, σ' = [some (.ref a), some (.int pos), some (.int spr), some (.int mn), some (.ref ln), some (.int A), some (.int B), some (.int C), some (.str kd.s), some (.str (sd bu)), some (.str who), some (.int am), some (.int pk), some (.str own), some (.ref po), some (.str y), none] ∧ Same H H2' ∧ H2' po = some (.tup (newOrd own who bu (1 + B % spr) am pk).v) ∧ NameOk y) (fun nx q' => ?_) (fun σ' H' r => ?_)
    · walk_at "rd"
      intro e he
      have u := same_upd (o := .lst []) he
      refine ne_fnil (u _ _ (sH2 _ _ hln)) upd_same (names_fl hnm) ?_
      walk_at "rd"
      by_cases cn : nm = []
      · refine iteN (by simp [cn]) ?_
        refine iteN rfl ?_
        exact q' _ _ ⟨own, rfl, sH2.trans u, u _ _ ho, hown⟩
      · refine iteY (by simp [cn]) ?_
        walk_at "rd"
        refine ⟨(show (0 : Int) < 5 by decide), ?_⟩
        walk_at "rd"
        by_cases c9 : C % 5 < 4
        · refine iteY (decide_eq_true c9) ?_
          walk_at "rd"
          refine ⟨⟨by decide, by decide⟩, ?_⟩
          walk_at "rd"
          refine ⟨ln, _, rfl, .inl (SqL.of (u _ _ (sH2 _ _ hln))), ?_⟩
          obtain ⟨hp, x, hx, hat⟩ := pick cn (C / 5)
          walk_at "rd"
          refine ⟨hp, ?_⟩
          refine ⟨ln, _, _, _, rfl, rfl, SqL.of (u _ _ (sH2 _ _ hln)), hat, ?_⟩
          exact q' _ _ ⟨x, rfl, sH2.trans u, u _ _ ho, hnm x hx⟩
        · refine iteN (decide_eq_false c9) ?_
          exact q' _ _ ⟨own, rfl, sH2.trans u, u _ _ ho, hown⟩
    obtain ⟨y, rfl, sH3, ho3, hy⟩ := r
    walk_at "rd"
    intro l3 hl3
    have u3 := same_upd (o := .lst [.str "open", .str "call", .str "halt"]) hl3
    walk_at "rd"
    refine ⟨(show (0 : Int) < 3 by decide), ?_⟩
    obtain ⟨tu, htu⟩ := three_at (C % 3) (Int.emod_nonneg _ (by decide)) (Int.emod_lt_of_pos _ (by decide))
    refine ⟨l3, _, _, _, rfl, rfl, SqL.of upd_same, htu, ?_⟩
    walk_at "rd"
    refine ⟨(show (0 : Int) < 8 by decide), ?_⟩
    walk_at "rd"
    refine ⟨(show 0 < spr by omega), ?_⟩
    walk_at "rd"
    intro d hd
    have u4 := same_upd (o := .tup [.int (A % 8), .str kd.s, .ref po, .int (1 + C % spr), .str tu.s, .str y]) hd
    exact q d po (A % 8) (1 + C % spr) kd tu own who y bu (1 + B % spr) am pk _ ((sH3.trans u3).trans u4) upd_same (u4 _ _ (u3 _ _ ho3)) hM hy (Int.emod_nonneg _ (by decide)) (Int.emod_lt_of_pos _ (by decide))
end
end BB
set_option Elab.async false
set_option linter.all false
set_option maxRecDepth 100000
set_option maxHeartbeats 4000000
/-! LD: the law's floor. -/
namespace BB
open PySem PySem.Spec PyProof.Rows L2
local macro_rules | `(tactic| walk_at "rd") => `(tactic| repeat (first | refine ⟨_, rfl, ?_⟩ | refine ⟨_, _, rfl, rfl, ?_⟩ | refine ⟨_, _, rfl, ?_⟩ | refine ⟨rfl, ?_⟩ | refine ⟨_, _, _, _, rfl, rfl, SqT.of (by assumption), rfl, ?_⟩ | refine ⟨Nat.le_of_ble_eq_true rfl, ?_⟩))
theorem passF {X : Cx} : Passes (L2.CX X.prog X.w) X (fun _ _ _ => False) := fun _ _ _ _ _ _ _ c => by
  obtain ⟨_, _, _, _, _, _, _, _, _, _, _, _, h⟩ := c
  exact h.elim
def l3 (a b c i : Int) : Int := if i = 0 then a else if i = 1 then b else c
theorem l3_at (a b c i : Int) (h0 : 0 ≤ i) (h1 : i < 3) : atI [V.int a, .int b, .int c] i = some (.int (l3 a b c i)) := by
  have : i = 0 ∨ i = 1 ∨ i = 2 := by omega
  rcases this with rfl | rfl | rfl <;> rfl
theorem l3_pos (a b c i : Int) (ha : 0 < a) (hb : 0 < b) (hc : 0 < c) : 0 < l3 a b c i := by
  unfold l3
  split
  · exact ha
  · split
    · exact hb
    · exact hc
def leapOf (h : Int) : Int := h / 63 % l3 3 20 (10 ^ (9 : Int).toNat) (h / 5 % 3)
theorem turn_empty {F F' : Floor} {fs : List Fact} (hb : F.buys = []) (hs : F.sells = []) (ha : F.asleep = []) (h : TurnR .opn F fs F') : F' = { F with phase := .opn } := by
  obtain ⟨_, cs, Fc, hc, _, rfl⟩ := h
  have e : Fc = F := by
    rcases hc with ⟨_, ⟨_, e⟩ | ⟨p, t, hv, _⟩⟩ | ⟨z, _⟩
    · exact e
    · exfalso
      rw [hb, hs] at hv
      have : volume [] [] p = 0 := rfl
      omega
    · exact absurd rfl z
  subst e
  unfold woken
  rw [wokenF_none]
  show firstMet Fc.last Fc.asleep = none
  rw [ha]
  rfl
theorem empty_inv (m l : Int) : FInv ⟨.call, m, l, [], [], []⟩ := ⟨LineOk.nil _, LineOk.nil _, fun x hx => (by cases hx), fun n => Nat.zero_le _⟩
section
variable {P : Program} {w : World} {K : PySem.W.Frag} {mg : Str → Option Value} {base : Heap}
theorem ok_law_floor (T : Txt K mg) : Gd P w K mg base CX0 (12) "_law_floor" ["head"] (fun vs H Q E => ∃ (h : Int), vs = [.int h] ∧ ∀ p F H', Same H H' → FlAt K H' p F → F.buys = [] → F.sells = [] → F.asleep = [] → F.leap = leapOf h → Q (.ref p) H') := by
  have m_turn := ok_Floor_turn (P := P) (w := w) (base := base) T
  have g_Floor := ok_Floor_init (P := P) (w := w) (base := base) T
  refine gd0 T.d_law_floor T.g_law_floor sc_law_floor (fun _ _ _ _ _ _ us hl => match us, hl with | [_], _ => rfl) (fun vs H Q E h => ?_) (fun cdv A outer s H vs Q E hr h => ?_)
  · obtain ⟨h, rfl, _⟩ := h
    rfl
  · obtain ⟨h, rfl, q⟩ := h
    refine ⟨_, pss_cons (ps_set (i := 1) sc_law_floor.nd rfl (Or.inl rfl) (cMake g_Floor (hr.mono (by decide)) T.g_Floor (pa_cons (pe_op op_add pe_int (pe_op op_mod (pe_op op_fdiv (pv 0) pe_int) (pe_ix ix_list (pe_lst (pa_cons pe_int (pa_cons pe_int (pa_cons (pe_op op_pow pe_int pe_int) pa_nil)))) (pe_op op_mod (pv 0) pe_int) (fun _ _ => rfl)))) (pa_cons (pe_op op_mod (pe_op op_fdiv (pv 0) pe_int) (pe_ix ix_list (pe_lst (pa_cons pe_int (pa_cons pe_int (pa_cons (pe_op op_pow pe_int pe_int) pa_nil)))) (pe_op op_mod (pe_op op_fdiv (pv 0) pe_int) pe_int) (fun _ _ => rfl))) pa_nil))))
      (pss_cons (ps_if (pt_cmpR op_gt (pe_op op_mod (pe_op op_fdiv (pv 0) pe_int) pe_int) pe_int (nomark _)) (pss_one (ps_expr (cmX m_turn (hr.mono (by decide)) passF (pv 1) (pa_cons pe_str pa_nil)))) pss_nil)
      (pss_one (ps_ret (pv 1)))), ?_⟩
    walk_at "rd"
    refine ⟨⟨by decide, by decide⟩, ?_⟩
    walk_at "rd"
    refine ⟨⟨by decide, by decide, by decide⟩, ?_⟩
    walk_at "rd"
    intro la hla
    have u1 := same_upd (o := .lst [.int 3, .int 45, .int (10 ^ Int.toNat 9)]) hla
    walk_at "rd"
    refine ⟨(show (0 : Int) < 3 by decide), ?_⟩
    refine ⟨la, _, _, _, rfl, rfl, SqL.of upd_same, l3_at 3 45 (10 ^ Int.toNat 9) (h % 3) (Int.emod_nonneg _ (by decide)) (Int.emod_lt_of_pos _ (by decide)), ?_⟩
    walk_at "rd"
    refine ⟨l3_pos _ _ _ _ (by decide) (by decide) (by decide), ?_⟩
    walk_at "rd"
    refine ⟨⟨by decide, by decide⟩, ?_⟩
    walk_at "rd"
    refine ⟨⟨by decide, by decide, by decide⟩, ?_⟩
    walk_at "rd"
    intro lb hlb
    have u2 := same_upd (o := .lst [.int 3, .int 20, .int (10 ^ Int.toNat 9)]) hlb
    walk_at "rd"
    refine ⟨⟨by decide, by decide⟩, ?_⟩
    walk_at "rd"
    refine ⟨(show (0 : Int) < 3 by decide), ?_⟩
    refine ⟨lb, _, _, _, rfl, rfl, SqL.of upd_same, l3_at 3 20 (10 ^ Int.toNat 9) (h / 5 % 3) (Int.emod_nonneg _ (by decide)) (Int.emod_lt_of_pos _ (by decide)), ?_⟩
    walk_at "rd"
    refine ⟨l3_pos _ _ _ _ (by decide) (by decide) (by decide), ?_⟩
    walk_at "rd"
    have s12 := u1.trans u2
    have hlp : h / 63 % l3 3 20 (10 ^ Int.toNat 9) (h / 5 % 3) = leapOf h := rfl
    generalize (upd (upd H la (.lst [.int 3, .int 45, .int (10 ^ Int.toNat 9)])) lb (.lst [.int 3, .int 20, .int (10 ^ Int.toNat 9)])) = H2 at *
    intro x dx hx hdx hne
    refine ⟨x, dx, _, _, rfl, upd_same, fun H3 b3 hF3 => ⟨rfl, ?_⟩⟩
    have sA : Same H2 H3 := by
      have sd := same_upd (o := .own x) hdx
      have hx2 : (upd H2 dx (.own x)) x = none := by
        rw [upd_ne hne.symm]
        exact hx
      have sx := same_upd (o := .ins (He.ga K "Floor") dx []) hx2
      exact b3.same (sd.trans sx) hx
    rw [hlp] at hF3
    generalize (1 + h / 9 % l3 3 45 (10 ^ Int.toNat 9) (h % 3)) = mk at hF3
    have s := s12.trans sA
    walk_at "rd"
    refine ⟨⟨by decide, by decide⟩, ?_⟩
    walk_at "rd"
    refine ⟨(show (0 : Int) < 4 by decide), ?_⟩
    walk_at "rd"
    by_cases c : 0 < h / 4 % 4
    · refine iteY (decide_eq_true c) ?_
      obtain ⟨dx', lb', ls', la', hI⟩ := id hF3
      walk_at "rd"
      refine ⟨x, _, _, rfl, hI.o, by kernel_rfl, ?_⟩
      walk_at "rd"
      refine ⟨x, .opn, _, dx', lb', ls', la', rfl, hI, empty_inv mk (leapOf h), by show 0 ≤ 60; omega, fun fs F' hT l H4 b4 hl hF4 _ _ => ?_, fun z => by cases z⟩
      have e := turn_empty rfl rfl rfl hT
      subst e
      walk_at "rd"
      exact q x _ H4 (b4.same s (s12.free hx)) hF4 rfl rfl rfl rfl
    · refine iteN (decide_eq_false c) ?_
      walk_at "rd"
      exact q x _ H3 s hF3 rfl rfl rfl rfl
end
end BB
set_option Elab.async false
set_option linter.all false
set_option maxRecDepth 100000
set_option maxHeartbeats 4000000
/-! LE: a deed done on the floor. -/
namespace BB
open PySem PySem.Spec PyProof.Rows L2
local macro_rules | `(tactic| walk_at "rd") => `(tactic| repeat (first | refine ⟨_, rfl, ?_⟩ | refine ⟨_, _, rfl, rfl, ?_⟩ | refine ⟨_, _, rfl, ?_⟩ | refine ⟨rfl, ?_⟩ | refine ⟨_, _, _, _, rfl, rfl, SqT.of (by assumption), rfl, ?_⟩ | refine ⟨Nat.le_of_ble_eq_true rfl, ?_⟩))
/-- a method called within a try -/
def tMethT (C : Addr) (m : Str) (sp : Sp) (E : L2.St → XK) (ta : TE) (t : TA) : TE := fun σ H Q => ta σ H fun x H1 => ∃ a dx fs, x = .ref a ∧ H1 a = some (.ins C dx fs) ∧ fs.lookup m = none ∧ t σ H1 fun vs H2 => sp (x :: vs) H2 Q (E σ)
theorem cmS {X : Cx} {CX : CXT} {k : Nat} {ps : List Str} {sp : Sp} {m : Str} {pos apos : Pos} {e o : Expr} {es : List Expr} {ta : TE} {t : TA} {C : Addr} {E : L2.St → XK} (G : Md X.prog X.w X.K X.mg X.base CX k C m ps sp) (hr : Room k X.A) (hx : ∀ σ, PassesAt CX X σ (E σ)) (ho : PE X o ta) (ha : PA X (e :: es) t) {pl : Sem Bool}
    (hst : starEach (e :: es) X.env = (false, eval e X.env) :: starEach es X.env := by rfl) (hpl : (backTo pos (starEach es X.env)).any (·.1) = false := by rfl)
    (ht : eval (.Call (.Attribute o m apos) (e :: es) [] pos) X.env = (do
      let ov ← eval o X.env
      standAt apos.atName
      let (f, first) ← holding [ov] (getMethod ov m pl)
      callWith pos f first (backTo pos (starEach (e :: es) X.env)) (backToKw pos (keywordEach [] X.env))) := by rfl) :
    PE X (.Call (.Attribute o m apos) (e :: es) [] pos) (tMethT C m sp E ta t) := by
  obtain ⟨f, fd, g⟩ := G
  refine ⟨fun pins s σ H Q I h => PySem.W.methodCall_KW (pl := pl) (thn (ho.run pins s σ H _ I h) fun u s1 z => ?_) ht⟩
  obtain ⟨x, H1, I1, rx, a, dx, fs, rfl, ea, l, q⟩ := z
  cases rx
  exact getmeth_ok I1 ea g.c g.me l (PySem.W.callWith_K (first := [.ref a]) (h₀ := X.base) I.ok.mod.kin g.me.kp (thn (ha.run pos pins s1 σ H1 _ I1 q) fun us s2 ⟨vs, H2, I2, r, q2⟩ => ⟨I2.kIn, run_fnS (us := .ref a :: us) (vs := .ref a :: vs) g.F hr g.b (hx σ) I2 (.cons rfl r) q2⟩) hst hpl)
def DoneR (c : Int) (k : Kd) (o : Ord) (tr : Int) (u : Ph) (y : Str) (F : Floor) (fs : List Fact) (F' : Floor) : Prop :=
  (c < 4 ∧ BB.enter k o F = some (fs, F')) ∨ (c = 4 ∧ BB.lay k o tr F = some (fs, F')) ∨ (c = 5 ∧ BB.takeOut y F = some (fs, F')) ∨ (c = 6 ∧ BB.lessen y o.left F = some (fs, F')) ∨ (6 < c ∧ TurnR u F fs F')
theorem takeOut_len {n : Str} {F F' : Floor} {fs : List Fact} (h : BB.takeOut n F = some (fs, F')) : fs.length = 1 := by
  unfold BB.takeOut at h
  split at h
  · cases h
  · cases h
    rfl
theorem lessen_len {n : Str} {l : Int} {F F' : Floor} {fs : List Fact} (h : BB.lessen n l F = some (fs, F')) : fs.length = 1 := by
  unfold BB.lessen at h
  split at h
  · cases h
  · split at h
    · cases h
      rfl
    · cases h
section
variable {P : Program} {w : World} {K : PySem.W.Frag} {mg : Str → Option Value} {base : Heap}
theorem ok_law_done (T : Txt K mg) : Gd P w K mg base CX0 (12) "_law_done" ["floor", "deed"] (fun vs H Q E => ∃ (p d b : Addr) (F : Floor) (c tr : Int) (k : Kd) (u : Ph) (o : Ord) (y : Str), vs = [.ref p, .ref d] ∧ FlAt K H p F ∧ H d = some (.tup [.int c, .str k.s, .ref b, .int tr, .str u.s, .str y]) ∧ H b = some (.tup o.v) ∧ FInv F ∧ Ok o ∧ F.known.length ≤ 60 ∧ (∀ fs F', DoneR c k o tr u y F fs F' → ∀ l H', But p H H' → H l = none → FlAt K H' p F' → LstAt H' l (fs.map Fact.v) → fs.length ≤ 300000 → Q (.ref l) H') ∧ ∀ H', Same H H' → Q .non H') := by
  have m_enter := ok_Floor_enter (P := P) (w := w) (base := base) T
  have m_lay := ok_Floor_lay (P := P) (w := w) (base := base) T
  have m_take_out := ok_Floor_take_out (P := P) (w := w) (base := base) T
  have m_lessen := ok_Floor_lessen (P := P) (w := w) (base := base) T
  have m_turn := ok_Floor_turn (P := P) (w := w) (base := base) T
  refine gd0 T.d_law_done T.g_law_done sc_law_done (fun _ _ _ _ _ _ us hl => match us, hl with | [_, _], _ => rfl) (fun vs H Q E h => ?_) (fun cdv A outer s H vs Q E hr h => ?_)
  · obtain ⟨p, d, b, F, c, tr, k, u, o, y, rfl, _⟩ := h
    rfl
  · obtain ⟨p, d, b, F, c, tr, k, u, o, y, rfl, ⟨dx, lb, ls, la, hF⟩, hd, hb, hI, hO, hz, q1, q2⟩ := h
    refine ⟨_, pss_one (ps_try_only (c := .ref (He.ga K "BourseError")) (Wout := fun _ _ _ _ => False) rfl rfl ⟨rfl, by decide, Or.inl T.g_BourseError⟩ takes0 (fun W pn xe tk _ => (pss_cons (ps_if (pt_cmpR op_lt (pe_ix (r := rIxT K) ix_tup (pv 1) pe_int (fun _ _ => rfl)) pe_int (nomark _)) (pss_one (ps_ret (cmS m_enter (hr.mono (by decide)) (fun σ => passAt tk σ) (pv 0) (pa_cons (pe_ix (r := rIxT K) ix_tup (pv 1) pe_int (fun _ _ => rfl)) (pa_cons (pe_ix (r := rIxT K) ix_tup (pv 1) pe_int (fun _ _ => rfl)) pa_nil))))) pss_nil)
      (pss_cons (ps_if (pt_cmpR op_eq (pe_ix (r := rIxT K) ix_tup (pv 1) pe_int (fun _ _ => rfl)) pe_int (nomark _)) (pss_one (ps_ret (cmS m_lay (hr.mono (by decide)) (fun σ => passAt tk σ) (pv 0) (pa_cons (pe_ix (r := rIxT K) ix_tup (pv 1) pe_int (fun _ _ => rfl)) (pa_cons (pe_ix (r := rIxT K) ix_tup (pv 1) pe_int (fun _ _ => rfl)) (pa_cons (pe_ix (r := rIxT K) ix_tup (pv 1) pe_int (fun _ _ => rfl)) pa_nil)))))) pss_nil)
      (pss_cons (ps_if (pt_cmpR op_eq (pe_ix (r := rIxT K) ix_tup (pv 1) pe_int (fun _ _ => rfl)) pe_int (nomark _)) (pss_one (ps_ret (cmS m_take_out (hr.mono (by decide)) (fun σ => passAt tk σ) (pv 0) (pa_cons (pe_ix (r := rIxT K) ix_tup (pv 1) pe_int (fun _ _ => rfl)) pa_nil)))) pss_nil)
      (pss_cons (ps_if (pt_cmpR op_eq (pe_ix (r := rIxT K) ix_tup (pv 1) pe_int (fun _ _ => rfl)) pe_int (nomark _)) (pss_one (ps_ret (cmS m_lessen (hr.mono (by decide)) (fun σ => passAt tk σ) (pv 0) (pa_cons (pe_ix (r := rIxT K) ix_tup (pv 1) pe_int (fun _ _ => rfl)) (pa_cons (pe_ix (r := rIxT K) ix_tup (pe_ix (r := rIxT K) ix_tup (pv 1) pe_int (fun _ _ => rfl)) pe_int (fun _ _ => rfl)) pa_nil))))) pss_nil)
      (pss_one (ps_ret (cmS m_turn (hr.mono (by decide)) (fun σ => passAt tk σ) (pv 0) (pa_cons (pe_ix (r := rIxT K) ix_tup (pv 1) pe_int (fun _ _ => rfl)) pa_nil))))))))) (fun _ _ _ _ _ _ _ => (pss_one (ps_ret pe_non)))), ?_⟩
    have fail : ∀ (σ : L2.St) (e : Value) (dd : Option Addr) (H' : Hp), Bx K e → Same H H' → WE (wOnly K (.ref (He.ga K "BourseError")) (fun _ _ _ => tRet (tC .non)) (fun _ _ _ _ => False) { nx := fun _ H' => Q .non H', rt := Q }) σ e dd H' := fun σ e dd H' he s => ⟨true, he, fun _ a _ => q2 H' s, fun z => by cases z⟩
    walk_at "rd"
    by_cases c0 : c < 4
    · refine iteY (decide_eq_true c0) ?_
      walk_at "rd"
      refine ⟨p, _, _, rfl, hF.o, by kernel_rfl, ?_⟩
      walk_at "rd"
      refine ⟨p, b, k, o, F, dx, lb, ls, la, rfl, hF, hb, hI, hO, by omega, fun fs F' he => q1 fs F' (.inl ⟨c0, he⟩), fun _ e dd H' he s => fail _ e dd H' he s⟩
    refine iteN (decide_eq_false c0) ?_
    walk_at "rd"
    by_cases c4 : c = 4
    · refine iteY (decide_eq_true (congrArg V.int c4)) ?_
      walk_at "rd"
      refine ⟨p, _, _, rfl, hF.o, by kernel_rfl, ?_⟩
      walk_at "rd"
      refine ⟨p, b, k, o, tr, F, dx, lb, ls, la, rfl, hF, hb, hI, hO, by omega, fun fs F' he => q1 fs F' (.inr (.inl ⟨c4, he⟩)), fun _ e dd H' he s => fail _ e dd H' he s⟩
    refine iteN (dec_int.trans (beq_eq_false_iff_ne.mpr c4)) ?_
    walk_at "rd"
    by_cases c5 : c = 5
    · refine iteY (decide_eq_true (congrArg V.int c5)) ?_
      walk_at "rd"
      refine ⟨p, _, _, rfl, hF.o, by kernel_rfl, ?_⟩
      walk_at "rd"
      refine ⟨p, y, F, dx, lb, ls, la, rfl, hF, by omega, fun fs F' he l H' b1 hl hF' hL => q1 fs F' (.inr (.inr (.inl ⟨c5, he⟩))) l H' b1 hl hF' hL (by rw [takeOut_len he]; decide), fun _ e dd H' he s => fail _ e dd H' he s⟩
    refine iteN (dec_int.trans (beq_eq_false_iff_ne.mpr c5)) ?_
    walk_at "rd"
    by_cases c6 : c = 6
    · refine iteY (decide_eq_true (congrArg V.int c6)) ?_
      walk_at "rd"
      refine ⟨p, _, _, rfl, hF.o, by kernel_rfl, ?_⟩
      walk_at "rd"
      refine ⟨p, y, o.left, F, dx, lb, ls, la, rfl, hF, by omega, fun fs F' he l H' b1 hl hF' hL => q1 fs F' (.inr (.inr (.inr (.inl ⟨c6, he⟩)))) l H' b1 hl hF' hL (by rw [lessen_len he]; decide), fun _ e dd H' he s => fail _ e dd H' he s⟩
    refine iteN (dec_int.trans (beq_eq_false_iff_ne.mpr c6)) ?_
    walk_at "rd"
    refine ⟨p, _, _, rfl, hF.o, by kernel_rfl, ?_⟩
    walk_at "rd"
    refine ⟨p, u, F, dx, lb, ls, la, rfl, hF, hI, hz, fun fs F' he => q1 fs F' (.inr (.inr (.inr (.inr ⟨by omega, he⟩)))), fun _ e dd H' he s => fail _ e dd H' he s⟩
end
end BB
set_option Elab.async false
set_option linter.all false
set_option maxRecDepth 100000
set_option maxHeartbeats 4000000
/-! C6: the law's dict of the state. -/
namespace BB
open PySem PySem.Spec PyProof.Rows L2
structure RV where
  w : V
  st : V
  be : V
  ba : V
  co : V
  cr : Option V
structure SV where
  b : V
  s : V
  a : V
  ph : V
  la : V
  le : V
  fl : V
  ha : V
  tu : V
  cu : V
  r : Option RV
def ks (x : Str) : Key := .inr x
def crK : Option V → List (Key × V)
  | none => []
  | some c => [(ks "crosses", c)]
def exK : Option RV → List (Key × V)
  | none => []
  | some r => (ks "word", r.w) :: (ks "steps", r.st) :: (ks "begun", r.be) :: (ks "base", r.ba) :: (ks "could", r.co) :: crK r.cr
def sk (v : SV) : List (Key × V) := (ks "buy", v.b) :: (ks "sell", v.s) :: (ks "asleep", v.a) :: (ks "phase", v.ph) :: (ks "last", v.la) :: (ks "leap", v.le) :: (ks "flight", v.fl) :: (ks "halts", v.ha) :: (ks "turn", v.tu) :: (ks "cut", v.cu) :: exK v.r
theorem sk_len (v : SV) : (sk v).length < 1000 := by
  obtain ⟨b, s, a, ph, la, le, fl, ha, tu, cu, r⟩ := v
  rcases r with _ | ⟨w, st, be, ba, co, _ | c⟩ <;> exact Nat.le_of_ble_eq_true rfl
section
variable {H : Hp} {d : Addr} {v : SV}
theorem gk_buy (e : H d = some (.dK (sk v))) : DGet H d (.str "buy") (some v.b) := by
  have z : valV (sk v) (ks "buy") = some v.b := by kernel_rfl
  rw [← z]
  exact DGet.k (k := ks "buy") e
theorem gk_sell (e : H d = some (.dK (sk v))) : DGet H d (.str "sell") (some v.s) := by
  have z : valV (sk v) (ks "sell") = some v.s := by kernel_rfl
  rw [← z]
  exact DGet.k (k := ks "sell") e
theorem gk_asleep (e : H d = some (.dK (sk v))) : DGet H d (.str "asleep") (some v.a) := by
  have z : valV (sk v) (ks "asleep") = some v.a := by kernel_rfl
  rw [← z]
  exact DGet.k (k := ks "asleep") e
theorem gk_phase (e : H d = some (.dK (sk v))) : DGet H d (.str "phase") (some v.ph) := by
  have z : valV (sk v) (ks "phase") = some v.ph := by kernel_rfl
  rw [← z]
  exact DGet.k (k := ks "phase") e
theorem gk_last (e : H d = some (.dK (sk v))) : DGet H d (.str "last") (some v.la) := by
  have z : valV (sk v) (ks "last") = some v.la := by kernel_rfl
  rw [← z]
  exact DGet.k (k := ks "last") e
theorem gk_leap (e : H d = some (.dK (sk v))) : DGet H d (.str "leap") (some v.le) := by
  have z : valV (sk v) (ks "leap") = some v.le := by kernel_rfl
  rw [← z]
  exact DGet.k (k := ks "leap") e
theorem gk_flight (e : H d = some (.dK (sk v))) : DGet H d (.str "flight") (some v.fl) := by
  have z : valV (sk v) (ks "flight") = some v.fl := by kernel_rfl
  rw [← z]
  exact DGet.k (k := ks "flight") e
theorem gk_halts (e : H d = some (.dK (sk v))) : DGet H d (.str "halts") (some v.ha) := by
  have z : valV (sk v) (ks "halts") = some v.ha := by kernel_rfl
  rw [← z]
  exact DGet.k (k := ks "halts") e
theorem gk_turn (e : H d = some (.dK (sk v))) : DGet H d (.str "turn") (some v.tu) := by
  have z : valV (sk v) (ks "turn") = some v.tu := by kernel_rfl
  rw [← z]
  exact DGet.k (k := ks "turn") e
theorem gk_cut (e : H d = some (.dK (sk v))) : DGet H d (.str "cut") (some v.cu) := by
  have z : valV (sk v) (ks "cut") = some v.cu := by kernel_rfl
  rw [← z]
  exact DGet.k (k := ks "cut") e
theorem gk_word {r : RV} (e : H d = some (.dK (sk v))) (hr : v.r = some r) : DGet H d (.str "word") (some r.w) := by
  have z : valV (sk v) (ks "word") = some r.w := by
    obtain ⟨b, s, a, ph, la, le, fl, ha, tu, cu, r0⟩ := v
    cases (show r0 = some r from hr)
    kernel_rfl
  rw [← z]
  exact DGet.k (k := ks "word") e
theorem gk_steps {r : RV} (e : H d = some (.dK (sk v))) (hr : v.r = some r) : DGet H d (.str "steps") (some r.st) := by
  have z : valV (sk v) (ks "steps") = some r.st := by
    obtain ⟨b, s, a, ph, la, le, fl, ha, tu, cu, r0⟩ := v
    cases (show r0 = some r from hr)
    kernel_rfl
  rw [← z]
  exact DGet.k (k := ks "steps") e
theorem gk_begun {r : RV} (e : H d = some (.dK (sk v))) (hr : v.r = some r) : DGet H d (.str "begun") (some r.be) := by
  have z : valV (sk v) (ks "begun") = some r.be := by
    obtain ⟨b, s, a, ph, la, le, fl, ha, tu, cu, r0⟩ := v
    cases (show r0 = some r from hr)
    kernel_rfl
  rw [← z]
  exact DGet.k (k := ks "begun") e
theorem gk_base {r : RV} (e : H d = some (.dK (sk v))) (hr : v.r = some r) : DGet H d (.str "base") (some r.ba) := by
  have z : valV (sk v) (ks "base") = some r.ba := by
    obtain ⟨b, s, a, ph, la, le, fl, ha, tu, cu, r0⟩ := v
    cases (show r0 = some r from hr)
    kernel_rfl
  rw [← z]
  exact DGet.k (k := ks "base") e
theorem gk_could {r : RV} (e : H d = some (.dK (sk v))) (hr : v.r = some r) : DGet H d (.str "could") (some r.co) := by
  have z : valV (sk v) (ks "could") = some r.co := by
    obtain ⟨b, s, a, ph, la, le, fl, ha, tu, cu, r0⟩ := v
    cases (show r0 = some r from hr)
    kernel_rfl
  rw [← z]
  exact DGet.k (k := ks "could") e
theorem gk_crosses {r : RV} {c : V} (e : H d = some (.dK (sk v))) (hr : v.r = some r) (hc : r.cr = some c) : DGet H d (.str "crosses") (some c) := by
  have z : valV (sk v) (ks "crosses") = some c := by
    obtain ⟨b, s, a, ph, la, le, fl, ha, tu, cu, r0⟩ := v
    cases (show r0 = some r from hr)
    obtain ⟨w, st, be, ba, co, cr⟩ := r
    cases (show cr = some c from hc)
    kernel_rfl
  rw [← z]
  exact DGet.k (k := ks "crosses") e
theorem pk_buy (x : V) (e : H d = some (.dK (sk v))) : DPut H d (.str "buy") x (upd H d (.dK (sk { v with b := x }))) := by
  have z : putK (sk v) (ks "buy") x = sk { v with b := x } := by
    obtain ⟨b, s, a, ph, la, le, fl, ha, tu, cu, r⟩ := v
    rcases r with _ | ⟨w, st, be, ba, co, _ | c⟩ <;> kernel_rfl
  rw [← z]
  exact DPut.k (k := ks "buy") (v := x) e (Nat.lt_of_lt_of_le (sk_len v) (by decide))
theorem pk_sell (x : V) (e : H d = some (.dK (sk v))) : DPut H d (.str "sell") x (upd H d (.dK (sk { v with s := x }))) := by
  have z : putK (sk v) (ks "sell") x = sk { v with s := x } := by
    obtain ⟨b, s, a, ph, la, le, fl, ha, tu, cu, r⟩ := v
    rcases r with _ | ⟨w, st, be, ba, co, _ | c⟩ <;> kernel_rfl
  rw [← z]
  exact DPut.k (k := ks "sell") (v := x) e (Nat.lt_of_lt_of_le (sk_len v) (by decide))
theorem pk_asleep (x : V) (e : H d = some (.dK (sk v))) : DPut H d (.str "asleep") x (upd H d (.dK (sk { v with a := x }))) := by
  have z : putK (sk v) (ks "asleep") x = sk { v with a := x } := by
    obtain ⟨b, s, a, ph, la, le, fl, ha, tu, cu, r⟩ := v
    rcases r with _ | ⟨w, st, be, ba, co, _ | c⟩ <;> kernel_rfl
  rw [← z]
  exact DPut.k (k := ks "asleep") (v := x) e (Nat.lt_of_lt_of_le (sk_len v) (by decide))
theorem pk_phase (x : V) (e : H d = some (.dK (sk v))) : DPut H d (.str "phase") x (upd H d (.dK (sk { v with ph := x }))) := by
  have z : putK (sk v) (ks "phase") x = sk { v with ph := x } := by
    obtain ⟨b, s, a, ph, la, le, fl, ha, tu, cu, r⟩ := v
    rcases r with _ | ⟨w, st, be, ba, co, _ | c⟩ <;> kernel_rfl
  rw [← z]
  exact DPut.k (k := ks "phase") (v := x) e (Nat.lt_of_lt_of_le (sk_len v) (by decide))
theorem pk_last (x : V) (e : H d = some (.dK (sk v))) : DPut H d (.str "last") x (upd H d (.dK (sk { v with la := x }))) := by
  have z : putK (sk v) (ks "last") x = sk { v with la := x } := by
    obtain ⟨b, s, a, ph, la, le, fl, ha, tu, cu, r⟩ := v
    rcases r with _ | ⟨w, st, be, ba, co, _ | c⟩ <;> kernel_rfl
  rw [← z]
  exact DPut.k (k := ks "last") (v := x) e (Nat.lt_of_lt_of_le (sk_len v) (by decide))
theorem pk_flight (x : V) (e : H d = some (.dK (sk v))) : DPut H d (.str "flight") x (upd H d (.dK (sk { v with fl := x }))) := by
  have z : putK (sk v) (ks "flight") x = sk { v with fl := x } := by
    obtain ⟨b, s, a, ph, la, le, fl, ha, tu, cu, r⟩ := v
    rcases r with _ | ⟨w, st, be, ba, co, _ | c⟩ <;> kernel_rfl
  rw [← z]
  exact DPut.k (k := ks "flight") (v := x) e (Nat.lt_of_lt_of_le (sk_len v) (by decide))
theorem pk_halts (x : V) (e : H d = some (.dK (sk v))) : DPut H d (.str "halts") x (upd H d (.dK (sk { v with ha := x }))) := by
  have z : putK (sk v) (ks "halts") x = sk { v with ha := x } := by
    obtain ⟨b, s, a, ph, la, le, fl, ha, tu, cu, r⟩ := v
    rcases r with _ | ⟨w, st, be, ba, co, _ | c⟩ <;> kernel_rfl
  rw [← z]
  exact DPut.k (k := ks "halts") (v := x) e (Nat.lt_of_lt_of_le (sk_len v) (by decide))
theorem pk_turn (x : V) (e : H d = some (.dK (sk v))) : DPut H d (.str "turn") x (upd H d (.dK (sk { v with tu := x }))) := by
  have z : putK (sk v) (ks "turn") x = sk { v with tu := x } := by
    obtain ⟨b, s, a, ph, la, le, fl, ha, tu, cu, r⟩ := v
    rcases r with _ | ⟨w, st, be, ba, co, _ | c⟩ <;> kernel_rfl
  rw [← z]
  exact DPut.k (k := ks "turn") (v := x) e (Nat.lt_of_lt_of_le (sk_len v) (by decide))
theorem pk_cut (x : V) (e : H d = some (.dK (sk v))) : DPut H d (.str "cut") x (upd H d (.dK (sk { v with cu := x }))) := by
  have z : putK (sk v) (ks "cut") x = sk { v with cu := x } := by
    obtain ⟨b, s, a, ph, la, le, fl, ha, tu, cu, r⟩ := v
    rcases r with _ | ⟨w, st, be, ba, co, _ | c⟩ <;> kernel_rfl
  rw [← z]
  exact DPut.k (k := ks "cut") (v := x) e (Nat.lt_of_lt_of_le (sk_len v) (by decide))
theorem pk_steps {r : RV} (x : V) (e : H d = some (.dK (sk v))) (hr : v.r = some r) : DPut H d (.str "steps") x (upd H d (.dK (sk { v with r := some { r with st := x } }))) := by
  have z : putK (sk v) (ks "steps") x = sk { v with r := some { r with st := x } } := by
    obtain ⟨b, s, a, ph, la, le, fl, ha, tu, cu, r0⟩ := v
    cases (show r0 = some r from hr)
    obtain ⟨w, st, be, ba, co, _ | c⟩ := r <;> kernel_rfl
  rw [← z]
  exact DPut.k (k := ks "steps") (v := x) e (Nat.lt_of_lt_of_le (sk_len v) (by decide))
theorem pk_could {r : RV} (x : V) (e : H d = some (.dK (sk v))) (hr : v.r = some r) : DPut H d (.str "could") x (upd H d (.dK (sk { v with r := some { r with co := x } }))) := by
  have z : putK (sk v) (ks "could") x = sk { v with r := some { r with co := x } } := by
    obtain ⟨b, s, a, ph, la, le, fl, ha, tu, cu, r0⟩ := v
    cases (show r0 = some r from hr)
    obtain ⟨w, st, be, ba, co, _ | c⟩ := r <;> kernel_rfl
  rw [← z]
  exact DPut.k (k := ks "could") (v := x) e (Nat.lt_of_lt_of_le (sk_len v) (by decide))
theorem pk_crosses {r : RV} (x : V) (e : H d = some (.dK (sk v))) (hr : v.r = some r) : DPut H d (.str "crosses") x (upd H d (.dK (sk { v with r := some { r with cr := some x } }))) := by
  have z : putK (sk v) (ks "crosses") x = sk { v with r := some { r with cr := some x } } := by
    obtain ⟨b, s, a, ph, la, le, fl, ha, tu, cu, r0⟩ := v
    cases (show r0 = some r from hr)
    obtain ⟨w, st, be, ba, co, _ | c⟩ := r <;> kernel_rfl
  rw [← z]
  exact DPut.k (k := ks "crosses") (v := x) e (Nat.lt_of_lt_of_le (sk_len v) (by decide))
/-- the dict as it begins -/
def sk6 (b s a ph la le : V) : List (Key × V) := [(ks "buy", b), (ks "sell", s), (ks "asleep", a), (ks "phase", ph), (ks "last", la), (ks "leap", le)]
def m4 : List (Key × V) := [(ks "flight", .non), (ks "halts", .bl false), (ks "turn", .non), (ks "cut", .bl false)]
theorem merge6 (b s a ph la le : V) : mergeK (sk6 b s a ph la le) m4 = sk ⟨b, s, a, ph, la, le, .non, .bl false, .non, .bl false, none⟩ := by kernel_rfl
theorem merge4 (v : SV) : mergeK (sk v) m4 = sk { v with fl := .non, ha := .bl false, tu := .non, cu := .bl false } := by
  obtain ⟨b, s, a, ph, la, le, fl, ha, tu, cu, r⟩ := v
  rcases r with _ | ⟨w, st, be, ba, co, _ | c⟩ <;> kernel_rfl
/-- what a beginning puts into it -/
def mB (o : V) (w be ba : V) : List (Key × V) := [(ks "flight", o), (ks "word", w), (ks "steps", .int 0), (ks "begun", be), (ks "base", ba), (ks "could", .int 0)]
theorem mergeB (v : SV) (o w be ba : V) : ∃ cr, mergeK (sk v) (mB o w be ba) = sk { v with fl := o, r := some ⟨w, .int 0, be, ba, .int 0, cr⟩ } := by
  obtain ⟨b, s, a, ph, la, le, fl, ha, tu, cu, r⟩ := v
  rcases r with _ | ⟨w0, st, be0, ba0, co, _ | c⟩
  · exact ⟨none, by kernel_rfl⟩
  · exact ⟨none, by kernel_rfl⟩
  · exact ⟨some c, by kernel_rfl⟩
end
end BB
set_option linter.all false
/-! M6: the law's state and its accepting steps. -/
namespace BB
open PySem (Str)
structure Run where
  kd : Kd
  steps : Int
  begun : Int
  base : Int
  could : Int
  cr : Bool
structure LS where
  buys : List Ord
  sells : List Ord
  asleep : List Slp
  phase : Ph
  last : Int
  leap : Int
  flight : Option Ord
  halts : Bool
  turn : Option Ph
  cut : Bool
  run : Option Run
def LS.line (S : LS) (b : Bool) : List Ord := if b = true then S.buys else S.sells
def LS.setLine (S : LS) (b : Bool) (l : List Ord) : LS := if b = true then { S with buys := l } else { S with sells := l }
def LS.fresh (S : LS) : LS := { S with flight := none, halts := false, turn := none, cut := false }
def LS.begin (S : LS) (k : Kd) (o : Ord) : LS :=
  { S with flight := some o, run := some ⟨k, 0, o.left, S.last, if S.phase = .opn then could o (S.line (!o.buy)) S.last S.leap else 0, decide (S.phase = .opn) && crosses o (S.line (!o.buy))⟩ }
/-- an order in flight may meet: what is asked of a kind -/
def Meets (r : Run) : Prop := r.kd ≠ .quiet ∧ (r.kd = .whole → r.begun ≤ r.could)
/-- how a flight ends: a rest or a gone; the halts behind it -/
inductive LEnd (S : LS) (r : Run) (o : Ord) (rest : Bool) : Bool → Prop where
  | quiet : r.kd = .quiet → r.steps = 0 → r.cr = !rest → LEnd S r o rest S.halts
  | whole : r.kd = .whole → r.steps = 0 → rest = false → r.could < r.begun → LEnd S r o rest S.halts
  | plain : (r.kd = .limit ∧ rest = true) ∨ (r.kd = .now ∧ rest = false) → (S.phase ≠ .opn ∨ crosses o (S.line (!o.buy)) = false) → LEnd S r o rest S.halts
  | halt {h : Ord} {t : List Ord} : (r.kd = .limit ∧ rest = true) ∨ (r.kd = .now ∧ rest = false) → S.phase = .opn → S.line (!o.buy) = h :: t → allows o.buy o.price h.price = true → h.who ≠ o.who → S.leap < abs1 (h.price - r.base) → LEnd S r o rest true
/-- the law's accepting steps -/
inductive LStep (dk : Kd) (dord : Ord) (dtrig : Int) : LS → Fact → LS → Prop where
  | trade {S : LS} {o h : Ord} {t : List Ord} {r : Run} {a : Int} : S.flight = some o → S.run = some r → Meets r → S.phase = .opn → S.line (!o.buy) = h :: t → h.who ≠ o.who → allows o.buy o.price h.price = true →
      ¬ S.leap < abs1 (h.price - r.base) → a = min2 o.left h.shown → (∀ x ∈ h :: t, Ok x) → (h :: t).length ≤ 500 →
      LStep dk dord dtrig S (if o.buy = true then .trade o.name h.name h.price a else .trade h.name o.name h.price a)
        { S.setLine (!o.buy) (served (h :: t) a) with flight := if a < o.left then some { o with left := o.left - a } else none, last := h.price, run := some { r with steps := r.steps + 1 } }
  | shun {S : LS} {o h : Ord} {t : List Ord} {r : Run} : S.flight = some o → S.run = some r → Meets r → S.phase = .opn → S.line (!o.buy) = h :: t → h.who = o.who → allows o.buy o.price h.price = true → (∀ x ∈ h :: t, Ok x) →
      LStep dk dord dtrig S (.shun h.name h.left) { S.setLine (!o.buy) t with run := some { r with steps := r.steps + 1 } }
  | gone {S : LS} {o : Ord} {r : Run} {b : Bool} : S.flight = some o → S.run = some r → LEnd S r o false b → (∀ x ∈ S.line (!o.buy), Ok x) → LStep dk dord dtrig S (.gone o.name o.left) { S with flight := none, halts := b }
  | rest {S : LS} {o : Ord} {r : Run} {b : Bool} : S.flight = some o → S.run = some r → LEnd S r o true b → (∀ x ∈ S.line (!o.buy), Ok x) → 0 ≤ o.peak → (S.line o.buy).length ≤ 500 →
      LStep dk dord dtrig S (.rest o.name o.left) { S.setLine o.buy (joined (S.line o.buy) (BB.fresh o o.left)) with flight := none, halts := b }
  | called {S : LS} {bh sh : Ord} {bt st : List Ord} {p a : Int} : S.flight = none → S.turn = some .opn → S.phase = .call → S.cut = false → S.buys = bh :: bt → S.sells = sh :: st → (∀ x ∈ bh :: bt, Ok x) → (∀ x ∈ sh :: st, Ok x) → bh.buy = true → sh.buy = false →
      1 ≤ a → a ≤ bh.left → a ≤ sh.left → allows true bh.price p = true → allows false sh.price p = true → (bh :: bt).length ≤ 500 → (sh :: st).length ≤ 500 →
      LStep dk dord dtrig S (.trade bh.name sh.name p a) { S with buys := if a < bh.left then BB.fresh bh (bh.left - a) :: bt else bt, sells := if a < sh.left then BB.fresh sh (sh.left - a) :: st else st, last := p, cut := decide (a < min2 bh.left sh.left) }
  | out {S : LS} {n : Str} {l : Int} : S.flight = none → S.halts = false → S.buys.length ≤ 500 → S.sells.length ≤ 500 → S.asleep.length ≤ 500 → LStep dk dord dtrig S (.out n l) { S with buys := unnamed n S.buys, sells := unnamed n S.sells, asleep := S.asleep.filter fun s => !decide (s.ord.name = n) }
  | less {S : LS} {n : Str} {l : Int} : S.flight = none → S.halts = false → S.buys.length ≤ 500 → S.sells.length ≤ 500 → S.asleep.length ≤ 500 →
      LStep dk dord dtrig S (.less n l) { S with buys := S.buys.map fun o => if o.name = n then lessened o l else o, sells := S.sells.map fun o => if o.name = n then lessened o l else o, asleep := S.asleep.map fun z => { z with ord := if z.ord.name = n then lessened z.ord l else z.ord } }
  | phaseH {S : LS} : S.flight = none → S.halts = true → LStep dk dord dtrig S (.phase .call) { S with halts := false, phase := .call }
  | phaseT {S : LS} {w : Ph} : S.flight = none → S.halts = false → S.turn = some w → LStep dk dord dtrig S (.phase w) { S with turn := none, phase := w }
  | sleep {S : LS} : S.flight = none → S.halts = false → S.asleep.length ≤ 500 → LStep dk dord dtrig S (.sleep dord.name dtrig) { S with asleep := S.asleep ++ [⟨dk, dord, dtrig⟩] }
  | wake {S : LS} {A B : List Slp} {z : Slp} : S.flight = none → S.halts = false → S.phase = .opn → S.asleep = A ++ z :: B → (∀ x ∈ A, x.ord.name ≠ z.ord.name) → (∀ x ∈ B, x.ord.name ≠ z.ord.name) → S.asleep.length ≤ 500 →
      LineOk (!z.ord.buy) (S.line (!z.ord.buy)) → (S.line (!z.ord.buy)).length ≤ 500 → Ok z.ord → LStep dk dord dtrig S (.wake z.ord.name) ({ S with asleep := A ++ B }.begin z.kd z.ord)
inductive LSteps (dk : Kd) (dord : Ord) (dtrig : Int) : LS → List Fact → LS → Prop where
  | nil (S : LS) : LSteps dk dord dtrig S [] S
  | cons {S S1 S2 : LS} {f : Fact} {fs : List Fact} : LStep dk dord dtrig S f S1 → LSteps dk dord dtrig S1 fs S2 → LSteps dk dord dtrig S (f :: fs) S2
theorem LSteps.append {dk : Kd} {dord : Ord} {dtrig : Int} {S S1 S2 : LS} {fs gs : List Fact} (h : LSteps dk dord dtrig S fs S1) (k : LSteps dk dord dtrig S1 gs S2) : LSteps dk dord dtrig S (fs ++ gs) S2 := by
  induction h with
  | nil => exact k
  | cons a _ ih => exact .cons a (ih k)
end BB
set_option linter.all false
/-! M7: the law accepts what the floor tells: the meeting, coming in. -/
namespace BB
open PySem (Str)
theorem LS.self (S : LS) (b : Bool) : S.setLine b (S.line b) = S := by cases b <;> rfl
theorem LS.line_set (S : LS) (b : Bool) (l : List Ord) : (S.setLine b l).line b = l := by cases b <;> rfl
theorem LS.line_set_ne (S : LS) (b : Bool) (l : List Ord) : (S.setLine b l).line (!b) = S.line (!b) := by cases b <;> rfl
theorem LS.line_set_ne' (S : LS) (b : Bool) (l : List Ord) : (S.setLine (!b) l).line b = S.line b := by cases b <;> rfl
theorem LS.set_set (S : LS) (b : Bool) (l m : List Ord) : (S.setLine b l).setLine b m = S.setLine b m := by cases b <;> rfl
/-- the state behind some steps of a meeting -/
def LS.gone (S : LS) (o : Ord) (r : Run) (line : List Ord) (left : Int) (last : Int) (n : Int) : LS :=
  { S.setLine (!o.buy) line with flight := if left = 0 then none else some { o with left := left }, last := last, run := some { r with steps := r.steps + n } }
theorem LS.gone_gone (S : LS) (o : Ord) (r : Run) (l1 l2 : List Ord) (x1 x2 t1 t2 n1 n2 : Int) : (S.gone o r l1 x1 t1 n1).gone o { r with steps := r.steps + n1 } l2 x2 t2 n2 = S.gone o r l2 x2 t2 (n1 + n2) := by
  unfold LS.gone
  cases o.buy <;> simp [LS.setLine, Int.add_assoc]
theorem metF_zero (o : Ord) (last leap : Int) (n : Nat) (line : List Ord) : metF o last leap n line 0 = ⟨[], line, 0, false⟩ := by
  cases n with
  | zero => rfl
  | succ n =>
    cases line with
    | nil => rfl
    | cons h t =>
      unfold metF
      rw [if_neg (by omega)]
section
variable {dk : Kd} {dord : Ord} {dtrig : Int} {o : Ord} {leap : Int}
theorem met_acc : ∀ {n : Nat} {line : List Ord} {x : Int} {S : LS} {r : Run}, LineOk (!o.buy) line → 0 < x → line.length + x.toNat < n → line.length ≤ 500 → S.flight = some { o with left := x } → S.run = some r → S.phase = .opn → S.line (!o.buy) = line → S.leap = leap →
    ((metF o r.base leap n line x).steps ≠ [] → Meets r) →
    LSteps dk dord dtrig S ((metF o r.base leap n line x).steps.map (told o)) (S.gone o r (metF o r.base leap n line x).line (metF o r.base leap n line x).left (lastOf S.last (metF o r.base leap n line x).steps) (metF o r.base leap n line x).steps.length)
  | 0, line, x, S, r, _, _, hn, _, _, _, _, _, _, _ => by omega
  | n + 1, line, x, S, r, hl, hx, hn, hz, hf, hr, hp, hli, hle, hm => by
    have stop : ∀ hb, metF o r.base leap (n + 1) line x = ⟨[], line, x, hb⟩ → LSteps dk dord dtrig S ((metF o r.base leap (n + 1) line x).steps.map (told o)) (S.gone o r (metF o r.base leap (n + 1) line x).line (metF o r.base leap (n + 1) line x).left (lastOf S.last (metF o r.base leap (n + 1) line x).steps) (metF o r.base leap (n + 1) line x).steps.length) := fun hb e => by
      rw [e]
      have : S.gone o r line x (lastOf S.last []) (([] : List Step).length : Nat) = S := by
        unfold LS.gone
        rw [if_neg (by omega), ← hli, LS.self]
        obtain ⟨s1, s2, s3, s4, s5, s6, s7, s8, s9, s10, s11⟩ := S
        cases (show s7 = some { o with left := x } from hf)
        cases (show s11 = some r from hr)
        simp [lastOf]
      rw [this]
      exact .nil S
    cases line with
    | nil => exact stop false rfl
    | cons h t =>
      by_cases hc : 0 < x ∧ allows o.buy o.price h.price = true
      · by_cases hw : h.who = o.who
        · have e : metF o r.base leap (n + 1) (h :: t) x = (metF o r.base leap n t x).pre (.shun h.name h.left) := by
            conv => lhs; unfold metF
            rw [if_pos hc, if_pos hw]
          rw [e] at hm ⊢
          have M := hm (by intro z; cases z)
          have s1 : LStep dk dord dtrig S (.shun h.name h.left) (S.gone o r t x S.last 1) := by
            have z := LStep.shun (dk := dk) (dord := dord) (dtrig := dtrig) hf hr M hp hli hw hc.2 hl.ok
            have e2 : S.gone o r t x S.last 1 = { S.setLine (!o.buy) t with run := some { r with steps := r.steps + 1 } } := by
              unfold LS.gone
              rw [if_neg (by omega)]
              obtain ⟨s1, s2, s3, s4, s5, s6, s7, s8, s9, s10, s11⟩ := S
              cases (show s7 = some { o with left := x } from hf)
              cases o.buy <;> rfl
            rw [e2]
            exact z
          refine .cons s1 ?_
          have ih := met_acc (n := n) (line := t) (x := x) (S := S.gone o r t x S.last 1) (r := { r with steps := r.steps + 1 }) hl.tail hx (by simp only [List.length_cons] at hn; omega) (by simp only [List.length_cons] at hz; omega)
            (by unfold LS.gone; rw [if_neg (by omega)]) rfl (by unfold LS.gone; cases o.buy <;> exact hp) (by unfold LS.gone; cases o.buy <;> rfl) (by unfold LS.gone; cases o.buy <;> exact hle) (fun z => M)
          rw [LS.gone_gone] at ih
          have e3 : (((metF o r.base leap n t x).pre (.shun h.name h.left)).steps.length : Int) = 1 + ((metF o r.base leap n t x).steps.length : Nat) := by
            show (((metF o r.base leap n t x).steps.length + 1 : Nat) : Int) = _
            omega
          have e4 : (S.gone o r t x S.last 1).last = S.last := by unfold LS.gone; rfl
          rw [e4] at ih
          rw [e3]
          exact ih
        · by_cases hj : leap < abs1 (h.price - r.base)
          · refine stop true ?_
            unfold metF
            rw [if_pos hc, if_neg hw, if_pos hj]
          · have hk := hl.head
            have a1 : 1 ≤ min2 x h.shown := by
              have := hk.s1
              rcases min2_or x h.shown with e | e <;> omega
            have a2 := min2_le2 x h.shown
            have a3 := min2_le1 x h.shown
            have hlen2 := served_len h t (min2 x h.shown)
            have e : metF o r.base leap (n + 1) (h :: t) x = (metF o r.base leap n (served (h :: t) (min2 x h.shown)) (x - min2 x h.shown)).pre (.trade h.name h.price (min2 x h.shown)) := by
              conv => lhs; unfold metF
              rw [if_pos hc, if_neg hw, if_neg hj]
            rw [e] at hm ⊢
            have M := hm (by intro z; cases z)
            have s1 : LStep dk dord dtrig S (told o (.trade h.name h.price (min2 x h.shown))) (S.gone o r (served (h :: t) (min2 x h.shown)) (x - min2 x h.shown) h.price 1) := by
              have z := LStep.trade (dk := dk) (dord := dord) (dtrig := dtrig) hf hr M hp hli hw hc.2 (by rw [hle]; exact hj) (a := min2 x h.shown) rfl hl.ok hz
              have e2 : S.gone o r (served (h :: t) (min2 x h.shown)) (x - min2 x h.shown) h.price 1 = { S.setLine (!o.buy) (served (h :: t) (min2 x h.shown)) with flight := if min2 x h.shown < x then some { o with left := x - min2 x h.shown } else none, last := h.price, run := some { r with steps := r.steps + 1 } } := by
                unfold LS.gone
                by_cases c : min2 x h.shown < x
                · rw [if_pos c, if_neg (by omega)]
                · rw [if_neg c, if_pos (by omega)]
              rw [e2]
              exact z
            refine .cons s1 ?_
            have e3 : (((metF o r.base leap n (served (h :: t) (min2 x h.shown)) (x - min2 x h.shown)).pre (.trade h.name h.price (min2 x h.shown))).steps.length : Int) = 1 + ((metF o r.base leap n (served (h :: t) (min2 x h.shown)) (x - min2 x h.shown)).steps.length : Nat) := by
              show (((metF o r.base leap n (served (h :: t) (min2 x h.shown)) (x - min2 x h.shown)).steps.length + 1 : Nat) : Int) = _
              omega
            rw [e3]
            by_cases hx0 : x - min2 x h.shown = 0
            · rw [hx0, metF_zero]
              exact .nil _
            · have hso := served_ok hl a1 a2
              have ih := met_acc (n := n) (line := served (h :: t) (min2 x h.shown)) (x := x - min2 x h.shown) (S := S.gone o r (served (h :: t) (min2 x h.shown)) (x - min2 x h.shown) h.price 1) (r := { r with steps := r.steps + 1 }) hso (by omega) (by simp only [List.length_cons] at hn; omega) (by simp only [List.length_cons] at hz; omega)
                (by unfold LS.gone; rw [if_neg hx0]) rfl (by unfold LS.gone; cases o.buy <;> exact hp) (by unfold LS.gone; cases o.buy <;> rfl) (by unfold LS.gone; cases o.buy <;> exact hle) (fun z => M)
              rw [LS.gone_gone] at ih
              exact ih
      · refine stop false ?_
        unfold metF
        rw [if_neg hc]
/-- the floor as the law's state -/
def Floor.ls (F : Floor) (cut : Bool) (run : Option Run) : LS := ⟨F.buys, F.sells, F.asleep, F.phase, F.last, F.leap, none, false, none, cut, run⟩
theorem ls_line (F : Floor) (cut : Bool) (run : Option Run) (b : Bool) : (F.ls cut run).line b = F.line b := by cases b <;> rfl
theorem crosses_left (o : Ord) (x : Int) (l : List Ord) : crosses { o with left := x } l = crosses o l := by cases l <;> rfl
theorem met_nocross {o : Ord} {line : List Ord} {last leap : Int} (h : crosses o line = false) : met o line last leap = ⟨[], line, o.left, false⟩ := by
  unfold met
  cases line with
  | nil => rfl
  | cons x t =>
    unfold metF
    rw [if_neg]
    intro z
    have h' : allows o.buy o.price x.price = false := h
    rw [h'] at z
    exact Bool.false_ne_true z.2
theorem fresh_self {o : Ord} (h : o.shown = inView o.left o.peak) : BB.fresh o o.left = o := by
  unfold BB.fresh withLeft
  rw [← h]
theorem lastOf_gone (n : Str) (x : Int) : ∀ (s : List Step) (l : Int), lastOf l (s ++ [.gone n x]) = lastOf l s
  | [], _ => rfl
  | .trade _ p _ :: s, _ => lastOf_gone n x s p
  | .shun _ _ :: s, l => lastOf_gone n x s l
  | .gone _ _ :: s, l => lastOf_gone n x s l
variable {cut : Bool} {run : Option Run} {F : Floor} {k : Kd}
theorem comeIn_acc (hF : FInv F) (hO : Ok o) (hz : F.known.length ≤ 400) (hk : F.phase = .opn ∨ (k = .limit ∧ o.shown = inView o.left o.peak)) :
    ∃ run', LSteps dk dord dtrig ((F.ls cut run).begin k o) (comeIn k o F).1 ((comeIn k o F).2.ls cut run') := by
  have hl1 := len_line F o.buy
  have hl2 := len_line F (!o.buy)
  by_cases hp : F.phase = .opn
  · have e : comeIn k o F = ((entered k o (F.line (!o.buy)) F.last F.leap).steps.map (told o) ++ restOf (entered k o (F.line (!o.buy)) F.last F.leap) ++ haltOf (entered k o (F.line (!o.buy)) F.last F.leap), F.behind o (entered k o (F.line (!o.buy)) F.last F.leap)) := by
      unfold comeIn
      rw [if_pos hp]
    rw [e]
    clear e
    have h0 : 0 < o.left := by
      have := hO.s1
      have := hO.sl
      omega
    have hlo := hF.line (!o.buy)
    have me := met_end (o := o) (last := F.last) (leap := F.leap) hlo (Int.le_of_lt h0)
    obtain ⟨r0, er0⟩ : ∃ r0 : Run, r0 = ⟨k, 0, o.left, F.last, could o (F.line (!o.buy)) F.last F.leap, crosses o (F.line (!o.buy))⟩ := ⟨_, rfl⟩
    have hr : ((F.ls cut run).begin k o).run = some r0 := by
      rw [er0]
      show some (Run.mk k 0 o.left F.last (if F.phase = .opn then could o ((F.ls cut run).line (!o.buy)) F.last F.leap else 0) (decide (F.phase = .opn) && crosses o ((F.ls cut run).line (!o.buy)))) = _
      rw [if_pos hp, decide_eq_true hp, ls_line]
      rfl
    have hline : ∀ b, ((F.ls cut run).begin k o).line b = F.line b := fun b => by cases b <;> rfl
    by_cases hle : lets k (crosses o (F.line (!o.buy))) (could o (F.line (!o.buy)) F.last F.leap) o.left = true
    · have hen : entered k o (F.line (!o.buy)) F.last F.leap = if 0 < (met o (F.line (!o.buy)) F.last F.leap).left ∧ keeps k = true then ⟨(met o (F.line (!o.buy)) F.last F.leap).steps, (met o (F.line (!o.buy)) F.last F.leap).line, some (BB.fresh o (met o (F.line (!o.buy)) F.last F.leap).left), (met o (F.line (!o.buy)) F.last F.leap).halted⟩
          else if 0 < (met o (F.line (!o.buy)) F.last F.leap).left then ⟨(met o (F.line (!o.buy)) F.last F.leap).steps ++ [.gone o.name (met o (F.line (!o.buy)) F.last F.leap).left], (met o (F.line (!o.buy)) F.last F.leap).line, none, (met o (F.line (!o.buy)) F.last F.leap).halted⟩
          else ⟨(met o (F.line (!o.buy)) F.last F.leap).steps, (met o (F.line (!o.buy)) F.last F.leap).line, none, (met o (F.line (!o.buy)) F.last F.leap).halted⟩ := by
        unfold entered
        rw [if_pos hle]
      rw [hen]
      clear hen
      have hM : (met o (F.line (!o.buy)) F.last F.leap).steps ≠ [] → Meets r0 := fun hs => by
        rw [er0]
        refine ⟨fun q => ?_, fun q => ?_⟩
        · have q' : k = .quiet := q
          subst q'
          have : crosses o (F.line (!o.buy)) = false := by simpa [lets] using hle
          rw [met_nocross this] at hs
          exact hs rfl
        · have q' : k = .whole := q
          subst q'
          exact of_decide_eq_true hle
      have acc := met_acc (dk := dk) (dord := dord) (dtrig := dtrig) (o := o) (leap := F.leap) (n := (F.line (!o.buy)).length + o.left.toNat + 1) (line := F.line (!o.buy)) (x := o.left) (S := (F.ls cut run).begin k o) (r := r0) hlo h0 (Nat.lt_succ_self _) (by omega) rfl hr hp (hline _) rfl (by rw [er0]; rw [er0] at hM; exact hM)
      have eb : r0.base = F.last := by rw [er0]
      have em : metF o F.last F.leap ((F.line (!o.buy)).length + o.left.toNat + 1) (F.line (!o.buy)) o.left = met o (F.line (!o.buy)) F.last F.leap := rfl
      rw [eb, em] at acc
      have hwh : k = .whole → (met o (F.line (!o.buy)) F.last F.leap).left = 0 := fun q => by
        subst q
        have : o.left ≤ could o (F.line (!o.buy)) F.last F.leap := of_decide_eq_true hle
        unfold could at this
        have := me.nn
        omega
      have hqu : k = .quiet → (met o (F.line (!o.buy)) F.last F.leap).steps = [] ∧ crosses o (F.line (!o.buy)) = false ∧ (met o (F.line (!o.buy)) F.last F.leap).line = F.line (!o.buy) ∧ (met o (F.line (!o.buy)) F.last F.leap).halted = false := fun q => by
        subst q
        have : crosses o (F.line (!o.buy)) = false := by simpa [lets] using hle
        rw [met_nocross this]
        exact ⟨rfl, this, rfl, rfl⟩
      generalize met o (F.line (!o.buy)) F.last F.leap = m at *
      by_cases hm0 : m.left = 0
      · rw [if_neg (fun z => by omega), if_neg (by omega)]
        have hal := me.nil hm0
        refine ⟨some { r0 with steps := r0.steps + (m.steps.length : Nat) }, ?_⟩
        have e2 : ((F.ls cut run).begin k o).gone o r0 m.line m.left (lastOf ((F.ls cut run).begin k o).last m.steps) (m.steps.length : Nat) = (F.behind o ⟨m.steps, m.line, none, m.halted⟩).ls cut (some { r0 with steps := r0.steps + (m.steps.length : Nat) }) := by
          unfold LS.gone Floor.behind
          rw [if_pos hm0, hal]
          cases hb : o.buy <;> rfl
        rw [← e2]
        have e3 : m.steps.map (told o) ++ restOf ⟨m.steps, m.line, none, m.halted⟩ ++ haltOf ⟨m.steps, m.line, none, m.halted⟩ = m.steps.map (told o) := by
          unfold restOf haltOf
          rw [hal, List.append_nil, if_neg Bool.false_ne_true, List.append_nil]
        rw [e3]
        exact acc
      · have hm1 : 0 < m.left := by
          have := me.nn
          omega
        obtain ⟨S1, eS1⟩ : ∃ S1, S1 = ((F.ls cut run).begin k o).gone o r0 m.line m.left (lastOf ((F.ls cut run).begin k o).last m.steps) (m.steps.length : Nat) := ⟨_, rfl⟩
        obtain ⟨r1, er1⟩ : ∃ r1 : Run, r1 = { r0 with steps := r0.steps + (m.steps.length : Nat) } := ⟨_, rfl⟩
        rw [← eS1] at acc
        have f1 : S1.flight = some { o with left := m.left } := by
          rw [eS1]
          unfold LS.gone
          rw [if_neg hm0]
        have f2 : S1.run = some r1 := by rw [eS1, er1]; rfl
        have f3 : S1.line (!o.buy) = m.line := by rw [eS1]; unfold LS.gone; cases o.buy <;> rfl
        have f4 : S1.line o.buy = F.line o.buy := by rw [eS1]; unfold LS.gone; cases o.buy <;> rfl
        have f5 : S1.phase = .opn := by rw [eS1]; unfold LS.gone; cases o.buy <;> exact hp
        have f6 : S1.halts = false := by rw [eS1]; unfold LS.gone; cases o.buy <;> rfl
        have f7 : S1.leap = F.leap := by rw [eS1]; unfold LS.gone; cases o.buy <;> rfl
        have k1 : r1.kd = k := by rw [er1, er0]
        have hend : ∀ rest : Bool, (k = .limit ∧ rest = true) ∨ (k = .now ∧ rest = false) → LEnd S1 r1 { o with left := m.left } rest m.halted := fun rest hkr => by
          cases hh : m.halted with
          | true =>
            obtain ⟨h, t, e1, e2, e3, e4⟩ := me.hlt hh
            exact .halt (h := h) (t := t) (by rw [k1]; exact hkr) f5 (by rw [← e1]; exact f3) e2 e3 (by rw [f7, er1, er0]; exact e4)
          | false =>
            have hc : crosses { o with left := m.left } m.line = false := by
              rw [crosses_left]
              rcases me.fin hm1 hh with e | ⟨h, t, e, hn⟩
              · rw [e]
                rfl
              · rw [e]
                show allows o.buy o.price h.price = false
                simpa using hn
            have z := LEnd.plain (S := S1) (r := r1) (o := { o with left := m.left }) (rest := rest) (by rw [k1]; exact hkr) (.inr (by show crosses _ (S1.line (!o.buy)) = false; rw [f3]; exact hc))
            rw [f6] at z
            exact z
        have hqe : k = .quiet → LEnd S1 r1 { o with left := m.left } true m.halted := fun q => by
          obtain ⟨q1, q2, q3, q4⟩ := hqu q
          have z := LEnd.quiet (S := S1) (r := r1) (o := { o with left := m.left }) (rest := true) (k1.trans q) (by rw [er1, er0, q1]; rfl) (by rw [er1, er0]; exact q2)
          rw [f6] at z
          rw [q4]
          exact z
        have tail : ∀ (fs : List Fact) (S2 : LS) (Fb : Floor), LSteps dk dord dtrig ((F.ls cut run).begin k o) fs S2 → S2 = { Fb.ls cut (some r1) with halts := m.halted } → ∃ run', LSteps dk dord dtrig ((F.ls cut run).begin k o) (fs ++ (if m.halted = true then [.phase .call] else [])) ((if m.halted = true then { Fb with phase := .call } else Fb).ls cut run') := fun fs S2 Fb h1 h2 => by
          cases hh : m.halted with
          | true =>
            rw [hh] at h2
            refine ⟨some r1, h1.append (.cons (.phaseH (by rw [h2]; rfl) (by rw [h2])) ?_)⟩
            rw [h2]
            exact .nil _
          | false =>
            rw [hh] at h2
            refine ⟨some r1, ?_⟩
            rw [if_neg Bool.false_ne_true, if_neg Bool.false_ne_true, List.append_nil]
            rw [h2] at h1
            exact h1
        by_cases hkp : keeps k = true
        · rw [if_pos ⟨hm1, hkp⟩]
          have hE : LEnd S1 r1 { o with left := m.left } true m.halted := by
            have : k = .limit ∨ k = .quiet := by cases k <;> first | exact .inl rfl | exact .inr rfl | cases hkp
            rcases this with q | q
            · exact hend true (.inl ⟨q, rfl⟩)
            · exact hqe q
          have st := LStep.rest (dk := dk) (dord := dord) (dtrig := dtrig) f1 f2 hE (by show ∀ x ∈ S1.line (!o.buy), Ok x; rw [f3]; exact me.ok.ok) hO.p0 (by show (S1.line o.buy).length ≤ 500; rw [f4]; omega)
          obtain ⟨run', z⟩ := tail _ _ (({ F.setLine (!o.buy) m.line with last := lastOf F.last m.steps } : Floor).setLine o.buy (joined (({ F.setLine (!o.buy) m.line with last := lastOf F.last m.steps } : Floor).line o.buy) (BB.fresh o m.left))) (acc.append (.cons st (.nil _))) (by
            have gen : ∀ (b : Bool) (fr : Ord) (fl : Option Ord) (R : Run), ({ ({ ((F.ls cut run).begin k o).setLine (!b) m.line with flight := fl, last := lastOf F.last m.steps, run := some R } : LS).setLine b (joined (({ ((F.ls cut run).begin k o).setLine (!b) m.line with flight := fl, last := lastOf F.last m.steps, run := some R } : LS).line b) fr) with flight := none, halts := m.halted } : LS) =
                { (({ F.setLine (!b) m.line with last := lastOf F.last m.steps } : Floor).setLine b (joined (({ F.setLine (!b) m.line with last := lastOf F.last m.steps } : Floor).line b) fr)).ls cut (some R) with halts := m.halted } := fun b fr fl R => by cases b <;> rfl
            rw [eS1, er1]
            unfold LS.gone
            exact gen o.buy (BB.fresh o m.left) _ _)
          exact ⟨run', z⟩
        · rw [if_neg (fun z => hkp z.2), if_pos hm1]
          have hnow : k = .now := by
            cases k with
            | limit => exact absurd rfl hkp
            | now => rfl
            | whole => exact absurd (hwh rfl) hm0
            | quiet => exact absurd rfl hkp
          have hE := hend false (.inr ⟨hnow, rfl⟩)
          have st := LStep.gone (dk := dk) (dord := dord) (dtrig := dtrig) f1 f2 hE (by show ∀ x ∈ S1.line (!o.buy), Ok x; rw [f3]; exact me.ok.ok)
          obtain ⟨run', z⟩ := tail _ _ ({ F.setLine (!o.buy) m.line with last := lastOf F.last (m.steps ++ [.gone o.name m.left]) } : Floor) (acc.append (.cons st (.nil _))) (by
            rw [eS1, er1, lastOf_gone]
            unfold LS.gone
            cases hb : o.buy <;> rfl)
          refine ⟨run', ?_⟩
          have e3 : (m.steps ++ [Step.gone o.name m.left]).map (told o) ++ restOf ⟨m.steps ++ [.gone o.name m.left], m.line, none, m.halted⟩ ++ haltOf ⟨m.steps ++ [.gone o.name m.left], m.line, none, m.halted⟩ = m.steps.map (told o) ++ [.gone o.name m.left] ++ (if m.halted = true then [.phase .call] else []) := by
            unfold restOf haltOf
            rw [List.map_append, List.append_nil]
            rfl
          rw [e3]
          exact z
    · have hen : entered k o (F.line (!o.buy)) F.last F.leap = ⟨[.gone o.name o.left], F.line (!o.buy), none, false⟩ := by
        unfold entered
        rw [if_neg hle]
      rw [hen]
      have hE : LEnd ((F.ls cut run).begin k o) r0 o false ((F.ls cut run).begin k o).halts := by
        cases k with
        | limit => exact absurd rfl hle
        | now => exact absurd rfl hle
        | whole =>
          refine .whole (by rw [er0]) (by rw [er0]) rfl ?_
          rw [er0]
          have : ¬ o.left ≤ could o (F.line (!o.buy)) F.last F.leap := fun z => hle (decide_eq_true z)
          show could o (F.line (!o.buy)) F.last F.leap < o.left
          omega
        | quiet =>
          refine .quiet (by rw [er0]) (by rw [er0]) ?_
          rw [er0]
          simpa [lets] using hle
      have st := LStep.gone (dk := dk) (dord := dord) (dtrig := dtrig) (S := (F.ls cut run).begin k o) (o := o) rfl hr hE (by rw [hline]; exact hlo.ok)
      refine ⟨((F.ls cut run).begin k o).run, ?_⟩
      have e2 : ({ ((F.ls cut run).begin k o) with flight := none, halts := ((F.ls cut run).begin k o).halts } : LS) = (F.behind o ⟨[.gone o.name o.left], F.line (!o.buy), none, false⟩).ls cut ((F.ls cut run).begin k o).run := by
        unfold Floor.behind
        cases hb : o.buy <;> rfl
      rw [← e2]
      exact .cons st (.nil _)
  · have e : comeIn k o F = ([.rest o.name o.left], F.setLine o.buy (joined (F.line o.buy) o)) := by
      unfold comeIn
      rw [if_neg hp]
    obtain ⟨rfl, hs⟩ : k = .limit ∧ o.shown = inView o.left o.peak := hk.resolve_left hp
    rw [e]
    have hr : ((F.ls cut run).begin .limit o).run = some ⟨.limit, 0, o.left, F.last, 0, false⟩ := by
      unfold LS.begin
      show some (Run.mk .limit 0 o.left F.last (if F.phase = .opn then _ else 0) (decide (F.phase = .opn) && _)) = _
      rw [if_neg hp, decide_eq_false hp]
      rfl
    have hline : ∀ b, ((F.ls cut run).begin .limit o).line b = F.line b := fun b => by cases b <;> rfl
    have st := LStep.rest (dk := dk) (dord := dord) (dtrig := dtrig) (S := (F.ls cut run).begin .limit o) (o := o) rfl hr (.plain (.inl ⟨rfl, rfl⟩) (.inl hp)) (by rw [hline]; exact (hF.line _).ok) hO.p0 (by rw [hline]; omega)
    rw [hline, fresh_self hs] at st
    have e2 : ({ ((F.ls cut run).begin .limit o).setLine o.buy (joined (F.line o.buy) o) with flight := none, halts := ((F.ls cut run).begin .limit o).halts } : LS) = (F.setLine o.buy (joined (F.line o.buy) o)).ls cut ((F.ls cut run).begin .limit o).run := by
      cases hb : o.buy <;> rfl
    refine ⟨((F.ls cut run).begin .limit o).run, ?_⟩
    show LSteps dk dord dtrig _ [.rest o.name o.left] ((F.setLine o.buy (joined (F.line o.buy) o)).ls cut ((F.ls cut run).begin .limit o).run)
    rw [← e2]
    exact .cons st (.nil _)
end
end BB
set_option linter.all false
/-! M8: the law accepts: woken, enter, lay, take_out, lessen. -/
namespace BB
open PySem (Str)
section
variable {dk : Kd} {dord : Ord} {dtrig : Int} {cut : Bool}
theorem cn_zero_mem {n : Str} {l : List Slp} (h : cn n (l.map (·.ord)) = 0) : ∀ x ∈ l, x.ord.name ≠ n := fun x hx => cn_mem h x.ord (List.mem_map_of_mem hx)
theorem wokenF_acc : ∀ (n : Nat) {F : Floor} {run : Option Run}, FInv F → F.known.length ≤ 400 → ∃ run', LSteps dk dord dtrig (F.ls cut run) (wokenF n F).1 ((wokenF n F).2.ls cut run')
  | 0, F, run, _, _ => ⟨run, .nil _⟩
  | n + 1, F, run, hF, hz => by
    rw [wokenF_succ]
    by_cases hp : F.phase = .opn
    · rw [if_pos hp]
      cases hf : firstMet F.last F.asleep with
      | none => exact ⟨run, .nil _⟩
      | some kz =>
        obtain ⟨k, z⟩ := kz
        dsimp only
        obtain ⟨i1, i2, i3, i4, i5⟩ := wake_inv hF hf
        have e := firstMet_mem hf
        have c0 : cn z.ord.name ((F.asleep.take k ++ F.asleep.drop (k + 1)).map (·.ord)) = 0 := by
          have := i3
          rw [cn_known] at this
          have e2 : (F.wake k).asleep = F.asleep.take k ++ F.asleep.drop (k + 1) := rfl
          rw [e2] at this
          omega
        have hm := cn_zero_mem c0
        have hzl : F.asleep.length ≤ 500 := by
          have := len_known F
          omega
        have st := LStep.wake (dk := dk) (dord := dord) (dtrig := dtrig) (S := F.ls cut run) (A := F.asleep.take k) (B := F.asleep.drop (k + 1)) (z := z) rfl rfl hp e (fun x hx => hm x (List.mem_append_left _ hx)) (fun x hx => hm x (List.mem_append_right _ hx)) hzl
          (by rw [ls_line]; exact hF.line _) (by rw [ls_line]; have := len_line F (!z.ord.buy); omega) i2
        obtain ⟨run1, a1⟩ := comeIn_acc (dk := dk) (dord := dord) (dtrig := dtrig) (o := z.ord) (cut := cut) (run := run) (F := F.wake k) (k := z.kd) i1 i2 (by omega) (.inl hp)
        have cc := comeIn_came (k := z.kd) i1 i2 i3
        obtain ⟨run2, a2⟩ := wokenF_acc n (F := (comeIn z.kd z.ord (F.wake k)).2) (run := run1) cc.inv (by have := cc.len; omega)
        exact ⟨run2, .cons st (a1.append a2)⟩
    · rw [if_neg hp]
      exact ⟨run, .nil _⟩
theorem woken_acc {F : Floor} {run : Option Run} (hF : FInv F) (hz : F.known.length ≤ 400) : ∃ run', LSteps dk dord dtrig (F.ls cut run) (woken F).1 ((woken F).2.ls cut run') := wokenF_acc _ hF hz
/-- what the floor keeps behind the sleepers' waking -/
structure Woke (F F' : Floor) : Prop where
  inv : FInv F'
  cnt : ∀ n, cn n F'.known ≤ cn n F.known
  len : F'.known.length ≤ F.known.length
  lp : F'.leap = F.leap
theorem wokenF_ok : ∀ (n : Nat) {F : Floor}, FInv F → Woke F (wokenF n F).2
  | 0, F, hF => ⟨hF, fun _ => Nat.le_refl _, Nat.le_refl _, rfl⟩
  | n + 1, F, hF => by
    have nil : Woke F F := ⟨hF, fun _ => Nat.le_refl _, Nat.le_refl _, rfl⟩
    rw [wokenF_succ]
    split
    · cases hf : firstMet F.last F.asleep with
      | none => exact nil
      | some kz =>
        obtain ⟨k, z⟩ := kz
        dsimp only
        obtain ⟨i1, i2, i3, i4, i5⟩ := wake_inv hF hf
        have cc := comeIn_came (k := z.kd) i1 i2 i3
        have ih := wokenF_ok n cc.inv
        refine ⟨ih.inv, fun m => ?_, ?_, ?_⟩
        · have a := ih.cnt m
          have b := cc.cnt m
          have c := i5 m
          omega
        · have a := ih.len
          have b := cc.len
          omega
        · rw [ih.lp, cc.lp]
          rfl
    · exact nil
theorem woken_ok {F : Floor} (hF : FInv F) : Woke F (woken F).2 := wokenF_ok _ hF
theorem enter_acc {F F' : Floor} {k : Kd} {o : Ord} {fs : List Fact} {run : Option Run} (hF : FInv F) (hO : Ok o) (hz : F.known.length ≤ 300) (hv : o.shown = inView o.left o.peak) (h : enter k o F = some (fs, F')) :
    (∃ run', LSteps dk dord dtrig ((F.ls cut run).begin k o) fs (F'.ls cut run')) ∧ FInv F' ∧ F'.known.length ≤ F.known.length + 1 ∧ F'.leap = F.leap := by
  unfold enter at h
  split at h
  · rename_i hc
    cases h
    have hn : cn o.name F.known = 0 := cn_zero fun x hx e => by
      have := hc.2
      unfold knows at this
      exact (List.any_eq_false.mp this x hx) (decide_eq_true e)
    have cc := comeIn_came (k := k) hF hO hn
    have hk : F.phase = .opn ∨ (k = .limit ∧ o.shown = inView o.left o.peak) := by
      have := hc.1
      cases hp : F.phase with
      | opn => exact .inl rfl
      | call =>
        rw [hp] at this
        exact .inr ⟨of_decide_eq_true this, hv⟩
      | halt =>
        rw [hp] at this
        cases this
    obtain ⟨r1, a1⟩ := comeIn_acc (dk := dk) (dord := dord) (dtrig := dtrig) (cut := cut) (run := run) hF hO (by omega) hk
    obtain ⟨r2, a2⟩ := woken_acc (dk := dk) (dord := dord) (dtrig := dtrig) (cut := cut) (run := r1) cc.inv (by have := cc.len; omega)
    have w := woken_ok cc.inv
    refine ⟨⟨r2, a1.append a2⟩, w.inv, ?_, ?_⟩
    · have := w.len
      have := cc.len
      omega
    · rw [w.lp, cc.lp]
  · cases h
end
end BB
set_option linter.all false
/-! M9: the law accepts: lay, take_out, lessen. -/
namespace BB
open PySem (Str)
theorem filter_sorted {b : Bool} {p : Ord → Bool} : ∀ {l : List Ord}, Sorted b l → Sorted b (l.filter p)
  | [], _ => trivial
  | o :: t, h => by
    rw [List.filter_cons]
    split
    · exact ⟨fun x hx => h.1 x (List.mem_filter.mp hx).1, filter_sorted h.2⟩
    · exact filter_sorted h.2
theorem filter_ok {b : Bool} {p : Ord → Bool} {l : List Ord} (h : LineOk b l) : LineOk b (l.filter p) :=
  ⟨fun x hx => h.ok x (List.mem_filter.mp hx).1, fun x hx => h.side x (List.mem_filter.mp hx).1, filter_sorted h.srt⟩
theorem cn_filter (n : Str) (p : Ord → Bool) (l : List Ord) : cn n (l.filter p) ≤ cn n l := by
  unfold cn
  rw [List.countP_filter]
  exact List.countP_mono_left fun x _ h => by
    simp only [Bool.and_eq_true] at h
    exact h.1
theorem uniq {n : Str} : ∀ {l : List Ord} {x y : Ord}, cn n l ≤ 1 → x ∈ l → y ∈ l → x.name = n → y.name = n → x = y
  | o :: t, x, y, hc, hx, hy, h1, h2 => by
    rw [cn_cons] at hc
    by_cases ho : o.name = n
    · rw [if_pos ho] at hc
      have z : cn n t = 0 := by omega
      have no := cn_mem z
      have e : ∀ w, w ∈ o :: t → w.name = n → w = o := fun w hw hn => by
        rcases List.mem_cons.mp hw with e | hw
        · exact e
        · exact absurd hn (no w hw)
      rw [e x hx h1, e y hy h2]
    · rw [if_neg ho] at hc
      have e : ∀ w, w ∈ o :: t → w.name = n → w ∈ t := fun w hw hn => by
        rcases List.mem_cons.mp hw with e | hw
        · exact absurd (e ▸ hn) ho
        · exact hw
      exact uniq (by omega) (e x hx h1) (e y hy h2) h1 h2
theorem lessened_ok {o : Ord} (h : Ok o) {l : Int} (h1 : 1 ≤ l) (h2 : l ≤ o.left) : Ok (lessened o l) := by
  have a := h.s1
  have b := h.sl
  have m1 := min2_le1 o.shown l
  have m2 := min2_le2 o.shown l
  refine ⟨?_, m2, h.p0, fun e => ?_, fun e => ?_, h.nk, h.wk⟩
  · show 1 ≤ min2 o.shown l
    rcases min2_or o.shown l with e | e <;> omega
  · have := h.pl e
    show min2 o.shown l = l
    rcases min2_or o.shown l with e | e <;> omega
  · have := h.p16 e
    show l ≤ 16 * o.peak
    omega
theorem map_sorted {b : Bool} {f : Ord → Ord} (hf : ∀ o, (f o).price = o.price) : ∀ {l : List Ord}, Sorted b l → Sorted b (l.map f)
  | [], _ => trivial
  | o :: t, h => by
    refine ⟨fun x hx => ?_, map_sorted hf h.2⟩
    obtain ⟨y, hy, rfl⟩ := List.mem_map.mp hx
    rw [hf, hf]
    exact h.1 y hy
theorem cn_map (n : Str) {f : Ord → Ord} (hf : ∀ o, (f o).name = o.name) : ∀ l : List Ord, cn n (l.map f) = cn n l
  | [] => rfl
  | o :: t => by
    rw [List.map_cons, cn_cons, cn_cons, cn_map n hf t, hf]
section
variable {dk : Kd} {dord : Ord} {dtrig : Int} {cut : Bool} {F F' : Floor} {fs : List Fact} {run : Option Run}
theorem lay_acc {k : Kd} {o : Ord} {t : Int} (hF : FInv F) (hO : Ok o) (hz : F.known.length ≤ 300) (h : lay k o t F = some (fs, F')) :
    (∃ run', LSteps k o t (F.ls cut run) fs (F'.ls cut run')) ∧ FInv F' ∧ F'.known.length ≤ F.known.length + 1 ∧ F'.leap = F.leap := by
  unfold lay at h
  split at h
  · rename_i hc
    cases h
    have hn : cn o.name F.known = 0 := cn_zero fun x hx e => by
      have := hc.2.2
      unfold knows at this
      exact (List.any_eq_false.mp this x hx) (decide_eq_true e)
    obtain ⟨i1, i2⟩ := lay_inv (w := k) (t := t) hF hO hn
    have hk := len_known F
    obtain ⟨r2, a2⟩ := woken_acc (dk := k) (dord := o) (dtrig := t) (cut := cut) (run := run) i1 (by omega)
    have w := woken_ok i1
    refine ⟨⟨r2, .cons (.sleep (S := F.ls cut run) rfl rfl (by show F.asleep.length ≤ 500; omega)) a2⟩, w.inv, ?_, w.lp⟩
    have := w.len
    omega
  · cases h
theorem takeOut_acc {n : Str} (hF : FInv F) (hz : F.known.length ≤ 300) (h : takeOut n F = some (fs, F')) :
    (∃ run', LSteps dk dord dtrig (F.ls cut run) fs (F'.ls cut run')) ∧ FInv F' ∧ F'.known.length ≤ F.known.length ∧ F'.leap = F.leap ∧ ∃ o, find n F = some o ∧ fs = [.out n o.left] := by
  have hkl := len_known F
  unfold takeOut at h
  split at h
  · cases h
  · rename_i o ho
    cases h
    refine ⟨⟨run, .cons (.out (S := F.ls cut run) rfl rfl (by show F.buys.length ≤ 500; omega) (by show F.sells.length ≤ 500; omega) (by show F.asleep.length ≤ 500; omega)) (.nil _)⟩, ⟨filter_ok hF.b, filter_ok hF.s, fun x hx => hF.z x (List.mem_filter.mp hx).1, fun m => ?_⟩, ?_, rfl, o, ho, rfl⟩
    · refine Nat.le_trans ?_ (hF.cnt m)
      rw [cn_known, cn_known]
      have a := cn_filter m (fun o => !decide (o.name = n)) F.buys
      have b := cn_filter m (fun o => !decide (o.name = n)) F.sells
      have c := cn_filter m (fun o => !decide (o.name = n)) (F.asleep.map (·.ord))
      rw [List.filter_map] at c
      exact Nat.add_le_add (Nat.add_le_add a b) c
    · rw [len_known, len_known]
      exact Nat.add_le_add (Nat.add_le_add (List.length_filter_le _ _) (List.length_filter_le _ _)) (List.length_filter_le _ _)
theorem lessen_acc {n : Str} {v : Int} (hF : FInv F) (hz : F.known.length ≤ 300) (h : lessen n v F = some (fs, F')) :
    (∃ run', LSteps dk dord dtrig (F.ls cut run) fs (F'.ls cut run')) ∧ FInv F' ∧ F'.known.length ≤ F.known.length ∧ F'.leap = F.leap ∧ fs = [.less n v] := by
  have hkl := len_known F
  unfold lessen at h
  split at h
  · cases h
  · rename_i o ho
    split at h
    · rename_i hc
      cases h
      have hon : o.name = n := by
        have := List.find?_some (show F.known.find? (fun o => decide (o.name = n)) = some o from ho)
        exact of_decide_eq_true this
      have hom : o ∈ F.known := List.mem_of_find?_eq_some (show F.known.find? (fun o => decide (o.name = n)) = some o from ho)
      have same : ∀ x ∈ F.known, x.name = n → x = o := fun x hx hn => uniq (hF.cnt n) hx hom hn hon
      have mb : ∀ x ∈ F.buys, x ∈ F.known := fun x hx => List.mem_append_left _ (List.mem_append_left _ hx)
      have ms : ∀ x ∈ F.sells, x ∈ F.known := fun x hx => List.mem_append_left _ (List.mem_append_right _ hx)
      have mz : ∀ z ∈ F.asleep, z.ord ∈ F.known := fun z hz => List.mem_append_right _ (List.mem_map_of_mem hz)
      have ex : ∀ l : List Ord, (∀ x ∈ l, x ∈ F.known) → exchanged l (lessened o v) = l.map fun x => if x.name = n then lessened x v else x := fun l hl => by
        unfold exchanged
        refine List.map_congr_left fun x hx => ?_
        have e : (lessened o v).name = n := hon
        rw [e]
        by_cases c : x.name = n
        · rw [if_pos c, if_pos c, same x (hl x hx) c]
        · rw [if_neg c, if_neg c]
      have ez : (F.asleep.map fun s => if s.ord.name = n then { s with ord := lessened o v } else s) = F.asleep.map fun z => { z with ord := if z.ord.name = n then lessened z.ord v else z.ord } := by
        refine List.map_congr_left fun z hz => ?_
        by_cases c : z.ord.name = n
        · rw [if_pos c, if_pos c, same _ (mz z hz) c]
        · rw [if_neg c, if_neg c]
      rw [ex _ mb, ex _ ms, ez]
      have okf : ∀ x, x ∈ F.known → Ok x → Ok (if x.name = n then lessened x v else x) := fun x hx hk => by
        by_cases c : x.name = n
        · rw [if_pos c]
          rw [same x hx c] at hk ⊢
          exact lessened_ok hk hc.1 hc.2
        · rw [if_neg c]
          exact hk
      have np : ∀ x : Ord, (if x.name = n then lessened x v else x).price = x.price := fun x => by split <;> rfl
      have nn : ∀ x : Ord, (if x.name = n then lessened x v else x).name = x.name := fun x => by split <;> rfl
      have nb : ∀ x : Ord, (if x.name = n then lessened x v else x).buy = x.buy := fun x => by split <;> rfl
      have lo : ∀ (b : Bool) (l : List Ord), (∀ x ∈ l, x ∈ F.known) → LineOk b l → LineOk b (l.map fun x => if x.name = n then lessened x v else x) := fun b l hl h => by
        refine ⟨fun y hy => ?_, fun y hy => ?_, map_sorted np h.srt⟩
        · obtain ⟨x, hx, rfl⟩ := List.mem_map.mp hy
          exact okf x (hl x hx) (h.ok x hx)
        · obtain ⟨x, hx, rfl⟩ := List.mem_map.mp hy
          rw [nb]
          exact h.side x hx
      refine ⟨⟨run, .cons (.less (S := F.ls cut run) rfl rfl (by show F.buys.length ≤ 500; omega) (by show F.sells.length ≤ 500; omega) (by show F.asleep.length ≤ 500; omega)) (.nil _)⟩, ⟨lo _ _ mb hF.b, lo _ _ ms hF.s, fun y hy => ?_, fun m => ?_⟩, ?_, rfl, rfl⟩
      · obtain ⟨x, hx, rfl⟩ := List.mem_map.mp hy
        exact okf x.ord (mz x hx) (hF.z x hx)
      · refine Nat.le_trans ?_ (hF.cnt m)
        rw [cn_known, cn_known]
        have a := cn_map m nn F.buys
        have b := cn_map m nn F.sells
        have c := cn_map m nn (F.asleep.map (·.ord))
        rw [List.map_map] at c
        refine Nat.add_le_add (Nat.add_le_add (Nat.le_of_eq a) (Nat.le_of_eq b)) ?_
        show cn m ((F.asleep.map fun z => { z with ord := if z.ord.name = n then lessened z.ord v else z.ord }).map (·.ord)) ≤ _
        rw [List.map_map]
        exact Nat.le_of_eq c
      · rw [len_known, len_known]
        simp
    · cases h
end
end BB
set_option linter.all false
/-! M10: the law accepts the trades of a call, and the turn. -/
namespace BB
open PySem (Str)
theorem al_buy (p q : Int) : allows true p q = decide (q ≤ p) := by
  unfold allows ahead
  by_cases c : q ≤ p
  · rw [decide_eq_true c, if_pos rfl, decide_eq_false (by omega)]
    rfl
  · rw [decide_eq_false c, if_pos rfl, decide_eq_true (by omega)]
    rfl
theorem al_sell (p q : Int) : allows false p q = decide (p ≤ q) := by
  unfold allows ahead
  by_cases c : p ≤ q
  · rw [decide_eq_true c, if_neg Bool.false_ne_true, decide_eq_false (by omega)]
    rfl
  · rw [decide_eq_false c, if_neg Bool.false_ne_true, decide_eq_true (by omega)]
    rfl
theorem al_after {b : Bool} {x y p : Int} (h : After b x y) (ha : allows b y p = true) : allows b x p = true := by
  unfold After at h
  cases b
  · rw [al_sell] at ha ⊢
    have := of_decide_eq_true ha
    have h' : x ≤ y := h
    exact decide_eq_true (by omega)
  · rw [al_buy] at ha ⊢
    have := of_decide_eq_true ha
    have h' : y ≤ x := h
    exact decide_eq_true (by omega)
theorem wanted_none (b : Bool) (p : Int) : ∀ {l : List Ord}, (∀ x ∈ l, ¬ allows b x.price p = true) → wanted b p l = 0
  | [], _ => rfl
  | o :: t, h => by
    show (if allows b o.price p = true then o.left else 0) + wanted b p t = 0
    rw [if_neg (h o List.mem_cons_self), wanted_none b p fun x hx => h x (List.mem_cons_of_mem _ hx)]
    rfl
theorem wanted_head {b : Bool} {p : Int} {o : Ord} {t : List Ord} (h : LineOk b (o :: t)) (hw : 0 < wanted b p (o :: t)) : allows b o.price p = true := by
  cases c : allows b o.price p with
  | true => rfl
  | false =>
    exfalso
    have : wanted b p (o :: t) = 0 := wanted_none b p fun x hx ha => by
      rcases List.mem_cons.mp hx with rfl | hx
      · rw [c] at ha
        exact Bool.false_ne_true ha
      · have := al_after (h.srt.1 x hx) ha
        rw [c] at this
        exact Bool.false_ne_true this
    omega
theorem parts_cons (o : Ord) (t : List Ord) (v : Int) : partsOf (o :: t) v = min2 o.left v :: partsOf t (v - min2 o.left v) := rfl
theorem behind_cons (o : Ord) (t : List Ord) (v : Int) : lineBehind (o :: t) v = if min2 o.left v = 0 then o :: lineBehind t (v - min2 o.left v) else if min2 o.left v < o.left then fresh o (o.left - min2 o.left v) :: lineBehind t (v - min2 o.left v) else lineBehind t (v - min2 o.left v) := rfl
theorem behind_zero : ∀ {l : List Ord}, (∀ o ∈ l, Ok o) → lineBehind l 0 = l
  | [], _ => rfl
  | o :: t, h => by
    have hk := h o List.mem_cons_self
    have := hk.s1
    have := hk.sl
    have e : min2 o.left 0 = 0 := by unfold min2; split <;> omega
    rw [behind_cons, e, if_pos rfl, Int.sub_zero, behind_zero fun x hx => h x (List.mem_cons_of_mem _ hx)]
/-- a line whose head is lessened by a trade of a -/
def less1 (o : Ord) (t : List Ord) (a : Int) : List Ord := if a < o.left then fresh o (o.left - a) :: t else t
theorem behind_less {o : Ord} {t : List Ord} {v a : Int} (hk : Ok o) (ht : ∀ x ∈ t, Ok x) (ha : 0 < a) (h1 : a ≤ o.left) (h2 : a ≤ v) : lineBehind (less1 o t a) (v - a) = lineBehind (o :: t) v := by
  have m0 : min2 o.left v ≠ 0 := by rcases min2_or o.left v with e | e <;> omega
  rw [behind_cons, if_neg m0]
  unfold less1
  by_cases c : a < o.left
  · rw [if_pos c, behind_cons]
    have e1 : (fresh o (o.left - a)).left = o.left - a := rfl
    have e2 : min2 (o.left - a) (v - a) = min2 o.left v - a := by
      unfold min2
      split <;> split <;> omega
    rw [e1, e2]
    have e3 : v - a - (min2 o.left v - a) = v - min2 o.left v := by omega
    rw [e3]
    by_cases c2 : min2 o.left v - a = 0
    · have e4 : min2 o.left v = v := by rcases min2_or o.left v with e | e <;> omega
      rw [if_pos c2, if_pos (by omega)]
      have e5 : o.left - min2 o.left v = o.left - a := by omega
      rw [e5]
    · rw [if_neg c2]
      by_cases c3 : min2 o.left v < o.left
      · rw [if_pos c3, if_pos (by omega)]
        have e6 : o.left - a - (min2 o.left v - a) = o.left - min2 o.left v := by omega
        rw [e6]
        rfl
      · rw [if_neg c3, if_neg (by omega)]
  · rw [if_neg c]
    have e4 : min2 o.left v = o.left := by
      unfold min2
      rw [if_neg (by omega)]
    rw [e4, if_neg (by omega)]
    have e5 : a = o.left := by omega
    rw [e5]
theorem wanted_less {b : Bool} {p : Int} {o : Ord} {t : List Ord} {a : Int} (hal : allows b o.price p = true) : wanted b p (o :: t) - a ≤ wanted b p (less1 o t a) ∨ o.left < a := by
  by_cases hlt : o.left < a
  · exact .inr hlt
  · left
    unfold less1
    show (if allows b o.price p = true then o.left else 0) + wanted b p t - a ≤ _
    rw [if_pos hal]
    by_cases c : a < o.left
    · rw [if_pos c]
      show _ ≤ (if allows b (fresh o (o.left - a)).price p = true then o.left - a else 0) + wanted b p t
      rw [show (fresh o (o.left - a)).price = o.price from rfl, if_pos hal]
      omega
    · rw [if_neg c]
      omega
theorem less1_ok {b : Bool} {o : Ord} {t : List Ord} {a : Int} (h : LineOk b (o :: t)) (ha : 0 < a) : LineOk b (less1 o t a) := by
  unfold less1
  by_cases c : a < o.left
  · rw [if_pos c]
    refine ⟨fun y hy => ?_, fun y hy => ?_, h.srt.1, h.srt.2⟩
    · rcases List.mem_cons.mp hy with rfl | hy
      · exact fresh_ok h.head (by omega) (by omega)
      · exact h.ok y (List.mem_cons_of_mem _ hy)
    · rcases List.mem_cons.mp hy with rfl | hy
      · exact h.side o List.mem_cons_self
      · exact h.side y (List.mem_cons_of_mem _ hy)
  · rw [if_neg c]
    exact h.tail
theorem less1_len (o : Ord) (t : List Ord) (a : Int) : (less1 o t a).length ≤ (o :: t).length := by
  unfold less1
  split
  · exact Nat.le_refl _
  · exact Nat.le_succ _
theorem names_cons (o : Ord) (t : List Ord) (v : Int) : withNames (o :: t) (partsOf (o :: t) v) = (o.name, min2 o.left v) :: withNames t (partsOf t (v - min2 o.left v)) := rfl
theorem names_zero {l : List Ord} (h : ∀ o ∈ l, Ok o) : ∀ x ∈ withNames l (partsOf l 0), ¬ 0 < x.2 := fun x hx => by
  have hm : x.2 ∈ poured 0 (l.map fun o : Ord => o.left) := (List.of_mem_zip (show (x.1, x.2) ∈ _ from hx)).2
  have := poured_zero (l := l.map fun o : Ord => o.left) (fun y hy => Int.le_of_lt (left_pos h y hy)) x.2 hm
  omega
section
variable {dk : Kd} {dord : Ord} {dtrig : Int}
theorem deals_acc {p : Int} {G Hs : List (Str × Int)} {ts : List (Str × Str × Int)} (d : Deals G Hs ts) : ∀ (pre : List (Str × Int)) (B S0 : List Ord) (v : Int) (S : LS), G = pre ++ withNames B (partsOf B v) → (∀ x ∈ pre, ¬ 0 < x.2) → (v = 0 ∨ Hs = withNames S0 (partsOf S0 v)) → LineOk true B → LineOk false S0 → 0 ≤ v → v ≤ wanted true p B → v ≤ wanted false p S0 →
    S.buys = B → S.sells = S0 → S.flight = none → S.turn = some .opn → S.phase = .call → (0 < v → S.cut = false) → B.length ≤ 500 → S0.length ≤ 500 → ∃ cut', LSteps dk dord dtrig S (ts.map fun x => .trade x.1 x.2.1 p x.2.2) { S with buys := lineBehind B v, sells := lineBehind S0 v, last := if v = 0 then S.last else p, cut := cut' } := by
  have zero : ∀ {G Hs ts}, Deals G Hs ts → ∀ (pre : List (Str × Int)) (B S0 : List Ord) (S : LS), G = pre ++ withNames B (partsOf B 0) → (∀ x ∈ pre, ¬ 0 < x.2) → LineOk true B → LineOk false S0 → S.buys = B → S.sells = S0 →
      ∃ cut', LSteps dk dord dtrig S (ts.map fun x => .trade x.1 x.2.1 p x.2.2) { S with buys := lineBehind B 0, sells := lineBehind S0 0, last := if (0 : Int) = 0 then S.last else p, cut := cut' } := fun {G Hs ts} d pre B S0 S eG hp hB hS e1 e2 => by
    have hz : ts = [] := deals_zero d fun x hx => by
      rw [eG] at hx
      rcases List.mem_append.mp hx with h | h
      · exact hp x h
      · exact names_zero hB.ok x h
    refine ⟨S.cut, ?_⟩
    rw [hz, behind_zero hB.ok, behind_zero hS.ok, if_pos rfl, ← e1, ← e2]
    exact .nil S
  induction d with
  | nil Hs =>
    intro pre B S0 v S eG hp eH hB hS v0 w1 w2 e1 e2 e3 e4 e5 e6 zB zS
    by_cases hv : v = 0
    · subst hv
      exact zero (.nil Hs) pre B S0 S eG hp hB hS e1 e2
    · exfalso
      cases B with
      | nil =>
        have : wanted true p [] = 0 := rfl
        omega
      | cons o t =>
        rw [names_cons] at eG
        have := congrArg List.length eG
        simp at this
  | @next b g G Hs ts hg d ih =>
    intro pre B S0 v S eG hp eH hB hS v0 w1 w2 e1 e2 e3 e4 e5 e6 zB zS
    by_cases hv : v = 0
    · subst hv
      exact zero (.next hg d) pre B S0 S eG hp hB hS e1 e2
    · cases pre with
      | nil =>
        exfalso
        cases B with
        | nil =>
          have : wanted true p [] = 0 := rfl
          omega
        | cons o t =>
          rw [List.nil_append, names_cons] at eG
          have hk := hB.head
          have := hk.s1
          have := hk.sl
          have e := congrArg Prod.snd (List.cons.inj eG).1
          have e' : g = min2 o.left v := e
          rcases min2_or o.left v with q | q <;> omega
      | cons x pre =>
        exact ih pre B S0 v S (List.cons.inj eG).2 (fun y hy => hp y (List.mem_cons_of_mem _ hy)) eH hB hS v0 w1 w2 e1 e2 e3 e4 e5 e6 zB zS
  | @deal b s g h G Hs ts hg hh d ih =>
    intro pre B S0 v S eG hp eH hB hS v0 w1 w2 e1 e2 e3 e4 e5 e6 zB zS
    by_cases hv : v = 0
    · subst hv
      exact zero (.deal hg hh d) pre B S0 S eG hp hB hS e1 e2
    cases pre with
    | cons x pre =>
      exfalso
      have e := (List.cons.inj eG).1
      exact hp x List.mem_cons_self (by rw [← e]; exact hg)
    | nil =>
    cases B with
    | nil =>
      exfalso
      have : wanted true p [] = 0 := rfl
      omega
    | cons o tB =>
    cases S0 with
    | nil =>
      exfalso
      have : wanted false p [] = 0 := rfl
      omega
    | cons s0 tS =>
    have eH' := eH.resolve_left hv
    rw [List.nil_append, names_cons] at eG
    rw [names_cons] at eH'
    obtain ⟨g1, g2⟩ := List.cons.inj eG
    obtain ⟨h1, h2⟩ := List.cons.inj eH'
    cases g1
    cases h1
    subst g2 h2
    have kb := hB.head
    have ks := hS.head
    have b1 := kb.s1
    have b2 := kb.sl
    have s1 := ks.s1
    have s2 := ks.sl
    have al1 : allows true o.price p = true := wanted_head hB (by omega)
    have al2 : allows false s0.price p = true := wanted_head hS (by omega)
    obtain ⟨a, ea⟩ : ∃ a, a = min2 (min2 o.left v) (min2 s0.left v) := ⟨_, rfl⟩
    rw [← ea] at ih d ⊢
    have q1 := min2_le1 (min2 o.left v) (min2 s0.left v)
    have q2 := min2_le2 (min2 o.left v) (min2 s0.left v)
    have q3 := min2_le1 o.left v
    have q4 := min2_le2 o.left v
    have q5 := min2_le1 s0.left v
    have q6 := min2_le2 s0.left v
    have q7 := min2_or o.left v
    have q8 := min2_or s0.left v
    have q9 := min2_or (min2 o.left v) (min2 s0.left v)
    have a1 : 1 ≤ a := by omega
    have hst := LStep.called (dk := dk) (dord := dord) (dtrig := dtrig) (p := p) (a := a) e3 e4 e5 (e6 (by omega)) e1 e2 hB.ok hS.ok (hB.side o List.mem_cons_self) (hS.side s0 List.mem_cons_self) a1 (by omega) (by omega) al1 al2 zB zS
    have w3 := (wanted_less (a := a) (t := tB) al1).resolve_right (by omega)
    have w4 := (wanted_less (a := a) (t := tS) al2).resolve_right (by omega)
    obtain ⟨pre', ep, hp'⟩ : ∃ pre' : List (Str × Int), (o.name, min2 o.left v - a) :: withNames tB (partsOf tB (v - min2 o.left v)) = pre' ++ withNames (less1 o tB a) (partsOf (less1 o tB a) (v - a)) ∧ ∀ x ∈ pre', ¬ 0 < x.2 := by
      unfold less1
      by_cases c : a < o.left
      · refine ⟨[], ?_, by simp⟩
        rw [if_pos c, List.nil_append, names_cons]
        have z1 : min2 (fresh o (o.left - a)).left (v - a) = min2 o.left v - a := by
          show min2 (o.left - a) (v - a) = _
          unfold min2
          split <;> split <;> omega
        rw [z1]
        have z2 : v - a - (min2 o.left v - a) = v - min2 o.left v := by omega
        rw [z2]
        rfl
      · refine ⟨[(o.name, min2 o.left v - a)], ?_, ?_⟩
        · rw [if_neg c]
          have z2 : v - min2 o.left v = v - a := by omega
          rw [z2]
          rfl
        · intro x hx
          cases List.mem_singleton.mp hx
          show ¬ 0 < min2 o.left v - a
          omega
    have eH2 : v - a = 0 ∨ (if min2 s0.left v - a = 0 then withNames tS (partsOf tS (v - min2 s0.left v)) else (s0.name, min2 s0.left v - a) :: withNames tS (partsOf tS (v - min2 s0.left v))) = withNames (less1 s0 tS a) (partsOf (less1 s0 tS a) (v - a)) := by
      by_cases c0 : v - a = 0
      · exact .inl c0
      · right
        unfold less1
        by_cases c1 : min2 s0.left v - a = 0
        · rw [if_pos c1, if_neg (by omega)]
          have z2 : v - min2 s0.left v = v - a := by omega
          rw [z2]
        · rw [if_neg c1, if_pos (by omega), names_cons]
          have z1 : min2 (fresh s0 (s0.left - a)).left (v - a) = min2 s0.left v - a := by
            show min2 (s0.left - a) (v - a) = _
            unfold min2
            split <;> split <;> omega
          rw [z1]
          have z2 : v - a - (min2 s0.left v - a) = v - min2 s0.left v := by omega
          rw [z2]
          rfl
    obtain ⟨cut', z⟩ := ih pre' (less1 o tB a) (less1 s0 tS a) (v - a) { S with buys := less1 o tB a, sells := less1 s0 tS a, last := p, cut := decide (a < min2 o.left s0.left) } ep hp' eH2 (less1_ok hB (by omega)) (less1_ok hS (by omega)) (by omega) (by omega) (by omega) rfl rfl e3 e4 e5 (fun hva => decide_eq_false (by
      have q10 := min2_or o.left s0.left
      have q11 := min2_le1 o.left s0.left
      have q12 := min2_le2 o.left s0.left
      omega)) (Nat.le_trans (less1_len o tB a) zB) (Nat.le_trans (less1_len s0 tS a) zS)
    refine ⟨cut', ?_⟩
    rw [behind_less kb (fun x hx => hB.ok x (List.mem_cons_of_mem _ hx)) (by omega) (by omega) (by omega), behind_less ks (fun x hx => hS.ok x (List.mem_cons_of_mem _ hx)) (by omega) (by omega) (by omega)] at z
    rw [if_neg hv]
    have e7 : (if v - a = 0 then p else p) = p := by split <;> rfl
    have z' := LSteps.cons hst z
    rw [show (if v - a = 0 then ({ S with buys := less1 o tB a, sells := less1 s0 tS a, last := p, cut := decide (a < min2 o.left s0.left) } : LS).last else p) = p from e7] at z'
    exact z'
theorem turn_acc {w : Ph} {F F' : Floor} {fs : List Fact} {run : Option Run} (hF : FInv F) (hz : F.known.length ≤ 300) (h : TurnR w F fs F') :
    (∃ cut' run', LSteps dk dord dtrig { F.ls false run with turn := some w } fs (F'.ls cut' run')) ∧ FInv F' ∧ F'.known.length ≤ F.known.length ∧ F'.leap = F.leap := by
  obtain ⟨hld, cs, Fc, hc, rfl, rfl⟩ := h
  have key : ∀ (cut1 : Bool), FInv Fc → Fc.known.length ≤ F.known.length → Fc.leap = F.leap → LSteps dk dord dtrig { F.ls false run with turn := some w } cs { Fc.ls cut1 run with turn := some w } →
      (∃ cut' run', LSteps dk dord dtrig { F.ls false run with turn := some w } (cs ++ [.phase w] ++ (woken { Fc with phase := w }).1) ((woken { Fc with phase := w }).2.ls cut' run')) ∧ FInv (woken { Fc with phase := w }).2 ∧ (woken { Fc with phase := w }).2.known.length ≤ F.known.length ∧ (woken { Fc with phase := w }).2.leap = F.leap := fun cut1 i1 i2 i3 a1 => by
    have ip := phase_inv i1 w
    have e0 : ({ Fc with phase := w } : Floor).known.length = Fc.known.length := rfl
    obtain ⟨r2, a2⟩ := woken_acc (dk := dk) (dord := dord) (dtrig := dtrig) (cut := cut1) (run := run) ip (by omega)
    have wk := woken_ok ip
    refine ⟨⟨cut1, r2, (a1.append (.cons (.phaseT (S := { Fc.ls cut1 run with turn := some w }) rfl rfl rfl) (.nil _))).append a2⟩, wk.inv, ?_, ?_⟩
    · have := wk.len
      omega
    · rw [wk.lp]
      exact i3
  rcases hc with ⟨rfl, hcr⟩ | ⟨_, rfl, rfl⟩
  · obtain ⟨j1, _, j3, _, j5⟩ := calledR_inv hF hcr
    rcases hcr with ⟨rfl, rfl⟩ | ⟨p, t, hv, d, rfl, rfl⟩
    · exact key false j1 j3 j5 (.nil _)
    · have hph : F.phase = .call := by
        cases hp : F.phase with
        | call => rfl
        | opn => rw [hp] at hld; cases hld
        | halt => rw [hp] at hld; cases hld
      have hkl := len_known F
      have m1 := min2_le1 (wanted true p F.buys) (wanted false p F.sells)
      have m2 := min2_le2 (wanted true p F.buys) (wanted false p F.sells)
      obtain ⟨cut', z⟩ := deals_acc (dk := dk) (dord := dord) (dtrig := dtrig) d [] F.buys F.sells (volume F.buys F.sells p) { F.ls false run with turn := some .opn } rfl (by simp) (.inr rfl) hF.b hF.s (by omega) m1 m2 rfl rfl rfl rfl hph (fun _ => rfl) (by omega) (by omega)
      rw [if_neg (by omega)] at z
      exact key cut' j1 j3 j5 z
  · exact key false hF (Nat.le_refl _) rfl (.nil _)
end
end BB
set_option Elab.async false
set_option linter.all false
set_option maxRecDepth 100000
set_option maxHeartbeats 4000000
/-! C7: the law's state in the heap. -/
namespace BB
open PySem PySem.Spec PyProof.Rows L2
def tuV : Option Ph → V
  | none => .non
  | some w => .str w.s
def runV (r : Run) : RV := ⟨.str r.kd.s, .int r.steps, .int r.begun, .int r.base, .int r.could, some (.bl r.cr)⟩
def vS (lb ls la : Addr) (fv : V) (rv : Option RV) (S : LS) : SV := ⟨.ref lb, .ref ls, .ref la, .str S.phase.s, .int S.last, .int S.leap, fv, .bl S.halts, tuV S.turn, .bl S.cut, rv⟩
/-- the dict at d stands for S -/
structure StIn (H : Hp) (d lb ls la : Addr) (fv : V) (rv : Option RV) (S : LS) : Prop where
  o : H d = some (.dK (sk (vS lb ls la fv rv S)))
  b : LinAt H lb S.buys
  s : LinAt H ls S.sells
  a : SlsAt H la S.asleep
  f : RestAt H fv S.flight
  r : ∀ r, S.run = some r → rv = some (runV r)
def StAt (H : Hp) (d : Addr) (S : LS) : Prop := ∃ lb ls la fv rv, StIn H d lb ls la fv rv S
theorem But.ktD {H H' : Hp} {d : Addr} {kvs : List (Key × V)} (k : But d H H') (h : H d = some (.dK kvs)) : Kt H H' := fun a xs e =>
  k a _ e (fun q => by rw [q, h] at e; cases e)
section
variable {H H' : Hp} {d lb ls la : Addr} {fv : V} {rv : Option RV} {S : LS}
theorem LstAt.butD {l : Addr} {xs : List (List V)} {kvs : List (Key × V)} (k : But d H H') (ho : H d = some (.dK kvs)) (h : LstAt H l xs) : LstAt H' l xs := by
  obtain ⟨vs, e, t⟩ := h
  exact ⟨vs, k l _ e (fun q => by rw [q, ho] at e; cases e), t.kt (k.ktD ho)⟩
theorem SlsAt.butD {l : Addr} {xs : List Slp} {kvs : List (Key × V)} (k : But d H H') (ho : H d = some (.dK kvs)) (h : SlsAt H l xs) : SlsAt H' l xs := by
  obtain ⟨vs, e, t⟩ := h
  exact ⟨vs, k l _ e (fun q => by rw [q, ho] at e; cases e), t.kt (k.ktD ho)⟩
theorem StIn.same (s : Same H H') (h : StIn H d lb ls la fv rv S) : StIn H' d lb ls la fv rv S := ⟨s _ _ h.o, h.b.same s, h.s.same s, h.a.same s, h.f.kt (Kt.same s), h.r⟩
/-- the dict written anew -/
theorem StIn.set (h : StIn H d lb ls la fv rv S) {lb' ls' la' : Addr} {fv' : V} {rv' : Option RV} {S' : LS} (hb : LinAt H lb' S'.buys) (hs : LinAt H ls' S'.sells) (ha : SlsAt H la' S'.asleep) (hf : RestAt H fv' S'.flight) (hr : ∀ r, S'.run = some r → rv' = some (runV r)) :
    StIn (upd H d (.dK (sk (vS lb' ls' la' fv' rv' S')))) d lb' ls' la' fv' rv' S' :=
  ⟨upd_same, hb.butD But.upd h.o, hs.butD But.upd h.o, ha.butD But.upd h.o, hf.kt (But.upd.ktD h.o), hr⟩
theorem StIn.line (h : StIn H d lb ls la fv rv S) (b : Bool) : LinAt H (if b = true then lb else ls) (S.line b) := by
  cases b
  · exact h.s
  · exact h.b
/-- state['buy' or 'sell'] -/
theorem StIn.getLine (h : StIn H d lb ls la fv rv S) (b : Bool) : DGet H d (.str (sd b)) (some (.ref (if b = true then lb else ls))) := by
  cases b
  · exact gk_sell h.o
  · exact gk_buy h.o
theorem StIn.putLine (h : StIn H d lb ls la fv rv S) (b : Bool) (l : Addr) : DPut H d (.str (sd b)) (.ref l) (upd H d (.dK (sk (vS (if b = true then l else lb) (if b = true then ls else l) la fv rv (S.setLine b (S.line b)))))) := by
  rw [LS.self]
  cases b
  · exact pk_sell (.ref l) h.o
  · exact pk_buy (.ref l) h.o
end
end BB
set_option Elab.async false
set_option linter.all false
set_option maxRecDepth 100000
set_option maxHeartbeats 4000000
/-! LF: the law's could, begin. -/
namespace BB
open PySem PySem.Spec PyProof.Rows L2
local macro_rules | `(tactic| walk_at "rd") => `(tactic| repeat (first | refine ⟨_, rfl, ?_⟩ | refine ⟨_, _, rfl, rfl, ?_⟩ | refine ⟨_, _, rfl, ?_⟩ | refine ⟨rfl, ?_⟩ | refine ⟨_, _, _, _, rfl, rfl, SqT.of (by assumption), rfl, ?_⟩ | refine ⟨Nat.le_of_ble_eq_true rfl, ?_⟩))
section
variable {P : Program} {w : World} {K : PySem.W.Frag} {mg : Str → Option Value} {base : Heap}
theorem ok_law_could (T : Txt K mg) : Gd P w K mg base CX0 (4) "_law_could" ["state", "order", "line"] (fun vs H Q E => ∃ (d a l lb ls la : Addr) (fv : V) (rv : Option RV) (S : LS) (r : RV) (bs : Int) (o : Ord) (os : List Ord) (b : Bool), vs = [.ref d, .ref a, .ref l] ∧ H d = some (.dK (sk (vS lb ls la fv rv S))) ∧ rv = some r ∧ r.ba = .int bs ∧ H a = some (.tup o.v) ∧ LinAt H l os ∧ LineOk b os ∧ 0 ≤ o.left ∧ os.length ≤ 500 ∧ ∀ H', Same H H' → Q (.int (BB.could o os bs S.leap)) H') := by
  have g_law_allowed := ok_law_allowed (P := P) (w := w) (base := base) T
  have g_law_joined := ok_law_joined (P := P) (w := w) (base := base) T
  have g_law_anew := ok_law_anew (P := P) (w := w) (base := base) T
  refine gd0 T.d_law_could T.g_law_could sc_law_could (fun _ _ _ _ _ _ us hl => match us, hl with | [_, _, _], _ => rfl) (fun vs H Q E h => ?_) (fun cdv A outer s H vs Q E hr h => ?_)
  · obtain ⟨d, a, l, lb, ls, la, fv, rv, S, r, bs, o, os, b, rfl, _⟩ := h
    rfl
  · obtain ⟨d, a, l, lb, ls, la, fv, rv, S, r, bs, o, os, b, rfl, hd, hrv, hba, ha, hL, hok, h0, hz, q⟩ := h
    have hu := hu_of hr
    refine ⟨_, pss_cons (ps_set (i := 3) sc_law_could.nd rfl (Or.inl rfl) (pe_ix ix_tup (pv 1) pe_int (fun _ _ => rfl)))
      (pss_cons (ps_while PassesOwn.never (PW.pt (pw_and (pt_cmpR op_gt (pv 3) pe_int (nomark _)) (pw_and (pt_cmpR (op_neD hr.units) (pv 2) (pe_lst pa_nil) (nomark _)) (pw_and1 (pt_val (cg g_law_allowed (hr.mono (by decide)) (pa_cons (pv 1) (pa_cons (pe_ix ix_tup (pe_ix ix_list (pv 2) pe_int (fun _ _ => rfl)) pe_int (fun _ _ => rfl)) pa_nil)))))))) (pss_cons (ps_set (i := 4) sc_law_could.nd rfl (Or.inl rfl) (pe_ix ix_list (pv 2) pe_int (fun _ _ => rfl)))
      (pss_cons (ps_set (i := 2) sc_law_could.nd rfl (Or.inl rfl) (pe_slice sl_list (pv 2) (po_some pe_int) po_none))
      (pss_one (ps_if (pt_cmpR op_ne (pe_ix ix_tup (pv 4) pe_int (fun _ _ => rfl)) (pe_ix ix_tup (pv 1) pe_int (fun _ _ => rfl)) (nomark _)) (pss_cons (ps_if (pt_cmpR op_gt (pe_callB call_abs (by rfl) T.b_abs (by decide +kernel) (pa_cons (pe_op op_sub (pe_ix ix_tup (pv 4) pe_int (fun _ _ => rfl)) (pe_dget hu (pv 0) pe_str (fun _ _ => rfl))) pa_nil)) (pe_dget hu (pv 0) pe_str (fun _ _ => rfl)) (nomark _)) (pss_one (ps_ret (pe_op op_sub (pe_ix ix_tup (pv 1) pe_int (fun _ _ => rfl)) (pv 3)))) pss_nil)
      (pss_cons (ps_set (i := 5) sc_law_could.nd rfl (Or.inl rfl) (pe_callB (call_min2 rfl) (by rfl) T.b_min (by decide +kernel) (pa_cons (pv 3) (pa_cons (pe_ix ix_tup (pv 4) pe_int (fun _ _ => rfl)) pa_nil))))
      (pss_cons (ps_set (i := 3) sc_law_could.nd rfl (Or.inl rfl) (pe_op op_sub (pv 3) (pv 5)))
      (pss_one (ps_if (PW.pt (pw_and (pt_cmpR op_eq (pv 5) (pe_ix ix_tup (pv 4) pe_int (fun _ _ => rfl)) (nomark _)) (pw_and1 (pt_cmpR op_lt (pv 5) (pe_ix ix_tup (pv 4) pe_int (fun _ _ => rfl)) (nomark _))))) (pss_one (ps_set (i := 2) sc_law_could.nd rfl (Or.inl rfl) (cg g_law_joined (hr.mono (by decide)) (pa_cons (pv 2) (pa_cons (cg g_law_anew (hr.mono (by decide)) (pa_cons (pv 4) (pa_cons (pe_op op_sub (pe_ix ix_tup (pv 4) pe_int (fun _ _ => rfl)) (pv 5)) pa_nil))) pa_nil))))) pss_nil))))) pss_nil)))))
      (pss_one (ps_ret (pe_op op_sub (pe_ix ix_tup (pv 1) pe_int (fun _ _ => rfl)) (pv 3))))), ?_⟩
    walk_at "rd"
    obtain ⟨T, hT⟩ : ∃ T, T = (BB.met o os bs S.leap).left := ⟨_, rfl⟩
    have hcd : BB.could o os bs S.leap = o.left - T := by rw [hT]; rfl
    rw [hcd] at q
    refine ⟨fun μ σ H1 => ∃ (l' : Addr) (x : Int) (line : List Ord) (v4 v5 : Option V), σ = [some (.ref d), some (.ref a), some (.ref l'), some (.int x), v4, v5] ∧ Same H H1 ∧ LinAt H1 l' line ∧ LineOk b line ∧ 0 ≤ x ∧ line.length ≤ 500 ∧ line.length + x.toNat < μ ∧ (metF o bs S.leap μ line x).left = T,
      ⟨_, l, o.left, os, none, none, rfl, Same.refl _, hL, hok, h0, hz, Nat.lt_succ_self _, hT.symm⟩, ?_⟩
    rintro μ σ H1 ⟨l', x, line, v4, v5, rfl, sH, hLine, hlok, hx0, hlz, hfuel, hM⟩
    obtain ⟨n, rfl⟩ : ∃ n, μ = n + 1 := ⟨μ - 1, by omega⟩
    have ha1 := sH _ _ ha
    walk_at "rd"
    have stop : ∀ (H2 : Hp), Same H1 H2 → x = T → Q (.int (o.left - x)) H2 := fun H2 s2 e => by
      rw [e]
      exact q H2 (sH.trans s2)
    by_cases hx : 0 < x
    case neg =>
      refine iteN (decide_eq_false hx) (iteN rfl ?_)
      walk_at "rd"
      refine stop _ (Same.refl _) ?_
      have e0 : x = 0 := by omega
      rw [e0, metF_zero] at hM
      rw [e0]
      exact hM
    refine iteY (decide_eq_true hx) ?_
    obtain ⟨lv, hlv, hlT⟩ := id hLine
    walk_at "rd"
    intro e he
    have u := same_upd (o := .lst []) he
    refine ne_lnil (hLine.same u) upd_same (ords_fl hlok.ok) ?_
    walk_at "rd"
    cases line with
    | nil =>
      refine iteN rfl (iteN rfl ?_)
      have ha2 := u _ _ ha1
      walk_at "rd"
      exact stop _ u hM
    | cons h t =>
    refine iteY rfl ?_
    obtain ⟨hv, tv, rfl, ⟨hb, rfl, hhb⟩, htT⟩ := Tups.head hlT
    have hhb1 := u _ _ hhb
    have hlv1 := u _ _ hlv
    have ha2 := u _ _ ha1
    walk_at "rd"
    refine ⟨l', _, _, _, rfl, rfl, SqL.of hlv1, at0, ?_⟩
    walk_at "rd"
    refine ⟨a, o, h.price, rfl, ha2, ?_⟩
    walk_at "rd"
    cases hal : BB.allows o.buy o.price h.price with
    | false =>
      refine iteN rfl ?_
      walk_at "rd"
      refine stop _ u ?_
      have e1 : metF o bs S.leap (n + 1) (h :: t) x = ⟨[], h :: t, x, false⟩ := by
        unfold metF
        rw [if_neg fun z => by rw [hal] at z; exact Bool.false_ne_true z.2]
      rw [e1] at hM
      exact hM
    | true =>
    refine iteY rfl ⟨_, fun σ' H' z => z, ?_⟩
    walk_at "rd"
    refine ⟨l', _, _, _, rfl, rfl, SqL.of hlv1, at0, ?_⟩
    walk_at "rd"
    refine ⟨l', _, rfl, SqL.of hlv1, fun p1 hp1 => ?_⟩
    have u1 := same_upd (o := .lst (cutV (V.ref hb :: tv) (some 1) none)) hp1
    have uu := u.trans u1
    have hhb2 := uu _ _ hhb
    have ha3 := uu _ _ ha1
    have hd3 := uu _ _ (sH _ _ hd)
    have hT1 : LinAt (upd (upd H1 e (.lst [])) p1 (.lst (cutV (V.ref hb :: tv) (some 1) none))) p1 t := ⟨_, by rw [upd_same, sub1], htT.kt (Kt.same uu)⟩
    generalize (upd (upd H1 e (.lst [])) p1 (.lst (cutV (V.ref hb :: tv) (some 1) none))) = H3 at *
    walk_at "rd"
    have sH3 := sH.trans uu
    have hcond : 0 < x ∧ BB.allows o.buy o.price h.price = true := ⟨hx, hal⟩
    simp only [List.length_cons] at hfuel hlz
    by_cases hw : h.who = o.who
    · refine iteN (by simp [hw]) ?_
      have e1 : metF o bs S.leap (n + 1) (h :: t) x = (metF o bs S.leap n t x).pre (.shun h.name h.left) := by
        conv => lhs; unfold metF
        rw [if_pos hcond, if_pos hw]
      rw [e1] at hM
      exact ⟨n, Nat.lt_succ_self _, p1, x, t, _, _, rfl, sH3, hT1, hlok.tail, hx0, by omega, by omega, hM⟩
    refine iteY (by simp [hw]) ?_
    walk_at "rd"
    refine ⟨d, _, rfl, by rw [hrv] at hd3; exact gk_base hd3 rfl, ?_⟩
    rw [hba]
    walk_at "rd"
    refine ⟨d, _, rfl, gk_leap hd3, ?_⟩
    walk_at "rd"
    by_cases hj : S.leap < abs1 (h.price - bs)
    · refine iteY (decide_eq_true hj) ?_
      have e1 : metF o bs S.leap (n + 1) (h :: t) x = ⟨[], h :: t, x, true⟩ := by
        unfold metF
        rw [if_pos hcond, if_neg hw, if_pos hj]
      rw [e1] at hM
      walk_at "rd"
      exact stop _ uu hM
    refine iteN (decide_eq_false hj) ?_
    have e1 : metF o bs S.leap (n + 1) (h :: t) x = (metF o bs S.leap n (BB.served (h :: t) (min2 x h.shown)) (x - min2 x h.shown)).pre (.trade h.name h.price (min2 x h.shown)) := by
      conv => lhs; unfold metF
      rw [if_pos hcond, if_neg hw, if_neg hj]
    rw [e1] at hM
    walk_at "rd"
    have hk := hlok.head
    have g1 := hk.s1
    have g2 := hk.sl
    have m1 := min2_le1 x h.shown
    have m2 := min2_le2 x h.shown
    have m3 := min2_or x h.shown
    have plain : (metF o bs S.leap n t (x - min2 x h.shown)).left = T → t.length + (x - min2 x h.shown).toNat < n → ∃ m', m' < n + 1 ∧ ∃ (l' : Addr) (x' : Int) (line : List Ord) (v4 v5 : Option V), [some (V.ref d), some (.ref a), some (.ref p1), some (V.int (x - (if h.shown < x then h.shown else x))), some (.ref hb), some (V.int (if h.shown < x then h.shown else x))] = [some (.ref d), some (.ref a), some (.ref l'), some (.int x'), v4, v5] ∧ Same H H3 ∧ LinAt H3 l' line ∧ LineOk b line ∧ 0 ≤ x' ∧ line.length ≤ 500 ∧ line.length + x'.toNat < m' ∧ (metF o bs S.leap m' line x').left = T := fun e1 e2 =>
      ⟨n, Nat.lt_succ_self _, p1, x - min2 x h.shown, t, _, _, rfl, sH3, hT1, hlok.tail, by omega, by omega, e2, e1⟩
    by_cases c1 : min2 x h.shown = h.shown
    · refine iteY (decide_eq_true (congrArg V.int c1)) ?_
      walk_at "rd"
      have ex : (if h.shown < x then h.shown else x) = h.shown := c1
      have hlen2 := served_len h t (min2 x h.shown)
      have es : BB.served (h :: t) (min2 x h.shown) = if h.shown < h.left then BB.joined t (BB.fresh h (h.left - h.shown)) else t := by
        rw [c1, served_cons]
        by_cases c2 : h.shown < h.left
        · have hr2 : BB.renews h h.shown = true := by
            unfold BB.renews
            rw [decide_eq_true rfl, decide_eq_true c2]
            rfl
          have hf2 : BB.filled h h.shown = some (BB.fresh h (h.left - h.shown)) := by
            unfold BB.filled
            rw [if_neg (by omega), if_pos hr2]
          rw [hf2, if_pos c2]
          dsimp only
          rw [if_pos hr2]
        · have hf2 : BB.filled h h.shown = none := by
            unfold BB.filled
            rw [if_pos (by omega)]
          rw [hf2, if_neg c2]
      rw [es] at hM
      by_cases c2 : h.shown < h.left
      · rw [if_pos c2] at hM
        refine iteY (decide_eq_true (by rw [ex]; exact c2)) ?_
        walk_at "rd"
        refine ⟨hb, h, _, rfl, hhb2, hk.p0, fun c H4 s4 hc hcx => ?_⟩
        walk_at "rd"
        refine ⟨p1, c, t, _, rfl, hT1.same s4, hcx, by omega, fun p2 H5 s5 hp2 hj5 => ?_⟩
        have ok2 := fresh_ok hk (l := h.left - h.shown) (by omega) (by omega)
        have hjl := joined_len (BB.fresh h (h.left - h.shown)) t
        rw [ex] at hj5
        refine ⟨n, Nat.lt_succ_self _, p2, x - min2 x h.shown, _, _, _, rfl, (sH3.trans s4).trans s5, hj5, joined_ok hlok.tail ok2 (hlok.side h List.mem_cons_self), by omega, by omega, ?_, hM⟩
        clear es ex hlen2 hM plain stop
        omega
      · rw [if_neg c2] at hM
        refine iteN (decide_eq_false (by rw [ex]; exact c2)) ?_
        have hb2 : t.length + (x - min2 x h.shown).toNat < n := by
          clear es ex hlen2 hM plain stop
          omega
        exact plain hM hb2
    · refine iteN (decide_eq_false (fun z => c1 (V.int.inj z))) (iteN rfl ?_)
      have e0 : x - min2 x h.shown = 0 := by omega
      refine plain ?_ (by omega)
      rw [e0, metF_zero] at hM ⊢
      exact hM
end
end BB
set_option Elab.async false
set_option linter.all false
set_option maxRecDepth 100000
set_option maxHeartbeats 4000000
/-! LG: the law's begin. -/
namespace BB
open PySem PySem.Spec PyProof.Rows L2
local macro_rules | `(tactic| walk_at "rd") => `(tactic| repeat (first | refine ⟨_, rfl, ?_⟩ | refine ⟨_, _, rfl, rfl, ?_⟩ | refine ⟨_, _, rfl, ?_⟩ | refine ⟨rfl, ?_⟩ | refine ⟨_, _, _, _, rfl, rfl, SqT.of (by assumption), rfl, ?_⟩ | refine ⟨Nat.le_of_ble_eq_true rfl, ?_⟩))
section
variable {P : Program} {w : World} {K : PySem.W.Frag} {mg : Str → Option Value} {base : Heap}
theorem ok_law_begin (T : Txt K mg) : Gd P w K mg base CX0 (5) "_law_begin" ["state", "word", "order"] (fun vs H Q E => ∃ (d a lb ls la : Addr) (fv : V) (rv : Option RV) (S : LS) (k : Kd) (o : Ord), vs = [.ref d, .str k.s, .ref a] ∧ StIn H d lb ls la fv rv S ∧ H a = some (.tup o.v) ∧ LineOk (!o.buy) (S.line (!o.buy)) ∧ 0 ≤ o.left ∧ (S.line (!o.buy)).length ≤ 500 ∧ ∀ rv' H', But d H H' → StIn H' d lb ls la (.ref a) rv' (S.begin k o) → Q .non H') := by
  have g_law_allowed := ok_law_allowed (P := P) (w := w) (base := base) T
  have g_law_could := ok_law_could (P := P) (w := w) (base := base) T
  refine gd0 T.d_law_begin T.g_law_begin sc_law_begin (fun _ _ _ _ _ _ us hl => match us, hl with | [_, _, _], _ => rfl) (fun vs H Q E h => ?_) (fun cdv A outer s H vs Q E hr h => ?_)
  · obtain ⟨d, a, lb, ls, la, fv, rv, S, k, o, rfl, _⟩ := h
    rfl
  · obtain ⟨d, a, lb, ls, la, fv, rv, S, k, o, rfl, hS, ha, hok, h0, hz, q⟩ := h
    have hu := hu_of hr
    refine ⟨_, pss_cons (ps_set (i := 3) sc_law_begin.nd rfl (Or.inl rfl) (pe_dget hu (pv 0) (pe_ifExp (pt_cmpR op_eq (pe_ix ix_tup (pv 2) pe_int (fun _ _ => rfl)) pe_str (nomark _)) pe_str pe_str) (fun _ _ => rfl)))
      (pss_cons (ps_expr (pe_bm PySem.F.plainAttrs_dict PySem.F.slot_dict_update PySem.F.type_dict_update mt_update (pv 0) (pa_cons (pe_disp (pps_cons pe_str (pv 2) (pps_cons pe_str (pv 1) (pps_cons pe_str pe_int (pps_cons pe_str (pe_ix ix_tup (pv 2) pe_int (fun _ _ => rfl)) (pps_cons pe_str (pe_dget hu (pv 0) pe_str (fun _ _ => rfl)) (pps_cons pe_str pe_int pps_nil)))))) (by rfl) (by rfl) (fun z => by cases z) (by decide)) pa_nil)))
      (pss_cons (ps_dput hu (pv 0) pe_str (pe_and (pe_cmpR op_eq (pe_dget hu (pv 0) pe_str (fun _ _ => rfl)) pe_str (nomark _)) (pe_and (pe_cmpR (op_neD hr.units) (pv 3) (pe_lst pa_nil) (nomark _)) (pe_one (cg g_law_allowed (hr.mono (by decide)) (pa_cons (pv 2) (pa_cons (pe_ix ix_tup (pe_ix ix_list (pv 3) pe_int (fun _ _ => rfl)) pe_int (fun _ _ => rfl)) pa_nil)))))) rfl)
      (pss_one (ps_if (pt_cmpR op_eq (pe_dget hu (pv 0) pe_str (fun _ _ => rfl)) pe_str (nomark _)) (pss_one (ps_dput hu (pv 0) pe_str (cg g_law_could (hr.mono (by decide)) (pa_cons (pv 0) (pa_cons (pv 2) (pa_cons (pv 3) pa_nil)))) rfl)) pss_nil)))), ?_⟩
    obtain ⟨l, hl⟩ : ∃ l, l = (if (!o.buy) = true then lb else ls) := ⟨_, rfl⟩
    have hget := hS.getLine (!o.buy)
    have hL := hS.line (!o.buy)
    rw [← hl] at hget hL
    refine vyS (R := fun σ' H' => σ' = [some (.ref d), some (.str k.s), some (.ref a), some (.ref l)] ∧ H' = H) (fun nx q' => ?_) (fun σ' H' r => ?_)
    · walk_at "rd"
      refine iteB (sd_buy o.buy) ?_
      cases hb : o.buy with
      | true =>
        rw [hb] at hget
        refine iteY rfl ?_
        walk_at "rd"
        refine ⟨d, _, rfl, hget, ?_⟩
        exact q' _ _ ⟨rfl, rfl⟩
      | false =>
        rw [hb] at hget
        refine iteN rfl ?_
        walk_at "rd"
        refine ⟨d, _, rfl, hget, ?_⟩
        exact q' _ _ ⟨rfl, rfl⟩
    obtain ⟨rfl, rfl⟩ := r
    walk_at "rd"
    refine ⟨.inr (.inr (.inl ⟨rfl, .inl ⟨_, hS.o⟩⟩)), ?_⟩
    walk_at "rd"
    intro m hm
    have u := same_upd (o := .dK []) hm
    have ha1 := u _ _ ha
    have hd1 := u _ _ hS.o
    walk_at "rd"
    refine ⟨d, _, rfl, gk_last hd1, ?_⟩
    walk_at "rd"
    refine ⟨upd_same, mB (.ref a) (.str k.s) (.int o.left) (.int S.last), rfl, Nat.le_of_ble_eq_true rfl, ?_⟩
    have em : mergeK [] (mB (.ref a) (.str k.s) (.int o.left) (.int S.last)) = mB (.ref a) (.str k.s) (.int o.left) (.int S.last) := by kernel_rfl
    rw [em]
    have hdm : d ≠ m := fun e => by rw [← e, hS.o] at hm; cases hm
    obtain ⟨cr, eB⟩ := mergeB (vS lb ls la fv rv S) (.ref a) (.str k.s) (.int o.left) (.int S.last)
    walk_at "rd"
    refine ⟨d, m, _, _, rfl, rfl, hdm, by rw [upd_ne hdm]; exact hd1, upd_same, Nat.le_trans (m := 2000) (by have := sk_len (vS lb ls la fv rv S); show _ + 6 ≤ _; omega) (by decide), ?_⟩
    rw [eB]
    obtain ⟨v4, ev4⟩ : ∃ v4, v4 = ({ vS lb ls la fv rv S with fl := .ref a, r := some ⟨.str k.s, .int 0, .int o.left, .int S.last, .int 0, cr⟩ } : SV) := ⟨_, rfl⟩
    rw [← ev4]
    obtain ⟨H4, eH4⟩ : ∃ H4, H4 = upd (upd (upd H' m (.dK [])) m (.dK (mB (.ref a) (.str k.s) (.int o.left) (.int S.last)))) d (.dK (sk v4)) := ⟨_, rfl⟩
    rw [← eH4]
    have hd4 : H4 d = some (.dK (sk v4)) := by rw [eH4]; exact upd_same
    have b4 : But d H' H4 := fun x ob e n => by
      rw [eH4, upd_ne n, upd_ne (ne_of_none e hm), upd_ne (ne_of_none e hm)]
      exact e
    have k4 := b4.ktD hS.o
    have hL4 := hL.butD b4 hS.o
    have ha4 := k4 _ _ ha
    have hr4 : v4.r = some ⟨.str k.s, .int 0, .int o.left, .int S.last, .int 0, cr⟩ := by rw [ev4]
    have hph4 : v4.ph = .str S.phase.s := by rw [ev4]; rfl
    obtain ⟨cx, ecx⟩ : ∃ cx, cx = (decide (S.phase = .opn) && crosses o (S.line (!o.buy))) := ⟨_, rfl⟩
    dsimp only
    refine vyS (R := fun σ' H5 => σ' = [some (.ref d), some (.str k.s), some (.ref a), some (.ref l)] ∧ But d H' H5 ∧ H5 d = some (.dK (sk { v4 with r := some ⟨.str k.s, .int 0, .int o.left, .int S.last, .int 0, some (.bl cx)⟩ }))) (fun nx q' => ?_) (fun σ' H5 r => ?_)
    · walk_at "rd"
      have fin : ∀ (H5 : Hp) (c : Bool), Same H4 H5 → c = cx → ∃ a_1 H6, (V.ref d) = .ref a_1 ∧ DPut H5 a_1 (.str "crosses") (.bl c) H6 ∧ nx [some (.ref d), some (.str k.s), some (.ref a), some (.ref l)] H6 := fun H5 c s5 ec => by
        refine ⟨d, _, rfl, pk_crosses (.bl c) (s5 _ _ hd4) hr4, ?_⟩
        refine q' _ _ ⟨rfl, (b4.trans (But.of s5)).trans But.upd, ?_⟩
        rw [ec]
        exact upd_same
      refine ⟨d, _, rfl, gk_phase hd4, ?_⟩
      rw [hph4]
      walk_at "rd"
      refine iteB (ph_opn S.phase) ?_
      by_cases cp : S.phase = .opn
      · refine iteY (decide_eq_true cp) ?_
        walk_at "rd"
        intro e he
        have u := same_upd (o := .lst []) he
        refine ne_lnil (hL4.same u) upd_same (ords_fl hok.ok) ?_
        rw [isEmpty_map]
        obtain ⟨lv, hlv, hlT⟩ := id hL4
        walk_at "rd"
        cases hli : S.line (!o.buy) with
        | nil =>
          refine iteN rfl ?_
          walk_at "rd"
          exact fin _ false u (by rw [ecx, hli]; simp [crosses])
        | cons h t =>
          rw [hli] at hlT
          obtain ⟨hv, tv, rfl, ⟨hb, rfl, hhb⟩, htT⟩ := Tups.head hlT
          have hhb1 := u _ _ hhb
          have hlv1 := u _ _ hlv
          have ha5 := u _ _ ha4
          refine iteY rfl ?_
          walk_at "rd"
          refine ⟨l, _, _, _, rfl, rfl, SqL.of hlv1, at0, ?_⟩
          walk_at "rd"
          refine ⟨a, o, h.price, rfl, ha5, ?_⟩
          walk_at "rd"
          exact fin _ (BB.allows o.buy o.price h.price) u (by rw [ecx, hli, decide_eq_true cp]; rfl)
      · refine iteN (decide_eq_false cp) ?_
        walk_at "rd"
        exact fin _ _ (Same.refl _) (by rw [ecx, decide_eq_false cp]; rfl)
    obtain ⟨rfl, b5, h5⟩ := r
    obtain ⟨v5, ev5⟩ : ∃ v5, v5 = ({ v4 with r := some ⟨.str k.s, .int 0, .int o.left, .int S.last, .int 0, some (.bl cx)⟩ } : SV) := ⟨_, rfl⟩
    rw [← ev5] at h5
    have k5 := b5.ktD hS.o
    have hph5 : v5.ph = .str S.phase.s := by rw [ev5, ev4]; rfl
    have eS : S.begin k o = { S with flight := some o, run := some ⟨k, 0, o.left, S.last, if S.phase = .opn then BB.could o (S.line (!o.buy)) S.last S.leap else 0, cx⟩ } := by rw [ecx]; rfl
    walk_at "rd"
    refine ⟨d, _, rfl, gk_phase h5, ?_⟩
    rw [hph5]
    walk_at "rd"
    refine iteB (ph_opn S.phase) ?_
    by_cases cp : S.phase = .opn
    · refine iteY (decide_eq_true cp) ?_
      walk_at "rd"
      have ev6 : v5 = vS lb ls la (.ref a) (some ⟨.str k.s, .int 0, .int o.left, .int S.last, .int 0, some (.bl cx)⟩) S := by rw [ev5, ev4]; rfl
      refine ⟨d, a, l, lb, ls, la, .ref a, _, S, ⟨.str k.s, .int 0, .int o.left, .int S.last, .int 0, some (.bl cx)⟩, S.last, o, S.line (!o.buy), !o.buy, rfl, by rw [← ev6]; exact h5, rfl, rfl, k5 _ _ ha, hL.butD b5 hS.o, hok, h0, hz, fun H6 s6 => ?_⟩
      walk_at "rd"
      refine ⟨d, _, rfl, pk_could (.int (BB.could o (S.line (!o.buy)) S.last S.leap)) (s6 _ _ h5) (by rw [ev6]; rfl), ?_⟩
      have b6 := b5.trans (But.of s6)
      refine q (some (runV ⟨k, 0, o.left, S.last, BB.could o (S.line (!o.buy)) S.last S.leap, cx⟩)) _ (b6.trans But.upd) ?_
      rw [eS, if_pos cp, ev6]
      have hb := hS.b.butD b6 hS.o
      have hs := hS.s.butD b6 hS.o
      have ha := hS.a.butD b6 hS.o
      refine ⟨upd_same, hb.butD But.upd (s6 _ _ h5), hs.butD But.upd (s6 _ _ h5), ha.butD But.upd (s6 _ _ h5), ⟨a, rfl, ?_⟩, fun r hr => ?_⟩
      · exact (But.ktD But.upd (s6 _ _ h5)) _ _ (s6 _ _ (k5 _ _ (by assumption)))
      · cases hr
        rfl
    · refine iteN (decide_eq_false cp) ?_
      have ev6 : v5 = vS lb ls la (.ref a) (some (runV ⟨k, 0, o.left, S.last, 0, cx⟩)) S := by rw [ev5, ev4]; rfl
      refine q (some (runV ⟨k, 0, o.left, S.last, 0, cx⟩)) _ b5 ?_
      rw [eS, if_neg cp]
      refine ⟨by rw [h5, ev6]; rfl, hS.b.butD b5 hS.o, hS.s.butD b5 hS.o, hS.a.butD b5 hS.o, ⟨a, rfl, k5 _ _ ha⟩, fun r hr => ?_⟩
      cases hr
      rfl
end
end BB
set_option Elab.async false
set_option linter.all false
set_option maxRecDepth 100000
set_option maxHeartbeats 4000000
/-! LH: the law's ended. -/
namespace BB
open PySem PySem.Spec PyProof.Rows L2
local macro_rules | `(tactic| walk_at "rd") => `(tactic| repeat (first | refine ⟨_, rfl, ?_⟩ | refine ⟨_, _, rfl, rfl, ?_⟩ | refine ⟨_, _, rfl, ?_⟩ | refine ⟨rfl, ?_⟩ | refine ⟨_, _, _, _, rfl, rfl, SqT.of (by assumption), rfl, ?_⟩ | refine ⟨Nat.le_of_ble_eq_true rfl, ?_⟩))
def restS (b : Bool) : Str := if b = true then "rest" else "gone"
theorem restS_rest (b : Bool) : decide (V.str (restS b) = V.str "rest") = b := by cases b <;> decide +kernel
theorem restS_gone (b : Bool) : decide (V.str (restS b) = V.str "gone") = !b := by cases b <;> decide +kernel
theorem runV_w (r : Run) : (runV r).w = .str r.kd.s := rfl
theorem SV.ha_self {v : SV} {b : Bool} (h : v.ha = .bl b) : { v with ha := .bl b } = v := by
  obtain ⟨_, _, _, _, _, _, _, ha, _, _, _⟩ := v
  cases h
  rfl
section
variable {P : Program} {w : World} {K : PySem.W.Frag} {mg : Str → Option Value} {base : Heap}
theorem ok_law_ended (T : Txt K mg) : Gd P w K mg base CX0 (2) "_law_ended" ["state", "fact", "order", "line"] (fun vs H Q E => ∃ (d f a l : Addr) (v : SV) (S : LS) (r : Run) (o : Ord) (rest b : Bool) (n : Str) (x : Int), vs = [.ref d, .ref f, .ref a, .ref l] ∧ H d = some (.dK (sk v)) ∧ v.r = some (runV r) ∧ v.ph = .str S.phase.s ∧ v.le = .int S.leap ∧ v.ha = .bl S.halts ∧ H f = some (.tup [.str (restS rest), .str n, .int x]) ∧ H a = some (.tup o.v) ∧ LinAt H l (S.line (!o.buy)) ∧ (∀ x ∈ S.line (!o.buy), Ok x) ∧ LEnd S r o rest b ∧ ∀ H', But d H H' → H' d = some (.dK (sk { v with ha := .bl b })) → Q (.bl true) H') := by
  have g_law_allowed := ok_law_allowed (P := P) (w := w) (base := base) T
  refine gd0 T.d_law_ended T.g_law_ended sc_law_ended (fun _ _ _ _ _ _ us hl => match us, hl with | [_, _, _, _], _ => rfl) (fun vs H Q E h => ?_) (fun cdv A outer s H vs Q E hr h => ?_)
  · obtain ⟨d, f, a, l, v, S, r, o, rest, b, n, x, rfl, _⟩ := h
    rfl
  · obtain ⟨d, f, a, l, v, S, r, o, rest, b, n, x, rfl, hd, hv, hph, hle, hha, hf, ha, hL, hok, hE, q⟩ := h
    have hu := hu_of hr
    refine ⟨_, pss_cons (ps_if (pt_cmpR op_eq (pe_dget hu (pv 0) pe_str (fun _ _ => rfl)) pe_str (nomark _)) (pss_one (ps_ret (pe_and (pe_cmpR op_eq (pe_dget hu (pv 0) pe_str (fun _ _ => rfl)) pe_int (nomark _)) (pe_one (pe_cmpR op_eq (pe_dget hu (pv 0) pe_str (fun _ _ => rfl)) (pe_cmpR op_eq (pe_ix ix_tup (pv 1) pe_int (fun _ _ => rfl)) pe_str (nomark _)) (nomark _)))))) pss_nil)
      (pss_cons (ps_if (pt_cmpR op_eq (pe_dget hu (pv 0) pe_str (fun _ _ => rfl)) pe_str (nomark _)) (pss_one (ps_ret (pe_and (pe_cmpR op_eq (pe_dget hu (pv 0) pe_str (fun _ _ => rfl)) pe_int (nomark _)) (pe_and (pe_cmpR op_eq (pe_ix ix_tup (pv 1) pe_int (fun _ _ => rfl)) pe_str (nomark _)) (pe_one (pe_cmpR op_lt (pe_dget hu (pv 0) pe_str (fun _ _ => rfl)) (pe_dget hu (pv 0) pe_str (fun _ _ => rfl)) (nomark _))))))) pss_nil)
      (pss_cons (ps_if (pt_cmpR op_ne (pe_cmpR op_eq (pe_dget hu (pv 0) pe_str (fun _ _ => rfl)) pe_str (nomark _)) (pe_cmpR op_eq (pe_ix ix_tup (pv 1) pe_int (fun _ _ => rfl)) pe_str (nomark _)) (nomark _)) (pss_one (ps_ret pe_bl)) pss_nil)
      (pss_cons (ps_if (PW.pt (pw_or (pt_cmpR op_ne (pe_dget hu (pv 0) pe_str (fun _ _ => rfl)) pe_str (nomark _)) (pw_or (pt_cmpR (op_eqD hr.units) (pv 3) (pe_lst pa_nil) (nomark _)) (pw_or1 (pt_not (pt_val (cg g_law_allowed (hr.mono (by decide)) (pa_cons (pv 2) (pa_cons (pe_ix ix_tup (pe_ix ix_list (pv 3) pe_int (fun _ _ => rfl)) pe_int (fun _ _ => rfl)) pa_nil))))))))) (pss_one (ps_ret pe_bl)) pss_nil)
      (pss_cons (ps_dput hu (pv 0) pe_str pe_bl rfl)
      (pss_one (ps_ret (pe_and (pe_cmpR op_ne (pe_ix ix_tup (pe_ix ix_list (pv 3) pe_int (fun _ _ => rfl)) pe_int (fun _ _ => rfl)) (pe_ix ix_tup (pv 2) pe_int (fun _ _ => rfl)) (nomark _)) (pe_one (pe_cmpR op_gt (pe_callB call_abs (by rfl) T.b_abs (by decide +kernel) (pa_cons (pe_op op_sub (pe_ix ix_tup (pe_ix ix_list (pv 3) pe_int (fun _ _ => rfl)) pe_int (fun _ _ => rfl)) (pe_dget hu (pv 0) pe_str (fun _ _ => rfl))) pa_nil)) (pe_dget hu (pv 0) pe_str (fun _ _ => rfl)) (nomark _)))))))))), ?_⟩
    have hr2 : v.r = some (runV r) := hv
    walk_at "rd"
    refine ⟨d, _, rfl, gk_word hd hr2, ?_⟩
    walk_at "rd"
    refine iteB (kd_qui r.kd) ?_
    have self : ∀ H', But d H H' → H' = H → H' d = some (.dK (sk { v with ha := .bl S.halts })) := fun H' _ e => by rw [e, SV.ha_self hha]; exact hd
    cases hE with
    | quiet hk hs hc =>
      refine iteY (decide_eq_true hk) ?_
      walk_at "rd"
      refine ⟨d, _, rfl, gk_steps hd hr2, ?_⟩
      walk_at "rd"
      refine iteY (decide_eq_true (congrArg V.int hs)) ?_
      walk_at "rd"
      refine ⟨d, _, rfl, gk_crosses hd hr2 rfl, ?_⟩
      walk_at "rd"
      have e : decide (V.bl r.cr = V.bl (decide (V.str (restS rest) = V.str "gone"))) = true := by rw [restS_gone, hc, decide_eq_true rfl]
      show Q (.bl (decide (V.bl r.cr = V.bl (decide (V.str (restS rest) = V.str "gone"))))) H
      rw [e]
      exact q H (But.refl d H) (self H (But.refl d H) rfl)
    | whole hk hs hrest hc =>
      refine iteN (decide_eq_false (by rw [hk]; intro z; cases z)) ?_
      walk_at "rd"
      refine ⟨d, _, rfl, gk_word hd hr2, ?_⟩
      walk_at "rd"
      refine iteB (kd_who r.kd) (iteY (decide_eq_true hk) ?_)
      walk_at "rd"
      refine ⟨d, _, rfl, gk_steps hd hr2, ?_⟩
      walk_at "rd"
      refine iteY (decide_eq_true (congrArg V.int hs)) ?_
      walk_at "rd"
      refine iteY (by rw [restS_gone, hrest]; rfl) ?_
      walk_at "rd"
      refine ⟨d, _, rfl, gk_could hd hr2, ?_⟩
      walk_at "rd"
      refine ⟨d, _, rfl, gk_begun hd hr2, ?_⟩
      walk_at "rd"
      show Q (.bl (decide (r.could < r.begun))) H
      rw [decide_eq_true hc]
      exact q H (But.refl d H) (self H (But.refl d H) rfl)
    | plain hk hc =>
      have hk2 : r.kd ≠ .quiet ∧ r.kd ≠ .whole ∧ decide (r.kd = .limit) = rest := by
        rcases hk with ⟨e, z⟩ | ⟨e, z⟩ <;> rw [e, z] <;> exact ⟨(by intro q; cases q), (by intro q; cases q), rfl⟩
      refine iteN (decide_eq_false hk2.1) ?_
      walk_at "rd"
      refine ⟨d, _, rfl, gk_word hd hr2, ?_⟩
      walk_at "rd"
      refine iteB (kd_who r.kd) (iteN (decide_eq_false hk2.2.1) ?_)
      walk_at "rd"
      refine ⟨d, _, rfl, gk_word hd hr2, ?_⟩
      walk_at "rd"
      refine iteN (by rw [runV_w, kd_lim, restS_rest, hk2.2.2, decide_eq_true rfl]; rfl) ?_
      walk_at "rd"
      refine ⟨d, _, rfl, gk_phase hd, ?_⟩
      rw [hph]
      walk_at "rd"
      by_cases cp : S.phase = .opn
      case neg =>
        refine iteY (by rw [ph_opn, decide_eq_false cp]; rfl) ?_
        walk_at "rd"
        exact q H (But.refl d H) (self H (But.refl d H) rfl)
      have hcr := hc.resolve_left (fun z => z cp)
      refine iteN (by rw [ph_opn, decide_eq_true cp]; rfl) ?_
      walk_at "rd"
      intro e he
      have u := same_upd (o := .lst []) he
      refine eq_lnil (hL.same u) upd_same (ords_fl hok) ?_
      rw [isEmpty_map]
      obtain ⟨lv, hlv, hlT⟩ := id hL
      walk_at "rd"
      have fin : ∀ H', Same H H' → Q (.bl true) H' := fun H' s => q H' (But.of s) (by rw [SV.ha_self hha]; exact s _ _ hd)
      cases hli : S.line (!o.buy) with
      | nil =>
        refine iteY rfl ?_
        walk_at "rd"
        exact fin _ u
      | cons h t =>
        rw [hli] at hlT hcr
        obtain ⟨hv, tv, rfl, ⟨hb, rfl, hhb⟩, htT⟩ := Tups.head hlT
        have hhb1 := u _ _ hhb
        have hlv1 := u _ _ hlv
        have ha1 := u _ _ ha
        have hcr : BB.allows o.buy o.price h.price = false := hcr
        refine iteN rfl ?_
        walk_at "rd"
        refine ⟨l, _, _, _, rfl, rfl, SqL.of hlv1, at0, ?_⟩
        walk_at "rd"
        refine ⟨a, o, h.price, rfl, ha1, ?_⟩
        rw [hcr]
        walk_at "rd"
        refine iteY rfl ?_
        walk_at "rd"
        exact fin _ u
    | @halt h t hk hp hli hal hw hj =>
      have hk2 : r.kd ≠ .quiet ∧ r.kd ≠ .whole ∧ decide (r.kd = .limit) = rest := by
        rcases hk with ⟨e, z⟩ | ⟨e, z⟩ <;> rw [e, z] <;> exact ⟨(by intro q; cases q), (by intro q; cases q), rfl⟩
      refine iteN (decide_eq_false hk2.1) ?_
      walk_at "rd"
      refine ⟨d, _, rfl, gk_word hd hr2, ?_⟩
      walk_at "rd"
      refine iteB (kd_who r.kd) (iteN (decide_eq_false hk2.2.1) ?_)
      walk_at "rd"
      refine ⟨d, _, rfl, gk_word hd hr2, ?_⟩
      walk_at "rd"
      refine iteN (by rw [runV_w, kd_lim, restS_rest, hk2.2.2, decide_eq_true rfl]; rfl) ?_
      walk_at "rd"
      refine ⟨d, _, rfl, gk_phase hd, ?_⟩
      rw [hph]
      walk_at "rd"
      refine iteN (by rw [ph_opn, decide_eq_true hp]; rfl) ?_
      walk_at "rd"
      intro e he
      have u := same_upd (o := .lst []) he
      refine eq_lnil (hL.same u) upd_same (ords_fl hok) ?_
      rw [isEmpty_map]
      obtain ⟨lv, hlv, hlT⟩ := id hL
      rw [hli] at hlT
      obtain ⟨hv, tv, rfl, ⟨hb, rfl, hhb⟩, htT⟩ := Tups.head hlT
      have hhb1 := u _ _ hhb
      have hlv1 := u _ _ hlv
      have ha1 := u _ _ ha
      have hd1 := u _ _ hd
      walk_at "rd"
      rw [hli]
      refine iteN rfl ?_
      walk_at "rd"
      refine ⟨l, _, _, _, rfl, rfl, SqL.of hlv1, at0, ?_⟩
      walk_at "rd"
      refine ⟨a, o, h.price, rfl, ha1, ?_⟩
      rw [hal]
      walk_at "rd"
      refine ⟨d, _, rfl, pk_halts (.bl true) hd1, ?_⟩
      have hdl : l ≠ d := fun z => by rw [z, hd] at hlv; cases hlv
      have k2 : Kt (upd H e (.lst [])) (upd (upd H e (.lst [])) d (.dK (sk { v with ha := .bl true }))) := But.ktD But.upd hd1
      have hlv2 : (upd (upd H e (.lst [])) d (.dK (sk { v with ha := .bl true }))) l = some (.lst (V.ref hb :: tv)) := by rw [upd_ne hdl]; exact hlv1
      have hhb2 := k2 _ _ hhb1
      have ha2 := k2 _ _ ha1
      have hd2 : (upd (upd H e (.lst [])) d (.dK (sk { v with ha := .bl true }))) d = some (.dK (sk { v with ha := .bl true })) := upd_same
      have bb : But d H (upd (upd H e (.lst [])) d (.dK (sk { v with ha := .bl true }))) := (But.of u).trans But.upd
      generalize (upd (upd H e (.lst [])) d (.dK (sk { v with ha := .bl true }))) = H2 at *
      walk_at "rd"
      refine ⟨l, _, _, _, rfl, rfl, SqL.of hlv2, at0, ?_⟩
      walk_at "rd"
      refine iteY (by simp [hw]) ?_
      walk_at "rd"
      refine ⟨l, _, _, _, rfl, rfl, SqL.of hlv2, at0, ?_⟩
      walk_at "rd"
      refine ⟨d, _, rfl, gk_base hd2 hr2, ?_⟩
      walk_at "rd"
      refine ⟨d, _, rfl, gk_leap hd2, ?_⟩
      rw [show ({ v with ha := .bl true } : SV).le = .int S.leap from hle]
      walk_at "rd"
      show Q (.bl (decide (S.leap < abs1 (h.price - r.base)))) H2
      rw [decide_eq_true hj]
      exact q H2 bb hd2
end
end BB
set_option Elab.async false
set_option linter.all false
set_option maxRecDepth 100000
set_option maxHeartbeats 4000000
/-! C8: the law's state beside a list of one's own; what out and less do. -/
namespace BB
open PySem PySem.Spec PyProof.Rows L2
section
variable {H H' : Hp} {d lb ls la A : Addr} {fv : V} {rv : Option RV} {S : LS}
theorem StIn.free (h : StIn H d lb ls la fv rv S) (hA : H A = none) : lb ≠ A ∧ ls ≠ A ∧ la ≠ A ∧ d ≠ A := by
  obtain ⟨o, ⟨_, h1, _⟩, ⟨_, h2, _⟩, ⟨_, h3, _⟩, _, _⟩ := h
  refine ⟨fun e => ?_, fun e => ?_, fun e => ?_, fun e => ?_⟩
  · rw [e, hA] at h1; cases h1
  · rw [e, hA] at h2; cases h2
  · rw [e, hA] at h3; cases h3
  · rw [e, hA] at o; cases o
theorem StIn.put {vs ws : List V} (h : StIn H d lb ls la fv rv S) (hA : H A = some (.lst vs)) (n1 : lb ≠ A) (n2 : ls ≠ A) (n3 : la ≠ A) : StIn (upd H A (.lst ws)) d lb ls la fv rv S := by
  have k : Kt H (upd H A (.lst ws)) := Kt.upd fun ys e => by rw [hA] at e; cases e
  obtain ⟨o, ⟨bv, b1, b2⟩, ⟨sv, s1, s2⟩, ⟨av, a1, a2⟩, f, r⟩ := h
  refine ⟨by rw [upd_ne (fun e => by rw [← e, o] at hA; cases hA)]; exact o, ⟨bv, by rw [upd_ne n1]; exact b1, b2.kt k⟩, ⟨sv, by rw [upd_ne n2]; exact s1, s2.kt k⟩, ⟨av, by rw [upd_ne n3]; exact a1, a2.kt k⟩, f.kt k, r⟩
/-- state[side] = l -/
theorem StIn.putL (h : StIn H d lb ls la fv rv S) (b : Bool) {l : Addr} {os : List Ord} (hl : LinAt H l os) :
    ∃ H', DPut H d (.str (sd b)) (.ref l) H' ∧ But d H H' ∧ StIn H' d (if b = true then l else lb) (if b = true then ls else l) la fv rv (S.setLine b os) := by
  cases b
  · exact ⟨_, pk_sell (.ref l) h.o, But.upd, h.set (S' := S.setLine false os) h.b hl h.a h.f h.r⟩
  · exact ⟨_, pk_buy (.ref l) h.o, But.upd, h.set (S' := S.setLine true os) hl h.s h.a h.f h.r⟩
theorem StIn.putA (h : StIn H d lb ls la fv rv S) {l : Addr} {zs : List Slp} (hl : SlsAt H l zs) :
    ∃ H', DPut H d (.str "asleep") (.ref l) H' ∧ But d H H' ∧ StIn H' d lb ls l fv rv { S with asleep := zs } :=
  ⟨_, pk_asleep (.ref l) h.o, But.upd, h.set (S' := { S with asleep := zs }) h.b h.s hl h.f h.r⟩
theorem StIn.putFN (h : StIn H d lb ls la fv rv S) :
    ∃ H', DPut H d (.str "flight") .non H' ∧ But d H H' ∧ StIn H' d lb ls la .non rv { S with flight := none } :=
  ⟨_, pk_flight .non h.o, But.upd, h.set (S' := { S with flight := none }) h.b h.s h.a rfl h.r⟩
theorem StIn.putF (h : StIn H d lb ls la fv rv S) {a : Addr} {o : Ord} (ha : H a = some (.tup o.v)) :
    ∃ H', DPut H d (.str "flight") (.ref a) H' ∧ But d H H' ∧ StIn H' d lb ls la (.ref a) rv { S with flight := some o } :=
  ⟨_, pk_flight (.ref a) h.o, But.upd, h.set (S' := { S with flight := some o }) h.b h.s h.a ⟨a, rfl, ha⟩ h.r⟩
theorem StIn.putLast (h : StIn H d lb ls la fv rv S) (x : Int) :
    ∃ H', DPut H d (.str "last") (.int x) H' ∧ But d H H' ∧ StIn H' d lb ls la fv rv { S with last := x } :=
  ⟨_, pk_last (.int x) h.o, But.upd, h.set (S' := { S with last := x }) h.b h.s h.a h.f h.r⟩
theorem StIn.putPhase (h : StIn H d lb ls la fv rv S) (w : Ph) :
    ∃ H', DPut H d (.str "phase") (.str w.s) H' ∧ But d H H' ∧ StIn H' d lb ls la fv rv { S with phase := w } :=
  ⟨_, pk_phase (.str w.s) h.o, But.upd, h.set (S' := { S with phase := w }) h.b h.s h.a h.f h.r⟩
theorem StIn.putHalts (h : StIn H d lb ls la fv rv S) (x : Bool) :
    ∃ H', DPut H d (.str "halts") (.bl x) H' ∧ But d H H' ∧ StIn H' d lb ls la fv rv { S with halts := x } :=
  ⟨_, pk_halts (.bl x) h.o, But.upd, h.set (S' := { S with halts := x }) h.b h.s h.a h.f h.r⟩
theorem StIn.putTurn (h : StIn H d lb ls la fv rv S) (w : Option Ph) :
    ∃ H', DPut H d (.str "turn") (tuV w) H' ∧ But d H H' ∧ StIn H' d lb ls la fv rv { S with turn := w } :=
  ⟨_, pk_turn (tuV w) h.o, But.upd, h.set (S' := { S with turn := w }) h.b h.s h.a h.f h.r⟩
theorem StIn.putCut (h : StIn H d lb ls la fv rv S) (x : Bool) :
    ∃ H', DPut H d (.str "cut") (.bl x) H' ∧ But d H H' ∧ StIn H' d lb ls la fv rv { S with cut := x } :=
  ⟨_, pk_cut (.bl x) h.o, But.upd, h.set (S' := { S with cut := x }) h.b h.s h.a h.f h.r⟩
theorem StIn.putSteps {r : Run} (h : StIn H d lb ls la fv (some (runV r)) S) (x : Int) :
    ∃ H', DPut H d (.str "steps") (.int x) H' ∧ But d H H' ∧ StIn H' d lb ls la fv (some (runV { r with steps := x })) { S with run := some { r with steps := x } } :=
  ⟨_, pk_steps (.int x) h.o rfl, But.upd, h.set (S' := { S with run := some { r with steps := x } }) h.b h.s h.a h.f (fun r' e => by cases e; rfl)⟩
theorem But.freeD {kvs : List (Key × V)} {l : Addr} (k : But d H H') (h : H d = some (.dK kvs)) (n : H' l = none) (hp : l ≠ d) : H l = none := by
  cases q : H l with
  | none => rfl
  | some o =>
    rw [k l o q hp] at n
    cases n
end
theorem filter_tt {α : Type} (l : List α) : l.filter (fun _ => true) = l := by simp
def putL : Fact → List Ord → List Ord
  | .out n _, l => unnamed n l
  | .less n x, l => l.map fun o => if o.name = n then lessened o x else o
  | _, l => l
def putZ : Fact → List Slp → List Slp
  | .out n _, l => l.filter fun s => !decide (s.ord.name = n)
  | .less n x, l => l.map fun z => { z with ord := if z.ord.name = n then lessened z.ord x else z.ord }
  | _, l => l
def LS.put (S : LS) (f : Fact) : LS := { S with buys := putL f S.buys, sells := putL f S.sells, asleep := putZ f S.asleep }
def outS (b : Bool) : Str := if b = true then "less" else "out"
theorem outS_less (b : Bool) : decide (V.str (outS b) = V.str "less") = b := by cases b <;> decide +kernel
/-- out and less -/
def outFact (b : Bool) (n : Str) (x : Int) : Fact := if b = true then .less n x else .out n x
theorem outFact_v (b : Bool) (n : Str) (x : Int) : (outFact b n x).v = [.str (outS b), .str n, .int x] := by cases b <;> rfl
def keepZ (b : Bool) (n : Str) (z : Slp) : Bool := b || !decide (z.ord.name = n)
def newZ (n : Str) (x : Int) (z : Slp) : Slp := { z with ord := if z.ord.name = n then lessened z.ord x else z.ord }
theorem putZ_out (b : Bool) (n : Str) (x : Int) (l : List Slp) : (l.filter (keepZ b n)).map (newZ n x) = putZ (outFact b n x) l := by
  cases b with
  | true =>
    have : keepZ true n = fun _ => true := rfl
    rw [this, filter_tt]
    rfl
  | false =>
    show List.map (newZ n x) (l.filter fun z => !decide (z.ord.name = n)) = l.filter fun z => !decide (z.ord.name = n)
    refine (List.map_congr_left fun z hz => ?_).trans (List.map_id _)
    have := (List.mem_filter.mp hz).2
    have h : ¬ z.ord.name = n := by simpa using this
    unfold newZ
    rw [if_neg h]
    rfl
end BB
set_option Elab.async false
set_option linter.all false
set_option maxRecDepth 100000
set_option maxHeartbeats 4000000
/-! LI: the law's put_otherwise. -/
namespace BB
open PySem PySem.Spec PyProof.Rows L2
local macro_rules | `(tactic| walk_at "rd") => `(tactic| repeat (first | refine ⟨_, rfl, ?_⟩ | refine ⟨_, _, rfl, rfl, ?_⟩ | refine ⟨_, _, rfl, ?_⟩ | refine ⟨rfl, ?_⟩ | refine ⟨_, _, _, _, rfl, rfl, SqT.of (by assumption), rfl, ?_⟩ | refine ⟨Nat.le_of_ble_eq_true rfl, ?_⟩))
def LS.putTo (S : LS) (f : Fact) : Nat → LS
  | 0 => S
  | 1 => S.setLine true (putL f (S.line true))
  | _ => (S.setLine true (putL f (S.line true))).setLine false (putL f (S.line false))
section
variable {P : Program} {w : World} {K : PySem.W.Frag} {mg : Str → Option Value} {base : Heap}
theorem ok_law_put_otherwise (T : Txt K mg) : Gd P w K mg base CX0 (2) "_law_put_otherwise" ["state", "fact"] (fun vs H Q E => ∃ (d f lb ls la : Addr) (fv : V) (rv : Option RV) (S : LS) (b : Bool) (n : Str) (x : Int), vs = [.ref d, .ref f] ∧ StIn H d lb ls la fv rv S ∧ H f = some (.tup [.str (outS b), .str n, .int x]) ∧ S.buys.length ≤ 500 ∧ S.sells.length ≤ 500 ∧ S.asleep.length ≤ 500 ∧ ∀ H', But d H H' → StAt H' d (S.put (outFact b n x)) → Q (.bl true) H') := by
  have g_law_lessened := ok_law_lessened (P := P) (w := w) (base := base) T
  refine gd0 T.d_law_put_otherwise T.g_law_put_otherwise sc_law_put_otherwise (fun _ _ _ _ _ _ us hl => match us, hl with | [_, _], _ => rfl) (fun vs H Q E h => ?_) (fun cdv A outer s H vs Q E hr h => ?_)
  · obtain ⟨d, f, lb, ls, la, fv, rv, S, b, n, x, rfl, _⟩ := h
    rfl
  · obtain ⟨d, f, lb, ls, la, fv, rv, S, b, n, x, rfl, hS, hf, z1, z2, z3, q⟩ := h
    have hu := hu_of hr
    refine ⟨_, pss_cons (ps_for PassesOwn.never rfl (pi_list (pe_lst (pa_cons pe_str (pa_cons pe_str pa_nil)))) (pg_name (i := 2) sc_law_put_otherwise.nd rfl (Or.inl rfl))
        (pss_one (ps_if (pt_cmpR op_eq (pe_ix ix_tup (pv 1) pe_int (fun _ _ => rfl)) pe_str (nomark _)) (pss_one (ps_dput hu (pv 0) (pv 2) (pe_lc (own := [("one", 7)]) (g := gName 7) (by rfl) sc_law_put_otherwise.nd (pi_list (pe_dget hu (pv 0) (pv 2) (fun _ _ => rfl))) (blkOk_by (own := [("one", 7)]) (by kernel_rfl)) (fun _ _ _ _ _ => pg_name (i := 7) sc_law_put_otherwise.nd rfl (Or.inl rfl)) (fun _ _ _ _ _ => pts_nil) (fun _ _ _ _ _ => (cg g_law_lessened (hr.mono (by decide)) (pa_cons (pv 7) (pa_cons (pv 1) pa_nil))))) rfl)) (pss_one (ps_dput hu (pv 0) (pv 2) (pe_lc (own := [("one", 7)]) (g := gName 7) (by rfl) sc_law_put_otherwise.nd (pi_list (pe_dget hu (pv 0) (pv 2) (fun _ _ => rfl))) (blkOk_by (own := [("one", 7)]) (by kernel_rfl)) (fun _ _ _ _ _ => pg_name (i := 7) sc_law_put_otherwise.nd rfl (Or.inl rfl)) (fun _ _ _ _ _ => pts_one (pt_cmpR op_ne (pe_ix (r := rIxT K) ix_tup (pv 7) pe_int (fun _ _ => rfl)) (pe_ix (r := rIxT K) ix_tup (pv 1) pe_int (fun _ _ => rfl)) (nomark _))) (fun _ _ _ _ _ => (pv 7))) rfl)))))
      (pss_cons (ps_set (i := 3) sc_law_put_otherwise.nd rfl (Or.inl rfl) (pe_lst pa_nil))
      (pss_cons (ps_for PassesOwn.never rfl (pi_list (pe_dget hu (pv 0) pe_str (fun _ _ => rfl))) (pg_tup (by rfl) (pgs_cons (pg_name (i := 4) sc_law_put_otherwise.nd rfl (Or.inl rfl)) (pgs_cons (pg_name (i := 5) sc_law_put_otherwise.nd rfl (Or.inl rfl)) (pgs_cons (pg_name (i := 6) sc_law_put_otherwise.nd rfl (Or.inl rfl)) pgs_nil))))
        (pss_one (ps_if (PW.pt (pw_or (pt_cmpR op_eq (pe_ix ix_tup (pv 1) pe_int (fun _ _ => rfl)) pe_str (nomark _)) (pw_or1 (pt_cmpR op_ne (pe_ix ix_tup (pv 5) pe_int (fun _ _ => rfl)) (pe_ix ix_tup (pv 1) pe_int (fun _ _ => rfl)) (nomark _))))) (pss_one (ps_expr (pe_bm PySem.F.plainAttrs_list PySem.F.slot_list_append PySem.F.type_list_append mt_append (pv 3) (pa_cons (pe_tup (pa_cons (pv 4) (pa_cons (cg g_law_lessened (hr.mono (by decide)) (pa_cons (pv 5) (pa_cons (pv 1) pa_nil))) (pa_cons (pv 6) pa_nil)))) pa_nil)))) pss_nil)))
      (pss_cons (ps_dput hu (pv 0) pe_str (pv 3) rfl)
      (pss_one (ps_ret pe_bl))))), ?_⟩
    walk_at "rd"
    intro L hL
    have u0 := same_upd (o := .lst [.str "buy", .str "sell"]) hL
    have hS0 := hS.same u0
    have hLd : L ≠ d := fun e => by rw [e, hS.o] at hL; cases hL
    refine ⟨L, rfl, ⟨_, SqL.of upd_same⟩, for_list (xs := [.str "buy", .str "sell"]) (fun i σ H' => ∃ (lb' ls' : Addr) (v2 : Option V), σ = [some (.ref d), some (.ref f), v2, none, none, none, none, none] ∧ But d H H' ∧ H' L = some (.lst [.str "buy", .str "sell"]) ∧ StIn H' d lb' ls' la fv rv (S.putTo (outFact b n x) i)) ⟨lb, ls, none, rfl, But.of u0, upd_same, hS0⟩ (fun i σ H' _ h => by obtain ⟨_, _, _, _, _, h, _⟩ := h; exact SqL.of h) (fun i y σ H' hy h => ?_) fun σ H' h => ?_⟩
    · obtain ⟨lb', ls', v2, rfl, b1, h1, hS1⟩ := h
      obtain ⟨c, rfl, hto, hz⟩ : ∃ c : Bool, y = .str (sd c) ∧ S.putTo (outFact b n x) (i + 1) = (S.putTo (outFact b n x) i).setLine c (putL (outFact b n x) ((S.putTo (outFact b n x) i).line c)) ∧ ((S.putTo (outFact b n x) i).line c).length ≤ 500 := by
        match i, hy with
        | 0, hy => cases hy; exact ⟨true, rfl, rfl, z1⟩
        | 1, hy => cases hy; exact ⟨false, rfl, rfl, z2⟩
      obtain ⟨S1, eS1⟩ : ∃ S1, S1 = S.putTo (outFact b n x) i := ⟨_, rfl⟩
      rw [← eS1] at hS1 hto hz
      rw [hto]
      have hf1 := (b1.ktD hS.o) _ _ hf
      have hget := hS1.getLine c
      have hLn := hS1.line c
      obtain ⟨l, hl⟩ : ∃ l, l = (if c = true then lb' else ls') := ⟨_, rfl⟩
      rw [← hl] at hget hLn
      obtain ⟨lv, hlv, hlT⟩ := id hLn
      have hlen := Ords.len hlT
      have fin : ∀ (H2 : Hp) (D : Addr), Same H' H2 → LinAt H2 D (putL (outFact b n x) (S1.line c)) → ∃ H4, DPut H2 d (.str (sd c)) (.ref D) H4 ∧ ∃ lb' ls' v2, [some (V.ref d), some (.ref f), some (.str (sd c)), none, none, none, none, none] = [some (.ref d), some (.ref f), v2, none, none, none, none, none] ∧ But d H H4 ∧ H4 L = some (.lst [.str "buy", .str "sell"]) ∧ StIn H4 d lb' ls' la fv rv (S1.setLine c (putL (outFact b n x) (S1.line c))) := fun H2 D s2 hD => by
        obtain ⟨H4, hp, b4, h4⟩ := (hS1.same s2).putL c hD
        exact ⟨H4, hp, _, _, _, rfl, (b1.trans (But.of s2)).trans b4, b4 _ _ (s2 _ _ h1) hLd, h4⟩
      walk_at "rd"
      refine iteB (outS_less b) ?_
      cases b with
      | true =>
        refine iteY rfl ?_
        walk_at "rd"
        refine ⟨d, _, rfl, hget, ?_⟩
        refine ⟨l, rfl, ⟨lv, SqL.of hlv⟩, fun D hD => lc_tups (outF (fun _ => true) (fun o : Ord => (if o.name = n then BB.lessened o x else o).v) (S1.line c)) hD hlv outF_zero (fun i _ => outF_len (by omega) i) (fun j y H2 Nx hx s2 yes no => ?_) fun H2 s2 h => ?_⟩
        · obtain ⟨o, ob, ho, rfl, hob⟩ := Ords.get hlT hx
          have hob2 := s2 _ _ hob
          refine ⟨rfl, ?_⟩
          walk_at "rd"
          refine ⟨ob, f, o, outS true, n, x, rfl, hob2, s2 _ _ hf1, fun p H3 s3 hp => ?_⟩
          exact yes _ _ _ s3 ⟨p, rfl, hp⟩ (outF_yes ho rfl)
        · rw [outF_all hlen] at h
          walk_at "rd"
          obtain ⟨H4, q1, q2⟩ := fin H2 D s2 (by
            show LstAt H2 D (List.map Ord.v (List.map _ _))
            rw [List.map_map]
            rw [filter_tt] at h
            exact h)
          exact ⟨d, H4, rfl, q1, q2⟩
      | false =>
        refine iteN rfl ?_
        walk_at "rd"
        refine ⟨d, _, rfl, hget, ?_⟩
        refine ⟨l, rfl, ⟨lv, SqL.of hlv⟩, fun D hD => lc_tups (outF (fun o : Ord => !decide (o.name = n)) Ord.v (S1.line c)) hD hlv outF_zero (fun i _ => outF_len (by omega) i) (fun j y H2 Nx hx s2 yes no => ?_) fun H2 s2 h => ?_⟩
        · obtain ⟨o, ob, ho, rfl, hob⟩ := Ords.get hlT hx
          have hob2 := s2 _ _ hob
          have hf2 := s2 _ _ hf1
          refine ⟨rfl, ?_⟩
          walk_at "rd"
          by_cases cn : o.name = n
          · refine iteN (by simp [cn]) ?_
            exact no _ (Same.refl _) (outF_no ho (by rw [decide_eq_true cn]; rfl))
          · refine iteY (by simp [cn]) ?_
            walk_at "rd"
            exact yes _ _ _ (Same.refl _) ⟨ob, rfl, hob2⟩ (outF_yes ho (by rw [decide_eq_false cn]; rfl))
        · rw [outF_all hlen] at h
          walk_at "rd"
          obtain ⟨H4, q1, q2⟩ := fin H2 D s2 h
          exact ⟨d, H4, rfl, q1, q2⟩
    · obtain ⟨lb', ls', v2, rfl, b1, h1, hS1⟩ := h
      walk_at "rd"
      intro A hA
      obtain ⟨n1, n2, n3, nd⟩ := hS1.free hA
      have hHA : H A = none := b1.freeD hS.o hA nd.symm
      have uA := same_upd (o := .lst []) hA
      have hS2 := hS1.same uA
      have b2 := b1.trans (But.of uA)
      have hA2 : (upd H' A (.lst [])) A = some (.lst []) := upd_same
      have hf2 := (b2.ktD hS.o) _ _ hf
      generalize (upd H' A (.lst [])) = H2 at *
      obtain ⟨S2, eS2⟩ : ∃ S2, S2 = S.putTo (outFact b n x) [V.str "buy", V.str "sell"].length := ⟨_, rfl⟩
      rw [← eS2] at hS2
      have hz2 : S2.asleep.length ≤ 500 := by rw [eS2]; exact z3
      obtain ⟨av, hav, haT⟩ := id hS2.a
      have hal := haT.length
      walk_at "rd"
      refine ⟨d, _, rfl, gk_asleep hS2.o, ?_⟩
      refine ⟨la, rfl, ⟨av, SqL.of hav⟩, for_list (xs := av) (fun i σ H' => ∃ (v2 v4 v5 v6 : Option V) (acc : List V), σ = [some (.ref d), some (.ref f), v2, some (.ref A), v4, v5, v6, none] ∧ But d H H' ∧ Kt H2 H' ∧ H' la = some (.lst av) ∧ StIn H' d lb' ls' la fv rv S2 ∧ H' A = some (.lst acc) ∧ Slps H' acc (outF (keepZ b n) (newZ n x) S2.asleep i)) ⟨_, none, none, none, [], rfl, b2, Kt.refl _, hav, hS2, hA2, by rw [outF_zero]; exact .nil⟩ (fun i σ H' _ h => by obtain ⟨_, _, _, _, _, _, _, _, h, _⟩ := h; exact SqL.of h) (fun i y σ H' hy h => ?_) fun σ H' h => ?_⟩
      · obtain ⟨v2, v4, v5, v6, acc, rfl, b3, k3, hla, hS3, hacc, hT3⟩ := h
        obtain ⟨z, hz, a1, c1, rfl, g1, g2⟩ := haT.get hy
        have g1' := k3 _ _ g1
        have g2' := k3 _ _ g2
        have hf3 := k3 _ _ hf2
        have hlen3 := hT3.length
        have hlen4 : (outF (keepZ b n) (newZ n x) S2.asleep i).length < 1000 := outF_len (by omega) i
        refine ⟨a1, _, rfl, SqT.of g1', rfl, ?_⟩
        walk_at "rd"
        refine iteB (outS_less b) ?_
        cases b with
        | true =>
          refine iteY rfl ?_
          have hkeep : keepZ true n z = true := rfl
          walk_at "rd"
          refine ⟨.inl ⟨rfl, _, SqL.of hacc⟩, ?_⟩
          walk_at "rd"
          refine ⟨c1, f, z.ord, outS true, n, x, rfl, g2', hf3, fun p H5 s5 hp => ?_⟩
          walk_at "rd"
          intro t ht
          have ut := same_upd (o := .tup [.str z.kd.s, .ref p, .int z.trig]) ht
          have hacc5 := s5 _ _ hacc
          have s6 := s5.trans ut
          have kp : Kt H5 (upd (upd H5 t (.tup [.str z.kd.s, .ref p, .int z.trig])) A (.lst (acc ++ [.ref t]))) := push_kt hacc5 ht
          have kk := (Kt.same s5).trans kp
          have htA : t ≠ A := fun e => by rw [e, hacc5] at ht; cases ht
          refine ⟨A, _, _, rfl, rfl, ut _ _ hacc5, Nat.lt_of_lt_of_le (m := 1000) (by omega) (by decide), ?_⟩
          refine ⟨_, _, _, _, _, rfl, fun y ob e ny => ?_, k3.trans kk, push_ne (s5 _ _ hla) n3 ht, (hS3.same s6).put (s6 _ _ hacc) n1 n2 n3, upd_same, ?_⟩
          · rw [upd_ne (ne_of_none e hHA)]
            exact s6 _ _ (b3 y ob e ny)
          · rw [outF_yes hz hkeep]
            exact (hT3.kt kk).append (.cons ⟨t, p, rfl, by rw [upd_ne htA]; exact upd_same, kp _ _ hp⟩ .nil)
        | false =>
          refine iteN rfl ?_
          walk_at "rd"
          by_cases cn : z.ord.name = n
          · refine iteN (by simp [cn]) ?_
            exact ⟨_, _, _, _, _, rfl, b3, k3, hla, hS3, hacc, by rw [outF_no hz (show keepZ false n z = false by unfold keepZ; rw [decide_eq_true cn]; rfl)]; exact hT3⟩
          · refine iteY (by simp [cn]) ?_
            have hkeep : keepZ false n z = true := by unfold keepZ; rw [decide_eq_false cn]; rfl
            walk_at "rd"
            refine ⟨.inl ⟨rfl, _, SqL.of hacc⟩, ?_⟩
            walk_at "rd"
            refine ⟨c1, f, z.ord, outS false, n, x, rfl, g2', hf3, fun p H5 s5 hp => ?_⟩
            walk_at "rd"
            intro t ht
            have ut := same_upd (o := .tup [.str z.kd.s, .ref p, .int z.trig]) ht
            have hacc5 := s5 _ _ hacc
            have s6 := s5.trans ut
            have kp : Kt H5 (upd (upd H5 t (.tup [.str z.kd.s, .ref p, .int z.trig])) A (.lst (acc ++ [.ref t]))) := push_kt hacc5 ht
            have kk := (Kt.same s5).trans kp
            have htA : t ≠ A := fun e => by rw [e, hacc5] at ht; cases ht
            refine ⟨A, _, _, rfl, rfl, ut _ _ hacc5, Nat.lt_of_lt_of_le (m := 1000) (by omega) (by decide), ?_⟩
            refine ⟨_, _, _, _, _, rfl, fun y ob e ny => ?_, k3.trans kk, push_ne (s5 _ _ hla) n3 ht, (hS3.same s6).put (s6 _ _ hacc) n1 n2 n3, upd_same, ?_⟩
            · rw [upd_ne (ne_of_none e hHA)]
              exact s6 _ _ (b3 y ob e ny)
            · rw [outF_yes hz hkeep]
              exact (hT3.kt kk).append (.cons ⟨t, p, rfl, by rw [upd_ne htA]; exact upd_same, kp _ _ hp⟩ .nil)
      · obtain ⟨v2, v4, v5, v6, acc, rfl, b3, k3, hla, hS3, hacc, hT3⟩ := h
        rw [outF_all hal, putZ_out] at hT3
        obtain ⟨H4, hp, b4, h4⟩ := hS3.putA ⟨acc, hacc, hT3⟩
        walk_at "rd"
        refine ⟨d, H4, rfl, hp, ?_⟩
        walk_at "rd"
        refine q H4 (b3.trans b4) ⟨lb', ls', A, fv, rv, ?_⟩
        have e : S.put (outFact b n x) = { S2 with asleep := putZ (outFact b n x) S2.asleep } := by rw [eS2]; rfl
        rw [e]
        exact h4
end
end BB
set_option Elab.async false
set_option linter.all false
set_option maxRecDepth 100000
set_option maxHeartbeats 4000000
/-! LK: the law's met_first. -/
namespace BB
open PySem PySem.Spec PyProof.Rows L2
local macro_rules | `(tactic| walk_at "rd") => `(tactic| repeat (first | refine ⟨_, rfl, ?_⟩ | refine ⟨_, _, rfl, rfl, ?_⟩ | refine ⟨_, _, rfl, ?_⟩ | refine ⟨rfl, ?_⟩ | refine ⟨_, _, _, _, rfl, rfl, SqT.of (by assumption), rfl, ?_⟩ | refine ⟨Nat.le_of_ble_eq_true rfl, ?_⟩))
theorem served_zero {h : Ord} {t : List Ord} {a : Int} (e : ¬ 0 < h.left - a) (h1 : a ≤ h.left) : BB.served (h :: t) a = t := by
  rw [served_cons]
  have : BB.filled h a = none := by unfold BB.filled; rw [if_pos (by omega)]
  rw [this]
theorem served_anew {h : Ord} {t : List Ord} {a : Int} (e : 0 < h.left - a) (h1 : a = h.shown) : BB.served (h :: t) a = BB.joined t (BB.fresh h (h.left - a)) := by
  have hr : BB.renews h a = true := by unfold BB.renews; rw [decide_eq_true h1, decide_eq_true (by omega)]; rfl
  have hf : BB.filled h a = some (BB.fresh h (h.left - a)) := by unfold BB.filled; rw [if_neg (by omega), if_pos hr]
  rw [served_cons, hf]
  dsimp only
  rw [if_pos hr]
theorem served_less {h : Ord} {t : List Ord} {a : Int} (e : 0 < h.left - a) (h1 : a ≠ h.shown) : BB.served (h :: t) a = withLeft h (h.left - a) (h.shown - a) :: t := by
  have hr : ¬ BB.renews h a = true := by unfold BB.renews; rw [decide_eq_false h1]; intro z; cases z
  have hf : BB.filled h a = some (withLeft h (h.left - a) (h.shown - a)) := by unfold BB.filled; rw [if_neg (by omega), if_neg hr]
  rw [served_cons, hf]
  dsimp only
  rw [if_neg hr]
section
variable {P : Program} {w : World} {K : PySem.W.Frag} {mg : Str → Option Value} {base : Heap}
theorem ok_law_met_first (T : Txt K mg) : Gd P w K mg base CX0 (3) "_law_met_first" ["state", "fact", "order", "facing"] (fun vs H Q E => ∃ (d f a lb ls la : Addr) (fv : V) (rv : Option RV) (S : LS) (r : RV) (bs : Int) (o h : Ord) (t : List Ord) (am : Int), vs = [.ref d, .ref f, .ref a, .str (sd (!o.buy))] ∧ StIn H d lb ls la fv rv S ∧ rv = some r ∧ r.ba = .int bs ∧ H a = some (.tup o.v) ∧ H f = some (.tup [.str "trade", .str (if o.buy = true then o.name else h.name), .str (if o.buy = true then h.name else o.name), .int h.price, .int am]) ∧ S.line (!o.buy) = h :: t ∧ h.who ≠ o.who ∧ BB.allows o.buy o.price h.price = true ∧ ¬ S.leap < abs1 (h.price - bs) ∧ am = min2 o.left h.shown ∧ (∀ x ∈ h :: t, Ok x) ∧ (h :: t).length ≤ 500 ∧ sOk o.name = true ∧ ∀ H', But d H H' → StAt H' d { S.setLine (!o.buy) (BB.served (h :: t) am) with flight := if am < o.left then some { o with left := o.left - am } else none, last := h.price } → Q (.bl true) H') := by
  have g_law_allowed := ok_law_allowed (P := P) (w := w) (base := base) T
  have g_law_joined := ok_law_joined (P := P) (w := w) (base := base) T
  have g_law_anew := ok_law_anew (P := P) (w := w) (base := base) T
  refine gd0 T.d_law_met_first T.g_law_met_first sc_law_met_first (fun _ _ _ _ _ _ us hl => match us, hl with | [_, _, _, _], _ => rfl) (fun vs H Q E h => ?_) (fun cdv A outer s H vs Q E hr h => ?_)
  · obtain ⟨d, f, a, lb, ls, la, fv, rv, S, r, bs, o, h, t, am, rfl, _⟩ := h
    rfl
  · obtain ⟨d, f, a, lb, ls, la, fv, rv, S, r, bs, o, h, t, am, rfl, hS, hrv, hba, ha, hf, hli, hw, hal, hj, ham, hok, hz, hso, q⟩ := h
    have hu := hu_of hr
    refine ⟨_, pss_cons (ps_set (i := 4) sc_law_met_first.nd rfl (Or.inl rfl) (pe_dget hu (pv 0) (pv 3) (fun _ _ => rfl)))
      (pss_cons (ps_set (i := 5) sc_law_met_first.nd rfl (Or.inl rfl) (pe_ifExp (pt_cmpR op_eq (pe_ix ix_tup (pv 2) pe_int (fun _ _ => rfl)) pe_str (nomark _)) (pe_slice sl_tupA (pv 1) (po_some pe_int) (po_some pe_int)) (pe_tup (pa_cons (pe_ix ix_tup (pv 1) pe_int (fun _ _ => rfl)) (pa_cons (pe_ix ix_tup (pv 1) pe_int (fun _ _ => rfl)) pa_nil)))))
      (pss_cons (ps_if (PW.pt (pw_or (pt_cmpR (op_eqD hr.units) (pv 4) (pe_lst pa_nil) (nomark _)) (pw_or (pt_cmpR (op_neD hr.units) (pv 5) (pe_tup (pa_cons (pe_ix ix_tup (pv 2) pe_int (fun _ _ => rfl)) (pa_cons (pe_ix ix_tup (pe_ix ix_list (pv 4) pe_int (fun _ _ => rfl)) pe_int (fun _ _ => rfl)) pa_nil))) (nomark _)) (pw_or1 (pt_cmpR op_eq (pe_ix ix_tup (pe_ix ix_list (pv 4) pe_int (fun _ _ => rfl)) pe_int (fun _ _ => rfl)) (pe_ix ix_tup (pv 2) pe_int (fun _ _ => rfl)) (nomark _)))))) (pss_one (ps_ret pe_bl)) pss_nil)
      (pss_cons (ps_set (i := 6) sc_law_met_first.nd rfl (Or.inl rfl) (pe_ix ix_list (pv 4) pe_int (fun _ _ => rfl)))
      (pss_cons (ps_if (PW.pt (pw_or (pt_cmpR op_ne (pe_ix ix_tup (pv 1) pe_int (fun _ _ => rfl)) (pe_ix ix_tup (pv 6) pe_int (fun _ _ => rfl)) (nomark _)) (pw_or (pt_not (pt_val (cg g_law_allowed (hr.mono (by decide)) (pa_cons (pv 2) (pa_cons (pe_ix ix_tup (pv 1) pe_int (fun _ _ => rfl)) pa_nil))))) (pw_or1 (pt_cmpR op_gt (pe_callB call_abs (by rfl) T.b_abs (by decide +kernel) (pa_cons (pe_op op_sub (pe_ix ix_tup (pv 1) pe_int (fun _ _ => rfl)) (pe_dget hu (pv 0) pe_str (fun _ _ => rfl))) pa_nil)) (pe_dget hu (pv 0) pe_str (fun _ _ => rfl)) (nomark _)))))) (pss_one (ps_ret pe_bl)) pss_nil)
      (pss_cons (ps_if (pt_cmpR op_ne (pe_ix ix_tup (pv 1) pe_int (fun _ _ => rfl)) (pe_callB (call_min2 rfl) (by rfl) T.b_min (by decide +kernel) (pa_cons (pe_ix ix_tup (pv 2) pe_int (fun _ _ => rfl)) (pa_cons (pe_ix ix_tup (pv 6) pe_int (fun _ _ => rfl)) pa_nil))) (nomark _)) (pss_one (ps_ret pe_bl)) pss_nil)
      (pss_cons (ps_set (i := 7) sc_law_met_first.nd rfl (Or.inl rfl) (pe_op op_sub (pe_ix ix_tup (pv 6) pe_int (fun _ _ => rfl)) (pe_ix ix_tup (pv 1) pe_int (fun _ _ => rfl))))
      (pss_cons (ps_dput hu (pv 0) (pv 3) (pe_slice sl_list (pv 4) (po_some pe_int) po_none) rfl)
      (pss_cons (ps_if (PW.pt (pw_and (pt_cmpR op_gt (pv 7) pe_int (nomark _)) (pw_and1 (pt_cmpR op_eq (pe_ix ix_tup (pv 1) pe_int (fun _ _ => rfl)) (pe_ix ix_tup (pv 6) pe_int (fun _ _ => rfl)) (nomark _))))) (pss_one (ps_dput hu (pv 0) (pv 3) (cg g_law_joined (hr.mono (by decide)) (pa_cons (pe_slice sl_list (pv 4) (po_some pe_int) po_none) (pa_cons (cg g_law_anew (hr.mono (by decide)) (pa_cons (pv 6) (pa_cons (pv 7) pa_nil))) pa_nil))) rfl)) (pss_one (ps_if (pt_cmpR op_gt (pv 7) pe_int (nomark _)) (pss_one (ps_dput hu (pv 0) (pv 3) (pe_op op_cat (pe_lst (pa_cons (pe_op op_catA (pe_slice sl_tupA (pv 6) po_none (po_some pe_int)) (pe_tup (pa_cons (pv 7) (pa_cons (pe_op op_sub (pe_ix ix_tup (pv 6) pe_int (fun _ _ => rfl)) (pe_ix ix_tup (pv 1) pe_int (fun _ _ => rfl))) (pa_cons (pe_ix ix_tup (pv 6) pe_int (fun _ _ => rfl)) pa_nil))))) pa_nil)) (pe_slice sl_list (pv 4) (po_some pe_int) po_none)) rfl)) pss_nil)))
      (pss_cons (ps_dput hu (pv 0) pe_str pe_non rfl)
      (pss_cons (ps_if (pt_cmpR op_gt (pe_ix ix_tup (pv 2) pe_int (fun _ _ => rfl)) (pe_ix ix_tup (pv 1) pe_int (fun _ _ => rfl)) (nomark _)) (pss_one (ps_dput hu (pv 0) pe_str (pe_op op_catA (pe_op op_catA (pe_slice sl_tupA (pv 2) po_none (po_some pe_int)) (pe_tup (pa_cons (pe_op op_sub (pe_ix ix_tup (pv 2) pe_int (fun _ _ => rfl)) (pe_ix ix_tup (pv 1) pe_int (fun _ _ => rfl))) pa_nil))) (pe_slice sl_tupA (pv 2) (po_some pe_int) po_none)) rfl)) pss_nil)
      (pss_cons (ps_dput hu (pv 0) pe_str (pe_ix ix_tup (pv 1) pe_int (fun _ _ => rfl)) rfl)
      (pss_one (ps_ret pe_bl))))))))))))), ?_⟩
    obtain ⟨l, hl⟩ : ∃ l, l = (if (!o.buy) = true then lb else ls) := ⟨_, rfl⟩
    have hget := hS.getLine (!o.buy)
    have hLn := hS.line (!o.buy)
    rw [← hl] at hget hLn
    rw [hli] at hLn
    obtain ⟨lv, hlv, hlT⟩ := id hLn
    obtain ⟨hv, tv, rfl, ⟨hb, rfl, hhb⟩, htT⟩ := Tups.head hlT
    have hk := hok h List.mem_cons_self
    have g1 := hk.s1
    have g2 := hk.sl
    have m1 := min2_le1 o.left h.shown
    have m2 := min2_le2 o.left h.shown
    rw [← ham] at m1 m2
    simp only [List.length_cons] at hz
    refine vyS2 (R := fun σ' H' => ∃ p, σ' = [some (.ref d), some (.ref f), some (.ref a), some (.str (sd (!o.buy))), some (.ref l), some (.ref p), none, none] ∧ Same H H' ∧ H' p = some (.tup [.str o.name, .str h.name])) (fun nx q' => ?_) (fun σ' H1 r => ?_)
    · walk_at "rd"
      refine ⟨d, _, rfl, hget, ?_⟩
      walk_at "rd"
      refine iteB (sd_buy o.buy) ?_
      cases hbu : o.buy with
      | true =>
        rw [hbu] at hf q'
        refine iteY rfl ?_
        walk_at "rd"
        refine ⟨f, _, rfl, SqT.of hf, fun z => absurd (show HT.sIx 5 0 (some 1) = 0 from z.1) (by decide), fun _ p hp => ?_⟩
        walk_at "rd"
        exact q' _ _ ⟨p, rfl, same_upd hp, by rw [upd_same]; rfl⟩
      | false =>
        rw [hbu] at hf q'
        refine iteN rfl ?_
        walk_at "rd"
        intro p hp
        exact q' _ _ ⟨p, rfl, same_upd hp, upd_same⟩
    obtain ⟨p, rfl, s1, hp⟩ := r
    have hlv1 := s1 _ _ hlv
    have hhb1 := s1 _ _ hhb
    have ha1 := s1 _ _ ha
    have hf1 := s1 _ _ hf
    walk_at "rd"
    intro e he
    have ue := same_upd (o := .lst []) he
    refine eq_lnil ((hLn.same s1).same ue) upd_same (ords_fl hok) ?_
    rw [isEmpty_map]
    have s2 := s1.trans ue
    have hlv2 := ue _ _ hlv1
    have hhb2 := ue _ _ hhb1
    have ha2 := ue _ _ ha1
    have hf2 := ue _ _ hf1
    have hp2 := ue _ _ hp
    generalize (upd H1 e (.lst [])) = H2 at *
    walk_at "rd"
    refine ⟨l, _, _, _, rfl, rfl, SqL.of hlv2, at0, ?_⟩
    walk_at "rd"
    intro p2 hp2'
    have up := same_upd (o := .tup [.str o.name, .str h.name]) hp2'
    have hfl : [V.str o.name, .str h.name].all fl = true := by
      show (sOk o.name && (sOk h.name && true)) = true
      rw [hso, hk.nk]
      rfl
    refine ne_tups (up _ _ hp2) upd_same ?_ hfl hfl
    rw [decide_eq_true rfl]
    have s3 := s2.trans up
    have hlv3 := up _ _ hlv2
    have hhb3 := up _ _ hhb2
    have ha3 := up _ _ ha2
    have hf3 := up _ _ hf2
    generalize (upd H2 p2 (.tup [.str o.name, .str h.name])) = H3 at *
    walk_at "rd"
    refine ⟨l, _, _, _, rfl, rfl, SqL.of hlv3, at0, ?_⟩
    walk_at "rd"
    refine iteN (by simp [hw]) ?_
    walk_at "rd"
    refine ⟨l, _, _, _, rfl, rfl, SqL.of hlv3, at0, ?_⟩
    walk_at "rd"
    refine iteN (by simp) ?_
    walk_at "rd"
    refine ⟨a, o, h.price, rfl, ha3, ?_⟩
    rw [hal]
    walk_at "rd"
    refine ⟨d, _, rfl, by rw [hrv] at hS; exact gk_base (hS.same s3).o rfl, ?_⟩
    rw [hba]
    walk_at "rd"
    refine ⟨d, _, rfl, gk_leap (hS.same s3).o, ?_⟩
    walk_at "rd"
    refine iteN (decide_eq_false hj) ?_
    walk_at "rd"
    have hmn : decide (V.int am = V.int (if h.shown < o.left then h.shown else o.left)) = true := decide_eq_true (congrArg V.int ham)
    refine iteN (c := !decide (V.int am = V.int (if h.shown < o.left then h.shown else o.left))) (by rw [hmn]; rfl) ?_
    walk_at "rd"
    refine ⟨l, _, rfl, SqL.of hlv3, fun p1 hp1 => ?_⟩
    rw [sub1]
    have u1 := same_upd (o := .lst tv) hp1
    have s4 := s3.trans u1
    have hT1 : LinAt (upd H3 p1 (.lst tv)) p1 t := ⟨_, upd_same, htT.kt (Kt.same s4)⟩
    obtain ⟨H4, q4, b4, h4⟩ := (hS.same s4).putL (!o.buy) hT1
    have hld : l ≠ d := fun z => by rw [z, hS.o] at hlv; cases hlv
    have bb4 := (But.of s4).trans b4
    have k4 := bb4.ktD hS.o
    have hlv4 : H4 l = some (.lst (V.ref hb :: tv)) := bb4 _ _ hlv hld
    have hhb4 := k4 _ _ hhb
    have ha4 := k4 _ _ ha
    have hf4 := k4 _ _ hf
    walk_at "rd"
    refine ⟨d, H4, rfl, q4, ?_⟩
    have hres : (S.setLine (!o.buy) t).setLine (!o.buy) (BB.served (h :: t) am) = S.setLine (!o.buy) (BB.served (h :: t) am) := LS.set_set S (!o.buy) t _
    dsimp only
    refine vyS (R := fun σ' H' => ∃ lb2 ls2, σ' = [some (.ref d), some (.ref f), some (.ref a), some (.str (sd (!o.buy))), some (.ref l), some (.ref p), some (.ref hb), some (.int (h.left - am))] ∧ But d H H' ∧ StIn H' d lb2 ls2 la fv rv (S.setLine (!o.buy) (BB.served (h :: t) am))) (fun nx q' => ?_) (fun σ' H5 r => ?_)
    · walk_at "rd"
      by_cases c1 : 0 < h.left - am
      · refine iteY (decide_eq_true c1) ?_
        walk_at "rd"
        by_cases c2 : am = h.shown
        · refine iteY (decide_eq_true (congrArg V.int c2)) ?_
          walk_at "rd"
          refine ⟨l, _, rfl, SqL.of hlv4, fun p3 hp3 => ?_⟩
          rw [sub1]
          have u3 := same_upd (o := .lst tv) hp3
          have hT3 : LinAt (upd H4 p3 (.lst tv)) p3 t := ⟨_, upd_same, htT.kt (k4.trans (Kt.same u3))⟩
          walk_at "rd"
          refine ⟨hb, h, h.left - am, rfl, u3 _ _ hhb4, hk.p0, fun c H5 s5 hc hcx => ?_⟩
          walk_at "rd"
          refine ⟨p3, c, t, BB.fresh h (h.left - am), rfl, hT3.same s5, hcx, by omega, fun p5 H6 s6 hp5 hj6 => ?_⟩
          have s36 := (u3.trans s5).trans s6
          obtain ⟨H7, q7, b7, h7⟩ := (h4.same s36).putL (!o.buy) hj6
          walk_at "rd"
          refine ⟨d, H7, rfl, q7, ?_⟩
          rw [LS.set_set, ← served_anew c1 c2] at h7
          exact q' _ _ ⟨_, _, rfl, (bb4.trans (But.of s36)).trans b7, h7⟩
        · refine iteN (decide_eq_false (fun z => c2 (V.int.inj z))) ?_
          walk_at "rd"
          refine iteY (decide_eq_true c1) ?_
          walk_at "rd"
          refine sl4 hhb4 fun p3 hp3 => ?_
          have u3 := same_upd (o := .tup [.str h.name, .str h.who, .str (sd h.buy), .int h.price]) hp3
          have hhb5 := u3 _ _ hhb4
          have hf5 := u3 _ _ hf4
          walk_at "rd"
          intro p5 hp5
          have u5 := same_upd (o := .tup [.int (h.left - am), .int (h.shown - am), .int h.peak]) hp5
          refine cat_tup (u5 _ _ upd_same) upd_same fun p6 hp6 => ?_
          have u6 := same_upd (o := .tup ([.str h.name, .str h.who, .str (sd h.buy), .int h.price] ++ [.int (h.left - am), .int (h.shown - am), .int h.peak])) hp6
          have hp6' := upd_same (H := upd (upd H4 p3 (.tup [.str h.name, .str h.who, .str (sd h.buy), .int h.price])) p5 (.tup [.int (h.left - am), .int (h.shown - am), .int h.peak])) (a := p6) (o := .tup ([.str h.name, .str h.who, .str (sd h.buy), .int h.price] ++ [.int (h.left - am), .int (h.shown - am), .int h.peak]))
          have s36 := (u3.trans u5).trans u6
          generalize (upd (upd (upd H4 p3 (.tup [.str h.name, .str h.who, .str (sd h.buy), .int h.price])) p5 (.tup [.int (h.left - am), .int (h.shown - am), .int h.peak])) p6 (.tup ([.str h.name, .str h.who, .str (sd h.buy), .int h.price] ++ [.int (h.left - am), .int (h.shown - am), .int h.peak]))) = H6 at *
          walk_at "rd"
          intro p7 hp7
          have u7 := same_upd (o := .lst [.ref p6]) hp7
          walk_at "rd"
          refine ⟨l, _, rfl, SqL.of (u7 _ _ (s36 _ _ hlv4)), fun p8 hp8 => ?_⟩
          rw [sub1]
          have u8 := same_upd (o := .lst tv) hp8
          have htl := Tups.length htT
          rw [List.length_map] at htl
          refine ⟨p7, p8, _, _, rfl, rfl, u8 _ _ upd_same, upd_same, line1000 (by show 1 + tv.length ≤ 1000; omega), fun p9 hp9 => ?_⟩
          have u9 := same_upd (o := .lst ([V.ref p6] ++ tv)) hp9
          have s49 := ((s36.trans u7).trans u8).trans u9
          have hL9 : LinAt (upd (upd (upd H6 p7 (.lst [.ref p6])) p8 (.lst tv)) p9 (.lst ([V.ref p6] ++ tv))) p9 (withLeft h (h.left - am) (h.shown - am) :: t) :=
            ⟨_, upd_same, .cons ⟨p6, rfl, ((u7.trans u8).trans u9) _ _ hp6'⟩ (htT.kt (k4.trans (Kt.same s49)))⟩
          obtain ⟨H7, q7, b7, h7⟩ := (h4.same s49).putL (!o.buy) hL9
          walk_at "rd"
          refine ⟨d, H7, rfl, q7, ?_⟩
          rw [LS.set_set, ← served_less c1 c2] at h7
          exact q' _ _ ⟨_, _, rfl, (bb4.trans (But.of s49)).trans b7, h7⟩
      · refine iteN (decide_eq_false c1) ?_
        walk_at "rd"
        refine iteN (decide_eq_false c1) ?_
        refine q' _ _ ⟨if (!o.buy) = true then p1 else lb, if (!o.buy) = true then ls else p1, rfl, bb4, ?_⟩
        rw [served_zero c1 (by omega)]
        exact h4
    obtain ⟨lb2, ls2, rfl, b5, h5⟩ := r
    have k5 := b5.ktD hS.o
    have ha5 := k5 _ _ ha
    have hf5 := k5 _ _ hf
    obtain ⟨H6, q6, b6, h6⟩ := h5.putFN
    have k6 := b6.ktD h5.o
    have ha6 := k6 _ _ ha5
    have hf6 := k6 _ _ hf5
    have bb6 := b5.trans b6
    walk_at "rd"
    refine ⟨d, H6, rfl, q6, ?_⟩
    dsimp only
    refine vyS (R := fun σ' H' => ∃ fv2, σ' = [some (.ref d), some (.ref f), some (.ref a), some (.str (sd (!o.buy))), some (.ref l), some (.ref p), some (.ref hb), some (.int (h.left - am))] ∧ But d H H' ∧ StIn H' d lb2 ls2 la fv2 rv { S.setLine (!o.buy) (BB.served (h :: t) am) with flight := if am < o.left then some { o with left := o.left - am } else none }) (fun nx q' => ?_) (fun σ' H7 r => ?_)
    · walk_at "rd"
      by_cases c : am < o.left
      · refine iteY (decide_eq_true c) ?_
        rw [if_pos c] at q'
        walk_at "rd"
        refine sl4 ha6 fun p3 hp3 => ?_
        have u3 := same_upd (o := .tup [.str o.name, .str o.who, .str (sd o.buy), .int o.price]) hp3
        have ha7 := u3 _ _ ha6
        have hf7 := u3 _ _ hf6
        walk_at "rd"
        intro p5 hp5
        have u5 := same_upd (o := .tup [.int (o.left - am)]) hp5
        refine cat_tup (u5 _ _ upd_same) upd_same fun p7 hp7 => ?_
        have u7 := same_upd (o := .tup ([.str o.name, .str o.who, .str (sd o.buy), .int o.price] ++ [.int (o.left - am)])) hp7
        have s37 := (u3.trans u5).trans u7
        walk_at "rd"
        refine ⟨a, _, rfl, SqT.of (s37 _ _ ha6), fun z => absurd (show HT.sIx 7 0 (some 5) = 0 from z.1) (by decide), fun _ p8 hp8 => ?_⟩
        have u8 := same_upd (o := .tup [.int o.shown, .int o.peak]) hp8
        have e8 : cutV o.v (some 5) none = [.int o.shown, .int o.peak] := (cutV_drop o.v 5).trans rfl
        rw [e8]
        refine cat_tup (u8 _ _ upd_same) upd_same fun p9 hp9 => ?_
        have u9 := same_upd (o := .tup (([.str o.name, .str o.who, .str (sd o.buy), .int o.price] ++ [.int (o.left - am)]) ++ [.int o.shown, .int o.peak])) hp9
        have s39 := (s37.trans u8).trans u9
        have ho9 : (upd (upd (upd (upd (upd H6 p3 (.tup [.str o.name, .str o.who, .str (sd o.buy), .int o.price])) p5 (.tup [.int (o.left - am)])) p7 (.tup ([.str o.name, .str o.who, .str (sd o.buy), .int o.price] ++ [.int (o.left - am)]))) p8 (.tup [.int o.shown, .int o.peak])) p9 (.tup (([.str o.name, .str o.who, .str (sd o.buy), .int o.price] ++ [.int (o.left - am)]) ++ [.int o.shown, .int o.peak]))) p9 = some (.tup ({ o with left := o.left - am } : Ord).v) := upd_same
        obtain ⟨H8, q8, b8, h8⟩ := (h6.same s39).putF ho9
        walk_at "rd"
        refine ⟨d, H8, rfl, q8, ?_⟩
        exact q' _ _ ⟨_, rfl, (bb6.trans (But.of s39)).trans b8, h8⟩
      · refine iteN (decide_eq_false c) ?_
        rw [if_neg c] at q'
        exact q' _ _ ⟨_, rfl, bb6, h6⟩
    obtain ⟨fv2, rfl, b7, h7⟩ := r
    have hf7 := (b7.ktD hS.o) _ _ hf
    obtain ⟨H8, q8, b8, h8⟩ := h7.putLast h.price
    walk_at "rd"
    refine ⟨d, H8, rfl, q8, ?_⟩
    walk_at "rd"
    exact q H8 (b7.trans b8) ⟨_, _, _, _, _, h8⟩
end
end BB
set_option Elab.async false
set_option linter.all false
set_option maxRecDepth 100000
set_option maxHeartbeats 4000000
/-! LM: the law's called. -/
namespace BB
open PySem PySem.Spec PyProof.Rows L2
local macro_rules | `(tactic| walk_at "rd") => `(tactic| repeat (first | refine ⟨_, rfl, ?_⟩ | refine ⟨_, _, rfl, rfl, ?_⟩ | refine ⟨_, _, rfl, ?_⟩ | refine ⟨rfl, ?_⟩ | refine ⟨_, _, _, _, rfl, rfl, SqT.of (by assumption), rfl, ?_⟩ | refine ⟨Nat.le_of_ble_eq_true rfl, ?_⟩))
def LS.cs (S : LS) (bh sh : Ord) (bt st : List Ord) (am : Int) : Nat → LS
  | 0 => S
  | 1 => S.setLine true (less1 bh bt am)
  | _ => (S.setLine true (less1 bh bt am)).setLine false (less1 sh st am)
/-- the order that heads a line in a call -/
structure HdOk (h : Ord) (t : List Ord) (p am : Int) : Prop where
  ok : ∀ x ∈ h :: t, Ok x
  a1 : 1 ≤ am
  a2 : am ≤ h.left
  al : BB.allows h.buy h.price p = true
  z : (h :: t).length ≤ 500
section
variable {P : Program} {w : World} {K : PySem.W.Frag} {mg : Str → Option Value} {base : Heap}
theorem ok_law_called (T : Txt K mg) : Gd P w K mg base CX0 (2) "_law_called" ["state", "fact"] (fun vs H Q E => ∃ (d f lb ls la : Addr) (fv : V) (rv : Option RV) (S : LS) (bh sh : Ord) (bt st : List Ord) (p am : Int), vs = [.ref d, .ref f] ∧ StIn H d lb ls la fv rv S ∧ H f = some (.tup [.str "trade", .str bh.name, .str sh.name, .int p, .int am]) ∧ S.cut = false ∧ S.buys = bh :: bt ∧ S.sells = sh :: st ∧ (∀ x ∈ bh :: bt, Ok x) ∧ (∀ x ∈ sh :: st, Ok x) ∧ bh.buy = true ∧ sh.buy = false ∧ 1 ≤ am ∧ am ≤ bh.left ∧ am ≤ sh.left ∧ BB.allows true bh.price p = true ∧ BB.allows false sh.price p = true ∧ (bh :: bt).length ≤ 500 ∧ (sh :: st).length ≤ 500 ∧ ∀ H', But d H H' → StAt H' d { S with buys := less1 bh bt am, sells := less1 sh st am, last := p, cut := decide (am < min2 bh.left sh.left) } → Q (.bl true) H') := by
  have g_law_allowed := ok_law_allowed (P := P) (w := w) (base := base) T
  have g_law_anew := ok_law_anew (P := P) (w := w) (base := base) T
  refine gd0 T.d_law_called T.g_law_called sc_law_called (fun _ _ _ _ _ _ us hl => match us, hl with | [_, _], _ => rfl) (fun vs H Q E h => ?_) (fun cdv A outer s H vs Q E hr h => ?_)
  · obtain ⟨d, f, lb, ls, la, fv, rv, S, bh, sh, bt, st, p, am, rfl, _⟩ := h
    rfl
  · obtain ⟨d, f, lb, ls, la, fv, rv, S, bh, sh, bt, st, p, am, rfl, hS, hf, hcut, hbl, hsl, hbo, hso, hb1, hs1, a1, a2, a3, al1, al2, z1, z2, q⟩ := h
    have hu := hu_of hr
    refine ⟨_, pss_cons (ps_if (PW.pt (pw_or (pt_val (pe_dget hu (pv 0) pe_str (fun _ _ => rfl))) (pw_or (pt_cmpR (op_eqD hr.units) (pe_dget hu (pv 0) pe_str (fun _ _ => rfl)) (pe_lst pa_nil) (nomark _)) (pw_or1 (pt_cmpR (op_eqD hr.units) (pe_dget hu (pv 0) pe_str (fun _ _ => rfl)) (pe_lst pa_nil) (nomark _)))))) (pss_one (ps_ret pe_bl)) pss_nil)
      (pss_cons (ps_dput hu (pv 0) pe_str (pe_cmpR op_lt (pe_ix ix_tup (pv 1) pe_int (fun _ _ => rfl)) (pe_callB (call_min2 rfl) (by rfl) T.b_min (by decide +kernel) (pa_cons (pe_ix ix_tup (pe_ix ix_list (pe_dget hu (pv 0) pe_str (fun _ _ => rfl)) pe_int (fun _ _ => rfl)) pe_int (fun _ _ => rfl)) (pa_cons (pe_ix ix_tup (pe_ix ix_list (pe_dget hu (pv 0) pe_str (fun _ _ => rfl)) pe_int (fun _ _ => rfl)) pe_int (fun _ _ => rfl)) pa_nil))) (nomark _)) rfl)
      (pss_cons (ps_for PassesOwn.never rfl (pi_list (pe_lst (pa_cons (pe_tup (pa_cons pe_str (pa_cons (pe_ix ix_tup (pv 1) pe_int (fun _ _ => rfl)) pa_nil))) (pa_cons (pe_tup (pa_cons pe_str (pa_cons (pe_ix ix_tup (pv 1) pe_int (fun _ _ => rfl)) pa_nil))) pa_nil)))) (pg_tup (by rfl) (pgs_cons (pg_name (i := 2) sc_law_called.nd rfl (Or.inl rfl)) (pgs_cons (pg_name (i := 3) sc_law_called.nd rfl (Or.inl rfl)) pgs_nil)))
        (pss_cons (ps_set (i := 4) sc_law_called.nd rfl (Or.inl rfl) (pe_dget hu (pv 0) (pv 2) (fun _ _ => rfl)))
      (pss_cons (ps_if (PW.pt (pw_or (pt_cmpR (op_eqD hr.units) (pv 4) (pe_lst pa_nil) (nomark _)) (pw_or (pt_cmpR op_ne (pe_ix ix_tup (pe_ix ix_list (pv 4) pe_int (fun _ _ => rfl)) pe_int (fun _ _ => rfl)) (pv 3) (nomark _)) (pw_or1 (pt_not (pt_chain op_le op_le pe_int (pe_ix ix_tup (pv 1) pe_int (fun _ _ => rfl)) (pe_ix ix_tup (pe_ix ix_list (pv 4) pe_int (fun _ _ => rfl)) pe_int (fun _ _ => rfl)))))))) (pss_one (ps_ret pe_bl)) pss_nil)
      (pss_cons (ps_if (pt_not (pt_val (cg g_law_allowed (hr.mono (by decide)) (pa_cons (pe_ix ix_list (pv 4) pe_int (fun _ _ => rfl)) (pa_cons (pe_ix ix_tup (pv 1) pe_int (fun _ _ => rfl)) pa_nil))))) (pss_one (ps_ret pe_bl)) pss_nil)
      (pss_cons (ps_dput hu (pv 0) (pv 2) (pe_slice sl_list (pv 4) (po_some pe_int) po_none) rfl)
      (pss_one (ps_if (pt_cmpR op_lt (pe_ix ix_tup (pv 1) pe_int (fun _ _ => rfl)) (pe_ix ix_tup (pe_ix ix_list (pv 4) pe_int (fun _ _ => rfl)) pe_int (fun _ _ => rfl)) (nomark _)) (pss_one (ps_dput hu (pv 0) (pv 2) (pe_op op_cat (pe_lst (pa_cons (cg g_law_anew (hr.mono (by decide)) (pa_cons (pe_ix ix_list (pv 4) pe_int (fun _ _ => rfl)) (pa_cons (pe_op op_sub (pe_ix ix_tup (pe_ix ix_list (pv 4) pe_int (fun _ _ => rfl)) pe_int (fun _ _ => rfl)) (pe_ix ix_tup (pv 1) pe_int (fun _ _ => rfl))) pa_nil))) pa_nil)) (pe_slice sl_list (pv 4) (po_some pe_int) po_none)) rfl)) pss_nil)))))))
      (pss_cons (ps_dput hu (pv 0) pe_str (pe_ix ix_tup (pv 1) pe_int (fun _ _ => rfl)) rfl)
      (pss_one (ps_ret pe_bl))))), ?_⟩
    walk_at "rd"
    refine ⟨d, _, rfl, gk_cut hS.o, ?_⟩
    walk_at "rd"
    refine iteN hcut ?_
    walk_at "rd"
    refine ⟨d, _, rfl, gk_buy hS.o, ?_⟩
    walk_at "rd"
    intro e1 he1
    have u1 := same_upd (o := .lst []) he1
    have hS1 := hS.same u1
    refine eq_lnil hS1.b upd_same (ords_fl (by rw [hbl]; exact hbo)) ?_
    rw [isEmpty_map, hbl]
    generalize (upd H e1 (.lst [])) = H1 at *
    walk_at "rd"
    refine ⟨d, _, rfl, gk_sell hS1.o, ?_⟩
    walk_at "rd"
    intro e2 he2
    have u2 := same_upd (o := .lst []) he2
    have hS2 := hS1.same u2
    refine eq_lnil hS2.s upd_same (ords_fl (by rw [hsl]; exact hso)) ?_
    rw [isEmpty_map, hsl]
    have s2 := u1.trans u2
    generalize (upd H1 e2 (.lst [])) = H2 at *
    obtain ⟨bv, hbv, hbT⟩ := id hS2.b
    obtain ⟨zv, hzv, hzT⟩ := id hS2.s
    rw [hbl] at hbT
    rw [hsl] at hzT
    obtain ⟨_, tb, rfl, ⟨b1, rfl, hbb⟩, hbt⟩ := Tups.head hbT
    obtain ⟨_, tz, rfl, ⟨c1, rfl, hcc⟩, hzt⟩ := Tups.head hzT
    have hf2 := s2 _ _ hf
    walk_at "rd"
    refine ⟨d, _, rfl, gk_buy hS2.o, ?_⟩
    walk_at "rd"
    refine ⟨lb, _, _, _, rfl, rfl, SqL.of hbv, at0, ?_⟩
    walk_at "rd"
    refine ⟨d, _, rfl, gk_sell hS2.o, ?_⟩
    walk_at "rd"
    refine ⟨ls, _, _, _, rfl, rfl, SqL.of hzv, at0, ?_⟩
    walk_at "rd"
    have hmm : decide (am < (if sh.left < bh.left then sh.left else bh.left)) = decide (am < min2 bh.left sh.left) := rfl
    obtain ⟨H3, q3, b3, h3⟩ := hS2.putCut (decide (am < min2 bh.left sh.left))
    refine ⟨d, H3, rfl, q3, ?_⟩
    have bb3 := (But.of s2).trans b3
    have hf3 := (bb3.ktD hS.o) _ _ hf
    obtain ⟨S3, eS3⟩ : ∃ S3, S3 = { S with cut := decide (am < min2 bh.left sh.left) } := ⟨_, rfl⟩
    rw [← eS3] at h3
    walk_at "rd"
    intro t1 ht1
    have v1 := same_upd (o := .tup [.str "buy", .str bh.name]) ht1
    have hf4 := v1 _ _ hf3
    walk_at "rd"
    intro t2 ht2
    have v2 := same_upd (o := .tup [.str "sell", .str sh.name]) ht2
    walk_at "rd"
    intro L hL
    have v3 := same_upd (o := .lst [.ref t1, .ref t2]) hL
    have s36 := (v1.trans v2).trans v3
    have h6 := h3.same s36
    have bb6 := bb3.trans (But.of s36)
    have hL6 : (upd (upd (upd H3 t1 (.tup [.str "buy", .str bh.name])) t2 (.tup [.str "sell", .str sh.name])) L (.lst [.ref t1, .ref t2])) L = some (.lst [.ref t1, .ref t2]) := upd_same
    have ht16 := (v2.trans v3) _ _ (upd_same (H := H3) (a := t1) (o := .tup [.str "buy", .str bh.name]))
    have ht26 := v3 _ _ (upd_same (H := upd H3 t1 (.tup [.str "buy", .str bh.name])) (a := t2) (o := .tup [.str "sell", .str sh.name]))
    generalize (upd (upd (upd H3 t1 (.tup [.str "buy", .str bh.name])) t2 (.tup [.str "sell", .str sh.name])) L (.lst [.ref t1, .ref t2])) = H6 at *
    have hLd : L ≠ d := fun e => by rw [e, h6.o] at hL6; cases hL6
    refine ⟨L, rfl, ⟨_, SqL.of hL6⟩, for_list (xs := [.ref t1, .ref t2]) (fun i σ H' => ∃ (lb' ls' : Addr) (v2 v3 v4 : Option V), σ = [some (.ref d), some (.ref f), v2, v3, v4] ∧ But d H H' ∧ But d H6 H' ∧ StIn H' d lb' ls' la fv rv (S3.cs bh sh bt st am i)) ⟨lb, ls, none, none, none, rfl, bb6, But.refl _ _, h6⟩ (fun i σ H' _ h => by obtain ⟨_, _, _, _, _, _, _, h, _⟩ := h; exact SqL.of (h _ _ hL6 hLd)) (fun i y σ H' hy h => ?_) fun σ H' h => ?_⟩
    · obtain ⟨lb', ls', v2, v3, v4, rfl, b7, b76, h7⟩ := h
      have k76 := b76.ktD h6.o
      obtain ⟨c, hh, tt, ty, rfl, hty, hlin, hcb, HK, hto⟩ : ∃ (c : Bool) (h : Ord) (t : List Ord) (ty : Addr), y = .ref ty ∧ H' ty = some (.tup [.str (sd c), .str h.name]) ∧ (S3.cs bh sh bt st am i).line c = h :: t ∧ h.buy = c ∧ HdOk h t p am ∧ S3.cs bh sh bt st am (i + 1) = (S3.cs bh sh bt st am i).setLine c (less1 h t am) := by
        match i, hy with
        | 0, hy => cases hy; exact ⟨true, bh, bt, t1, rfl, k76 _ _ ht16, by rw [eS3]; exact hbl, hb1, ⟨hbo, a1, a2, by rw [hb1]; exact al1, z1⟩, rfl⟩
        | 1, hy => cases hy; exact ⟨false, sh, st, t2, rfl, k76 _ _ ht26, by rw [eS3]; exact hsl, hs1, ⟨hso, a1, a3, by rw [hs1]; exact al2, z2⟩, rfl⟩
      obtain ⟨S4, eS4⟩ : ∃ S4, S4 = S3.cs bh sh bt st am i := ⟨_, rfl⟩
      rw [← eS4] at h7 hto hlin
      rw [hto]
      have hf7 := (b7.ktD hS.o) _ _ hf
      have hget := h7.getLine c
      have hLn := h7.line c
      obtain ⟨l, hl⟩ : ∃ l, l = (if c = true then lb' else ls') := ⟨_, rfl⟩
      rw [← hl] at hget hLn
      rw [hlin] at hLn
      obtain ⟨lv, hlv, hlT⟩ := id hLn
      obtain ⟨_, tv, rfl, ⟨ho, rfl, hho⟩, htT⟩ := Tups.head hlT
      have hz := HK.z
      simp only [List.length_cons] at hz
      have a1 := HK.a1
      have a2 := HK.a2
      refine ⟨ty, _, rfl, SqT.of hty, rfl, ?_⟩
      walk_at "rd"
      refine ⟨d, _, rfl, hget, ?_⟩
      walk_at "rd"
      intro e5 he5
      have u5 := same_upd (o := .lst []) he5
      refine eq_lnil (hLn.same u5) upd_same (ords_fl HK.ok) ?_
      rw [isEmpty_map]
      have h8 := h7.same u5
      have hlv8 := u5 _ _ hlv
      have hho8 := u5 _ _ hho
      have hf8 := u5 _ _ hf7
      have b8 := b7.trans (But.of u5)
      have b86 := b76.trans (But.of u5)
      generalize (upd H' e5 (.lst [])) = H8 at *
      walk_at "rd"
      refine ⟨l, _, _, _, rfl, rfl, SqL.of hlv8, at0, ?_⟩
      walk_at "rd"
      refine iteN (by simp) ?_
      walk_at "rd"
      refine iteY (decide_eq_true a1) ?_
      walk_at "rd"
      refine ⟨l, _, _, _, rfl, rfl, SqL.of hlv8, at0, ?_⟩
      walk_at "rd"
      rw [decide_eq_true a2]
      walk_at "rd"
      refine ⟨l, _, _, _, rfl, rfl, SqL.of hlv8, at0, ?_⟩
      walk_at "rd"
      refine ⟨ho, hh, p, rfl, hho8, ?_⟩
      rw [HK.al]
      walk_at "rd"
      refine ⟨l, _, rfl, SqL.of hlv8, fun p1 hp1 => ?_⟩
      rw [sub1]
      have w1 := same_upd (o := .lst tv) hp1
      have hT1 : LinAt (upd H8 p1 (.lst tv)) p1 tt := ⟨_, upd_same, htT.kt (Kt.same (u5.trans w1))⟩
      obtain ⟨H9, q9, b9, h9⟩ := (h8.same w1).putL c hT1
      have hld : l ≠ d := fun z => by rw [z, h8.o] at hlv8; cases hlv8
      have b89 := (But.of w1).trans b9
      have k89 := b89.ktD h8.o
      have hlv9 : H9 l = some (.lst (V.ref ho :: tv)) := b89 _ _ hlv8 hld
      have hho9 := k89 _ _ hho8
      have hf9 := k89 _ _ hf8
      walk_at "rd"
      refine ⟨d, H9, rfl, q9, ?_⟩
      walk_at "rd"
      refine ⟨l, _, _, _, rfl, rfl, SqL.of hlv9, at0, ?_⟩
      walk_at "rd"
      by_cases cc : am < hh.left
      · refine iteY (decide_eq_true cc) ?_
        have el : less1 hh tt am = BB.fresh hh (hh.left - am) :: tt := by unfold less1; rw [if_pos cc]
        rw [el]
        walk_at "rd"
        refine ⟨l, _, _, _, rfl, rfl, SqL.of hlv9, at0, ?_⟩
        walk_at "rd"
        refine ⟨l, _, _, _, rfl, rfl, SqL.of hlv9, at0, ?_⟩
        walk_at "rd"
        refine ⟨ho, hh, hh.left - am, rfl, hho9, (HK.ok hh List.mem_cons_self).p0, fun x1 H10 s10 hx1 hx => ?_⟩
        walk_at "rd"
        intro p7 hp7
        have u7 := same_upd (o := .lst [.ref x1]) hp7
        walk_at "rd"
        refine ⟨l, _, rfl, SqL.of (u7 _ _ (s10 _ _ hlv9)), fun p8 hp8 => ?_⟩
        rw [sub1]
        have u8 := same_upd (o := .lst tv) hp8
        have htl := Tups.length htT
        rw [List.length_map] at htl
        refine ⟨p7, p8, _, _, rfl, rfl, u8 _ _ upd_same, upd_same, line1000 (by show 1 + tv.length ≤ 1000; omega), fun p9 hp9 => ?_⟩
        have u9 := same_upd (o := .lst ([V.ref x1] ++ tv)) hp9
        have s79 := (u7.trans u8).trans u9
        have s11 := s10.trans s79
        have hL9 : LinAt (upd (upd (upd H10 p7 (.lst [.ref x1])) p8 (.lst tv)) p9 (.lst ([V.ref x1] ++ tv))) p9 (BB.fresh hh (hh.left - am) :: tt) :=
          ⟨_, upd_same, .cons ⟨x1, rfl, s79 _ _ hx⟩ (htT.kt (((Kt.same u5).trans k89).trans (Kt.same s11)))⟩
        obtain ⟨H12, q12, b12, h12⟩ := (h9.same s11).putL c hL9
        have bx := (b89.trans (But.of s11)).trans b12
        walk_at "rd"
        refine ⟨d, H12, rfl, q12, ?_⟩
        rw [LS.set_set] at h12
        exact ⟨_, _, _, _, _, rfl, b8.trans bx, b86.trans bx, h12⟩
      · refine iteN (decide_eq_false cc) ?_
        have el : less1 hh tt am = tt := by unfold less1; rw [if_neg cc]
        rw [el]
        exact ⟨_, _, _, _, _, rfl, b8.trans b89, b86.trans b89, h9⟩
    · obtain ⟨lb', ls', v2, v3, v4, rfl, b7, b76, h7⟩ := h
      have hf7 := (b7.ktD hS.o) _ _ hf
      obtain ⟨H8, q8, b8, h8⟩ := h7.putLast p
      walk_at "rd"
      refine ⟨d, H8, rfl, q8, ?_⟩
      walk_at "rd"
      refine q H8 (b7.trans b8) ⟨lb', ls', la, fv, rv, ?_⟩
      rw [eS3] at h8
      exact h8
end
end BB
set_option Elab.async false
set_option linter.all false
set_option maxRecDepth 100000
set_option maxHeartbeats 4000000
/-! LN: the law's came. -/
namespace BB
open PySem PySem.Spec PyProof.Rows L2
local macro_rules | `(tactic| walk_at "rd") => `(tactic| repeat (first | refine ⟨_, rfl, ?_⟩ | refine ⟨_, _, rfl, rfl, ?_⟩ | refine ⟨_, _, rfl, ?_⟩ | refine ⟨rfl, ?_⟩ | refine ⟨_, _, _, _, rfl, rfl, SqT.of (by assumption), rfl, ?_⟩ | refine ⟨Nat.le_of_ble_eq_true rfl, ?_⟩))
def CameF : Fact → Bool
  | .trade _ _ _ _ => true
  | .shun _ _ => true
  | .gone _ _ => true
  | .rest _ _ => true
  | _ => false
def SOk (S : LS) : Prop := ∀ o, S.flight = some o → sOk o.name = true
theorem in_trade : inV (V.str "trade") [.str "trade", .str "shun"] = true := by decide +kernel
theorem in_shun : inV (V.str "shun") [.str "trade", .str "shun"] = true := by decide +kernel
theorem in_restS (b : Bool) : inV (V.str (restS b)) [.str "trade", .str "shun"] = false := by cases b <;> decide +kernel
theorem restS_trade (b : Bool) : decide (V.str (restS b) = V.str "trade") = false := by cases b <;> decide +kernel
theorem restS_shun (b : Bool) : decide (V.str (restS b) = V.str "shun") = false := by cases b <;> decide +kernel
theorem ph_call (w : Ph) : decide (V.str w.s = V.str "call") = decide (w = .call) := by cases w <;> decide +kernel
theorem facT {b : Bool} {σ : L2.St} {H : Hp} {Q : VK} (h : Q (.str (sd (!b))) H) : if b = true then tC (V.str "sell") σ H Q else tC (V.str "buy") σ H Q := by
  cases b
  · exact h
  · exact h
theorem wholeT {k : Kd} {A B : Prop} (h : k = .whole → B → A) (q : B) : if decide (k = .whole) = true then A else B := by
  by_cases c : k = .whole
  · rw [if_pos (decide_eq_true c)]
    exact h c q
  · rw [if_neg (by simpa using c)]
    exact q
section
variable {P : Program} {w : World} {K : PySem.W.Frag} {mg : Str → Option Value} {base : Heap}
theorem ok_law_came (T : Txt K mg) : Gd P w K mg base CX0 (4) "_law_came" ["state", "fact"] (fun vs H Q E => ∃ (d f lb ls la : Addr) (fv : V) (rv : Option RV) (S : LS) (fc : Fact) (S' : LS) (dk : Kd) (dord : Ord) (dtrig : Int), vs = [.ref d, .ref f] ∧ StIn H d lb ls la fv rv S ∧ H f = some (.tup fc.v) ∧ CameF fc = true ∧ LStep dk dord dtrig S fc S' ∧ SOk S ∧ ∀ H', But d H H' → StAt H' d S' → Q (.bl true) H') := by
  have g_law_called := ok_law_called (P := P) (w := w) (base := base) T
  have g_law_met_first := ok_law_met_first (P := P) (w := w) (base := base) T
  have g_law_allowed := ok_law_allowed (P := P) (w := w) (base := base) T
  have g_law_joined := ok_law_joined (P := P) (w := w) (base := base) T
  have g_law_anew := ok_law_anew (P := P) (w := w) (base := base) T
  have g_law_ended := ok_law_ended (P := P) (w := w) (base := base) T
  refine gd0 T.d_law_came T.g_law_came sc_law_came (fun _ _ _ _ _ _ us hl => match us, hl with | [_, _], _ => rfl) (fun vs H Q E h => ?_) (fun cdv A outer s H vs Q E hr h => ?_)
  · obtain ⟨d, f, lb, ls, la, fv, rv, S, fc, S', dk, dord, dtrig, rfl, _⟩ := h
    rfl
  · obtain ⟨d, f, lb, ls, la, fv, rv, S, fc, S', dk, dord, dtrig, rfl, hS, hf, hc, hst, hso, q⟩ := h
    have hu := hu_of hr
    refine ⟨_, pss_cons (ps_set (i := 2) sc_law_came.nd rfl (Or.inl rfl) (pe_dget hu (pv 0) pe_str (fun _ _ => rfl)))
      (pss_cons (ps_if (pt_cmpR op_isN (pv 2) pe_non (nomark _)) (pss_one (ps_ret (pe_and (pe_cmpR op_eq (pe_ix ix_tup (pv 1) pe_int (fun _ _ => rfl)) pe_str (nomark _)) (pe_and (pe_cmpR op_eq (pe_dget hu (pv 0) pe_str (fun _ _ => rfl)) pe_str (nomark _)) (pe_and (pe_cmpR op_eq (pe_dget hu (pv 0) pe_str (fun _ _ => rfl)) pe_str (nomark _)) (pe_one (cg g_law_called (hr.mono (by decide)) (pa_cons (pv 0) (pa_cons (pv 1) pa_nil))))))))) pss_nil)
      (pss_cons (ps_if (pt_cmpR op_in_seq (pe_ix ix_tup (pv 1) pe_int (fun _ _ => rfl)) (pe_tup (pa_cons pe_str (pa_cons pe_str pa_nil))) (by rfl)) (pss_cons (ps_dput hu (pv 0) pe_str (pe_op op_add (pe_dget hu (pv 0) pe_str (fun _ _ => rfl)) pe_int) rfl)
      (pss_one (ps_if (PW.pt (pw_or (pt_cmpR op_eq (pe_dget hu (pv 0) pe_str (fun _ _ => rfl)) pe_str (nomark _)) (pw_or1 (PW.pt (pw_and (pt_cmpR op_eq (pe_dget hu (pv 0) pe_str (fun _ _ => rfl)) pe_str (nomark _)) (pw_and1 (pt_cmpR op_lt (pe_dget hu (pv 0) pe_str (fun _ _ => rfl)) (pe_dget hu (pv 0) pe_str (fun _ _ => rfl)) (nomark _)))))))) (pss_one (ps_ret pe_bl)) pss_nil))) pss_nil)
      (pss_cons (ps_set (i := 3) sc_law_came.nd rfl (Or.inl rfl) (pe_ifExp (pt_cmpR op_eq (pe_ix ix_tup (pv 2) pe_int (fun _ _ => rfl)) pe_str (nomark _)) pe_str pe_str))
      (pss_cons (ps_set (i := 4) sc_law_came.nd rfl (Or.inl rfl) (pe_dget hu (pv 0) (pv 3) (fun _ _ => rfl)))
      (pss_cons (ps_if (pt_cmpR op_eq (pe_ix ix_tup (pv 1) pe_int (fun _ _ => rfl)) pe_str (nomark _)) (pss_one (ps_ret (pe_and (pe_cmpR op_eq (pe_dget hu (pv 0) pe_str (fun _ _ => rfl)) pe_str (nomark _)) (pe_one (cg g_law_met_first (hr.mono (by decide)) (pa_cons (pv 0) (pa_cons (pv 1) (pa_cons (pv 2) (pa_cons (pv 3) pa_nil))))))))) pss_nil)
      (pss_cons (ps_if (pt_cmpR op_eq (pe_ix ix_tup (pv 1) pe_int (fun _ _ => rfl)) pe_str (nomark _)) (pss_cons (ps_if (PW.pt (pw_or (pt_cmpR (op_eqD hr.units) (pv 4) (pe_lst pa_nil) (nomark _)) (pw_or1 (pt_cmpR (op_neD hr.units) (pe_tup (pa_cons (pe_ix ix_tup (pe_ix ix_list (pv 4) pe_int (fun _ _ => rfl)) pe_int (fun _ _ => rfl)) (pa_cons (pe_ix ix_tup (pe_ix ix_list (pv 4) pe_int (fun _ _ => rfl)) pe_int (fun _ _ => rfl)) (pa_cons (pe_ix ix_tup (pe_ix ix_list (pv 4) pe_int (fun _ _ => rfl)) pe_int (fun _ _ => rfl)) pa_nil)))) (pe_tup (pa_cons (pe_ix ix_tup (pv 1) pe_int (fun _ _ => rfl)) (pa_cons (pe_ix ix_tup (pv 1) pe_int (fun _ _ => rfl)) (pa_cons (pe_ix ix_tup (pv 2) pe_int (fun _ _ => rfl)) pa_nil)))) (nomark _))))) (pss_one (ps_ret pe_bl)) pss_nil)
      (pss_cons (ps_dput hu (pv 0) (pv 3) (pe_slice sl_list (pv 4) (po_some pe_int) po_none) rfl)
      (pss_one (ps_ret (pe_and (pe_cmpR op_eq (pe_dget hu (pv 0) pe_str (fun _ _ => rfl)) pe_str (nomark _)) (pe_one (cg g_law_allowed (hr.mono (by decide)) (pa_cons (pv 2) (pa_cons (pe_ix ix_tup (pe_ix ix_list (pv 4) pe_int (fun _ _ => rfl)) pe_int (fun _ _ => rfl)) pa_nil))))))))) pss_nil)
      (pss_cons (ps_if (pt_cmpR (op_neD hr.units) (pe_tup (pa_cons (pe_ix ix_tup (pv 1) pe_int (fun _ _ => rfl)) (pa_cons (pe_ix ix_tup (pv 1) pe_int (fun _ _ => rfl)) pa_nil))) (pe_tup (pa_cons (pe_ix ix_tup (pv 2) pe_int (fun _ _ => rfl)) (pa_cons (pe_ix ix_tup (pv 2) pe_int (fun _ _ => rfl)) pa_nil))) (nomark _)) (pss_one (ps_ret pe_bl)) pss_nil)
      (pss_cons (ps_dput hu (pv 0) pe_str pe_non rfl)
      (pss_cons (ps_if (pt_cmpR op_eq (pe_ix ix_tup (pv 1) pe_int (fun _ _ => rfl)) pe_str (nomark _)) (pss_one (ps_dput hu (pv 0) (pe_ix ix_tup (pv 2) pe_int (fun _ _ => rfl)) (cg g_law_joined (hr.mono (by decide)) (pa_cons (pe_dget hu (pv 0) (pe_ix ix_tup (pv 2) pe_int (fun _ _ => rfl)) (fun _ _ => rfl)) (pa_cons (cg g_law_anew (hr.mono (by decide)) (pa_cons (pv 2) (pa_cons (pe_ix ix_tup (pv 2) pe_int (fun _ _ => rfl)) pa_nil))) pa_nil))) rfl)) pss_nil)
      (pss_one (ps_ret (cg g_law_ended (hr.mono (by decide)) (pa_cons (pv 0) (pa_cons (pv 1) (pa_cons (pv 2) (pa_cons (pv 4) pa_nil)))))))))))))))), ?_⟩
    cases hst with
    | @called bh sh bt st p a hfl htu hph hcu hbl hsl hbo hsok hb1 hs1 a1 a2 a3 al1 al2 z1 z2 =>
      have hf' : H f = some (.tup [.str "trade", .str bh.name, .str sh.name, .int p, .int a]) := hf
      have hfv : fv = .non := by have := hS.f; rw [hfl] at this; exact this
      subst hfv
      walk_at "rd"
      refine ⟨d, _, rfl, gk_flight hS.o, ?_⟩
      walk_at "rd"
      refine ⟨d, _, rfl, gk_turn hS.o, ?_⟩
      rw [show (vS lb ls la V.non rv S).tu = tuV S.turn from rfl, htu]
      walk_at "rd"
      refine ⟨d, _, rfl, gk_phase hS.o, ?_⟩
      rw [show (vS lb ls la V.non rv S).ph = .str S.phase.s from rfl, hph]
      walk_at "rd"
      refine ⟨d, f, lb, ls, la, .non, rv, S, bh, sh, bt, st, p, a, rfl, hS, hf', hcu, hbl, hsl, hbo, hsok, hb1, hs1, a1, a2, a3, al1, al2, z1, z2, fun H' b h => q H' b h⟩
    | @trade o h t r a hfl hru hm hph hli hw hal hj ha hok hz =>
      obtain ⟨oa, rfl, hoa⟩ : ∃ oa, fv = .ref oa ∧ H oa = some (.tup o.v) := by have := hS.f; rw [hfl] at this; exact this
      cases hS.r r hru
      have hf' : H f = some (.tup [.str "trade", .str (if o.buy = true then o.name else h.name), .str (if o.buy = true then h.name else o.name), .int h.price, .int a]) := by
        rw [hf]
        cases o.buy <;> rfl
      walk_at "rd"
      refine ⟨d, _, rfl, gk_flight hS.o, ?_⟩
      walk_at "rd"
      intro p hp
      have u := same_upd (o := .tup [.str "trade", .str "shun"]) hp
      have hS1 := hS.same u
      have hf1 := u _ _ hf'
      have ho1 := u _ _ hoa
      refine ⟨p, _, rfl, .inr (SqT.of upd_same), rfl, rfl, ?_⟩
      generalize (upd H p (.tup [.str "trade", .str "shun"])) = H1 at *
      walk_at "rd"
      refine ⟨d, _, rfl, gk_steps hS1.o rfl, ?_⟩
      walk_at "rd"
      obtain ⟨H2, q2, b2, h2⟩ := hS1.putSteps (r.steps + 1)
      refine ⟨d, H2, rfl, q2, ?_⟩
      have bb2 := (But.of u).trans b2
      have k2 := b2.ktD hS1.o
      have hf2 := k2 _ _ hf1
      have ho2 := k2 _ _ ho1
      walk_at "rd"
      refine ⟨d, _, rfl, gk_word h2.o rfl, ?_⟩
      walk_at "rd"
      refine iteB (kd_qui r.kd) (iteN (decide_eq_false hm.1) ?_)
      walk_at "rd"
      refine ⟨d, _, rfl, gk_word h2.o rfl, ?_⟩
      walk_at "rd"
      refine iteB (kd_who r.kd) ?_
      refine wholeT (fun z hB => ?_) ?_
      · walk_at "rd"
        refine ⟨d, _, rfl, gk_could h2.o rfl, ?_⟩
        walk_at "rd"
        refine ⟨d, _, rfl, gk_begun h2.o rfl, ?_⟩
        walk_at "rd"
        have g := hm.2 z
        refine iteN (decide_eq_false (by show ¬ r.could < r.begun; omega)) ?_
        exact hB
      walk_at "rd"
      refine iteB (sd_buy o.buy) ?_
      refine facT ?_
      walk_at "rd"
      refine ⟨d, _, rfl, h2.getLine (!o.buy), ?_⟩
      walk_at "rd"
      refine ⟨d, _, rfl, gk_phase h2.o, ?_⟩
      walk_at "rd"
      refine iteB (ph_opn S.phase) (iteY (decide_eq_true hph) ?_)
      walk_at "rd"
      refine ⟨d, f, oa, lb, ls, la, .ref oa, some (runV { r with steps := r.steps + 1 }), { S with run := some { r with steps := r.steps + 1 } }, runV { r with steps := r.steps + 1 }, r.base, o, h, t, a, rfl, h2, rfl, rfl, ho2, hf2, hli, hw, hal, hj, ha, hok, hz, hso o hfl, fun H' b h' => q H' (bb2.trans b) ?_⟩
      have e : ({ ({ S with run := some { r with steps := r.steps + 1 } } : LS).setLine (!o.buy) (BB.served (h :: t) a) with flight := if a < o.left then some { o with left := o.left - a } else none, last := h.price } : LS) = { S.setLine (!o.buy) (BB.served (h :: t) a) with flight := if a < o.left then some { o with left := o.left - a } else none, last := h.price, run := some { r with steps := r.steps + 1 } } := by
        cases o.buy <;> rfl
      rw [← e]
      exact h'
    | @shun o h t r hfl hru hm hph hli hw hal hok =>
      obtain ⟨oa, rfl, hoa⟩ : ∃ oa, fv = .ref oa ∧ H oa = some (.tup o.v) := by have := hS.f; rw [hfl] at this; exact this
      cases hS.r r hru
      have hf' : H f = some (.tup [.str "shun", .str h.name, .int h.left]) := hf
      have hk := hok h List.mem_cons_self
      walk_at "rd"
      refine ⟨d, _, rfl, gk_flight hS.o, ?_⟩
      walk_at "rd"
      intro p hp
      have u := same_upd (o := .tup [.str "trade", .str "shun"]) hp
      have hS1 := hS.same u
      have hf1 := u _ _ hf'
      have ho1 := u _ _ hoa
      refine ⟨p, _, rfl, .inr (SqT.of upd_same), rfl, rfl, ?_⟩
      generalize (upd H p (.tup [.str "trade", .str "shun"])) = H1 at *
      walk_at "rd"
      refine ⟨d, _, rfl, gk_steps hS1.o rfl, ?_⟩
      walk_at "rd"
      obtain ⟨H2, q2, b2, h2⟩ := hS1.putSteps (r.steps + 1)
      refine ⟨d, H2, rfl, q2, ?_⟩
      have bb2 := (But.of u).trans b2
      have k2 := b2.ktD hS1.o
      have hf2 := k2 _ _ hf1
      have ho2 := k2 _ _ ho1
      walk_at "rd"
      refine ⟨d, _, rfl, gk_word h2.o rfl, ?_⟩
      walk_at "rd"
      refine iteB (kd_qui r.kd) (iteN (decide_eq_false hm.1) ?_)
      walk_at "rd"
      refine ⟨d, _, rfl, gk_word h2.o rfl, ?_⟩
      walk_at "rd"
      refine iteB (kd_who r.kd) ?_
      refine wholeT (fun z hB => ?_) ?_
      · walk_at "rd"
        refine ⟨d, _, rfl, gk_could h2.o rfl, ?_⟩
        walk_at "rd"
        refine ⟨d, _, rfl, gk_begun h2.o rfl, ?_⟩
        walk_at "rd"
        have g := hm.2 z
        refine iteN (decide_eq_false (by show ¬ r.could < r.begun; omega)) ?_
        exact hB
      walk_at "rd"
      refine iteB (sd_buy o.buy) ?_
      refine facT ?_
      walk_at "rd"
      obtain ⟨l, hl⟩ : ∃ l, l = (if (!o.buy) = true then lb else ls) := ⟨_, rfl⟩
      have hget := h2.getLine (!o.buy)
      have hLn := h2.line (!o.buy)
      rw [← hl] at hget hLn
      have hli2 : ({ S with run := some { r with steps := r.steps + 1 } } : LS).line (!o.buy) = h :: t := hli
      rw [hli2] at hLn
      obtain ⟨lv, hlv, hlT⟩ := id hLn
      obtain ⟨_, tv, rfl, ⟨hb, rfl, hhb⟩, htT⟩ := Tups.head hlT
      refine ⟨d, _, rfl, hget, ?_⟩
      walk_at "rd"
      intro e he
      have u3 := same_upd (o := .lst []) he
      refine eq_lnil (hLn.same u3) upd_same (ords_fl hok) ?_
      rw [isEmpty_map]
      have h3 := h2.same u3
      have hlv3 := u3 _ _ hlv
      have hhb3 := u3 _ _ hhb
      have hf3 := u3 _ _ hf2
      have ho3 := u3 _ _ ho2
      have bb3 := bb2.trans (But.of u3)
      have kk3 := Kt.same u3
      generalize (upd H2 e (.lst [])) = H3 at *
      walk_at "rd"
      refine ⟨l, _, _, _, rfl, rfl, SqL.of hlv3, at0, ?_⟩
      walk_at "rd"
      refine ⟨l, _, _, _, rfl, rfl, SqL.of hlv3, at0, ?_⟩
      walk_at "rd"
      refine ⟨l, _, _, _, rfl, rfl, SqL.of hlv3, at0, ?_⟩
      walk_at "rd"
      intro p4 hp4
      have u4 := same_upd (o := .tup [.str h.name, .int h.left, .str h.who]) hp4
      have hf4 := u4 _ _ hf3
      have ho4 := u4 _ _ ho3
      walk_at "rd"
      intro p5 hp5
      have u5 := same_upd (o := .tup [.str h.name, .int h.left, .str o.who]) hp5
      have hfl1 : [V.str h.name, .int h.left, .str h.who].all fl = true := by
        show (sOk h.name && (sOk h.who && true)) = true
        rw [hk.nk, hk.wk]
        rfl
      refine ne_tups (ys := [.str h.name, .int h.left, .str o.who]) (u5 _ _ upd_same) upd_same ?_ hfl1 (by rw [← hw]; exact hfl1)
      rw [decide_eq_true (by rw [hw])]
      have s35 := u4.trans u5
      have h5 := h3.same s35
      have hlv5 := s35 _ _ hlv3
      have hhb5 := s35 _ _ hhb3
      have ho5 := s35 _ _ ho3
      have bb5 := bb3.trans (But.of s35)
      have kk5 := kk3.trans (Kt.same s35)
      generalize (upd (upd H3 p4 (.tup [.str h.name, .int h.left, .str h.who])) p5 (.tup [.str h.name, .int h.left, .str o.who])) = H5 at *
      walk_at "rd"
      refine ⟨l, _, rfl, SqL.of hlv5, fun p6 hp6 => ?_⟩
      rw [sub1]
      have u6 := same_upd (o := .lst tv) hp6
      have hT6 : LinAt (upd H5 p6 (.lst tv)) p6 t := ⟨_, upd_same, htT.kt (kk5.trans (Kt.same u6))⟩
      obtain ⟨H7, q7, b7, h7⟩ := (h5.same u6).putL (!o.buy) hT6
      have hld : l ≠ d := fun z => by rw [z, h5.o] at hlv5; cases hlv5
      have b57 := (But.of u6).trans b7
      have k57 := b57.ktD h5.o
      have hlv7 : H7 l = some (.lst (V.ref hb :: tv)) := b57 _ _ hlv5 hld
      have hhb7 := k57 _ _ hhb5
      have ho7 := k57 _ _ ho5
      walk_at "rd"
      refine ⟨d, H7, rfl, q7, ?_⟩
      walk_at "rd"
      refine ⟨d, _, rfl, gk_phase h7.o, ?_⟩
      walk_at "rd"
      have hph7 : ((({ S with run := some { r with steps := r.steps + 1 } } : LS).setLine (!o.buy) t).phase) = .opn := by rw [← hph]; cases o.buy <;> rfl
      refine iteB (ph_opn _) (iteY (decide_eq_true hph7) ?_)
      walk_at "rd"
      refine ⟨l, _, _, _, rfl, rfl, SqL.of hlv7, at0, ?_⟩
      walk_at "rd"
      refine ⟨oa, o, h.price, rfl, ho7, ?_⟩
      rw [hal]
      have e : ({ S with run := some { r with steps := r.steps + 1 } } : LS).setLine (!o.buy) t = { S.setLine (!o.buy) t with run := some { r with steps := r.steps + 1 } } := by cases o.buy <;> rfl
      rw [e] at h7
      exact q H7 (bb5.trans b57) ⟨_, _, _, _, _, h7⟩
    | @gone o r b hfl hru hE hok =>
      obtain ⟨oa, rfl, hoa⟩ : ∃ oa, fv = .ref oa ∧ H oa = some (.tup o.v) := by have := hS.f; rw [hfl] at this; exact this
      cases hS.r r hru
      have hf' : H f = some (.tup [.str "gone", .str o.name, .int o.left]) := hf
      have hon := hso o hfl
      walk_at "rd"
      refine ⟨d, _, rfl, gk_flight hS.o, ?_⟩
      walk_at "rd"
      intro p hp
      have u := same_upd (o := .tup [.str "trade", .str "shun"]) hp
      have hS1 := hS.same u
      have hf1 := u _ _ hf'
      have ho1 := u _ _ hoa
      refine ⟨p, _, rfl, .inr (SqT.of upd_same), rfl, rfl, ?_⟩
      generalize (upd H p (.tup [.str "trade", .str "shun"])) = H1 at *
      walk_at "rd"
      refine iteB (sd_buy o.buy) ?_
      refine facT ?_
      walk_at "rd"
      obtain ⟨l, hl⟩ : ∃ l, l = (if (!o.buy) = true then lb else ls) := ⟨_, rfl⟩
      have hget := hS1.getLine (!o.buy)
      have hLn := hS1.line (!o.buy)
      rw [← hl] at hget hLn
      refine ⟨d, _, rfl, hget, ?_⟩
      walk_at "rd"
      intro p4 hp4
      have u4 := same_upd (o := .tup [.str o.name, .int o.left]) hp4
      have hf4 := u4 _ _ hf1
      have ho4 := u4 _ _ ho1
      walk_at "rd"
      intro p5 hp5
      have u5 := same_upd (o := .tup [.str o.name, .int o.left]) hp5
      have hfl1 : [V.str o.name, .int o.left].all fl = true := by
        show (sOk o.name && true) = true
        rw [hon]
        rfl
      refine ne_tups (u5 _ _ upd_same) upd_same ?_ hfl1 hfl1
      rw [decide_eq_true rfl]
      have s35 := u4.trans u5
      have h5 := hS1.same s35
      have ho5 := s35 _ _ ho1
      have hf5 := s35 _ _ hf1
      have hL5 := hLn.same s35
      have bb5 := (But.of (u.trans s35) : But d _ _)
      generalize (upd (upd H1 p4 (.tup [.str o.name, .int o.left])) p5 (.tup [.str o.name, .int o.left])) = H5 at *
      walk_at "rd"
      obtain ⟨H6, q6, b6, h6⟩ := h5.putFN
      refine ⟨d, H6, rfl, q6, ?_⟩
      have k6 := b6.ktD h5.o
      have ho6 := k6 _ _ ho5
      have hf6 := k6 _ _ hf5
      have hL6 := hL5.butD b6 h5.o
      have bb6 := bb5.trans b6
      walk_at "rd"
      refine ⟨d, f, oa, l, vS lb ls la .non (some (runV r)) { S with flight := none }, S, r, o, false, b, o.name, o.left, rfl, h6.o, rfl, rfl, rfl, rfl, hf6, ho6, hL6, hok, hE, fun H' b' hd' => q H' (bb6.trans b') ⟨lb, ls, la, .non, some (runV r), hd', h6.b.butD b' h6.o, h6.s.butD b' h6.o, h6.a.butD b' h6.o, rfl, h6.r⟩⟩
    | @rest o r b hfl hru hE hok hp0 hz =>
      obtain ⟨oa, rfl, hoa⟩ : ∃ oa, fv = .ref oa ∧ H oa = some (.tup o.v) := by have := hS.f; rw [hfl] at this; exact this
      cases hS.r r hru
      have hf' : H f = some (.tup [.str "rest", .str o.name, .int o.left]) := hf
      have hon := hso o hfl
      walk_at "rd"
      refine ⟨d, _, rfl, gk_flight hS.o, ?_⟩
      walk_at "rd"
      intro p hp
      have u := same_upd (o := .tup [.str "trade", .str "shun"]) hp
      have hS1 := hS.same u
      have hf1 := u _ _ hf'
      have ho1 := u _ _ hoa
      refine ⟨p, _, rfl, .inr (SqT.of upd_same), rfl, rfl, ?_⟩
      generalize (upd H p (.tup [.str "trade", .str "shun"])) = H1 at *
      walk_at "rd"
      refine iteB (sd_buy o.buy) ?_
      refine facT ?_
      walk_at "rd"
      obtain ⟨l, hl⟩ : ∃ l, l = (if (!o.buy) = true then lb else ls) := ⟨_, rfl⟩
      have hget := hS1.getLine (!o.buy)
      have hLn := hS1.line (!o.buy)
      rw [← hl] at hget hLn
      refine ⟨d, _, rfl, hget, ?_⟩
      walk_at "rd"
      intro p4 hp4
      have u4 := same_upd (o := .tup [.str o.name, .int o.left]) hp4
      have hf4 := u4 _ _ hf1
      have ho4 := u4 _ _ ho1
      walk_at "rd"
      intro p5 hp5
      have u5 := same_upd (o := .tup [.str o.name, .int o.left]) hp5
      have hfl1 : [V.str o.name, .int o.left].all fl = true := by
        show (sOk o.name && true) = true
        rw [hon]
        rfl
      refine ne_tups (u5 _ _ upd_same) upd_same ?_ hfl1 hfl1
      rw [decide_eq_true rfl]
      have s35 := u4.trans u5
      have h5 := hS1.same s35
      have ho5 := s35 _ _ ho1
      have hf5 := s35 _ _ hf1
      have hL5 := hLn.same s35
      have bb5 := (But.of (u.trans s35) : But d _ _)
      generalize (upd (upd H1 p4 (.tup [.str o.name, .int o.left])) p5 (.tup [.str o.name, .int o.left])) = H5 at *
      walk_at "rd"
      obtain ⟨H6, q6, b6, h6⟩ := h5.putFN
      refine ⟨d, H6, rfl, q6, ?_⟩
      have k6 := b6.ktD h5.o
      have ho6 := k6 _ _ ho5
      have hf6 := k6 _ _ hf5
      have hL6 := hL5.butD b6 h5.o
      have bb6 := bb5.trans b6
      walk_at "rd"
      obtain ⟨l2, hl2⟩ : ∃ l, l = (if o.buy = true then lb else ls) := ⟨_, rfl⟩
      have hget2 := h6.getLine o.buy
      have hLn2 := h6.line o.buy
      rw [← hl2] at hget2 hLn2
      refine ⟨d, _, rfl, hget2, ?_⟩
      walk_at "rd"
      refine ⟨oa, o, o.left, rfl, ho6, hp0, fun x1 H7 s7 hx1 hx => ?_⟩
      walk_at "rd"
      refine ⟨l2, x1, S.line o.buy, BB.fresh o o.left, rfl, hLn2.same s7, hx, by omega, fun p7 H8 s8 hp7 hj8 => ?_⟩
      have s68 := s7.trans s8
      have ho8 := s68 _ _ ho6
      have hf8 := s68 _ _ hf6
      walk_at "rd"
      obtain ⟨H9, q9, b9, h9⟩ := (h6.same s68).putL o.buy hj8
      refine ⟨d, H9, rfl, q9, ?_⟩
      have b69 := (But.of s68).trans b9
      have k69 := b69.ktD h6.o
      have ho9 := k69 _ _ ho6
      have hf9 := k69 _ _ hf6
      have hL9 := hL6.butD b69 h6.o
      obtain ⟨S9, eS9⟩ : ∃ S9, S9 = ({ S with flight := none } : LS).setLine o.buy (BB.joined (S.line o.buy) (BB.fresh o o.left)) := ⟨_, rfl⟩
      rw [← eS9] at h9
      have e1 : S9.phase = S.phase ∧ S9.leap = S.leap ∧ S9.halts = S.halts ∧ S9.flight = none := by rw [eS9]; cases o.buy <;> exact ⟨rfl, rfl, rfl, rfl⟩
      have e2 : ({ S9 with halts := b } : LS) = { S.setLine o.buy (BB.joined (S.line o.buy) (BB.fresh o o.left)) with flight := none, halts := b } := by rw [eS9]; cases o.buy <;> rfl
      obtain ⟨lb9, elb9⟩ : ∃ x, x = (if o.buy = true then p7 else lb) := ⟨_, rfl⟩
      obtain ⟨ls9, els9⟩ : ∃ x, x = (if o.buy = true then ls else p7) := ⟨_, rfl⟩
      rw [← elb9, ← els9] at h9
      walk_at "rd"
      refine ⟨d, f, oa, l, vS lb9 ls9 la .non (some (runV r)) S9, S, r, o, true, b, o.name, o.left, rfl, h9.o, rfl, congrArg (fun x : Ph => V.str x.s) e1.1, congrArg V.int e1.2.1, congrArg V.bl e1.2.2.1, hf9, ho9, hL9, hok, hE, fun H' b' hd' => q H' ((bb6.trans b69).trans b') ?_⟩
      rw [← e2]
      exact ⟨lb9, ls9, la, .non, some (runV r), hd', h9.b.butD b' h9.o, h9.s.butD b' h9.o, h9.a.butD b' h9.o, (by show RestAt H' V.non S9.flight; rw [e1.2.2.2]; rfl), h9.r⟩
    | _ => cases hc
end
end BB
set_option Elab.async false
set_option linter.all false
set_option maxRecDepth 100000
set_option maxHeartbeats 4000000
/-! Z0: zip of a tuple and a text. -/
namespace BB
open PySem PySem.Spec PyProof.Rows L2 RZ
/-- the tuple at a and a text, turn by turn, the items in new pairs -/
def ItzX (K : PySem.W.Frag) (a : Addr) (z : Str) : It :=
  ⟨fun i H => ∃ (xs : List V) (x : V) (c : Nat), SqT K H a xs ∧ xs[i]? = some x ∧ z.cps[i]? = some c,
    fun i H v H' => ∃ T x c, v = .ref T ∧ H T = none ∧ H' = upd H T (.tup [x, .str ⟨#[c]⟩]) ∧ (∀ xs, SqT K H a xs → xs[i]? = some x) ∧ z.cps[i]? = some c,
    fun i H => ∃ xs : List V, SqT K H a xs ∧ i ≤ xs.length ∧ i ≤ z.cps.size ∧ (i = xs.length ∨ i = z.cps.size)⟩
theorem zip_sep (n a : Nat) (h : a < n) : ZipSep2 (n + 4) (n + 2) (n + 3) n (n + 1) [n, a] [n + 1] where
  TIz := show (n + 2 : Nat) ≠ n + 4 by omega
  TOz := show (n + 3 : Nat) ≠ n + 4 by omega
  TITO := show (n + 2 : Nat) ≠ n + 3 by omega
  TIi1 := show (n + 2 : Nat) ≠ n by omega
  mem1 := List.mem_cons_self
  zf1 := show ¬ (n + 4 : Nat) ∈ [n, a] by simp; omega
  Tf1 := show ¬ (n + 3 : Nat) ∈ [n, a] by simp; omega
  TIi2 := show (n + 2 : Nat) ≠ n + 1 by omega
  mem2 := List.mem_cons_self
  zf2 := show ¬ (n + 4 : Nat) ∈ [n + 1] by simp
  Tf2 := show ¬ (n + 3 : Nat) ∈ [n + 1] by simp
  sep1_2 := show ¬ (n : Nat) ∈ [n + 1] by simp
  sep2_1 := show ¬ (n + 1 : Nat) ∈ [n, a] by simp; omega
theorem turn_zipX {P : Program} {w : World} {K : PySem.W.Frag} {elts : List Expr} {kk : Nat} {tpos : Pos} {a z TI TO i1 i2 : Addr} {x : Str} {t : Tok} (hai : a ≠ i1) (S : ZipSep2 z TI TO i1 i2 [i1, a] [i2]) :
    Turn P w K (.Tuple elts kk tpos) (ItzX K a x) [z, TI, TO, i1, i2] z (fun i h => IsZip h z TI TO .none ∧ IsTupOf2 h TI (.ref i1) (.ref i2) ∧ (∃ x y, IsTupOf2 h TO x y) ∧ h.IsTupleIter i1 a i ∧ h.IsStrIter i2 (strIterType x) x t i) where
  mem := by simp
  obj := fun i h st c hc => by
    obtain ⟨hz, hTI, ⟨x, y, hTO⟩, ⟨o1, e1, _, d1⟩, ⟨o2, e2, _, d2⟩⟩ := st
    have e' : c = z ∨ c = TI ∨ c = TO ∨ c = i1 ∨ c = i2 := by simpa using hc
    rcases e' with q | q | q | q | q
    · rw [q]; exact ⟨_, hz, fun v q => nomatch q⟩
    · rw [q]; exact ⟨_, hTI, fun v q => nomatch q⟩
    · rw [q]; exact ⟨_, hTO, fun v q => nomatch q⟩
    · rw [q]; exact ⟨o1, e1, fun v q => by rw [d1] at q; cases q⟩
    · rw [q]; exact ⟨o2, e2, fun v q => by rw [d2] at q; cases q⟩
  keep := fun i h h' st k => by
    obtain ⟨hz, hTI, ⟨x, y, hTO⟩, h1, ⟨o2, e2, r2⟩⟩ := st
    exact ⟨k z (by simp) _ hz, k TI (by simp) _ hTI, ⟨x, y, k TO (by simp) _ hTO⟩, h1.at fun o q => k i1 (by simp) o q, ⟨o2, k i2 (by simp) _ e2, r2⟩⟩
  item := by
    intro X hP hw hK hc i pins s σ H E I hf st hg
    subst hP hw hK
    obtain ⟨hz, hTI, ⟨x0, y0, hTO⟩, h1, h2⟩ := st
    obtain ⟨xs, y, c, hqx, hx, hcx⟩ := hg
    obtain ⟨its, rv, p, _⟩ := I.tuple hqx
    obtain ⟨u, hu, ru⟩ := rv.get hx
    have hzl : z < s.heap.objs.size := Heap.lt_size hz
    have hn1 : i < its.toArray.size := by
      have := (List.getElem?_eq_some_iff.mp hu).1
      simpa using this
    have hn2 : i < x.cps.size := (Array.getElem?_eq_some_iff.mp hcx).1
    have D1 := Draws.tuple (prog := X.prog) (w := X.w) (A := X.A.in1) (I.ok.hd hc) i1 a hai its.toArray
    have D2 := Draws.text (prog := X.prog) (w := X.w) (A := X.A.in1) (I.ok.hd hc) i2 x t
    have st1 : s.heap.IsTupleIter i1 a i ∧ s.heap.IsTuple a its.toArray := ⟨h1, p⟩
    refine wpAny_pyNext_zipD2_item S D1 D2 hz hTI hTO st1 h2 hn1 hn2 fun x1 x2 h' tk p1 p2 z' TO' h1' h2' hT hsz hk => ?_
    obtain ⟨h1', _⟩ := h1'
    have p1 : its.toArray[i]? = some x1 := p1
    have e1 : x1 = u := by
      rw [List.getElem?_toArray, hu] at p1
      exact (Option.some.inj p1).symm
    subst e1
    obtain ⟨c', u2, hc', rfl⟩ := p2
    have e2 : c' = c := by
      rw [hcx] at hc'
      exact (Option.some.inj hc').symm
    subst e2
    refine ⟨_, rfl, wpAny_letOwnedTupleGo_zip (s := { s with heap := h', toks := tk }) z' fun h'' z'' sb => ?_⟩
    have hT2 : h''.get? s.heap.objs.size = some { cls := .type "tuple", data := .seq #[x1, .str ⟨#[c']⟩ u2] } := (sb.2 _ (Nat.ne_of_gt hzl)).trans hT
    have new : ObjOk X.prog X.w (upd H s.heap.objs.size (.tup [y, .str ⟨#[c']⟩])) h'' s.heap.objs.size (.tup [y, .str ⟨#[c']⟩]) :=
      ⟨by show 2 ≤ sizeLine; decide, [x1, .str ⟨#[c']⟩ u2], .cons ru (.cons ⟨_, rfl⟩ .nil), ⟨_, hT2, rfl, _, rfl⟩⟩
    have I1 : Inv X pins σ (upd H s.heap.objs.size (.tup [y, .str ⟨#[c']⟩])) { s with heap := h'', toks := tk } :=
      I.turnedNew (t' := tk) (ch := [z, TI, TO, i1, i2]) (fun c o hb q => (sb.2 c (fun q' => hb (by simp [q']))).trans (hk c o (fun q' => hb (by simp [q'])) (fun q' => hb (by simp [q'])) (fun q' => hb (by simp [q'])) (fun q' => hb (by simp [q'])) q)) hf (Nat.le_refl _) new
    refine ⟨.ref s.heap.objs.size, _, I1, rfl, ⟨_, y, c', rfl, I.hok.fresh (Nat.le_refl _), rfl, fun l hl => by rw [I.tuple_inj hl hqx]; exact hx, hcx⟩, ⟨z'', ?_, ⟨x1, .str ⟨#[c']⟩ u2, ?_⟩, ?_, ?_⟩, fun c hcm => ?_⟩
    · exact (sb.2 _ S.TIz).trans (hk _ _ S.TIz S.TITO S.TIi1 S.TIi2 hTI)
    · exact (sb.2 _ S.TOz).trans TO'
    · exact h1'.at fun o q => (sb.2 _ S.zi1.symm).trans q
    · obtain ⟨o2, e2, r2⟩ := h2'
      exact ⟨o2, (sb.2 _ S.zi2.symm).trans e2, r2⟩
    · have hlt : c < s.heap.objs.size := by
        have e' : c = z ∨ c = TI ∨ c = TO ∨ c = i1 ∨ c = i2 := by simpa using hcm
        rcases e' with q | q | q | q | q
        · rw [q]; exact hzl
        · rw [q]; exact Heap.lt_size hTI
        · rw [q]; exact Heap.lt_size hTO
        · rw [q]; obtain ⟨_, e1, _⟩ := h1; exact Heap.lt_size e1
        · rw [q]; obtain ⟨_, e2, _⟩ := h2; exact Heap.lt_size e2
      rw [upd_ne (Nat.ne_of_lt hlt)]
      exact (hf c hcm).1
  done := by
    intro X hP hw hK hc i pins s σ H E I hf st hg
    subst hP hw hK
    obtain ⟨hz, hTI, ⟨x0, y0, hTO⟩, h1, h2⟩ := st
    obtain ⟨xs, hqx, l1, l2, hend⟩ := hg
    obtain ⟨its, rv, p, _⟩ := I.tuple hqx
    have le := rv.length
    have ez : its.toArray.size = xs.length := by simp; omega
    have D1 := Draws.tuple (prog := X.prog) (w := X.w) (A := X.A.in1) (I.ok.hd hc) i1 a hai its.toArray
    have D2 := Draws.text (prog := X.prog) (w := X.w) (A := X.A.in1) (I.ok.hd hc) i2 x t
    have st1 : s.heap.IsTupleIter i1 a i ∧ s.heap.IsTuple a its.toArray := ⟨h1, p⟩
    have l1' : i ≤ its.toArray.size := by rw [ez]; exact l1
    have hend' : i = its.toArray.size ∨ i = x.cps.size := by rw [ez]; exact hend
    refine wpAny_pyNext_zipD2_end S D1 D2 hz hTI hTO st1 h2 l1' l2 hend' fun h' tk hk => ⟨rfl, ?_⟩
    exact I.turnedL (t' := tk) (ch := [z, TI, TO, i1, i2]) (fun c o hb q =>
      hk c o (fun q' => hb (by simp [q'])) (fun q' => hb (by simp [q'])) (fun q' => hb (by simp [q'])) (fun q' => hb (by simp [q'])) q) hf
  self := fun A i s Q E st h => wpAny_pyIter_zip st.1 h
def iZipX (K : PySem.W.Frag) (ta : TA) : TI := fun σ H R => ta σ H fun vs H1 => ∃ a x xs, vs = [.ref a, .str x] ∧ SqT K H1 a xs ∧ R (ItzX K a x) H1
theorem pi_zipX {X : Cx} {e e2 : Expr} {ta : TA} {p pos tpos : Pos} {elts : List Expr} {kk : Nat} (hg : Gl X "zip") (hm : X.mg "zip" = none) (ha : PA X [e, e2] ta)
    (hs : starEach [e, e2] X.env = (false, eval e X.env) :: starEach [e2] X.env := by rfl) (hpl : (backTo pos (starEach [e2] X.env)).any (·.1) = false := by rfl) :
    PI X (.Tuple elts kk tpos) (.Call (.Name "zip" p) [e, e2] [] pos) (iZipX X.K ta) := by
  refine ⟨fun pins s σ H R I h => ?_⟩
  refine Call_ (ld_blt I hg hm PyProof.Rows.boot_zip (PyProof.Rows.callWith_type1 (thn (ha.run pos pins s σ H _ I h) fun us s1 ⟨vs, H1, I1, r1, q1⟩ => ?_) hs hpl))
  obtain ⟨a, x, xs, ex, hqx, q⟩ := q1
  subst ex
  cases r1 with
  | cons r rr =>
    cases rr with
    | cons r' rr =>
      cases rr
      cases r
      obtain ⟨t, rfl⟩ := r'
      have fresh5 : ∀ c, c ∈ [s1.heap.objs.size + 4, s1.heap.objs.size + 2, s1.heap.objs.size + 3, s1.heap.objs.size, s1.heap.objs.size + 1] → FpOk X pins H1 c := fun c hcm => by
        have e' : c = s1.heap.objs.size + 4 ∨ c = s1.heap.objs.size + 2 ∨ c = s1.heap.objs.size + 3 ∨ c = s1.heap.objs.size ∨ c = s1.heap.objs.size + 1 := by simpa using hcm
        have hle : s1.heap.objs.size ≤ c := by
          rcases e' with z | z | z | z | z
          · rw [z]; exact Nat.le_add_right _ _
          · rw [z]; exact Nat.le_add_right _ _
          · rw [z]; exact Nat.le_add_right _ _
          · rw [z]; exact Nat.le_refl _
          · rw [z]; exact Nat.le_add_right _ _
        exact I1.fpOk hle (I1.hok.fresh hle)
      obtain ⟨its, rv, p1, _⟩ := I1.tuple hqx
      obtain ⟨o1, ho1, _⟩ := id p1
      have hal : a < s1.heap.objs.size := Heap.lt_size ho1
      refine zip_begins2 (begins_tuple a its.toArray) (begins_text x t) p1 trivial fun h' hz hTI hTO h1 h2 hsz hk => wpAny_pyIter_zip hz ?_
      have I2 : Inv X pins σ H1 { s1 with heap := h' } := I1.kept (t' := s1.toks) hk
      have S := zip_sep s1.heap.objs.size a hal
      exact ⟨s1.heap.objs.size + 4, [s1.heap.objs.size + 4, s1.heap.objs.size + 2, s1.heap.objs.size + 3, s1.heap.objs.size, s1.heap.objs.size + 1], _, _, H1, rfl, I2, turn_zipX (x := x) (t := t) (Nat.ne_of_lt hal) S, ⟨hz, hTI, ⟨_, _, hTO⟩, ⟨_, h1, rfl, rfl⟩, ⟨_, h2, rfl, rfl⟩⟩, fresh5, q⟩
/-- a loop over zip of a tuple and a text of one length -/
theorem for_zipX {K : PySem.W.Frag} {a : Addr} {xs : List V} {z : Str} {g : TG} {tb : TS} {D : Ends} {σ : L2.St} {H : Hp} (hl : xs.length = z.cps.size) (Pv : Nat → L2.St → Hp → Prop) (h0 : Pv 0 σ H) (hq : ∀ i σ H, Pv i σ H → SqT K H a xs)
    (hs : ∀ (i : Nat) (x : V) (c : Nat) (T : Addr) (σ : L2.St) (H : Hp), xs[i]? = some x → z.cps[i]? = some c → Pv i σ H → H T = none → g (.ref T) σ (upd H T (.tup [x, .str ⟨#[c]⟩])) fun σ2 H2 => tb { D with nx := Pv (i + 1), ct := Pv (i + 1), bk := D.nx } σ2 H2) (hd : ∀ σ H, Pv xs.length σ H → D.nx σ H) :
    ∃ W : Nat → Nat → L2.St → Hp → Prop, (∃ m, W 0 m σ H) ∧ ∀ i m σ H, W i m σ H →
      ((ItzX K a z).stop i H ∧ D.nx σ H) ∨ ((ItzX K a z).go i H ∧ ∃ N : L2.St → Hp → Prop, (∀ σ' H', N σ' H' → ∃ m', m' < m ∧ W (i + 1) m' σ' H') ∧ ∀ v H', (ItzX K a z).yld i H v H' → g v σ H' fun σ2 H2 => tb { D with nx := N, ct := N, bk := D.nx } σ2 H2) := by
  refine ⟨fun i m σ H => m = xs.length - i ∧ i ≤ xs.length ∧ Pv i σ H, ⟨xs.length, rfl, Nat.zero_le _, h0⟩, ?_⟩
  rintro i m σ H ⟨rfl, hi, p⟩
  have qx := hq i σ H p
  by_cases hlt : i < xs.length
  · have hx : xs[i]? = some xs[i] := List.getElem?_eq_getElem hlt
    have hlt2 : i < z.cps.size := by omega
    have hy : z.cps[i]? = some z.cps[i] := Array.getElem?_eq_getElem hlt2
    refine .inr ⟨⟨xs, _, _, qx, hx, hy⟩, Pv (i + 1), fun σ' H' p' => ⟨xs.length - (i + 1), by omega, rfl, hlt, p'⟩, fun v H' y => ?_⟩
    obtain ⟨T, x', c', rfl, hT, rfl, f1, f2⟩ := y
    exact hs i x' c' T σ H (f1 xs qx) f2 p hT
  · have e : i = xs.length := by omega
    subst e
    exact .inl ⟨⟨xs, qx, Nat.le_refl _, by omega, .inl rfl⟩, hd σ H p⟩
end BB
set_option Elab.async false
set_option linter.all false
set_option maxRecDepth 100000
set_option maxHeartbeats 4000000
/-! LJ: the law's fits. -/
namespace BB
open PySem PySem.Spec PyProof.Rows L2
local macro_rules | `(tactic| walk_at "rd") => `(tactic| repeat (first | refine ⟨_, rfl, ?_⟩ | refine ⟨_, _, rfl, rfl, ?_⟩ | refine ⟨_, _, rfl, ?_⟩ | refine ⟨rfl, ?_⟩ | refine ⟨_, _, _, _, rfl, rfl, SqT.of (by assumption), rfl, ?_⟩ | refine ⟨Nat.le_of_ble_eq_true rfl, ?_⟩))
def shp : List (Key × V) := [(.inr "trade", .str "ttnn"), (.inr "shun", .str "tn"), (.inr "gone", .str "tn"), (.inr "rest", .str "tn"), (.inr "sleep", .str "tn"), (.inr "wake", .str "t"), (.inr "out", .str "tn"), (.inr "less", .str "tn"), (.inr "phase", .str "t")]
def shp5 : List (Key × V) := [(.inr "trade", .str "ttnn"), (.inr "shun", .str "tn"), (.inr "gone", .str "tn"), (.inr "rest", .str "tn"), (.inr "sleep", .str "tn")]
def shp4 : List (Key × V) := [(.inr "wake", .str "t"), (.inr "out", .str "tn"), (.inr "less", .str "tn"), (.inr "phase", .str "t")]
theorem shp_merge : mergeK shp5 shp4 = shp := by kernel_rfl
def Fact.wd : Fact → Str
  | .trade _ _ _ _ => "trade"
  | .shun _ _ => "shun"
  | .gone _ _ => "gone"
  | .rest _ _ => "rest"
  | .sleep _ _ => "sleep"
  | .wake _ => "wake"
  | .out _ _ => "out"
  | .less _ _ => "less"
  | .phase _ => "phase"
def Fact.sh : Fact → Str
  | .trade _ _ _ _ => "ttnn"
  | .wake _ => "t"
  | .phase _ => "t"
  | _ => "tn"
theorem shp_at (f : Fact) : valV shp (.inr f.wd) = some (.str f.sh) := by cases f <;> kernel_rfl
def Fact.parts : Fact → List V
  | .trade b s p a => [.str b, .str s, .int p, .int a]
  | .shun n l => [.str n, .int l]
  | .gone n l => [.str n, .int l]
  | .rest n l => [.str n, .int l]
  | .sleep n t => [.str n, .int t]
  | .wake n => [.str n]
  | .out n l => [.str n, .int l]
  | .less n l => [.str n, .int l]
  | .phase w => [.str w.s]
theorem Fact.v_eq (f : Fact) : f.v = .str f.wd :: f.parts := by cases f <;> rfl
theorem Fact.sh_len (f : Fact) : f.parts.length = f.sh.cps.size := by cases f <;> kernel_rfl
theorem Fact.sh_line (f : Fact) : f.sh.length ≤ sizeLine := by cases f <;> exact Nat.le_of_ble_eq_true rfl
theorem Fact.two (f : Fact) : 1 ≤ f.parts.length := by cases f <;> exact Nat.le_of_ble_eq_true rfl
/-- a part and its sign -/
def Sgn (x : V) (c : Nat) : Prop := (c = 116 ∧ ∃ z, x = .str z) ∨ (c = 110 ∧ ∃ n, x = .int n)
def sgn (x : V) (c : Nat) : Bool := match x with
  | .str _ => decide (c = 116)
  | .int _ => decide (c = 110)
  | _ => false
theorem sgn_ok {x : V} {c : Nat} (h : sgn x c = true) : Sgn x c := by
  cases x with
  | str z => exact .inl ⟨of_decide_eq_true h, z, rfl⟩
  | int n => exact .inr ⟨of_decide_eq_true h, n, rfl⟩
  | _ => cases h
theorem Fact.sgns (f : Fact) : (f.parts.zip f.sh.cps.toList).all (fun p => sgn p.1 p.2) = true := by cases f <;> kernel_rfl
theorem Fact.sgn_at (f : Fact) {i : Nat} {x : V} {c : Nat} (hx : f.parts[i]? = some x) (hc : f.sh.cps[i]? = some c) : Sgn x c := by
  refine sgn_ok (List.all_eq_true.mp f.sgns (x, c) (List.mem_of_getElem? (i := i) ?_))
  rw [List.getElem?_zip_eq_some]
  exact ⟨hx, by rw [Array.getElem?_toList]; exact hc⟩
theorem sg_t : decide (V.str ⟨#[116]⟩ = V.str "t") = true := by decide +kernel
theorem sg_n : decide (V.str ⟨#[110]⟩ = V.str "n") = true := by decide +kernel
theorem sg_nt : decide (V.str ⟨#[110]⟩ = V.str "t") = false := by decide +kernel
theorem sg_tn : decide (V.str ⟨#[116]⟩ = V.str "n") = false := by decide +kernel
section
variable {P : Program} {w : World} {K : PySem.W.Frag} {mg : Str → Option Value} {base : Heap}
theorem ok_law_fits (T : Txt K mg) : Gd P w K mg base CX0 (2) "_law_fits" ["facts"] (fun vs H Q E => ∃ (l : Addr) (fs : List Fact), vs = [.ref l] ∧ LstAt H l (fs.map Fact.v) ∧ ∀ H', Same H H' → Q (.bl true) H') := by
  have g_law_whole := ok_law_whole (P := P) (w := w) (base := base) T
  refine gd0 T.d_law_fits T.g_law_fits sc_law_fits (fun _ _ _ _ _ _ us hl => match us, hl with | [_], _ => rfl) (fun vs H Q E h => ?_) (fun cdv A outer s H vs Q E hr h => ?_)
  · obtain ⟨l, fs, rfl, _⟩ := h
    rfl
  · obtain ⟨l, fs, rfl, hL, q⟩ := h
    have hu := hu_of hr
    refine ⟨_, pss_cons (ps_set (i := 1) sc_law_fits.nd rfl (Or.inl rfl) (pe_disp (pps_cons pe_str pe_str (pps_cons pe_str pe_str (pps_cons pe_str pe_str (pps_cons pe_str pe_str (pps_cons pe_str pe_str pps_nil))))) (by rfl) (by rfl) (fun z => by cases z) (by decide)))
      (pss_cons (ps_expr (pe_bm PySem.F.plainAttrs_dict PySem.F.slot_dict_update PySem.F.type_dict_update mt_update (pv 1) (pa_cons (pe_disp (pps_cons pe_str pe_str (pps_cons pe_str pe_str (pps_cons pe_str pe_str (pps_cons pe_str pe_str pps_nil)))) (by rfl) (by rfl) (fun z => by cases z) (by decide)) pa_nil)))
      (pss_cons (ps_if (pt_not (pt_val (pe_callB call_isi (by rfl) T.b_isinstance (by decide +kernel) (pa_cons (pv 0) (pa_cons (pe_bltn (v := .ty "list") (by rfl) T.b_list (by decide +kernel) rfl) pa_nil))))) (pss_one (ps_ret pe_bl)) pss_nil)
      (pss_cons (ps_for PassesOwn.never rfl (pi_list (pv 0)) (pg_name (i := 2) sc_law_fits.nd rfl (Or.inl rfl))
        (pss_cons (ps_if (PW.pt (pw_or (pt_not (pt_val (pe_callB call_isi (by rfl) T.b_isinstance (by decide +kernel) (pa_cons (pv 2) (pa_cons (pe_bltn (v := .ty "tuple") (by rfl) T.b_tuple (by decide +kernel) rfl) pa_nil))))) (pw_or (pt_cmpR op_lt (pe_callB call_len_seq (by rfl) T.b_len (by decide +kernel) (pa_cons (pv 2) pa_nil)) pe_int (nomark _)) (pw_or1 (pt_not (pt_val (pe_callB call_isi (by rfl) T.b_isinstance (by decide +kernel) (pa_cons (pe_ix ix_tup (pv 2) pe_int (fun _ _ => rfl)) (pa_cons (pe_bltn (v := .ty "str") (by rfl) T.b_str (by decide +kernel) rfl) pa_nil))))))))) (pss_one (ps_ret pe_bl)) pss_nil)
      (pss_cons (ps_if (PW.pt (pw_or (pt_cmp (pc_dnotin hu (pe_ix ix_tup (pv 2) pe_int (fun _ _ => rfl)) (pv 1))) (pw_or1 (pt_cmpR op_ne (pe_callB call_len_seq (by rfl) T.b_len (by decide +kernel) (pa_cons (pv 2) pa_nil)) (pe_op op_add pe_int (pe_callB call_len_str (by rfl) T.b_len (by decide +kernel) (pa_cons (pe_dget hu (pv 1) (pe_ix ix_tup (pv 2) pe_int (fun _ _ => rfl)) (fun _ _ => rfl)) pa_nil))) (nomark _))))) (pss_one (ps_ret pe_bl)) pss_nil)
      (pss_one (ps_for PassesOwn.never rfl (pi_zipX (by rfl) T.b_zip (pa_cons (pe_slice sl_tupA (pv 2) (po_some pe_int) po_none) (pa_cons (pe_dget hu (pv 1) (pe_ix ix_tup (pv 2) pe_int (fun _ _ => rfl)) (fun _ _ => rfl)) pa_nil))) (pg_tup (by rfl) (pgs_cons (pg_name (i := 3) sc_law_fits.nd rfl (Or.inl rfl)) (pgs_cons (pg_name (i := 4) sc_law_fits.nd rfl (Or.inl rfl)) pgs_nil)))
        (pss_one (ps_if (PW.pt (pw_or (PW.pt (pw_and (pt_cmpR op_eq (pv 4) pe_str (nomark _)) (pw_and1 (pt_not (pt_val (pe_callB call_isi (by rfl) T.b_isinstance (by decide +kernel) (pa_cons (pv 3) (pa_cons (pe_bltn (v := .ty "str") (by rfl) T.b_str (by decide +kernel) rfl) pa_nil)))))))) (pw_or1 (PW.pt (pw_and (pt_cmpR op_eq (pv 4) pe_str (nomark _)) (pw_and1 (pt_not (pt_val (cg g_law_whole (hr.mono (by decide)) (pa_cons (pv 3) pa_nil)))))))))) (pss_one (ps_ret pe_bl)) pss_nil)))))))
      (pss_one (ps_ret pe_bl))))), ?_⟩
    obtain ⟨vs, hv, hT⟩ := id hL
    intro m hm
    have u := same_upd (o := .dK []) hm
    walk_at "rd"
    refine ⟨upd_same, shp5, rfl, Nat.le_of_ble_eq_true rfl, ?_⟩
    have em : mergeK [] shp5 = shp5 := by kernel_rfl
    rw [em]
    walk_at "rd"
    refine ⟨.inr (.inr (.inl ⟨rfl, .inl ⟨_, upd_same⟩⟩)), ?_⟩
    walk_at "rd"
    intro m2 hm2
    walk_at "rd"
    refine ⟨upd_same, shp4, rfl, Nat.le_of_ble_eq_true rfl, ?_⟩
    have em2 : mergeK [] shp4 = shp4 := by kernel_rfl
    rw [em2]
    have nm : m ≠ m2 := fun e => by rw [e, upd_same] at hm2; cases hm2
    walk_at "rd"
    refine ⟨m, m2, _, _, rfl, rfl, nm, by rw [upd_ne nm, upd_ne nm]; exact upd_same, upd_same, Nat.le_of_ble_eq_true rfl, ?_⟩
    rw [shp_merge]
    obtain ⟨H1, eH1⟩ : ∃ H1, H1 = upd (upd (upd (upd (upd H m (.dK [])) m (.dK shp5)) m2 (.dK [])) m2 (.dK shp4)) m (.dK shp) := ⟨_, rfl⟩
    rw [← eH1]
    have hm2' : H m2 = none := by
      rw [upd_ne nm.symm, upd_ne nm.symm] at hm2
      exact hm2
    have s1 : Same H H1 := fun x ob e => by
      rw [eH1, upd_ne (ne_of_none e hm), upd_ne (ne_of_none e hm2'), upd_ne (ne_of_none e hm2'), upd_ne (ne_of_none e hm), upd_ne (ne_of_none e hm)]
      exact e
    have h1 : H1 m = some (.dK shp) := by rw [eH1]; exact upd_same
    clear eH1
    have hv1 := s1 _ _ hv
    have ty1 : TyX K H1 (.ref l) (.type "list") := .base (.lst hv1)
    walk_at "rd"
    refine ⟨_, .ty "list", .type "list", .type "list", true, rfl, .ty "list", ty1, kit_ty (by kernel_rfl), ?_⟩
    walk_at "rd"
    refine ⟨⟨_, SqL.of hv1⟩, for_list (xs := vs) (fun i σ H' => ∃ v2 v3 v4, σ = [some (.ref l), some (.ref m), v2, v3, v4] ∧ Same H1 H') ⟨none, none, none, rfl, Same.refl _⟩ (fun i σ H' _ h => by obtain ⟨_, _, _, _, s⟩ := h; exact SqL.of (s _ _ hv1)) (fun i x σ H' hx h => ?_) fun σ H' h => ?_⟩
    · obtain ⟨v2, v3, v4, rfl, s⟩ := h
      obtain ⟨xv, hxv, c, rfl, hc⟩ := hT.get hx
      rw [List.getElem?_map] at hxv
      obtain ⟨f, hf, rfl⟩ := Option.map_eq_some_iff.mp hxv
      rw [f.v_eq] at hc
      have hc1 := s _ _ (s1 _ _ hc)
      have hm1 := s _ _ h1
      have hfl : (V.str f.wd :: f.parts).length = 1 + f.sh.cps.size := by
        rw [List.length_cons, f.sh_len]
        omega
      have h2 := f.two
      walk_at "rd"
      refine ⟨_, .ty "tuple", .type "tuple", .type "tuple", true, rfl, .ty "tuple", .base (.tup hc1), kit_ty (by kernel_rfl), ?_⟩
      walk_at "rd"
      refine ⟨c, _, rfl, .inr (SqT.of hc1), ?_⟩
      walk_at "rd"
      refine iteN (decide_eq_false (by rw [List.length_cons]; omega)) ?_
      walk_at "rd"
      refine ⟨c, _, _, _, rfl, rfl, SqT.of hc1, at0, ?_⟩
      walk_at "rd"
      refine ⟨_, .ty "str", .type "str", .type "str", true, rfl, .ty "str", (.base (.str f.wd)), kit_ty (by kernel_rfl), ?_⟩
      have hg : ∀ {H2 : Hp}, H2 m = some (.dK shp) → DGet H2 m (.str f.wd) (some (.str f.sh)) := fun z => by
        rw [← shp_at f]
        exact DGet.k (k := .inr f.wd) z
      walk_at "rd"
      refine ⟨c, _, _, _, rfl, rfl, SqT.of hc1, at0, ?_⟩
      walk_at "rd"
      refine ⟨m, _, rfl, hg hm1, ?_⟩
      walk_at "rd"
      refine ⟨c, _, rfl, .inr (SqT.of hc1), ?_⟩
      walk_at "rd"
      refine ⟨c, _, _, _, rfl, rfl, SqT.of hc1, at0, ?_⟩
      walk_at "rd"
      refine ⟨m, _, rfl, hg hm1, ?_⟩
      walk_at "rd"
      refine ⟨f.sh_line, ?_⟩
      walk_at "rd"
      refine iteN (by rw [hfl]; simp [Str.length]) ?_
      walk_at "rd"
      refine ⟨c, _, rfl, SqT.of hc1, fun z => absurd z.1 ?_, fun _ p hp => ?_⟩
      · show ¬ HT.sIx (V.str f.wd :: f.parts).length 0 (some ((1 : Nat) : Int)) = 0
        rw [HT.sIx_nat, List.length_cons]
        omega
      rw [sub1]
      have up := same_upd (o := .tup f.parts) hp
      walk_at "rd"
      refine ⟨c, _, _, _, rfl, rfl, SqT.of (up _ _ hc1), at0, ?_⟩
      walk_at "rd"
      refine ⟨m, _, rfl, hg (up _ _ hm1), ?_⟩
      walk_at "rd"
      refine ⟨p, f.sh, f.parts, rfl, SqT.of upd_same, for_zipX f.sh_len (fun i σ H' => ∃ v3 v4, σ = [some (.ref l), some (.ref m), some (.ref c), v3, v4] ∧ Same H1 H' ∧ H' p = some (.tup f.parts)) ⟨v3, v4, rfl, s.trans up, upd_same⟩ (fun i σ H' h => by obtain ⟨_, _, _, _, h⟩ := h; exact SqT.of h) (fun i x c2 T2 σ H' hx hcx h hT2 => ?_) fun σ H' h => ?_⟩
      · obtain ⟨v3, v4, rfl, s', hp'⟩ := h
        have u2 := same_upd (o := .tup [x, .str ⟨#[c2]⟩]) hT2
        refine ⟨T2, _, rfl, SqT.of upd_same, rfl, ?_⟩
        walk_at "rd"
        rcases f.sgn_at hx hcx with ⟨rfl, z, rfl⟩ | ⟨rfl, n, rfl⟩
        · refine iteY sg_t ?_
          walk_at "rd"
          refine ⟨_, .ty "str", .type "str", .type "str", true, rfl, .ty "str", (.base (.str z)), kit_ty (by kernel_rfl), ?_⟩
          walk_at "rd"
          exact ⟨s'.trans u2, u2 _ _ hp'⟩
        · refine iteN sg_nt ?_
          walk_at "rd"
          exact ⟨s'.trans u2, u2 _ _ hp'⟩
      · obtain ⟨v3, v4, rfl, s', hp'⟩ := h
        exact ⟨_, _, _, rfl, s'⟩
    · obtain ⟨v2, v3, v4, rfl, s⟩ := h
      walk_at "rd"
      exact q _ (s1.trans s)
end
end BB
set_option Elab.async false
set_option linter.all false
set_option maxRecDepth 100000
set_option maxHeartbeats 4000000
/-! LO: the law's step. -/
namespace BB
open PySem PySem.Spec PyProof.Rows L2
local macro_rules | `(tactic| walk_at "rd") => `(tactic| repeat (first | refine ⟨_, rfl, ?_⟩ | refine ⟨_, _, rfl, rfl, ?_⟩ | refine ⟨_, _, rfl, ?_⟩ | refine ⟨rfl, ?_⟩ | refine ⟨_, _, _, _, rfl, rfl, SqT.of (by assumption), rfl, ?_⟩ | refine ⟨Nat.le_of_ble_eq_true rfl, ?_⟩))
theorem in_came (f : Fact) : inV (V.str f.wd) [.str "trade", .str "shun", .str "gone", .str "rest"] = CameF f := by cases f <;> kernel_rfl
theorem wakeA {A B : List Slp} {z : Slp} (h1 : ∀ x ∈ A, x.ord.name ≠ z.ord.name) (h2 : ∀ x ∈ B, x.ord.name ≠ z.ord.name) : ((A ++ z :: B).filter fun s => decide (s.ord.name = z.ord.name)) = [z] := by
  rw [List.filter_append, List.filter_cons, if_pos (decide_eq_true rfl), List.filter_eq_nil_iff.mpr (fun x hx => by simpa using h1 x hx), List.filter_eq_nil_iff.mpr (fun x hx => by simpa using h2 x hx)]
  rfl
theorem wakeB {A B : List Slp} {z : Slp} (h1 : ∀ x ∈ A, x.ord.name ≠ z.ord.name) (h2 : ∀ x ∈ B, x.ord.name ≠ z.ord.name) : ((A ++ z :: B).filter fun s => !decide (s.ord.name = z.ord.name)) = A ++ B := by
  rw [List.filter_append, List.filter_cons, if_neg (by simp), List.filter_eq_self.mpr (fun x hx => by simpa using h1 x hx), List.filter_eq_self.mpr (fun x hx => by simpa using h2 x hx)]
section
variable {P : Program} {w : World} {K : PySem.W.Frag} {mg : Str → Option Value} {base : Heap}
theorem ok_law_step (T : Txt K mg) : Gd P w K mg base CX0 (6) "_law_step" ["state", "deed", "fact"] (fun vs H Q E => ∃ (d e f b lb ls la : Addr) (fv : V) (rv : Option RV) (S : LS) (fc : Fact) (S' : LS) (c : Int) (dk : Kd) (dord : Ord) (dtrig : Int) (u : Ph) (y : Str), vs = [.ref d, .ref e, .ref f] ∧ StIn H d lb ls la fv rv S ∧ H e = some (.tup [.int c, .str dk.s, .ref b, .int dtrig, .str u.s, .str y]) ∧ H b = some (.tup dord.v) ∧ H f = some (.tup fc.v) ∧ LStep dk dord dtrig S fc S' ∧ SOk S ∧ sOk dord.name = true ∧ ∀ H', But d H H' → StAt H' d S' → Q (.bl true) H') := by
  have g_law_came := ok_law_came (P := P) (w := w) (base := base) T
  have g_law_put_otherwise := ok_law_put_otherwise (P := P) (w := w) (base := base) T
  have g_law_begin := ok_law_begin (P := P) (w := w) (base := base) T
  refine gd0 T.d_law_step T.g_law_step sc_law_step (fun _ _ _ _ _ _ us hl => match us, hl with | [_, _, _], _ => rfl) (fun vs H Q E h => ?_) (fun cdv A outer s H vs Q E hr h => ?_)
  · obtain ⟨d, e, f, b, lb, ls, la, fv, rv, S, fc, S', c, dk, dord, dtrig, u, y, rfl, _⟩ := h
    rfl
  · obtain ⟨d, e, f, b, lb, ls, la, fv, rv, S, fc, S', c, dk, dord, dtrig, u, y, rfl, hS, he, hb, hf, hst, hso, hdn, q⟩ := h
    have hu := hu_of hr
    refine ⟨_, pss_cons (ps_if (pt_cmpR op_in_seq (pe_ix ix_tup (pv 2) pe_int (fun _ _ => rfl)) (pe_tup (pa_cons pe_str (pa_cons pe_str (pa_cons pe_str (pa_cons pe_str pa_nil))))) (by rfl)) (pss_one (ps_ret (cg g_law_came (hr.mono (by decide)) (pa_cons (pv 0) (pa_cons (pv 2) pa_nil))))) pss_nil)
      (pss_cons (ps_if (PW.pt (pw_or (pt_cmpR op_notN (pe_dget hu (pv 0) pe_str (fun _ _ => rfl)) pe_non (nomark _)) (pw_or1 (PW.pt (pw_and (pt_val (pe_dget hu (pv 0) pe_str (fun _ _ => rfl))) (pw_and1 (pt_cmpR (op_neD hr.units) (pv 2) (pe_tup (pa_cons pe_str (pa_cons pe_str pa_nil))) (nomark _)))))))) (pss_one (ps_ret pe_bl)) pss_nil)
      (pss_cons (ps_if (pt_cmpR op_in_seq (pe_ix ix_tup (pv 2) pe_int (fun _ _ => rfl)) (pe_tup (pa_cons pe_str (pa_cons pe_str pa_nil))) (by rfl)) (pss_one (ps_ret (cg g_law_put_otherwise (hr.mono (by decide)) (pa_cons (pv 0) (pa_cons (pv 2) pa_nil))))) pss_nil)
      (pss_cons (ps_if (pt_cmpR op_eq (pe_ix ix_tup (pv 2) pe_int (fun _ _ => rfl)) pe_str (nomark _)) (pss_cons (ps_if (PW.pt (pw_and (pt_not (pt_val (pe_dget hu (pv 0) pe_str (fun _ _ => rfl)))) (pw_and1 (pt_cmpR op_ne (pe_ix ix_tup (pv 2) pe_int (fun _ _ => rfl)) (pe_dget hu (pv 0) pe_str (fun _ _ => rfl)) (nomark _))))) (pss_one (ps_ret pe_bl)) pss_nil)
      (pss_cons (ps_if (pt_not (pt_val (pe_dget hu (pv 0) pe_str (fun _ _ => rfl)))) (pss_one (ps_dput hu (pv 0) pe_str pe_non rfl)) pss_nil)
      (pss_cons (ps_dput hu (pv 0) pe_str pe_bl rfl)
      (pss_one (ps_dput hu (pv 0) pe_str (pe_ix ix_tup (pv 2) pe_int (fun _ _ => rfl)) rfl))))) pss_nil)
      (pss_cons (ps_if (pt_cmpR op_eq (pe_ix ix_tup (pv 2) pe_int (fun _ _ => rfl)) pe_str (nomark _)) (pss_cons (ps_dput hu (pv 0) pe_str (pe_op op_cat (pe_dget hu (pv 0) pe_str (fun _ _ => rfl)) (pe_lst (pa_cons (pe_tup (pa_cons (pe_ix ix_tup (pv 1) pe_int (fun _ _ => rfl)) (pa_cons (pe_ix ix_tup (pv 1) pe_int (fun _ _ => rfl)) (pa_cons (pe_ix ix_tup (pv 1) pe_int (fun _ _ => rfl)) pa_nil)))) pa_nil))) rfl)
      (pss_one (ps_ret (pe_cmpR (op_eqD hr.units) (pv 2) (pe_tup (pa_cons pe_str (pa_cons (pe_ix ix_tup (pe_ix ix_tup (pv 1) pe_int (fun _ _ => rfl)) pe_int (fun _ _ => rfl)) (pa_cons (pe_ix ix_tup (pv 1) pe_int (fun _ _ => rfl)) pa_nil)))) (nomark _))))) pss_nil)
      (pss_cons (ps_if (pt_cmpR op_eq (pe_ix ix_tup (pv 2) pe_int (fun _ _ => rfl)) pe_str (nomark _)) (pss_cons (ps_setLc (i := 3) (own := [("one", 4)]) (g := gName 4) (by rfl) sc_law_step.nd rfl rfl (sw_true rfl rfl rfl (by decide +kernel)) (pi_list (pe_dget hu (pv 0) pe_str (fun _ _ => rfl))) (blkOk_by (own := [("one", 4)]) (by kernel_rfl)) (fun _ _ _ _ _ => pg_name (i := 4) sc_law_step.nd rfl (Or.inl rfl)) (fun _ _ _ _ _ => pts_one (pt_cmpR op_eq (pe_ix (r := rIxT K) ix_tup (pe_ix (r := rIxT K) ix_tup (pv 4) pe_int (fun _ _ => rfl)) pe_int (fun _ _ => rfl)) (pe_ix (r := rIxT K) ix_tup (pv 2) pe_int (fun _ _ => rfl)) (nomark _))) (fun _ _ _ _ _ => (pv 4)))
      (pss_cons (ps_dput hu (pv 0) pe_str (pe_lc (own := [("one", 4)]) (g := gName 4) (by rfl) sc_law_step.nd (pi_list (pe_dget hu (pv 0) pe_str (fun _ _ => rfl))) (blkOk_by (own := [("one", 4)]) (by kernel_rfl)) (fun _ _ _ _ _ => pg_name (i := 4) sc_law_step.nd rfl (Or.inl rfl)) (fun _ _ _ _ _ => pts_one (pt_cmpR op_ne (pe_ix (r := rIxT K) ix_tup (pe_ix (r := rIxT K) ix_tup (pv 4) pe_int (fun _ _ => rfl)) pe_int (fun _ _ => rfl)) (pe_ix (r := rIxT K) ix_tup (pv 2) pe_int (fun _ _ => rfl)) (nomark _))) (fun _ _ _ _ _ => (pv 4))) rfl)
      (pss_cons (ps_if (PW.pt (pw_or (pt_cmpR op_ne (pe_callB call_len_seq (by rfl) T.b_len (by decide +kernel) (pa_cons (pv 3) pa_nil)) pe_int (nomark _)) (pw_or1 (pt_cmpR op_ne (pe_dget hu (pv 0) pe_str (fun _ _ => rfl)) pe_str (nomark _))))) (pss_one (ps_ret pe_bl)) pss_nil)
      (pss_one (ps_expr (cg g_law_begin (hr.mono (by decide)) (pa_cons (pv 0) (pa_cons (pe_ix ix_tup (pe_ix ix_list (pv 3) pe_int (fun _ _ => rfl)) pe_int (fun _ _ => rfl)) (pa_cons (pe_ix ix_tup (pe_ix ix_list (pv 3) pe_int (fun _ _ => rfl)) pe_int (fun _ _ => rfl)) pa_nil))))))))) pss_nil)
      (pss_one (ps_ret pe_bl))))))), ?_⟩
    cases hc : CameF fc with
    | true =>
      have hf0 := hf
      rw [fc.v_eq] at hf
      walk_at "rd"
      refine ⟨f, _, _, _, rfl, rfl, SqT.of hf, at0, ?_⟩
      walk_at "rd"
      intro p hp
      have u1 := same_upd (o := .tup [.str "trade", .str "shun", .str "gone", .str "rest"]) hp
      refine ⟨p, _, rfl, .inr (SqT.of upd_same), rfl, rfl, ?_⟩
      walk_at "rd"
      refine iteB (in_came fc) ?_
      refine iteY hc ?_
      walk_at "rd"
      exact ⟨d, f, lb, ls, la, fv, rv, S, fc, S', dk, dord, dtrig, rfl, hS.same u1, u1 _ _ hf0, hc, hst, hso, fun H' b' h => q H' ((But.of u1).trans b') h⟩
    | false =>
      obtain ⟨q0⟩ : True := trivial
      cases hst with
      | @out n l hfl hha z1 z2 z3 =>
        have hf' : H f = some (.tup [.str "out", .str n, .int l]) := hf
        have hfv : fv = .non := by have := hS.f; rw [hfl] at this; exact this
        subst hfv
        walk_at "rd"
        intro p hp
        have u1 := same_upd (o := .tup [.str "trade", .str "shun", .str "gone", .str "rest"]) hp
        have hS1 := hS.same u1
        have hf1 := u1 _ _ hf'
        have he1 := u1 _ _ he
        have hb1 := u1 _ _ hb
        refine ⟨p, _, rfl, .inr (SqT.of upd_same), rfl, rfl, ?_⟩
        generalize (upd H p (.tup [.str "trade", .str "shun", .str "gone", .str "rest"])) = H1 at *
        walk_at "rd"
        refine ⟨d, _, rfl, gk_flight hS1.o, ?_⟩
        walk_at "rd"
        refine ⟨d, _, rfl, gk_halts hS1.o, ?_⟩
        rw [show (vS lb ls la V.non rv S).ha = .bl S.halts from rfl, hha]
        walk_at "rd"
        intro p2 hp2
        have u2 := same_upd (o := .tup [.str "out", .str "less"]) hp2
        have hS2 := hS1.same u2
        have hf2 := u2 _ _ hf1
        have he2 := u2 _ _ he1
        have hb2 := u2 _ _ hb1
        have s2 := u1.trans u2
        refine ⟨p2, _, rfl, .inr (SqT.of upd_same), rfl, rfl, ?_⟩
        generalize (upd H1 p2 (.tup [.str "out", .str "less"])) = H2 at *
        walk_at "rd"
        exact ⟨d, f, lb, ls, la, .non, rv, S, false, n, l, rfl, hS2, hf2, z1, z2, z3, fun H' b' h => q H' ((But.of s2).trans b') h⟩
      | @less n l hfl hha z1 z2 z3 =>
        have hf' : H f = some (.tup [.str "less", .str n, .int l]) := hf
        have hfv : fv = .non := by have := hS.f; rw [hfl] at this; exact this
        subst hfv
        walk_at "rd"
        intro p hp
        have u1 := same_upd (o := .tup [.str "trade", .str "shun", .str "gone", .str "rest"]) hp
        have hS1 := hS.same u1
        have hf1 := u1 _ _ hf'
        have he1 := u1 _ _ he
        have hb1 := u1 _ _ hb
        refine ⟨p, _, rfl, .inr (SqT.of upd_same), rfl, rfl, ?_⟩
        generalize (upd H p (.tup [.str "trade", .str "shun", .str "gone", .str "rest"])) = H1 at *
        walk_at "rd"
        refine ⟨d, _, rfl, gk_flight hS1.o, ?_⟩
        walk_at "rd"
        refine ⟨d, _, rfl, gk_halts hS1.o, ?_⟩
        rw [show (vS lb ls la V.non rv S).ha = .bl S.halts from rfl, hha]
        walk_at "rd"
        intro p2 hp2
        have u2 := same_upd (o := .tup [.str "out", .str "less"]) hp2
        have hS2 := hS1.same u2
        have hf2 := u2 _ _ hf1
        have he2 := u2 _ _ he1
        have hb2 := u2 _ _ hb1
        have s2 := u1.trans u2
        refine ⟨p2, _, rfl, .inr (SqT.of upd_same), rfl, rfl, ?_⟩
        generalize (upd H1 p2 (.tup [.str "out", .str "less"])) = H2 at *
        walk_at "rd"
        exact ⟨d, f, lb, ls, la, .non, rv, S, true, n, l, rfl, hS2, hf2, z1, z2, z3, fun H' b' h => q H' ((But.of s2).trans b') h⟩
      | phaseH hfl hha =>
        have hf' : H f = some (.tup [.str "phase", .str "call"]) := hf
        have hfv : fv = .non := by have := hS.f; rw [hfl] at this; exact this
        subst hfv
        walk_at "rd"
        intro p hp
        have u1 := same_upd (o := .tup [.str "trade", .str "shun", .str "gone", .str "rest"]) hp
        have hS1 := hS.same u1
        have hf1 := u1 _ _ hf'
        have he1 := u1 _ _ he
        have hb1 := u1 _ _ hb
        refine ⟨p, _, rfl, .inr (SqT.of upd_same), rfl, rfl, ?_⟩
        generalize (upd H p (.tup [.str "trade", .str "shun", .str "gone", .str "rest"])) = H1 at *
        walk_at "rd"
        refine ⟨d, _, rfl, gk_flight hS1.o, ?_⟩
        walk_at "rd"
        refine ⟨d, _, rfl, gk_halts hS1.o, ?_⟩
        rw [show (vS lb ls la V.non rv S).ha = .bl S.halts from rfl, hha]
        walk_at "rd"
        intro pt hpt
        have ut := same_upd (o := .tup [.str "phase", .str "call"]) hpt
        refine ne_tups (ut _ _ hf1) upd_same ?_ (by decide +kernel) (by decide +kernel)
        rw [decide_eq_true rfl]
        replace hS1 := hS1.same ut
        replace hf1 := ut _ _ hf1
        replace he1 := ut _ _ he1
        replace hb1 := ut _ _ hb1
        replace u1 := u1.trans ut
        generalize (upd H1 pt (.tup [.str "phase", .str "call"])) = H1 at *
        walk_at "rd"
        intro p2 hp2
        have u2 := same_upd (o := .tup [.str "out", .str "less"]) hp2
        have hS2 := hS1.same u2
        have hf2 := u2 _ _ hf1
        have he2 := u2 _ _ he1
        have hb2 := u2 _ _ hb1
        have s2 := u1.trans u2
        refine ⟨p2, _, rfl, .inr (SqT.of upd_same), rfl, rfl, ?_⟩
        generalize (upd H1 p2 (.tup [.str "out", .str "less"])) = H2 at *
        walk_at "rd"
        refine ⟨d, _, rfl, gk_halts hS2.o, ?_⟩
        rw [show (vS lb ls la V.non rv S).ha = .bl S.halts from rfl, hha]
        walk_at "rd"
        refine ⟨d, _, rfl, gk_halts hS2.o, ?_⟩
        rw [show (vS lb ls la V.non rv S).ha = .bl S.halts from rfl, hha]
        walk_at "rd"
        obtain ⟨H3, q3, b3, h3⟩ := hS2.putHalts false
        refine ⟨d, H3, rfl, q3, ?_⟩
        have hf3 := (b3.ktD hS2.o) _ _ hf2
        walk_at "rd"
        obtain ⟨H4, q4, b4, h4⟩ := h3.putPhase .call
        refine ⟨d, H4, rfl, q4, ?_⟩
        have hf4 := (b4.ktD h3.o) _ _ hf3
        walk_at "rd"
        exact q H4 ((But.of s2).trans (b3.trans b4)) ⟨_, _, _, _, _, h4⟩
      | @phaseT w hfl hha htu =>
        have hf' : H f = some (.tup [.str "phase", .str w.s]) := hf
        have hfv : fv = .non := by have := hS.f; rw [hfl] at this; exact this
        subst hfv
        walk_at "rd"
        intro p hp
        have u1 := same_upd (o := .tup [.str "trade", .str "shun", .str "gone", .str "rest"]) hp
        have hS1 := hS.same u1
        have hf1 := u1 _ _ hf'
        have he1 := u1 _ _ he
        have hb1 := u1 _ _ hb
        refine ⟨p, _, rfl, .inr (SqT.of upd_same), rfl, rfl, ?_⟩
        generalize (upd H p (.tup [.str "trade", .str "shun", .str "gone", .str "rest"])) = H1 at *
        walk_at "rd"
        refine ⟨d, _, rfl, gk_flight hS1.o, ?_⟩
        walk_at "rd"
        refine ⟨d, _, rfl, gk_halts hS1.o, ?_⟩
        rw [show (vS lb ls la V.non rv S).ha = .bl S.halts from rfl, hha]
        walk_at "rd"
        intro p2 hp2
        have u2 := same_upd (o := .tup [.str "out", .str "less"]) hp2
        have hS2 := hS1.same u2
        have hf2 := u2 _ _ hf1
        have he2 := u2 _ _ he1
        have hb2 := u2 _ _ hb1
        have s2 := u1.trans u2
        refine ⟨p2, _, rfl, .inr (SqT.of upd_same), rfl, rfl, ?_⟩
        generalize (upd H1 p2 (.tup [.str "out", .str "less"])) = H2 at *
        walk_at "rd"
        refine ⟨d, _, rfl, gk_halts hS2.o, ?_⟩
        rw [show (vS lb ls la V.non rv S).ha = .bl S.halts from rfl, hha]
        walk_at "rd"
        refine ⟨d, _, rfl, gk_turn hS2.o, ?_⟩
        rw [show (vS lb ls la V.non rv S).tu = tuV S.turn from rfl, htu]
        walk_at "rd"
        refine iteN (by rw [show tuV (some w) = .str w.s from rfl, decide_eq_true rfl]; rfl) ?_
        walk_at "rd"
        refine ⟨d, _, rfl, gk_halts hS2.o, ?_⟩
        rw [show (vS lb ls la V.non rv S).ha = .bl S.halts from rfl, hha]
        walk_at "rd"
        obtain ⟨H5, q5, b5, h5⟩ := hS2.putTurn none
        refine ⟨d, H5, rfl, q5, ?_⟩
        have hf5 := (b5.ktD hS2.o) _ _ hf2
        walk_at "rd"
        obtain ⟨H3, q3, b3, h3⟩ := h5.putHalts false
        refine ⟨d, H3, rfl, q3, ?_⟩
        have hf3 := (b3.ktD h5.o) _ _ hf5
        walk_at "rd"
        obtain ⟨H4, q4, b4, h4⟩ := h3.putPhase w
        refine ⟨d, H4, rfl, q4, ?_⟩
        have hf4 := (b4.ktD h3.o) _ _ hf3
        walk_at "rd"
        have e : ({ S with turn := none, halts := false, phase := w } : LS) = { S with turn := none, phase := w } := by rw [← hha]
        exact q H4 ((But.of s2).trans (b5.trans (b3.trans b4))) (by rw [← e]; exact ⟨_, _, _, _, _, h4⟩)
      | sleep hfl hha hz =>
        have hf' : H f = some (.tup [.str "sleep", .str dord.name, .int dtrig]) := hf
        have hfv : fv = .non := by have := hS.f; rw [hfl] at this; exact this
        subst hfv
        walk_at "rd"
        intro p hp
        have u1 := same_upd (o := .tup [.str "trade", .str "shun", .str "gone", .str "rest"]) hp
        have hS1 := hS.same u1
        have hf1 := u1 _ _ hf'
        have he1 := u1 _ _ he
        have hb1 := u1 _ _ hb
        refine ⟨p, _, rfl, .inr (SqT.of upd_same), rfl, rfl, ?_⟩
        generalize (upd H p (.tup [.str "trade", .str "shun", .str "gone", .str "rest"])) = H1 at *
        walk_at "rd"
        refine ⟨d, _, rfl, gk_flight hS1.o, ?_⟩
        walk_at "rd"
        refine ⟨d, _, rfl, gk_halts hS1.o, ?_⟩
        rw [show (vS lb ls la V.non rv S).ha = .bl S.halts from rfl, hha]
        walk_at "rd"
        intro p2 hp2
        have u2 := same_upd (o := .tup [.str "out", .str "less"]) hp2
        have hS2 := hS1.same u2
        have hf2 := u2 _ _ hf1
        have he2 := u2 _ _ he1
        have hb2 := u2 _ _ hb1
        have s2 := u1.trans u2
        refine ⟨p2, _, rfl, .inr (SqT.of upd_same), rfl, rfl, ?_⟩
        generalize (upd H1 p2 (.tup [.str "out", .str "less"])) = H2 at *
        walk_at "rd"
        refine ⟨d, _, rfl, gk_asleep hS2.o, ?_⟩
        walk_at "rd"
        intro p3 hp3
        have u3 := same_upd (o := .tup [.str dk.s, .ref b, .int dtrig]) hp3
        walk_at "rd"
        intro p4 hp4
        have u4 := same_upd (o := .lst [.ref p3]) hp4
        obtain ⟨av, hav, haT⟩ := id hS2.a
        have hal := haT.length
        have s24 := u3.trans u4
        walk_at "rd"
        refine ⟨la, p4, _, _, rfl, rfl, s24 _ _ hav, upd_same, line1000 (by show av.length + 1 ≤ 1000; omega), fun p5 hp5 => ?_⟩
        have u5 := same_upd (o := .lst (av ++ [V.ref p3])) hp5
        have s25 := s24.trans u5
        have hA5 : SlsAt (upd (upd (upd H2 p3 (.tup [.str dk.s, .ref b, .int dtrig])) p4 (.lst [.ref p3])) p5 (.lst (av ++ [V.ref p3]))) p5 (S.asleep ++ [⟨dk, dord, dtrig⟩]) :=
          ⟨_, upd_same, (haT.kt (Kt.same s25)).append (.cons ⟨p3, b, rfl, (u4.trans u5) _ _ upd_same, s25 _ _ hb2⟩ .nil)⟩
        obtain ⟨H6, q6, b6, h6⟩ := (hS2.same s25).putA hA5
        have b26 := (But.of s25).trans b6
        have k26 := b26.ktD hS2.o
        have hf6 := k26 _ _ hf2
        have he6 := k26 _ _ he2
        have hb6 := k26 _ _ hb2
        walk_at "rd"
        refine ⟨d, H6, rfl, q6, ?_⟩
        walk_at "rd"
        intro p7 hp7
        have u7 := same_upd (o := .tup [.str "sleep", .str dord.name, .int dtrig]) hp7
        have hfl : [V.str "sleep", .str dord.name, .int dtrig].all fl = true := by
          show (sOk "sleep" && (sOk dord.name && true)) = true
          rw [hdn]
          decide +kernel
        refine eq_tups (u7 _ _ hf6) upd_same ?_ hfl hfl
        rw [decide_eq_true rfl]
        exact q _ (((But.of s2).trans b26).trans (But.of u7)) ⟨_, _, _, _, _, h6.same u7⟩
      | @wake A B z hfl hha hph hA h1 h2 hz hlo hlz hok =>
        have hf' : H f = some (.tup [.str "wake", .str z.ord.name]) := hf
        have hfv : fv = .non := by have := hS.f; rw [hfl] at this; exact this
        subst hfv
        walk_at "rd"
        intro p hp
        have u1 := same_upd (o := .tup [.str "trade", .str "shun", .str "gone", .str "rest"]) hp
        have hS1 := hS.same u1
        have hf1 := u1 _ _ hf'
        have he1 := u1 _ _ he
        have hb1 := u1 _ _ hb
        refine ⟨p, _, rfl, .inr (SqT.of upd_same), rfl, rfl, ?_⟩
        generalize (upd H p (.tup [.str "trade", .str "shun", .str "gone", .str "rest"])) = H1 at *
        walk_at "rd"
        refine ⟨d, _, rfl, gk_flight hS1.o, ?_⟩
        walk_at "rd"
        refine ⟨d, _, rfl, gk_halts hS1.o, ?_⟩
        rw [show (vS lb ls la V.non rv S).ha = .bl S.halts from rfl, hha]
        walk_at "rd"
        intro p2 hp2
        have u2 := same_upd (o := .tup [.str "out", .str "less"]) hp2
        have hS2 := hS1.same u2
        have hf2 := u2 _ _ hf1
        have he2 := u2 _ _ he1
        have hb2 := u2 _ _ hb1
        have s2 := u1.trans u2
        refine ⟨p2, _, rfl, .inr (SqT.of upd_same), rfl, rfl, ?_⟩
        generalize (upd H1 p2 (.tup [.str "out", .str "less"])) = H2 at *
        walk_at "rd"
        obtain ⟨av, hav, haT⟩ := id hS2.a
        have hal := haT.length
        refine ⟨d, _, rfl, gk_asleep hS2.o, ?_⟩
        refine ⟨la, rfl, ⟨av, SqL.of hav⟩, fun D hD => lc_slps (outF (fun s : Slp => decide (s.ord.name = z.ord.name)) (fun z => z) S.asleep) hD hav outF_zero (fun i _ => outF_len (by omega) i) (fun i x H3 Nx hx s3 yes no => ?_) fun H3 s3 h3 => ?_⟩
        · obtain ⟨z1, hz1, a1, b1, rfl, g1, g2⟩ := haT.get hx
          have g1' := s3 _ _ g1
          have g2' := s3 _ _ g2
          have hf3 := s3 _ _ hf2
          refine ⟨rfl, ?_⟩
          walk_at "rd"
          by_cases cn : z1.ord.name = z.ord.name
          · refine iteY (by simp [cn]) ?_
            walk_at "rd"
            exact yes _ _ _ (Same.refl _) ⟨a1, b1, rfl, g1', g2'⟩ (outF_yes hz1 (decide_eq_true cn))
          · refine iteN (by simp [cn]) ?_
            exact no _ (Same.refl _) (outF_no hz1 (decide_eq_false cn))
        rw [outF_all hal, List.map_id', hA, wakeA h1 h2] at h3
        obtain ⟨wv, hwv, hwT⟩ := h3
        have hS3 := hS2.same s3
        have hf3 := s3 _ _ hf2
        cases hwT with
        | cons hw0 hwn =>
        cases hwn with
        | nil =>
        obtain ⟨w1, w2, rfl, g1, g2⟩ := hw0
        obtain ⟨av3, hav3, haT3⟩ := id hS3.a
        have hal3 := haT3.length
        walk_at "rd"
        refine ⟨d, _, rfl, gk_asleep hS3.o, ?_⟩
        refine ⟨la, rfl, ⟨av3, SqL.of hav3⟩, fun D2 hD2 => lc_slps (outF (fun s : Slp => !decide (s.ord.name = z.ord.name)) (fun z => z) S.asleep) hD2 hav3 outF_zero (fun i _ => outF_len (by omega) i) (fun i x H4 Nx hx s4 yes no => ?_) fun H4 s4 h4 => ?_⟩
        · obtain ⟨z1, hz1, a1, b1, rfl, g1, g2⟩ := haT3.get hx
          have g1' := s4 _ _ g1
          have g2' := s4 _ _ g2
          have hf4 := s4 _ _ hf3
          refine ⟨rfl, ?_⟩
          walk_at "rd"
          by_cases cn : z1.ord.name = z.ord.name
          · refine iteN (by simp [cn]) ?_
            exact no _ (Same.refl _) (outF_no hz1 (by rw [decide_eq_true cn]; rfl))
          · refine iteY (by simp [cn]) ?_
            walk_at "rd"
            exact yes _ _ _ (Same.refl _) ⟨a1, b1, rfl, g1', g2'⟩ (outF_yes hz1 (by rw [decide_eq_false cn]; rfl))
        rw [outF_all hal3, List.map_id', hA, wakeB h1 h2] at h4
        obtain ⟨H5, q5, b5, h5⟩ := (hS3.same s4).putA h4
        have b35 := (But.of s4).trans b5
        have k35 := b35.ktD hS3.o
        have hDd : D ≠ d := fun e => by rw [e, hS3.o] at hwv; cases hwv
        have hw5 := b35 _ _ hwv hDd
        have g1' := k35 _ _ g1
        have g2' := k35 _ _ g2
        have hf5 := k35 _ _ hf3
        walk_at "rd"
        refine ⟨d, H5, rfl, q5, ?_⟩
        walk_at "rd"
        refine ⟨D, _, rfl, .inl (SqL.of hw5), ?_⟩
        walk_at "rd"
        refine ⟨d, _, rfl, gk_phase h5.o, ?_⟩
        walk_at "rd"
        refine iteN (by show (!decide (V.str S.phase.s = V.str "open")) = false; rw [ph_opn, decide_eq_true hph]; rfl) ?_
        walk_at "rd"
        refine ⟨D, _, _, _, rfl, rfl, SqL.of hw5, at0, ?_⟩
        walk_at "rd"
        refine ⟨D, _, _, _, rfl, rfl, SqL.of hw5, at0, ?_⟩
        walk_at "rd"
        have hkz := hok.s1
        have hkl := hok.sl
        refine ⟨d, w2, lb, ls, D2, .non, rv, { S with asleep := A ++ B }, z.kd, z.ord, rfl, h5, g2', hlo, by omega, hlz, fun rv' H6 b6 h6 => ?_⟩
        walk_at "rd"
        exact q H6 ((((But.of s2).trans (But.of s3)).trans b35).trans b6) ⟨_, _, _, _, _, h6⟩
      | trade =>
        exfalso
        revert hc
        split <;> intro hc <;> cases hc
      | shun => cases hc
      | gone => cases hc
      | rest => cases hc
      | called => cases hc
end
end BB
set_option Elab.async false
set_option linter.all false
set_option maxRecDepth 100000
set_option maxHeartbeats 4000000
/-! C9: around the law's loop. -/
namespace BB
open PySem PySem.Spec PyProof.Rows L2
/-! ### range(1, n, 3) -/
theorem rg3 (n : Nat) (h : n ≤ 63) : RgC 1 (n : Int) 3 ((n + 1) / 3) := by
  have key : ∀ k : Fin 64, (Builtin.Range.small 1 (k.val : Int) 3 && decide (Builtin.Range.rangeSize 1 (k.val : Int) 3 = (((k.val + 1) / 3 : Nat) : Int))) = true := by decide +kernel
  have q := key ⟨n, by omega⟩
  obtain ⟨a, b⟩ := Bool.and_eq_true_iff.mp q
  exact ⟨by decide, by decide, a, of_decide_eq_true b⟩
/-! ### the flight's name -/
theorem LStep.sok {dk : Kd} {dord : Ord} {dtrig : Int} {S S' : LS} {f : Fact} (h : LStep dk dord dtrig S f S') (s : SOk S) : SOk S' := by
  have sl : ∀ (b : Bool) (l : List Ord), (S.setLine b l).flight = S.flight := fun b l => by cases b <;> rfl
  cases h with
  | @trade o h t r a hfl _ _ _ _ _ _ _ _ _ _ =>
    intro x hx
    have hx' : (if a < o.left then some { o with left := o.left - a } else none : Option Ord) = some x := hx
    by_cases c : a < o.left
    · rw [if_pos c] at hx'
      cases hx'
      exact s o hfl
    · rw [if_neg c] at hx'
      cases hx'
  | shun hfl =>
    intro x hx
    exact s x ((sl _ _).symm.trans hx)
  | gone => intro x hx; cases hx
  | rest => intro x hx; cases hx
  | called hfl => intro x hx; exact s x hx
  | out hfl => intro x hx; exact s x hx
  | less hfl => intro x hx; exact s x hx
  | phaseH hfl => intro x hx; exact s x hx
  | phaseT hfl => intro x hx; exact s x hx
  | sleep hfl => intro x hx; exact s x hx
  | wake _ _ _ _ _ _ _ _ _ hok =>
    intro x hx
    cases hx
    exact hok.nk
/-! ### what is alike -/
theorem AlN.up {n : Nat} {H : Hp} : ∀ {x y : V}, AlN n H x y → AlN (n + 1) H x y := by
  induction n with
  | zero => exact fun h => .flat h
  | succ n ih =>
    intro x y h
    rcases h.succ with h | ⟨a, b, xs, ys, rfl, rfl, h, l, z, r⟩
    · exact .flat (n := n + 2) h
    · exact .mk h l z fun i u v h1 h2 => ih (r i u v h1 h2)
theorem al_refl {H : Hp} {v : V} (h : (∃ i, v = .int i) ∨ ∃ z, v = .str z) : Al0 v v := by
  rcases h with ⟨i, rfl⟩ | ⟨z, rfl⟩
  · exact .inl ⟨i, rfl, rfl⟩
  · exact .inr ⟨z, rfl, rfl⟩
theorem al_ord {H : Hp} {v w : V} {o : Ord} (h1 : TupAt H v o.v) (h2 : TupAt H w o.v) : AlN 1 H v w := by
  obtain ⟨a, rfl, ha⟩ := h1
  obtain ⟨b, rfl, hb⟩ := h2
  refine .mk (.inr ⟨ha, hb⟩) rfl (Nat.le_of_ble_eq_true rfl) fun i u v e1 e2 => ?_
  have e : u = v := Option.some.inj (e1.symm.trans e2)
  subst e
  have hm : u ∈ o.v := List.mem_of_getElem? e1
  have : (∃ i, u = .int i) ∨ ∃ z, u = .str z := by
    simp only [Ord.v, List.mem_cons, List.not_mem_nil, or_false] at hm
    rcases hm with h | h | h | h | h | h | h
    · exact .inr ⟨_, h⟩
    · exact .inr ⟨_, h⟩
    · exact .inr ⟨_, h⟩
    · exact .inl ⟨_, h⟩
    · exact .inl ⟨_, h⟩
    · exact .inl ⟨_, h⟩
    · exact .inl ⟨_, h⟩
  exact al_refl (H := H) this
theorem al_lin {H : Hp} {l m : Addr} {os : List Ord} (h1 : LinAt H l os) (h2 : LinAt H m os) (hz : os.length ≤ 1000) : AlN 2 H (.ref l) (.ref m) := by
  obtain ⟨vs, e1, t1⟩ := h1
  obtain ⟨ws, e2, t2⟩ := h2
  have l1 := Ords.len t1
  have l2 := Ords.len t2
  refine .mk (.inl ⟨e1, e2⟩) (by omega) (by omega) fun i u v g1 g2 => ?_
  obtain ⟨o, b, ho, rfl, hb⟩ := Ords.get t1 g1
  obtain ⟨o2, b2, ho2, rfl, hb2⟩ := Ords.get t2 g2
  have e : o = o2 := Option.some.inj (ho.symm.trans ho2)
  subst e
  exact al_ord ⟨b, rfl, hb⟩ ⟨b2, rfl, hb2⟩
theorem al_slp {H : Hp} {v w : V} {z : Slp} (h1 : SlpAt H v z) (h2 : SlpAt H w z) : AlN 2 H v w := by
  obtain ⟨a, b, rfl, ha, hb⟩ := h1
  obtain ⟨c, d, rfl, hc, hd⟩ := h2
  refine .mk (.inr ⟨ha, hc⟩) rfl (Nat.le_of_ble_eq_true rfl) fun i u v e1 e2 => ?_
  match i, e1, e2 with
  | 0, e1, e2 => cases e1; cases e2; exact .flat (n := 1) (.inr ⟨_, rfl, rfl⟩)
  | 1, e1, e2 => cases e1; cases e2; exact al_ord ⟨b, rfl, hb⟩ ⟨d, rfl, hd⟩
  | 2, e1, e2 => cases e1; cases e2; exact .flat (n := 1) (.inl ⟨_, rfl, rfl⟩)
theorem al_sls {H : Hp} {l m : Addr} {zs : List Slp} (h1 : SlsAt H l zs) (h2 : SlsAt H m zs) (hz : zs.length ≤ 1000) : AlN 3 H (.ref l) (.ref m) := by
  obtain ⟨vs, e1, t1⟩ := h1
  obtain ⟨ws, e2, t2⟩ := h2
  have l1 := t1.length
  have l2 := t2.length
  refine .mk (.inl ⟨e1, e2⟩) (by omega) (by omega) fun i u v g1 g2 => ?_
  obtain ⟨z, hz1, h1⟩ := t1.get g1
  obtain ⟨z2, hz2, h2⟩ := t2.get g2
  have e : z = z2 := Option.some.inj (hz1.symm.trans hz2)
  subst e
  exact al_slp h1 h2
theorem al_look {H : Hp} {t u : Addr} {ph : Str} {la : Int} {a1 a2 a3 b1 b2 b3 : Addr} {bs ss : List Ord} {zs : List Slp} (ht : H t = some (.tup [.str ph, .int la, .ref a1, .ref a2, .ref a3])) (hu : H u = some (.tup [.str ph, .int la, .ref b1, .ref b2, .ref b3]))
    (h1 : LinAt H a1 bs) (h2 : LinAt H a2 ss) (h3 : SlsAt H a3 zs) (k1 : LinAt H b1 bs) (k2 : LinAt H b2 ss) (k3 : SlsAt H b3 zs) (z1 : bs.length ≤ 1000) (z2 : ss.length ≤ 1000) (z3 : zs.length ≤ 1000) : AlN 4 H (.ref t) (.ref u) := by
  refine .mk (.inr ⟨ht, hu⟩) rfl (Nat.le_of_ble_eq_true rfl) fun i u v e1 e2 => ?_
  match i, e1, e2 with
  | 0, e1, e2 => cases e1; cases e2; exact .flat (n := 3) (.inr ⟨_, rfl, rfl⟩)
  | 1, e1, e2 => cases e1; cases e2; exact .flat (n := 3) (.inl ⟨_, rfl, rfl⟩)
  | 2, e1, e2 => cases e1; cases e2; exact (al_lin h1 k1 z1).up
  | 3, e1, e2 => cases e1; cases e2; exact (al_lin h2 k2 z2).up
  | 4, e1, e2 => cases e1; cases e2; exact al_sls h3 k3 z3
/-! ### the deed done, accepted -/
def startS (c : Int) (k : Kd) (o : Ord) (u : Ph) (S : LS) : LS := if c < 4 then S.begin k o else if c = 7 then { S with turn := some u } else S
structure Acc (c : Int) (k : Kd) (o : Ord) (tr : Int) (u : Ph) (y : Str) (S : LS) (F : Floor) (fs : List Fact) (F' : Floor) : Prop where
  st : ∃ cut' run', LSteps k o tr (startS c k o u S) fs (F'.ls cut' run')
  inv : FInv F'
  len : F'.known.length ≤ F.known.length + 1
  lp : F'.leap = F.leap
  out : c = 5 → ∃ x, BB.find y F = some x ∧ fs = [.out y x.left]
  less : c = 6 → fs = [.less y o.left]
theorem done_acc {c tr : Int} {k : Kd} {o : Ord} {u : Ph} {y : Str} {F F' : Floor} {fs : List Fact} {run : Option Run} (hF : FInv F) (hO : Ok o) (hv : o.shown = inView o.left o.peak) (hz : F.known.length ≤ 60) (hc : c < 8) (h : DoneR c k o tr u y F fs F') : Acc c k o tr u y (F.ls false run) F fs F' := by
  rcases h with ⟨c4, h⟩ | ⟨c4, h⟩ | ⟨c4, h⟩ | ⟨c4, h⟩ | ⟨c4, h⟩
  · obtain ⟨⟨run', a⟩, i, l, p⟩ := enter_acc (dk := k) (dord := o) (dtrig := tr) (cut := false) (run := run) hF hO (by omega) hv h
    exact ⟨⟨false, run', by unfold startS; rw [if_pos c4]; exact a⟩, i, l, p, fun e => by omega, fun e => by omega⟩
  · obtain ⟨⟨run', a⟩, i, l, p⟩ := lay_acc (cut := false) (run := run) hF hO (by omega) h
    exact ⟨⟨false, run', by unfold startS; rw [if_neg (by omega), if_neg (by omega)]; exact a⟩, i, l, p, fun e => by omega, fun e => by omega⟩
  · obtain ⟨⟨run', a⟩, i, l, p, x, hx, e1⟩ := takeOut_acc (dk := k) (dord := o) (dtrig := tr) (cut := false) (run := run) hF (by omega) h
    exact ⟨⟨false, run', by unfold startS; rw [if_neg (by omega), if_neg (by omega)]; exact a⟩, i, by omega, p, fun _ => ⟨x, hx, e1⟩, fun e => by omega⟩
  · obtain ⟨⟨run', a⟩, i, l, p, e1⟩ := lessen_acc (dk := k) (dord := o) (dtrig := tr) (cut := false) (run := run) hF (by omega) h
    exact ⟨⟨false, run', by unfold startS; rw [if_neg (by omega), if_neg (by omega)]; exact a⟩, i, by omega, p, fun e => by omega, fun _ => e1⟩
  · obtain ⟨⟨cut', run', a⟩, i, l, p⟩ := turn_acc (dk := k) (dord := o) (dtrig := tr) (run := run) hF (by omega) h
    exact ⟨⟨cut', run', by unfold startS; rw [if_neg (by omega), if_pos (by omega)]; exact a⟩, i, by omega, p, fun e => by omega, fun e => by omega⟩
theorem start_sok {c : Int} {k : Kd} {o : Ord} {u : Ph} {S : LS} (h : S.flight = none) (hn : sOk o.name = true) : SOk (startS c k o u S) := by
  unfold startS
  intro x hx
  split at hx
  · cases hx
    exact hn
  · split at hx
    · have hx : S.flight = some x := hx
      rw [h] at hx
      cases hx
    · rw [h] at hx
      cases hx
theorem find_first {y : Str} {F : Floor} {x : Ord} (h : BB.find y F = some x) : atI ((F.known.filter fun o => decide (o.name = y)).map fun o => V.int o.left) 0 = some (.int x.left) := by
  have e : F.known.find? (fun o => decide (o.name = y)) = some x := h
  rw [← List.head?_filter] at e
  cases hl : F.known.filter fun o => decide (o.name = y) with
  | nil => rw [hl] at e; cases e
  | cons z t =>
    rw [hl] at e
    cases e
    exact at0
theorem made_ok {n who : Str} {bu : Bool} {price amount peak : Int} (m : MadeOk n who price amount peak) : Ok (newOrd n who bu price amount peak) := by
  have h1 := m.a1
  have hp : 0 ≤ peak := by rcases m.pk with h | h <;> omega
  refine ⟨inView_pos h1 hp, inView_le (by omega), hp, fun e => ?_, fun e => ?_, name_sOk m.n, name_sOk m.who⟩
  · have e' : peak = 0 := e
    show inView amount peak = amount
    unfold inView
    rw [if_pos e']
  · rcases m.pk with h | h
    · exact absurd h e
    · exact h.2.2
/-! ### a list of names apart from the lists of the floor and the state -/
theorem lin_ap {H : Hp} {l m : Addr} {os : List (List V)} {nm : List Str} (h : LstAt H l os) (hm : H m = some (.lst (nm.map V.str))) (hn : nm ≠ []) : l ≠ m := fun e => by
  obtain ⟨vs, e1, t⟩ := h
  rw [e, hm] at e1
  cases nm with
  | nil => exact hn rfl
  | cons x r =>
    cases e1
    cases t with
    | cons h _ =>
      obtain ⟨a, e, _⟩ := h
      cases e
theorem sls_ap {H : Hp} {l m : Addr} {zs : List Slp} {nm : List Str} (h : SlsAt H l zs) (hm : H m = some (.lst (nm.map V.str))) (hn : nm ≠ []) : l ≠ m := fun e => by
  obtain ⟨vs, e1, t⟩ := h
  rw [e, hm] at e1
  cases nm with
  | nil => exact hn rfl
  | cons x r =>
    cases e1
    cases t with
    | cons h _ =>
      obtain ⟨a, b, e, _⟩ := h
      cases e
theorem sq_ne {K : PySem.W.Frag} {H H' : Hp} {a p : Addr} {xs : List V} (k : But p H H') (h : SqL K H a xs) (hp : ∀ ys, H p ≠ some (.lst ys)) (hp2 : ∀ o u, H p ≠ some (.frz o u)) : SqL K H' a xs := by
  rcases h with (h | ⟨o, h⟩) | h
  · exact .inl (.inl (k _ _ h fun e => hp _ (by rw [← e]; exact h)))
  · exact .inl (.inr ⟨o, k _ _ h fun e => hp2 _ _ (by rw [← e]; exact h)⟩)
  · exact .inr h
/-- the state as a turn of the law begins -/
structure HdIn (H : Hp) (d lb ls la : Addr) (F : Floor) : Prop where
  o : ∃ kvs run rv, H d = some (.dK kvs) ∧ kvs.length < 1000 ∧ valV kvs (ks "buy") = some (.ref lb) ∧ valV kvs (ks "sell") = some (.ref ls) ∧ valV kvs (ks "asleep") = some (.ref la) ∧ mergeK kvs m4 = sk (vS lb ls la .non rv (F.ls false run)) ∧ ∀ r, run = some r → rv = some (runV r)
  b : LinAt H lb F.buys
  s : LinAt H ls F.sells
  a : SlsAt H la F.asleep
theorem HdIn.of {H : Hp} {d lb ls la : Addr} {fv : V} {rv : Option RV} {F : Floor} {cut : Bool} {run : Option Run} (h : StIn H d lb ls la fv rv (F.ls cut run)) : HdIn H d lb ls la F := by
  refine ⟨⟨_, run, rv, h.o, sk_len _, by kernel_rfl, by kernel_rfl, by kernel_rfl, ?_, h.r⟩, h.b, h.s, h.a⟩
  rw [merge4]
  rfl
theorem FlIn.butD {K : PySem.W.Frag} {H H' : Hp} {d p dx lb ls la : Addr} {F : Floor} {kvs : List (Key × V)} (h : FlIn K H p dx lb ls la F) (k : But d H H') (hd : H d = some (.dK kvs)) : FlIn K H' p dx lb ls la F :=
  ⟨k _ _ h.o (fun e => by have := h.o; rw [e, hd] at this; cases this), h.b.butD k hd, h.s.butD k hd, h.a.butD k hd⟩
theorem FlAt.butD {K : PySem.W.Frag} {H H' : Hp} {d p : Addr} {F : Floor} {kvs : List (Key × V)} (h : FlAt K H p F) (k : But d H H') (hd : H d = some (.dK kvs)) : FlAt K H' p F := by
  obtain ⟨a, b, c, e, h⟩ := h
  exact ⟨a, b, c, e, h.butD k hd⟩
theorem HdIn.but {K : PySem.W.Frag} {H H' : Hp} {d p dx lb ls la lb' ls' la' : Addr} {F G : Floor} (h : HdIn H d lb ls la F) (k : But p H H') (hp : FlIn K H p dx lb' ls' la' G) : HdIn H' d lb ls la F := by
  obtain ⟨⟨kvs, run, rv, o, r⟩, b, s, a⟩ := h
  exact ⟨⟨kvs, run, rv, k _ _ o (fun e => by have := hp.o; rw [← e, o] at this; cases this), r⟩, b.but k hp.o, s.but k hp.o, a.but k hp.o⟩
theorem HdIn.same {H H' : Hp} {d lb ls la : Addr} {F : Floor} (h : HdIn H d lb ls la F) (k : Same H H') : HdIn H' d lb ls la F := by
  obtain ⟨⟨kvs, run, rv, o, r⟩, b, s, a⟩ := h
  exact ⟨⟨kvs, run, rv, k _ _ o, r⟩, b.same k, s.same k, a.same k⟩
theorem HdIn.free {H : Hp} {d lb ls la A : Addr} {F : Floor} (h : HdIn H d lb ls la F) (hA : H A = none) : lb ≠ A ∧ ls ≠ A ∧ la ≠ A ∧ d ≠ A := by
  obtain ⟨⟨kvs, run, rv, o, _⟩, ⟨_, h1, _⟩, ⟨_, h2, _⟩, ⟨_, h3, _⟩⟩ := h
  refine ⟨fun e => ?_, fun e => ?_, fun e => ?_, fun e => ?_⟩
  · rw [e, hA] at h1; cases h1
  · rw [e, hA] at h2; cases h2
  · rw [e, hA] at h3; cases h3
  · rw [e, hA] at o; cases o
theorem HdIn.put {H : Hp} {d lb ls la A : Addr} {F : Floor} {vs ws : List V} (h : HdIn H d lb ls la F) (hA : H A = some (.lst vs)) (n1 : lb ≠ A) (n2 : ls ≠ A) (n3 : la ≠ A) : HdIn (upd H A (.lst ws)) d lb ls la F := by
  have k : Kt H (upd H A (.lst ws)) := Kt.upd fun ys e => by rw [hA] at e; cases e
  obtain ⟨⟨kvs, run, rv, o, r⟩, ⟨bv, b1, b2⟩, ⟨sv, s1, s2⟩, ⟨av, a1, a2⟩⟩ := h
  refine ⟨⟨kvs, run, rv, by rw [upd_ne (fun e => by rw [← e, o] at hA; cases hA)]; exact o, r⟩, ⟨bv, by rw [upd_ne n1]; exact b1, b2.kt k⟩, ⟨sv, by rw [upd_ne n2]; exact s1, s2.kt k⟩, ⟨av, by rw [upd_ne n3]; exact a1, a2.kt k⟩⟩
/-- what stands as a turn of the law begins -/
structure LInv (K : PySem.W.Frag) (ns : List Int) (a p d ln : Addr) (lp : Int) (i : Nat) (F : Floor) (nm : List Str) (fdx flb fls fla lb ls la : Addr) (H : Hp) : Prop where
  hscr : SqL K H a (ns.map V.int)
  hln : H ln = some (.lst (nm.map V.str))
  hnm : ∀ x ∈ nm, NameOk x
  hnl : nm.length = i
  hfl : FlIn K H p fdx flb fls fla F
  f1 : flb ≠ ln
  f2 : fls ≠ ln
  f3 : fla ≠ ln
  hst : HdIn H d lb ls la F
  s1 : lb ≠ ln
  s2 : ls ≠ ln
  s3 : la ≠ ln
  hinv : FInv F
  hkn : F.known.length ≤ i
  hlp : F.leap = lp
theorem LInv.same {K : PySem.W.Frag} {ns : List Int} {a p d ln : Addr} {lp : Int} {i : Nat} {F : Floor} {nm : List Str} {fdx flb fls fla lb ls la : Addr} {H H' : Hp} (h : LInv K ns a p d ln lp i F nm fdx flb fls fla lb ls la H) (s : Same H H') : LInv K ns a p d ln lp i F nm fdx flb fls fla lb ls la H' :=
  ⟨sq_same s h.hscr, s _ _ h.hln, h.hnm, h.hnl, h.hfl.same s, h.f1, h.f2, h.f3, h.hst.same s, h.s1, h.s2, h.s3, h.hinv, h.hkn, h.hlp⟩
theorem l3_le (a b c i m : Int) (ha : a ≤ m) (hb : b ≤ m) (hc : c ≤ m) : l3 a b c i ≤ m := by
  unfold l3
  split
  · exact ha
  · split
    · exact hb
    · exact hc
theorem sq_put {K : PySem.W.Frag} {H : Hp} {a m : Addr} {xs : List V} {o : HO} (hs : a ≠ m ∨ ∀ H, SqL K H a xs) (h : SqL K H a xs) : SqL K (upd H m o) a xs := by
  rcases hs with n | hs
  · rcases h with (h | ⟨u, h⟩) | h
    · exact .inl (.inl (by rw [upd_ne n]; exact h))
    · exact .inl (.inr ⟨u, by rw [upd_ne n]; exact h⟩)
    · exact .inr h
  · exact hs _
theorem sq_new {K : PySem.W.Frag} {H : Hp} {a m : Addr} {xs : List V} (h : SqL K H a xs) (hm : H m = none) : a ≠ m ∨ ∀ H, SqL K H a xs := by
  rcases h with (h | ⟨u, h⟩) | h
  · exact .inl (ne_of_none h hm)
  · exact .inl (ne_of_none h hm)
  · exact .inr fun _ => .inr h
theorem HdIn.getB {H : Hp} {d lb ls la : Addr} {F : Floor} (h : HdIn H d lb ls la F) : DGet H d (.str "buy") (some (.ref lb)) := by
  obtain ⟨⟨kvs, run, rv, o, _, e, _⟩, _⟩ := h
  rw [← e]
  exact DGet.k (k := ks "buy") o
theorem HdIn.getS {H : Hp} {d lb ls la : Addr} {F : Floor} (h : HdIn H d lb ls la F) : DGet H d (.str "sell") (some (.ref ls)) := by
  obtain ⟨⟨kvs, run, rv, o, _, _, e, _⟩, _⟩ := h
  rw [← e]
  exact DGet.k (k := ks "sell") o
theorem HdIn.getA {H : Hp} {d lb ls la : Addr} {F : Floor} (h : HdIn H d lb ls la F) : DGet H d (.str "asleep") (some (.ref la)) := by
  obtain ⟨⟨kvs, run, rv, o, _, _, _, e, _⟩, _⟩ := h
  rw [← e]
  exact DGet.k (k := ks "asleep") o
theorem LInv.push {K : PySem.W.Frag} {ns : List Int} {a p d ln : Addr} {lp : Int} {i : Nat} {F : Floor} {nm : List Str} {fdx flb fls fla lb ls la : Addr} {H : Hp} (h : LInv K ns a p d ln lp i F nm fdx flb fls fla lb ls la H) {x : Str} (hx : NameOk x) (hs : a ≠ ln ∨ ∀ H, SqL K H a (ns.map V.int)) : LInv K ns a p d ln lp (i + 1) F (nm ++ [x]) fdx flb fls fla lb ls la (upd H ln (.lst (nm.map V.str ++ [.str x]))) :=
  ⟨sq_put hs h.hscr, by rw [upd_same, List.map_append]; rfl, fun y hy => (List.mem_append.mp hy).elim (h.hnm y) fun e => by cases List.mem_singleton.mp e; exact hx, by rw [List.length_append, h.hnl]; rfl, h.hfl.put h.hln h.f1 h.f2 h.f3, h.f1, h.f2, h.f3, h.hst.put h.hln h.s1 h.s2 h.s3, h.s1, h.s2, h.s3, h.hinv, Nat.le_succ_of_le h.hkn, h.hlp⟩
/-- wants: ints, turn by turn -/
def RelI (_ : Hp) (us : List V) (ys : List Int) : Prop := us = ys.map V.int
def OneI (_ : Hp) (v : V) (z : Int) : Prop := v = .int z
/-- a word on an if whose test is known -/
theorem vyI {c : Bool} {t1 t2 : TS} {D : Ends} {σ : L2.St} {H : Hp} {R : L2.St → Hp → Prop} (h : ∀ nx : L2.St → Hp → Prop, (∀ σ' H', R σ' H' → nx σ' H') → if c = true then t1 { D with nx := nx } σ H else t2 { D with nx := nx } σ H) (q : ∀ σ' H', R σ' H' → D.nx σ' H') : if c = true then t1 D σ H else t2 D σ H := h _ q
/-- .. on an and whose first part is known, and which is False -/
theorem vyA {c : Bool} {T : TT} {σ : L2.St} {H : Hp} {Q : Bool → Hp → Prop} (h : c = true → ∀ Q' : Bool → Hp → Prop, (∀ H', Same H H' → Q' false H') → T σ H Q') (q : ∀ H', Same H H' → Q false H') : if c = true then T σ H Q else Q false H := by
  cases c with
  | true => exact h rfl Q q
  | false => exact q H (Same.refl H)
/-- a def that lets nothing out, at its own place -/
theorem fnL {P : Program} {w : World} {K : PySem.W.Frag} {mg : Str → Option Value} {base : Heap} {x qual : Str} {st : Stmt} {f : Addr} {fd : FuncData} {N ps : List Str} {k : Nat} {sp : Sp} (F : FunD K x qual (defArgs st) (defBody st) (defScope st) [] [] f fd) (S : FnScope N ps (defScope st))
    (len : ∀ vs H Q E, sp vs H Q E → vs.length = ps.length)
    (hbody : ∀ (cdv : Value) (A : Around) (outer : List Env) (s : Shared) (H : Hp) (vs : List V) (Q : VK) (E : XK), Room k (A.deeper (envOfC qual (defScope st) s.heap.objs.size f cdv)) → sp vs H Q E →
      ∃ t, PSs (cxOf CX0 P w K mg base N qual (defScope st) f cdv A outer s H E).nox (defBody st) t ∧ t { nx := fun _ H' => Q .non H', rt := Q } (start N vs) H) : FnOk P w K mg base CX0 (k + 1) f fd ps sp := by
  refine F.ok S len fun cdv A outer s H vs Q E hr hsp => ?_
  obtain ⟨t, h, q⟩ := hbody cdv A outer s H vs Q E hr hsp
  exact ⟨t, h.nox, q⟩
end BB
set_option Elab.async false
set_option linter.all false
set_option maxRecDepth 100000
set_option maxHeartbeats 8000000
/-! LP: the law. -/
namespace BB
open PySem PySem.Spec PyProof.Rows L2
local macro_rules | `(tactic| walk_at "rd") => `(tactic| repeat (first | refine ⟨_, rfl, ?_⟩ | refine ⟨_, _, rfl, rfl, ?_⟩ | refine ⟨_, _, rfl, ?_⟩ | refine ⟨rfl, ?_⟩ | refine ⟨_, _, _, _, rfl, rfl, SqT.of (by assumption), rfl, ?_⟩ | refine ⟨Nat.le_of_ble_eq_true rfl, ?_⟩))
section
variable {P : Program} {w : World} {K : PySem.W.Frag} {mg : Str → Option Value} {base : Heap}
theorem ok_law (T : Txt K mg) {fd : FuncData} (F : FunD K "law" "law" (defArgs s_law) (defBody s_law) (defScope s_law) [] [] (He.fAd K ("law", none)) fd) : FnOk P w K mg base CX0 13 (He.fAd K ("law", none)) fd ["script"] (fun vs H Q E => ∃ (a : Addr) (ns : List Int), vs = [.ref a] ∧ SqL K H a (ns.map V.int) ∧ ns.length ≤ 63 ∧ ∀ H', Q (.bl true) H') := by
  have g_law_cell_at := ok_law_cell_at (P := P) (w := w) (base := base) T
  have g_law_floor := ok_law_floor (P := P) (w := w) (base := base) T
  have m_look := ok_Floor_look (P := P) (w := w) (base := base) T
  have g_law_deed := ok_law_deed (P := P) (w := w) (base := base) T
  have g_law_done := ok_law_done (P := P) (w := w) (base := base) T
  have g_law_begin := ok_law_begin (P := P) (w := w) (base := base) T
  have g_law_fits := ok_law_fits (P := P) (w := w) (base := base) T
  have g_law_step := ok_law_step (P := P) (w := w) (base := base) T
  have g_law_alike := ok_law_alike (P := P) (w := w) (base := base) T 4
  refine fnL F sc_law  (fun vs H Q E h => ?_) (fun cdv A outer s H vs Q E hr h => ?_)
  · obtain ⟨a, ns, rfl, _⟩ := h
    rfl
  · obtain ⟨a, ns, rfl, ha, hz, q⟩ := h
    have hu := hu_of hr
    refine ⟨_, pss_cons (ps_set (i := 1) sc_law.nd rfl (Or.inl rfl) (pe_op op_mod (cg g_law_cell_at (hr.mono (by decide)) (pa_cons (pv 0) (pa_cons pe_int pa_nil))) (pe_op op_pow pe_int pe_int)))
      (pss_cons (ps_set (i := 2) sc_law.nd rfl (Or.inl rfl) (cg g_law_floor (hr.mono (by decide)) (pa_cons (pv 1) pa_nil)))
      (pss_cons (ps_set (i := 3) sc_law.nd rfl (Or.inl rfl) (cm0 m_look (hr.mono (by decide)) (pv 2)))
      (pss_cons (ps_set (i := 4) sc_law.nd rfl (Or.inl rfl) (pe_op op_mod (pe_op op_fdiv (pv 1) pe_int) (pe_ix ix_list (pe_lst (pa_cons pe_int (pa_cons pe_int (pa_cons (pe_op op_pow pe_int pe_int) pa_nil)))) (pe_op op_mod (pe_op op_fdiv (pv 1) pe_int) pe_int) (fun _ _ => rfl))))
      (pss_cons (ps_set (i := 5) sc_law.nd rfl (Or.inl rfl) (pe_disp (pps_cons pe_str (pe_lst pa_nil) (pps_cons pe_str (pe_lst pa_nil) (pps_cons pe_str (pe_lst pa_nil) (pps_cons pe_str (pe_ix ix_tup (pv 3) pe_int (fun _ _ => rfl)) (pps_cons pe_str (pe_ix ix_tup (pv 3) pe_int (fun _ _ => rfl)) (pps_cons pe_str (pv 4) pps_nil)))))) (by rfl) (by rfl) (fun z => by cases z) (by decide)))
      (pss_cons (ps_set (i := 6) sc_law.nd rfl (Or.inl rfl) (pe_lst pa_nil))
      (pss_cons (ps_for PassesOwn.never rfl (pi_range3 (by rfl) T.b_range (pa_cons pe_int (pa_cons (pe_callB (call_min2 rfl) (by rfl) T.b_min (by decide +kernel) (pa_cons (pe_callB call_len_seq (by rfl) T.b_len (by decide +kernel) (pa_cons (pv 0) pa_nil)) (pa_cons pe_int pa_nil))) (pa_cons pe_int pa_nil)))) (pg_name (i := 7) sc_law.nd rfl (Or.inl rfl))
        (pss_cons (ps_set (i := 8) sc_law.nd rfl (Or.inr rfl) (cg g_law_deed (hr.mono (by decide)) (pa_cons (pv 0) (pa_cons (pv 7) (pa_cons (pe_ix ix_list (pe_lst (pa_cons pe_int (pa_cons pe_int (pa_cons (pe_op op_pow pe_int pe_int) pa_nil)))) (pe_op op_mod (pv 1) pe_int) (fun _ _ => rfl)) (pa_cons (pe_ix ix_list (pe_lst (pa_cons pe_int (pa_cons pe_int (pa_cons (pe_op op_pow pe_int pe_int) pa_nil)))) (pe_op op_mod (pe_op op_fdiv (pv 1) pe_int) pe_int) (fun _ _ => rfl)) (pa_cons (pv 6) pa_nil)))))))
      (pss_cons (ps_expr (pe_bm PySem.F.plainAttrs_list PySem.F.slot_list_append PySem.F.type_list_append mt_append (pv 6) (pa_cons (pe_ix ix_tup (pe_ix ix_tup (pv 8) pe_int (fun _ _ => rfl)) pe_int (fun _ _ => rfl)) pa_nil)))
      (pss_cons (ps_set (i := 9) sc_law.nd rfl (Or.inl rfl) (pe_op op_cat (pe_op op_cat (pe_dget hu (pv 5) pe_str (fun _ _ => rfl)) (pe_dget hu (pv 5) pe_str (fun _ _ => rfl))) (pe_lc (own := [("one", 14)]) (g := gName 14) (by rfl) sc_law.nd (pi_list (pe_dget hu (pv 5) pe_str (fun _ _ => rfl))) (blkOk_by (own := [("one", 14)]) (by kernel_rfl)) (fun _ _ _ _ _ => pg_name (i := 14) sc_law.nd rfl (Or.inl rfl)) (fun _ _ _ _ _ => pts_nil) (fun _ _ _ _ _ => (pe_ix (r := rIxT K) ix_tup (pv 14) pe_int (fun _ _ => rfl))))))
      (pss_cons (ps_setLc (i := 10) (own := [("one", 14)]) (g := gName 14) (by rfl) sc_law.nd rfl rfl (sw_true rfl rfl rfl (by decide +kernel)) (pi_list (pv 9)) (blkOk_by (own := [("one", 14)]) (by kernel_rfl)) (fun _ _ _ _ _ => pg_name (i := 14) sc_law.nd rfl (Or.inl rfl)) (fun _ _ _ _ _ => pts_one (pt_cmpR op_eq (pe_ix (r := rIxT K) ix_tup (pv 14) pe_int (fun _ _ => rfl)) (pe_ix (r := rIxT K) ix_tup (pv 8) pe_int (fun _ _ => rfl)) (nomark _))) (fun _ _ _ _ _ => (pe_ix (r := rIxT K) ix_tup (pv 14) pe_int (fun _ _ => rfl))))
      (pss_cons (ps_set (i := 11) sc_law.nd rfl (Or.inl rfl) (cg g_law_done (hr.mono (by decide)) (pa_cons (pv 2) (pa_cons (pv 8) pa_nil))))
      (pss_cons (ps_expr (pe_bm PySem.F.plainAttrs_dict PySem.F.slot_dict_update PySem.F.type_dict_update mt_update (pv 5) (pa_cons (pe_disp (pps_cons pe_str pe_non (pps_cons pe_str pe_bl (pps_cons pe_str pe_non (pps_cons pe_str pe_bl pps_nil)))) (by rfl) (by rfl) (fun z => by cases z) (by decide)) pa_nil)))
      (pss_cons (ps_if (pt_cmpR op_notN (pv 11) pe_non (nomark _)) (pss_cons (ps_if (pt_cmpR op_lt (pe_ix ix_tup (pv 8) pe_int (fun _ _ => rfl)) pe_int (nomark _)) (pss_one (ps_expr (cg g_law_begin (hr.mono (by decide)) (pa_cons (pv 5) (pa_cons (pe_ix ix_tup (pv 8) pe_int (fun _ _ => rfl)) (pa_cons (pe_ix ix_tup (pv 8) pe_int (fun _ _ => rfl)) pa_nil)))))) pss_nil)
      (pss_cons (ps_if (PW.pt (pw_and (pt_cmpR op_eq (pe_ix ix_tup (pv 8) pe_int (fun _ _ => rfl)) pe_int (nomark _)) (pw_and1 (pt_cmpR (op_neD hr.units) (pv 11) (pe_lst (pa_cons (pe_tup (pa_cons pe_str (pa_cons (pe_ix ix_tup (pv 8) pe_int (fun _ _ => rfl)) (pa_cons (pe_ix ix_list (pv 10) pe_int (fun _ _ => rfl)) pa_nil)))) pa_nil)) (nomark _))))) (pss_one (ps_ret pe_bl)) pss_nil)
      (pss_cons (ps_if (PW.pt (pw_and (pt_cmpR op_eq (pe_ix ix_tup (pv 8) pe_int (fun _ _ => rfl)) pe_int (nomark _)) (pw_and1 (pt_cmpR (op_neD hr.units) (pv 11) (pe_lst (pa_cons (pe_tup (pa_cons pe_str (pa_cons (pe_ix ix_tup (pv 8) pe_int (fun _ _ => rfl)) (pa_cons (pe_ix ix_tup (pe_ix ix_tup (pv 8) pe_int (fun _ _ => rfl)) pe_int (fun _ _ => rfl)) pa_nil)))) pa_nil)) (nomark _))))) (pss_one (ps_ret pe_bl)) pss_nil)
      (pss_cons (ps_if (pt_cmpR op_eq (pe_ix ix_tup (pv 8) pe_int (fun _ _ => rfl)) pe_int (nomark _)) (pss_one (ps_dput hu (pv 5) pe_str (pe_ix ix_tup (pv 8) pe_int (fun _ _ => rfl)) rfl)) pss_nil)
      (pss_cons (ps_if (pt_not (pt_val (cg g_law_fits (hr.mono (by decide)) (pa_cons (pv 11) pa_nil)))) (pss_one (ps_ret pe_bl)) pss_nil)
      (pss_one (ps_for PassesOwn.never rfl (pi_list (pv 11)) (pg_name (i := 12) sc_law.nd rfl (Or.inl rfl))
        (pss_one (ps_if (pt_not (pt_val (cg g_law_step (hr.mono (by decide)) (pa_cons (pv 5) (pa_cons (pv 8) (pa_cons (pv 12) pa_nil)))))) (pss_one (ps_ret pe_bl)) pss_nil))))))))) pss_nil)
      (pss_cons (ps_set (i := 13) sc_law.nd rfl (Or.inl rfl) (pe_tup (pa_cons (pe_dget hu (pv 5) pe_str (fun _ _ => rfl)) (pa_cons (pe_dget hu (pv 5) pe_str (fun _ _ => rfl)) (pa_cons (pe_dget hu (pv 5) pe_str (fun _ _ => rfl)) (pa_cons (pe_dget hu (pv 5) pe_str (fun _ _ => rfl)) (pa_cons (pe_dget hu (pv 5) pe_str (fun _ _ => rfl)) pa_nil)))))))
      (pss_cons (ps_if (PW.pt (pw_or (pt_cmpR op_notN (pe_dget hu (pv 5) pe_str (fun _ _ => rfl)) pe_non (nomark _)) (pw_or (pt_val (pe_dget hu (pv 5) pe_str (fun _ _ => rfl))) (pw_or1 (pt_cmpR op_notN (pe_dget hu (pv 5) pe_str (fun _ _ => rfl)) pe_non (nomark _)))))) (pss_one (ps_ret pe_bl)) pss_nil)
      (pss_one (ps_if (pt_not (pt_val (cg g_law_alike (hr.mono (by decide)) (pa_cons (cm0 m_look (hr.mono (by decide)) (pv 2)) (pa_cons (pv 13) pa_nil))))) (pss_one (ps_ret pe_bl)) pss_nil))))))))))))
      (pss_one (ps_ret pe_bl)))))))), ?_⟩
    walk_at "rd"
    refine ⟨a, ns, 0, rfl, Int.le_refl _, ha, fun n1 => ?_⟩
    walk_at "rd"
    refine ⟨⟨by decide, by decide, by decide⟩, ?_⟩
    walk_at "rd"
    refine ⟨(show (0 : Int) < 10 ^ Int.toNat 30 by decide), ?_⟩
    obtain ⟨hd, ehd⟩ : ∃ A, A = n1 % 10 ^ Int.toNat 30 := ⟨_, rfl⟩
    dsimp only
    rw [← ehd]
    clear ehd
    walk_at "rd"
    refine fun p F0 H1 s1 hF0 hb0 hs0 hz0 hl0 => ?_
    have ha1 := sq_same s1 ha
    have hI0 : FInv F0 := by
      have e := empty_inv F0.last F0.leap
      obtain ⟨ph, l, le, b, s, z⟩ := F0
      cases hb0
      cases hs0
      cases hz0
      exact ⟨e.b, e.s, e.z, e.cnt⟩
    have hk0 : F0.known.length = 0 := by rw [len_known, hb0, hs0, hz0]; rfl
    walk_at "rd"
    obtain ⟨fdx, flb, fls, fla, hFi⟩ := id hF0
    refine ⟨p, _, _, rfl, hFi.o, by kernel_rfl, ?_⟩
    walk_at "rd"
    refine ⟨p, F0, rfl, hF0, fun t j1 j2 j3 H2 s2 ht hl1 hl2 hl3 => ?_⟩
    replace hFi := hFi.same s2
    replace ha1 := sq_same s2 ha1
    clear hl1 hl2 hl3 hF0 s1 s2
    walk_at "rd"
    refine ⟨⟨by decide, by decide⟩, ?_⟩
    walk_at "rd"
    refine ⟨⟨by decide, by decide, by decide⟩, ?_⟩
    walk_at "rd"
    intro x1 hx1
    have u1 := same_upd (o := .lst [.int 3, .int 20, .int (10 ^ Int.toNat 9)]) hx1
    walk_at "rd"
    refine ⟨⟨by decide, by decide⟩, ?_⟩
    walk_at "rd"
    refine ⟨(show (0 : Int) < 3 by decide), ?_⟩
    refine ⟨x1, _, _, _, rfl, rfl, SqL.of upd_same, l3_at 3 20 (10 ^ Int.toNat 9) (hd / 5 % 3) (Int.emod_nonneg _ (by decide)) (Int.emod_lt_of_pos _ (by decide)), ?_⟩
    walk_at "rd"
    refine ⟨l3_pos _ _ _ _ (by decide) (by decide) (by decide), ?_⟩
    have hlp : hd / 63 % l3 3 20 (10 ^ Int.toNat 9) (hd / 5 % 3) = leapOf hd := rfl
    dsimp only
    rw [hlp]
    replace hFi := hFi.same u1
    replace ha1 := sq_same u1 ha1
    replace ht := u1 _ _ ht
    generalize (upd H2 x1 (.lst [.int 3, .int 20, .int (10 ^ Int.toNat 9)])) = H3 at *
    walk_at "rd"
    intro d hdn
    have w0 := same_upd (o := .dK []) hdn
    walk_at "rd"
    intro lb hlb
    have w1 := same_upd (o := .lst []) hlb
    walk_at "rd"
    intro ls hls
    have w2 := same_upd (o := .lst []) hls
    walk_at "rd"
    intro la hla
    have w3 := same_upd (o := .lst []) hla
    have n1 : d ≠ lb := fun e => by rw [← e, upd_same] at hlb; cases hlb
    have n2 : d ≠ ls := fun e => by rw [← e] at hls; rw [w1 _ _ upd_same] at hls; cases hls
    have n3 : d ≠ la := fun e => by rw [← e] at hla; rw [w2 _ _ (w1 _ _ upd_same)] at hla; cases hla
    have s03 := ((w0.trans w1).trans w2).trans w3
    have hd4 : (upd (upd (upd (upd H3 d (.dK [])) lb (.lst [])) ls (.lst [])) la (.lst [])) d = some (.dK []) := by rw [upd_ne n3, upd_ne n2, upd_ne n1]; exact upd_same
    have hlb4 := (w2.trans w3) _ _ (upd_same (H := upd H3 d (.dK [])) (a := lb) (o := .lst []))
    have hls4 := w3 _ _ (upd_same (H := upd (upd H3 d (.dK [])) lb (.lst [])) (a := ls) (o := .lst []))
    have hla4 := upd_same (H := upd (upd (upd H3 d (.dK [])) lb (.lst [])) ls (.lst [])) (a := la) (o := .lst [])
    replace ht := s03 _ _ ht
    replace hFi := hFi.same s03
    replace ha1 := sq_same s03 ha1
    generalize (upd (upd (upd (upd H3 d (.dK [])) lb (.lst [])) ls (.lst [])) la (.lst [])) = H4 at *
    walk_at "rd"
    refine ⟨hd4, sk6 (.ref lb) (.ref ls) (.ref la) (.str F0.phase.s) (.int F0.last) (.int (leapOf hd)), rfl, Nat.le_of_ble_eq_true rfl, ?_⟩
    have em : mergeK [] (sk6 (.ref lb) (.ref ls) (.ref la) (.str F0.phase.s) (.int F0.last) (.int (leapOf hd))) = sk6 (.ref lb) (.ref ls) (.ref la) (.str F0.phase.s) (.int F0.last) (.int (leapOf hd)) := by kernel_rfl
    rw [em]
    have hpd : p ≠ d := fun e => by have := hFi.o; rw [e, hd4] at this; cases this
    have nb : lb ≠ d := fun e => n1 e.symm
    have ns' : ls ≠ d := fun e => n2 e.symm
    have nz : la ≠ d := fun e => n3 e.symm
    have hH5 : HdIn (upd H4 d (.dK (sk6 (.ref lb) (.ref ls) (.ref la) (.str F0.phase.s) (.int F0.last) (.int (leapOf hd))))) d lb ls la F0 := by
      refine ⟨⟨_, none, none, upd_same, Nat.le_of_ble_eq_true rfl, by kernel_rfl, by kernel_rfl, by kernel_rfl, ?_, fun r e => by cases e⟩, ⟨[], by rw [upd_ne nb]; exact hlb4, by rw [hb0]; exact .nil⟩, ⟨[], by rw [upd_ne ns']; exact hls4, by rw [hs0]; exact .nil⟩, ⟨[], by rw [upd_ne nz]; exact hla4, by rw [hz0]; exact .nil⟩⟩
      rw [merge6, ← hl0]
      rfl
    have bd : But d H4 (upd H4 d (.dK (sk6 (.ref lb) (.ref ls) (.ref la) (.str F0.phase.s) (.int F0.last) (.int (leapOf hd))))) := But.upd
    replace hFi := hFi.butD bd hd4
    replace ha1 := sq_ne bd ha1 (fun ys e => by rw [hd4] at e; cases e) (fun o u e => by rw [hd4] at e; cases e)
    generalize (upd H4 d (.dK (sk6 (.ref lb) (.ref ls) (.ref la) (.str F0.phase.s) (.int F0.last) (.int (leapOf hd))))) = H5 at *
    walk_at "rd"
    intro ln hln
    have w4 := same_upd (o := .lst []) hln
    have hlnd : ln ≠ d := fun e => by obtain ⟨⟨_, _, _, o, _⟩, _⟩ := hH5; rw [e, o] at hln; cases hln
    have hlnp : ln ≠ p := fun e => by rw [e, hFi.o] at hln; cases hln
    have hsep := sq_new ha1 hln
    have L0 : LInv K ns a p d ln (leapOf hd) 0 F0 [] fdx flb fls fla lb ls la (upd H5 ln (.lst [])) :=
      ⟨sq_same w4 ha1, upd_same, fun x hx => (by cases hx), rfl, hFi.same w4, (hFi.free hln).1, (hFi.free hln).2.1, (hFi.free hln).2.2, hH5.same w4, (hH5.free hln).1, (hH5.free hln).2.1, (hH5.free hln).2.2.1, hI0, by omega, hl0⟩
    generalize (upd H5 ln (.lst [])) = H6 at *
    walk_at "rd"
    refine ⟨a, _, rfl, .inl L0.hscr, ?_⟩
    walk_at "rd"
    have eN : (if (121 : Int) < (((ns.map V.int).length : Nat) : Int) then 121 else (((ns.map V.int).length : Nat) : Int)) = (ns.length : Nat) := by
      rw [List.length_map, if_neg (by omega)]
    refine ⟨1, _, 3, (ns.length + 1) / 3, rfl, (by rw [eN]; exact rg3 ns.length hz), for_rangeC (fun i σ H' => ∃ (v7 v8 v9 v10 v11 v12 v13 : Option V) (F : Floor) (nm : List Str) (fdx flb fls fla lb ls la : Addr), σ = [some (.ref a), some (.int hd), some (.ref p), some (.ref t), some (.int (leapOf hd)), some (.ref d), some (.ref ln), v7, v8, v9, v10, v11, v12, v13, none] ∧ LInv K ns a p d ln (leapOf hd) i F nm fdx flb fls fla lb ls la H') ⟨none, none, none, none, none, none, none, F0, [], fdx, flb, fls, fla, lb, ls, la, rfl, L0⟩ (fun i σ H7 hi h => ?_) fun σ H7 h => ?_⟩
    · clear L0 hH5 hFi ha1 hI0 hk0 ht hl0 hb0 hs0 hz0
      obtain ⟨v7, v8, v9, v10, v11, v12, v13, F, nm, fdx, flb, fls, fla, lb, ls, la, rfl, L⟩ := h
      walk_at "rd"
      refine ⟨⟨by decide, by decide, by decide⟩, ?_⟩
      walk_at "rd"
      intro x1 hx1
      have u1 := same_upd (o := .lst [.int 6, .int 90, .int (10 ^ Int.toNat 9)]) hx1
      walk_at "rd"
      refine ⟨(show (0 : Int) < 3 by decide), ?_⟩
      refine ⟨x1, _, _, _, rfl, rfl, SqL.of upd_same, l3_at 6 90 (10 ^ Int.toNat 9) (hd % 3) (Int.emod_nonneg _ (by decide)) (Int.emod_lt_of_pos _ (by decide)), ?_⟩
      walk_at "rd"
      refine ⟨⟨by decide, by decide, by decide⟩, ?_⟩
      walk_at "rd"
      intro x2 hx2
      have u2 := same_upd (o := .lst [.int 5, .int 400, .int (10 ^ Int.toNat 9)]) hx2
      walk_at "rd"
      refine ⟨⟨by decide, by decide⟩, ?_⟩
      walk_at "rd"
      refine ⟨(show (0 : Int) < 3 by decide), ?_⟩
      refine ⟨x2, _, _, _, rfl, rfl, SqL.of upd_same, l3_at 5 400 (10 ^ Int.toNat 9) (hd / 3 % 3) (Int.emod_nonneg _ (by decide)) (Int.emod_lt_of_pos _ (by decide)), ?_⟩
      replace L := L.same (u1.trans u2)
      generalize (upd (upd H7 x1 (.lst [.int 6, .int 90, .int (10 ^ Int.toNat 9)])) x2 (.lst [.int 5, .int 400, .int (10 ^ Int.toNat 9)])) = H8 at *
      walk_at "rd"
      have hi2 : i ≤ 21 := by omega
      have hnl := L.hnl
      refine ⟨a, ln, ns, 1 + (i : Int) * 3, l3 6 90 (10 ^ Int.toNat 9) (hd % 3), l3 5 400 (10 ^ Int.toNat 9) (hd / 3 % 3), nm, rfl, L.hscr, by omega, by omega, l3_pos _ _ _ _ (by decide) (by decide) (by decide), l3_le _ _ _ _ _ (by decide) (by decide) (by decide), l3_pos _ _ _ _ (by decide) (by decide) (by decide), l3_le _ _ _ _ _ (by decide) (by decide) (by decide), L.hln, L.hnm, by omega, fun dd b c tr k u n who y bu price am pk H9 s9 hdd hb hM hy cz0 cz8 => ?_⟩
      replace L := L.same s9
      obtain ⟨o, eo⟩ : ∃ o, o = newOrd n who bu price am pk := ⟨_, rfl⟩
      rw [← eo] at hb
      have hO : Ok o := by rw [eo]; exact made_ok hM
      have hv : o.shown = inView o.left o.peak := by rw [eo]; rfl
      have hon : NameOk o.name := by rw [eo]; exact hM.n
      clear eo hM
      walk_at "rd"
      refine ⟨.inl ⟨rfl, _, SqL.of L.hln⟩, ?_⟩
      walk_at "rd"
      refine ⟨ln, _, _, rfl, rfl, L.hln, Nat.lt_of_lt_of_le (m := 1000) (by rw [List.length_map]; omega) (by decide), ?_⟩
      have kt9 : Kt H9 (upd H9 ln (.lst (nm.map V.str ++ [.str o.name]))) := Kt.upd fun ys e => by rw [L.hln] at e; cases e
      replace hdd := kt9 _ _ hdd
      replace hb := kt9 _ _ hb
      have hkn0 := L.hkn
      replace L := L.push hon hsep
      obtain ⟨nm2, enm2⟩ : ∃ nm2, nm2 = nm ++ [o.name] := ⟨_, rfl⟩
      have hnm2 : nm2 ≠ [] := by rw [enm2]; simp
      rw [← enm2] at L
      clear enm2 kt9 hnl
      generalize (upd H9 ln (.lst (nm.map V.str ++ [.str o.name]))) = H10 at *
      obtain ⟨vb, hvb, hbT⟩ := id L.hst.b
      obtain ⟨vz, hvz, hsT⟩ := id L.hst.s
      obtain ⟨va, hva, haT⟩ := id L.hst.a
      have lb1 := Ords.len hbT
      have ls1 := Ords.len hsT
      have la1 := haT.length
      have hkn := L.hkn
      have hkl := len_known F
      walk_at "rd"
      refine ⟨d, _, rfl, L.hst.getB, ?_⟩
      walk_at "rd"
      refine ⟨d, _, rfl, L.hst.getS, ?_⟩
      refine ⟨lb, ls, vb, vz, rfl, rfl, hvb, hvz, line1000 (by omega), fun c1 hc1 => ?_⟩
      have u1 := same_upd (o := .lst (vb ++ vz)) hc1
      walk_at "rd"
      refine ⟨d, _, rfl, (L.same u1).hst.getA, ?_⟩
      refine ⟨la, rfl, ⟨va, SqL.of (u1 _ _ hva)⟩, fun D hD => lc_tups (outF (fun _ => true) (fun z : Slp => z.ord.v) F.asleep) hD (u1 _ _ hva) outF_zero (fun i _ => outF_len (by omega) i) (fun j x H2 Nx hx s yes no => ?_) fun H11 s11 h => ?_⟩
      · obtain ⟨z, hz1, a1, b1, rfl, h1, h2⟩ := haT.get hx
        have h1' := s _ _ (u1 _ _ h1)
        refine ⟨rfl, ?_⟩
        walk_at "rd"
        exact yes _ _ _ (Same.refl _) ⟨b1, rfl, s _ _ (u1 _ _ h2)⟩ (outF_yes hz1 rfl)
      obtain ⟨vd, hvd, hdT⟩ := id h
      have e0 : ((vb ++ vz).length + vd.length ≤ sizeLine) := by
        have z := Tups.length hdT
        have z2 : (outF (fun _ => true) (fun z : Slp => z.ord.v) F.asleep va.length).length < 1000 := outF_len (by omega) _
        refine Nat.le_trans (m := 2000) ?_ (by decide)
        rw [List.length_append]
        omega
      refine ⟨c1, D, _, _, rfl, rfl, s11 _ _ upd_same, hvd, e0, fun St hSt => ?_⟩
      have s3 := same_upd (o := .lst (vb ++ vz ++ vd)) hSt
      have sx := (u1.trans s11).trans s3
      have hStL : LinAt (upd H11 St (.lst (vb ++ vz ++ vd))) St F.known := by
        refine ⟨_, upd_same, ?_⟩
        rw [outF_all la1, filter_tt] at hdT
        unfold Floor.known
        rw [List.map_append, List.map_append, List.map_map]
        exact ((Tups.kt (Kt.same sx) hbT).append (Tups.kt (Kt.same sx) hsT)).append (Tups.kt (Kt.same s3) hdT)
      replace L := L.same sx
      replace hdd := sx _ _ hdd
      replace hb := sx _ _ hb
      generalize (upd H11 St (.lst (vb ++ vz ++ vd))) = H12 at *
      clear hvb hbT hvz hsT hva haT lb1 ls1 la1 h hvd hdT e0 s3 sx u1 s11
      obtain ⟨kv, hkv, hkT⟩ := id hStL
      have klen := Ords.len hkT
      walk_at "rd"
      refine ⟨⟨kv, SqL.of hkv⟩, fun W hW => lc_rel RelI OneI (fun _ => rfl) (fun _ us ys v z h t => by unfold RelI OneI at *; rw [h, t, List.map_append]; rfl) (fun _ _ _ _ _ h => h) (fun _ _ _ _ _ h => h) (fun _ us ys h => by unfold RelI at h; rw [h, List.length_map]) (outF (fun o : Ord => decide (o.name = y)) (fun o => o.left) F.known) hW hkv outF_zero (fun i _ => outF_len (by omega) i) (fun j x H2 Nx hx s yes no => ?_) fun H13 w13 s13 hw13 hr13 => ?_⟩
      · obtain ⟨o1, ob, ho1, rfl, hob⟩ := Ords.get hkT hx
        have hob2 := s _ _ hob
        have hdd2 := s _ _ hdd
        refine ⟨rfl, ?_⟩
        walk_at "rd"
        by_cases cn : o1.name = y
        · refine iteY (by simp [cn]) ?_
          walk_at "rd"
          exact yes _ _ _ (Same.refl _) rfl (outF_yes ho1 (decide_eq_true cn))
        · refine iteN (by simp [cn]) ?_
          exact no _ (Same.refl _) (outF_no ho1 (decide_eq_false cn))
      have hwe : w13 = (F.known.filter fun o => decide (o.name = y)).map fun o => V.int o.left := by
        rw [outF_all klen] at hr13
        unfold RelI at hr13
        rw [hr13, List.map_map]
        rfl
      rw [hwe] at hw13
      replace L := L.same s13
      replace hdd := s13 _ _ hdd
      replace hb := s13 _ _ hb
      clear hStL hkv hkT klen hr13 hwe s13
      dsimp only [gName]
      refine vyS (R := fun σ' H' => ∃ (v11 : V) (F' : Floor), σ' = [some (.ref a), some (.int hd), some (.ref p), some (.ref t), some (.int (leapOf hd)), some (.ref d), some (.ref ln), some (.int (1 + (i : Int) * 3)), some (.ref dd), some (.ref St), some (.ref W), some v11, v12, v13, none] ∧ But p H13 H' ∧ FlAt K H' p F' ∧ ((∃ l fs, v11 = .ref l ∧ DoneR c k o tr u y F fs F' ∧ LstAt H' l (fs.map Fact.v) ∧ H13 l = none) ∨ (v11 = .non ∧ F' = F))) (fun nx q' => ?_) (fun σ' H14 r => ?_)
      · walk_at "rd"
        refine ⟨p, dd, b, F, c, tr, k, u, o, y, rfl, ⟨_, _, _, _, L.hfl⟩, hdd, hb, L.hinv, hO, by omega, fun fs F' hR l H' bp hl hF' hfs hlen => ?_, fun H' s => ?_⟩
        · exact q' _ _ ⟨.ref l, F', rfl, bp, hF', .inl ⟨l, fs, rfl, hR, hfs, hl⟩⟩
        · exact q' _ _ ⟨.non, F, rfl, But.of s, ⟨_, _, _, _, L.hfl.same s⟩, .inr ⟨rfl, rfl⟩⟩
      obtain ⟨v11, F', rfl, bp, hF', hR⟩ := r
      have kp := bp.kt L.hfl.o
      have ht14 := hdd
      replace hdd := kp _ _ hdd
      replace hb := kp _ _ hb
      have hst := L.hst.but bp L.hfl
      have hln14 := bp _ _ L.hln hlnp
      have hscr := sq_ne bp L.hscr (fun ys e => by rw [L.hfl.o] at e; cases e) (fun o u e => by rw [L.hfl.o] at e; cases e)
      have hWp : W ≠ p := fun e => by rw [e, L.hfl.o] at hw13; cases hw13
      have hw14 := bp _ _ hw13 hWp
      walk_at "rd"
      obtain ⟨⟨kvs, run, rv, hdk, hkl2, _, _, _, hmg, hrr⟩, hsb, hss, hsa⟩ := id hst
      refine ⟨.inr (.inr (.inl ⟨rfl, .inl ⟨_, hdk⟩⟩)), ?_⟩
      walk_at "rd"
      intro m2 hm2
      walk_at "rd"
      refine ⟨upd_same, m4, rfl, Nat.le_of_ble_eq_true rfl, ?_⟩
      have em4 : mergeK [] m4 = m4 := by kernel_rfl
      rw [em4]
      have hdm : d ≠ m2 := fun e => by rw [← e, hdk] at hm2; cases hm2
      walk_at "rd"
      refine ⟨d, m2, _, _, rfl, rfl, hdm, by rw [upd_ne hdm, upd_ne hdm]; exact hdk, upd_same, Nat.le_trans (m := 2000) (by show kvs.length + 4 ≤ 2000; omega) (by decide), ?_⟩
      rw [hmg]
      have b15 : But d H14 (upd (upd (upd H14 m2 (.dK [])) m2 (.dK m4)) d (.dK (sk (vS lb ls la .non rv (F.ls false run))))) := fun x ob e n => by
        rw [upd_ne n, upd_ne (ne_of_none e hm2), upd_ne (ne_of_none e hm2)]
        exact e
      have hS15 : StIn (upd (upd (upd H14 m2 (.dK [])) m2 (.dK m4)) d (.dK (sk (vS lb ls la .non rv (F.ls false run))))) d lb ls la .non rv (F.ls false run) := ⟨upd_same, hsb.butD b15 hdk, hss.butD b15 hdk, hsa.butD b15 hdk, rfl, hrr⟩
      replace hF' := hF'.butD b15 hdk
      have k15 := b15.ktD hdk
      replace hdd := k15 _ _ hdd
      replace hb := k15 _ _ hb
      have hln15 := b15 _ _ hln14 hlnd
      have hscr15 := sq_ne b15 hscr (fun ys e => by rw [hdk] at e; cases e) (fun o u e => by rw [hdk] at e; cases e)
      have hWd : W ≠ d := fun e => by rw [e, hdk] at hw14; cases hw14
      have hw15 := b15 _ _ hw14 hWd
      replace hR : (∃ l fs, v11 = .ref l ∧ DoneR c k o tr u y F fs F' ∧ LstAt (upd (upd (upd H14 m2 (.dK [])) m2 (.dK m4)) d (.dK (sk (vS lb ls la .non rv (F.ls false run))))) l (fs.map Fact.v)) ∨ (v11 = .non ∧ F' = F) := by
        rcases hR with ⟨l, fs, e1, e2, e3, _⟩ | h
        · exact .inl ⟨l, fs, e1, e2, e3.butD b15 hdk⟩
        · exact .inr h
      clear hmg hdk hm2 hdm hst hsb hss hsa ht14 hln14 hscr hw14 hw13
      generalize (upd (upd (upd H14 m2 (.dK [])) m2 (.dK m4)) d (.dK (sk (vS lb ls la .non rv (F.ls false run))))) = H15 at *
      dsimp only
      refine vyS (R := fun σ' H' => ∃ (v12' : Option V) (F2 : Floor) (cut : Bool) (run' : Option Run) (fv : V) (rv' : Option RV) (lb' ls' la' : Addr), σ' = [some (.ref a), some (.int hd), some (.ref p), some (.ref t), some (.int (leapOf hd)), some (.ref d), some (.ref ln), some (.int (1 + (i : Int) * 3)), some (.ref dd), some (.ref St), some (.ref W), some v11, v12', v13, none] ∧ But d H15 H' ∧ StIn H' d lb' ls' la' fv rv' (F2.ls cut run') ∧ FlAt K H' p F2 ∧ FInv F2 ∧ F2.known.length ≤ i + 1 ∧ F2.leap = leapOf hd) (fun nx q' => ?_) (fun σ' H16 r => ?_)
      · rcases hR with ⟨l, fs, rfl, hR, hfs⟩ | ⟨rfl, eF⟩
        · have hA := done_acc (run := run) L.hinv hO hv (by omega) cz8 hR
          have hO1 := hO.s1
          have hO2 := hO.sl
          have hlz := len_line F (!o.buy)
          walk_at "rd"
          refine vyI (R := fun σ' H' => ∃ (S : LS) (fv : V) (rv' : Option RV), σ' = [some (.ref a), some (.int hd), some (.ref p), some (.ref t), some (.int (leapOf hd)), some (.ref d), some (.ref ln), some (.int (1 + (i : Int) * 3)), some (.ref dd), some (.ref St), some (.ref W), some (.ref l), v12, v13, none] ∧ But d H15 H' ∧ StIn H' d lb ls la fv rv' S ∧ S = if c < 4 then (F.ls false run).begin k o else F.ls false run) (fun nx q2 => ?_) (fun σ' H16 r => ?_)
          · by_cases c4 : c < 4
            · rw [if_pos c4] at q2
              refine iteY (decide_eq_true c4) ?_
              walk_at "rd"
              refine ⟨d, b, lb, ls, la, .non, rv, F.ls false run, k, o, rfl, hS15, hb, L.hinv.line (!o.buy), by omega, Nat.le_trans hlz (by omega), fun rv' H' b' h' => ?_⟩
              exact q2 _ _ ⟨_, _, _, rfl, b', h', rfl⟩
            · rw [if_neg c4] at q2
              refine iteN (decide_eq_false c4) ?_
              exact q2 _ _ ⟨_, _, _, rfl, But.refl _ _, hS15, rfl⟩
          obtain ⟨S, fv, rv', rfl, b16, hS16, eS⟩ := r
          have k16 := b16.ktD hS15.o
          have hdd16 := k16 _ _ hdd
          have hb16 := k16 _ _ hb
          have hw16 := b16 _ _ hw15 hWd
          have hfs16 := hfs.butD b16 hS15.o
          walk_at "rd"
          refine vyA (fun hc Q' q3 => ?_) (fun H17 s17 => ?_)
          · have e5 : c = 5 := V.int.inj (of_decide_eq_true hc)
            obtain ⟨x, hx, efs⟩ := hA.out e5
            walk_at "rd"
            refine ⟨W, _, _, _, rfl, rfl, SqL.of hw16, find_first hx, ?_⟩
            walk_at "rd"
            intro pt hpt
            have ut := same_upd (o := .tup [.str "out", .str y, .int x.left]) hpt
            walk_at "rd"
            intro pl hpl
            have ul := same_upd (o := .lst [.ref pt]) hpl
            have hfl : ∀ z ∈ [[V.str "out", .str y, .int x.left]], z.all fl = true := fun z hz => by
              cases List.mem_singleton.mp hz
              show (sOk "out" && (sOk y && true)) = true
              rw [name_sOk hy]
              decide +kernel
            refine ne_lsts (ys := [[V.str "out", .str y, .int x.left]]) ((hfs16.same ut).same ul) ⟨_, upd_same, .one ⟨pt, rfl, ul _ _ upd_same⟩⟩ (by rw [efs]; exact hfl) hfl ?_
            rw [decide_eq_true (by rw [efs]; rfl)]
            walk_at "rd"
            exact q3 _ (ut.trans ul)
          replace hS16 := hS16.same s17
          replace b16 := b16.trans (But.of s17)
          replace hdd16 := s17 _ _ hdd16
          replace hb16 := s17 _ _ hb16
          replace hfs16 := hfs16.same s17
          clear hw16 k16 s17
          walk_at "rd"
          refine vyA (fun hc Q' q3 => ?_) (fun H18 s18 => ?_)
          · have e6 : c = 6 := V.int.inj (of_decide_eq_true hc)
            have efs := hA.less e6
            walk_at "rd"
            intro pt hpt
            have ut := same_upd (o := .tup [.str "less", .str y, .int o.left]) hpt
            walk_at "rd"
            intro pl hpl
            have ul := same_upd (o := .lst [.ref pt]) hpl
            have hfl : ∀ z ∈ [[V.str "less", .str y, .int o.left]], z.all fl = true := fun z hz => by
              cases List.mem_singleton.mp hz
              show (sOk "less" && (sOk y && true)) = true
              rw [name_sOk hy]
              decide +kernel
            refine ne_lsts (ys := [[V.str "less", .str y, .int o.left]]) ((hfs16.same ut).same ul) ⟨_, upd_same, .one ⟨pt, rfl, ul _ _ upd_same⟩⟩ (by rw [efs]; exact hfl) hfl ?_
            rw [decide_eq_true (by rw [efs]; rfl)]
            walk_at "rd"
            exact q3 _ (ut.trans ul)
          replace hS16 := hS16.same s18
          replace b16 := b16.trans (But.of s18)
          replace hdd16 := s18 _ _ hdd16
          replace hb16 := s18 _ _ hb16
          replace hfs16 := hfs16.same s18
          clear s18
          walk_at "rd"
          refine vyI (R := fun σ' H' => ∃ (fv : V) (rv' : Option RV), σ' = [some (.ref a), some (.int hd), some (.ref p), some (.ref t), some (.int (leapOf hd)), some (.ref d), some (.ref ln), some (.int (1 + (i : Int) * 3)), some (.ref dd), some (.ref St), some (.ref W), some (.ref l), v12, v13, none] ∧ But d H18 H' ∧ StIn H' d lb ls la fv rv' (startS c k o u (F.ls false run))) (fun nx q2 => ?_) (fun σ' H19 r => ?_)
          · by_cases c7 : c = 7
            · refine iteY (decide_eq_true (congrArg V.int c7)) ?_
              walk_at "rd"
              obtain ⟨H19, q19, b19, h19⟩ := hS16.putTurn (some u)
              refine ⟨d, H19, rfl, q19, ?_⟩
              rw [eS, if_neg (by omega)] at h19
              exact q2 _ _ ⟨fv, rv', rfl, b19, by unfold startS; rw [if_neg (by omega), if_pos c7]; exact h19⟩
            · refine iteN (dec_int.trans (beq_eq_false_iff_ne.mpr c7)) ?_
              exact q2 _ _ ⟨fv, rv', rfl, But.refl _ _, by unfold startS; rw [if_neg c7, ← eS]; exact hS16⟩
          obtain ⟨fv, rv', rfl, b19, hS19⟩ := r
          have k19 := b19.ktD hS16.o
          replace hdd16 := k19 _ _ hdd16
          replace hb16 := k19 _ _ hb16
          replace hfs16 := hfs16.butD b19 hS16.o
          replace b16 := b16.trans b19
          clear hS16 k19 b19 eS
          walk_at "rd"
          refine ⟨l, fs, rfl, hfs16, fun H20 s20 => ?_⟩
          replace hS19 := hS19.same s20
          replace hdd16 := s20 _ _ hdd16
          replace hb16 := s20 _ _ hb16
          replace hfs16 := hfs16.same s20
          replace b16 := b16.trans (But.of s20)
          clear s20
          obtain ⟨wv, hwv, hwT⟩ := id hfs16
          have hwl := Tups.length hwT
          rw [List.length_map] at hwl
          have hld : l ≠ d := fun e => by rw [e, hS19.o] at hwv; cases hwv
          obtain ⟨cut', run', hLs⟩ := hA.st
          walk_at "rd"
          refine ⟨⟨_, SqL.of hwv⟩, for_list (xs := wv) (fun j σ H' => ∃ (v12' : Option V) (S : LS), σ = [some (.ref a), some (.int hd), some (.ref p), some (.ref t), some (.int (leapOf hd)), some (.ref d), some (.ref ln), some (.int (1 + (i : Int) * 3)), some (.ref dd), some (.ref St), some (.ref W), some (.ref l), v12', v13, none] ∧ But d H20 H' ∧ StAt H' d S ∧ LSteps k o tr S (fs.drop j) (F'.ls cut' run') ∧ SOk S) ⟨v12, startS c k o u (F.ls false run), rfl, But.refl _ _, ⟨lb, ls, la, fv, rv', hS19⟩, hLs, start_sok rfl hO.nk⟩ (fun j σ H' _ h => by obtain ⟨_, _, _, h, _⟩ := h; exact SqL.of (h _ _ hwv hld)) (fun j x σ H' hx h => ?_) fun σ H' h => ?_⟩
          · obtain ⟨v12', S, rfl, bj, ⟨lb', ls', la', fv', rv2, hSt⟩, hL, hsk⟩ := h
            obtain ⟨xv, hxv, fa, rfl, hfa⟩ := hwT.get hx
            rw [List.getElem?_map] at hxv
            obtain ⟨f, hf, rfl⟩ := Option.map_eq_some_iff.mp hxv
            have kj := bj.ktD hS19.o
            have ed : fs.drop j = f :: fs.drop (j + 1) := by
              obtain ⟨hj, e⟩ := List.getElem?_eq_some_iff.mp hf
              rw [List.drop_eq_getElem_cons hj, e]
            rw [ed] at hL
            cases hL with
            | @cons _ S1 _ _ _ h1 h2 =>
              walk_at "rd"
              refine ⟨d, dd, fa, b, lb', ls', la', fv', rv2, S, f, S1, c, k, o, tr, u, y, rfl, hSt, kj _ _ hdd16, kj _ _ hb16, kj _ _ hfa, h1, hsk, hO.nk, fun H'' b'' hS'' => ?_⟩
              walk_at "rd"
              exact ⟨_, S1, rfl, bj.trans b'', hS'', h2, h1.sok hsk⟩
          · obtain ⟨v12', S, rfl, bj, ⟨lb', ls', la', fv', rv2, hSt⟩, hL, hsk⟩ := h
            rw [hwl, List.drop_length] at hL
            cases hL
            have h1 := hA.len
            exact q' _ _ ⟨v12', F', cut', run', fv', rv2, lb', ls', la', rfl, b16.trans bj, hSt, hF'.butD (b16.trans bj) hS15.o, hA.inv, by omega, hA.lp.trans L.hlp⟩
        · walk_at "rd"
          refine iteN rfl ?_
          refine q' _ _ ⟨v12, F, false, run, .non, rv, lb, ls, la, rfl, But.refl _ _, hS15, by rw [← eF]; exact hF', L.hinv, hkn, L.hlp⟩
      obtain ⟨v12', F2, cut, run', fv, rv', lb', ls', la', rfl, b16, hS16, hF16, hI16, hk16, hp16⟩ := r
      have hfv : fv = .non := hS16.f
      subst hfv
      have hln16 := b16 _ _ hln15 hlnd
      have hscr16 := sq_ne b16 hscr15 (fun ys e => by rw [hS15.o] at e; cases e) (fun o u e => by rw [hS15.o] at e; cases e)
      clear hscr15 hln15 hw15 b16 hR hF' hdd hb hS15
      have hkl3 := len_known F2
      walk_at "rd"
      refine ⟨d, _, rfl, gk_phase hS16.o, ?_⟩
      walk_at "rd"
      refine ⟨d, _, rfl, gk_last hS16.o, ?_⟩
      walk_at "rd"
      refine ⟨d, _, rfl, gk_buy hS16.o, ?_⟩
      walk_at "rd"
      refine ⟨d, _, rfl, gk_sell hS16.o, ?_⟩
      walk_at "rd"
      refine ⟨d, _, rfl, gk_asleep hS16.o, ?_⟩
      walk_at "rd"
      intro du hdu
      have ud := same_upd (o := .tup [.str F2.phase.s, .int F2.last, .ref lb', .ref ls', .ref la']) hdu
      have hdu2 := upd_same (H := H16) (a := du) (o := .tup [.str F2.phase.s, .int F2.last, .ref lb', .ref ls', .ref la'])
      have hS17 := hS16.same ud
      have hF17 := hF16.same ud
      have hln17 := ud _ _ hln16
      have hscr17 := sq_same ud hscr16
      walk_at "rd"
      refine ⟨d, _, rfl, gk_flight hS17.o, ?_⟩
      walk_at "rd"
      refine ⟨d, _, rfl, gk_halts hS17.o, ?_⟩
      walk_at "rd"
      refine ⟨d, _, rfl, gk_turn hS17.o, ?_⟩
      walk_at "rd"
      obtain ⟨qdx, qb, qs, qa, hFq⟩ := id hF17
      refine ⟨p, _, _, rfl, hFq.o, by kernel_rfl, ?_⟩
      walk_at "rd"
      refine ⟨p, F2, rfl, hF17, fun t' j1 j2 j3 H18 s18 ht' h1 h2 h3 => ?_⟩
      have hS18 := hS17.same s18
      walk_at "rd"
      refine ⟨al_look ht' (s18 _ _ hdu2) h1 h2 h3 hS18.b hS18.s hS18.a (by show F2.buys.length ≤ 1000; omega) (by show F2.sells.length ≤ 1000; omega) (by show F2.asleep.length ≤ 1000; omega), fun H19 s19 => ?_⟩
      walk_at "rd"
      have hS19 := hS18.same s19
      have hF19 := hFq.same (s18.trans s19)
      have hln19 := (s18.trans s19) _ _ hln17
      exact ⟨_, _, _, _, _, _, _, F2, nm2, qdx, qb, qs, qa, lb', ls', la', rfl, ⟨sq_same (s18.trans s19) hscr17, hln19, L.hnm, L.hnl, hF19, lin_ap hF19.b hln19 hnm2, lin_ap hF19.s hln19 hnm2, sls_ap hF19.a hln19 hnm2, HdIn.of hS19, lin_ap hS19.b hln19 hnm2, lin_ap hS19.s hln19 hnm2, sls_ap hS19.a hln19 hnm2, hI16, hk16, hp16⟩⟩
    · obtain ⟨v7, v8, v9, v10, v11, v12, v13, F, nm, fdx, flb, fls, fla, lb, ls, la, rfl, L⟩ := h
      walk_at "rd"
      exact q H7
end
end BB
set_option Elab.async false
set_option linter.all false
set_option maxRecDepth 100000
set_option maxHeartbeats 0
/-! E: the end. -/
namespace BB
open PySem PySem.Spec PyProof.Rows L2
theorem facts {P : Program} {w : World} {K : PySem.W.Frag} {h : Heap} {mg : Str → Option Value} {f : Addr} (X : K.In h) (G : h.Ns mainGlobals mg) (hfa : mg ("law" : Str) = some (.ref f)) (c : SaysY K) :
    ∃ fd : FuncData, (∀ (s : Shared) (v : Value), BindsTo s fd ⟨[v], []⟩ [("script", v)]) ∧ ∀ base : Heap, K.In base → base.Ns mainGlobals mg → FnOk P w K mg base CX0 13 f fd ["script"] (fun vs H Q E => ∃ (a : Addr) (ns : List Int), vs = [.ref a] ∧ SqL K H a (ns.map V.int) ∧ ns.length ≤ 63 ∧ ∀ H', Q (.bl true) H') := by
  have T : Txt K mg := ⟨c, h, X, G⟩
  obtain ⟨fd, F⟩ := T.d_law
  have e := hfa.symm.trans T.g_law
  cases e
  have b := FunD.bindsA (ps := ["script"]) F fun _ _ _ _ _ _ us hl => match us, hl with | [_], _ => rfl
  exact ⟨fd, fun s v => b s [v] rfl, fun base _ _ => ok_law T F⟩
end BB
open PySem PySem.W PySem.Calls PyProof.Rows
theorem PySem.Challenge.cw_bellbook_k37_whole_walk_holds : PySem.Challenge.rw_bellbook_k37_whole_walk.Holds := by
  w_on; o_law
  refine HandSHeadRun.head_any (r := OpenLaw.row PySem.Challenge.rw_bellbook_k37_whole_walk) (q := view (OpenLaw.row PySem.Challenge.rw_bellbook_k37_whole_walk).prog [94]) (H := BB.hk) (ob := BB.ob) (M := 9000) (loose := BB.loose) (d := HandSHeadRun.topDef (OpenLaw.row PySem.Challenge.rw_bellbook_k37_whole_walk).prog 94) (kwd := []) BB.ob_eq
    (by kernel_rfl) (fun s => by kernel_rfl) BB.run (by kernel_rfl) (by kernel_rfl) (by kernel_rfl) (by rfl) (by first | assumption | decide +kernel) (by decide +kernel) ⟨rfl, rfl, rfl, rfl, rfl, by decide +kernel⟩ ?hw ?hc
  case hw => w_witness2
  case hc =>
    refine L2.walk_ofE (l := PySem.Challenge.rw_bellbook_k37_whole_walk) (n := 63) (k := 13) (x := "script") (CX := L2.CX0) rfl (by decide) (by kernel_rfl) ⟨rfl, by decide, by decide⟩ ?F (fun _ _ _ _ z => z)
    intro w mg fa h Y G hmg0
    obtain ⟨K, KX, c⟩ := Y
    have hmg : mg ("law" : PySem.Str) = some (.ref fa) := by
      have e : (HandSHeadRun.topDef (OpenLaw.row PySem.Challenge.rw_bellbook_k37_whole_walk).prog 94).name = ("law" : PySem.Str) := by kernel_rfl
      rw [← e]
      exact hmg0
    obtain ⟨fd, hb, hF⟩ := BB.facts (P := (PySem.Challenge.rw_bellbook_k37_whole_walk).prog) (w := w) KX G hmg c
    exact ⟨K, fd, _, KX, hb, fun H a ns hl _ hS => ⟨a, ns, rfl, hS, hl, fun _ => rfl⟩, hF⟩
